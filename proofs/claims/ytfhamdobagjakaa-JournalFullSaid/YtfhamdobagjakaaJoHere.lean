/- a part -/
import Derived.Test.YtfhamdobagjakaaJoNobody
namespace Go.Proofs.Ytfhamdobagjakaa.Dsk
open Go.RowKit Go.Proofs.YtfhamdobagjakaaW.PrintWords Go.Proofs.YtfhamdobagjakaaW.PrintLast Go.Proofs.YtfhamdobagjakaaW.PrintMore Go.Proofs.Ytfhamdobagjakaa.Hand Go.Proofs.Ytfhamdobagjakaa.Cards Go.Proofs.Ytfhamdobagjakaa.PJo
set_option linter.unusedVariables false
set_option linter.unusedSimpArgs false
namespace Dk
def Live (d:Dk):Prop:=d.dead=false/\d.stop = -1
theorem Live.tick {d:Dk} (h:d.Live):d.tick=d:=tick_neg (by have:=h.2;omega)
theorem Live.did {d:Dk} (h:d.Live) (i:Int) (b:List Int) (s:Int):d.did i b s=(d.put i b s,0):=by
 unfold Dk.did
 rw [if_neg (by have:=h.2;omega),h.tick]
theorem Live.put {d:Dk} (h:d.Live) (i:Int) (b:List Int) (s:Int):(d.put i b s).Live:=by
 unfold Dk.put
 split<;>exact h
theorem Live.why {d:Dk} (h:d.Live) {i:Int} (hi:i=0\/i=1):d.why i=0:=why_ok h.1 (by omega)
theorem Live.clr {d:Dk} (h:d.Live) {i:Int} (hi:i=0\/i=1):d.clr i=(d.put i [] 0,0):=by
 unfold Dk.clr
 rw [if_neg (by rw [h.why hi];decide),h.did]
theorem Live.syn {d:Dk} (h:d.Live) {i:Int} (hi:i=0\/i=1):d.syn i=(d.put i (d.row i) ((d.row i).length:Int),0):=by
 unfold Dk.syn
 rw [if_neg (by rw [h.why hi];decide),h.did]
theorem Live.app {d:Dk} (h:d.Live) {i:Int} (hi:i=0\/i=1) (b:List Int):d.app i b=if d.left<(b.length:Int) then(d,6) else(d.put i (d.row i++b) (d.safe i),0):=by
 unfold Dk.app
 rw [if_neg (by rw [h.why hi];decide),h.did]
def renew (d:Dk) (o:Int) (all:List Int):Dk×Int:=if ((d.put o [] 0).app o all).2=0 then(((d.put o [] 0).app o all).1.syn o) else((d.put o [] 0).app o all)
theorem row_put {d:Dk} {i j:Int} {b:List Int} {s:Int}:(d.put i b s).row j=if (i=0↔j=0) then b else d.row j:=by
 unfold Dk.put Dk.row
 by_cases hi:i=0
 ·by_cases hj:j=0<;>simp [hi,hj]
 ·by_cases hj:j=0<;>simp [hi,hj]
theorem Live.renew {d:Dk} (h:d.Live) {o:Int} (ho:o=0\/o=1) (all:List Int) :
  d.renew o all=if (d.put o [] 0).left<(all.length:Int) then(d.put o [] 0,6) else(d.put o all (all.length:Int),0):=by
 have h1:=h.put o [] 0
 unfold Dk.renew
 rw [h1.app ho]
 by_cases hl:(d.put o [] 0).left<(all.length:Int)
 ·rw [if_pos hl,if_pos hl];exact if_neg (by simp)
 ·rw [if_neg hl,if_neg hl,if_pos rfl,(h1.put _ _ _).syn ho]
  have e:(d.put o [] 0).row o=[]:=by rw [row_put,if_pos Iff.rfl]
  rw [e,List.nil_append,row_put,if_pos Iff.rfl]
  congr 1
  unfold Dk.put
  split<;>rfl
theorem Good.clear {d:Dk} (g:d.Good) (h:d.Live) {o:Int} (ho:o=0\/o=1):(d.put o [] 0).Good:=by
 have h1:=g.clr o
 rw [h.clr ho] at h1
 exact h1
theorem Good.renew {d:Dk} (g:d.Good) (h:d.Live) {o:Int} (ho:o=0\/o=1) (all:List Int):(d.renew o all).1.Good:=by
 have g1:=g.clear h ho
 unfold Dk.renew
 split
 ·exact(g1.app o all).syn o
 ·exact g1.app o all
end Dk
section
variable {w0 W W1 : World} {g gj : Nat} {v0 v1 : Value} {D D1 : Nat -> Prop} {d d1 : Dk} {s t s1 t1 : Int} {br br1 : Bool}
abbrev JD (D:Nat->Prop) (gj:Nat):Nat->Prop:=λk=>D k\/k=gj
theorem Step.wide (h:Step W W1 D D1):Step W W1 (JD D gj) (JD D1 gj):=by
 refine ⟨h.size,λk hk hd=>h.block k hk (λe=>hd (.inl e)),λk hk=>?_⟩
 rcases hk with hk|rfl
 ·exact(h.new k hk).imp .inl id
 ·exact .inl (.inr rfl)
theorem Step.own (v:Value) (j:Nat) (hd:D gj):Step W (W.setCell ⟨gj,j,none⟩ v) D D :=
 ⟨Nat.le_of_eq (size_set _ _ _).symm,λk hk hd'=>Below.heap_setCell W ⟨gj,j,none⟩ v k (λe=>hd' (by rw [show k=gj from e];exact hd)),λ_ h=>.inl h⟩
theorem At.far (h:At w0 W g D d) (hg:w0.heap.size<=gj) (hd:¬ D gj) (j:Nat) (v:Value):At w0 (W.setCell ⟨gj,j,none⟩ v) g D d:=by
 obtain ⟨v0,v1,h⟩:=h
 have hf:∀ k,D k->(W.setCell ⟨gj,j,none⟩ v).heap[k]? = W.heap[k]?:=λk hk=>Below.heap_setCell W ⟨gj,j,none⟩ v k (λe=>hd (by rw [<-show k=gj from e];exact hk))
 exact ⟨v0,v1,below_set h.below hg,h.gb,h.gD,λk hk=>by rw [size_set];exact h.lt k hk,h.ge,(hf g h.gD).trans h.blk,Kd.R_step h.r0 (λk hk _=>hf k hk.1),Kd.R_step h.r1 (λk hk _=>hf k hk.1)⟩
structure Jo (w0 W:World) (g gj:Nat) (D:Nat->Prop) (d:Dk) (s t:Int) (br:Bool):Prop where
 dk:At w0 W g D d
 nd:¬ D gj
 gb:w0.heap.size<=gj
 blk:W.heap[gj]? = some (JoObj (some ⟨g,0,none⟩) s t br)
theorem Jo.lt (h:Jo w0 W g gj D d s t br):∀ k,JD D gj k->k<W.heap.size:=by
 rintro k (hk|rfl)
 ·exact h.dk.lt k hk
 ·exact blk_lt h.blk
theorem Jo.ge (h:Jo w0 W g gj D d s t br):∀ k,JD D gj k->w0.heap.size<=k:=by
 rintro k (hk|rfl)
 ·exact h.dk.ge k hk
 ·exact h.gb
theorem Jo.on (h:Jo w0 W g gj D d s t br) (hb:Below W.heap.size W W1):Jo w0 W1 g gj D d s t br:=⟨h.dk.on hb,h.nd,h.gb,blk_below h.blk hb⟩
theorem Jo.did (h:Jo w0 W g gj D d s t br) (ha:At w0 W1 g D1 d1) (hs:Step W W1 D D1):Jo w0 W1 g gj D1 d1 s t br/\Step W W1 (JD D gj) (JD D1 gj):=by
 have h1:=hs.blk h.blk h.nd
 exact ⟨⟨ha,h1.2,h.gb,h1.1⟩,hs.wide⟩
theorem Jo.set (h:Jo w0 W g gj D d s t br) (j:Nat) (v:Value) (e:(#[.pointer (some ⟨g,0,none⟩),.int .i64 s,.int .u64 t,.bool br]:Array Value).setIfInBounds j v=#[.pointer (some ⟨g,0,none⟩),.int .i64 s1,.int .u64 t1,.bool br1]) :
  Jo w0 (W.setCell ⟨gj,j,none⟩ v) g gj D d s1 t1 br1/\Step W (W.setCell ⟨gj,j,none⟩ v) (JD D gj) (JD D gj) :=
 ⟨⟨h.dk.far h.gb h.nd j v,h.nd,h.gb,blk_put h.blk j v e⟩,Step.own v j (.inr rfl)⟩
theorem Jo.c0 (h:Jo w0 W g gj D d s t br):W.cell? ⟨gj,0,none⟩=some (.pointer (some ⟨g,0,none⟩)):=(blk_cell h.blk 0).trans rfl
theorem Jo.c1 (h:Jo w0 W g gj D d s t br):W.cell? ⟨gj,1,none⟩=some (.int .i64 s):=(blk_cell h.blk 1).trans rfl
theorem Jo.c2 (h:Jo w0 W g gj D d s t br):W.cell? ⟨gj,2,none⟩=some (.int .u64 t):=(blk_cell h.blk 2).trans rfl
theorem Jo.c3 (h:Jo w0 W g gj D d s t br):W.cell? ⟨gj,3,none⟩=some (.bool br):=(blk_cell h.blk 3).trans rfl
theorem Jo.fz (h:Jo w0 W g gj D d s t br) (j:Nat):W.frozen? ⟨gj,j,none⟩=false:=blk_frozen h.blk j
abbrev BoxJ (gj:Nat):Obj:=.cells #[.pointer (some ⟨gj,0,none⟩)] 29 (0,0)
set_option maxHeartbeats 4000000 in
set_option maxRecDepth 100000 in
theorem renew1_calls (h:Jo w0 W g gj D d s t br) {b:Nat} (hb:W.heap[b]? = some (BoxJ gj)) (u:FrameMode) :
  CallsD Try.prog 67 #[.pointer (some ⟨b,0,none⟩)] u W λe u' w'=>u'=u/\(e = .returned (.tuple #[])/\Jo w0 w' g gj D d s t d.dead/\Step W w' (JD D gj) (JD D gj)):=by
 have HJ:=Aside0.mk h
 have XB:=Aside0.mk hb
 clear h hb
 go_enter_d Try.func67,Try.ntmps67
 refine region_cards (F:=?Fr) 8 (λw'=>Aside0 (Below W.heap.size W w'))
  [λv _ _ _=>v = .pointer (some ⟨gj,0,none⟩),
  λv _ _ _=>v = .pointer (some ⟨gj,0,none⟩),
  λv _ _ _=>v = .pointer (some ⟨gj,0,none⟩),
  λv _ _ _=>v = .pointer (some ⟨gj,0,none⟩),
  λv _ _ _=>v = .pointer (some ⟨g,0,none⟩),
  λv w' _ _=>v = .bool d.dead,
  λv _ _ _=>v = .pointer (some ⟨gj,0,none⟩),
  λv _ _ _=>v = .pointer (some ⟨gj,3,none⟩)]
  (by kernel_rfl) (by kernel_rfl) ?hFr ?hS0r ?hSr ?hstayr ?hstepsr ?hendr
 case hFr =>
  intro vs
  simp only [List.take_succ_cons,List.take_zero,fill,if_true,if_false,Act.put,List.setIfInBounds_toArray,List.set_cons_zero,List.set_cons_succ,Nat.reduceAdd,List.contains_cons,List.contains_nil,Nat.reduceBEq,Bool.or_false,Bool.false_or,Bool.not_true,Bool.not_false,Bool.false_eq_true,Bool.or_self,Bool.true_or]
  rfl
 case hS0r=>exact ⟨below_drew (Below.refl _ _)⟩
 case hSr=>exact λw1 w2 hb hs=>⟨below_step hs.out hb⟩
 case hstayr=>exact ⟨λ_ _ _ _ _ _ h=>h,λ_ _ _ _ _ _ h=>h,λ_ _ _ _ _ _ h=>h,λ_ _ _ _ _ _ h=>h,λ_ _ _ _ _ _ h=>h,λ_ _ _ _ _ _ h=>h,λ_ _ _ _ _ _ h=>h,λ_ _ _ _ _ _ h=>h,trivial⟩
 case hstepsr =>
  refine ⟨?sr_0,?sr_1,?sr_2,?sr_3,?sr_4,?sr_5,?sr_6,?sr_7,trivial⟩
  case sr_0 =>
   intro _ vs lo hi W_ hs hp
   have hc:W_.cell? ⟨b,0,none⟩=some (.pointer (some ⟨gj,0,none⟩)):=(blk_cell (blk_below XB.out hs.out) 0).trans rfl
   exact does_val (by first|(go_simp;done)|(go_simp;rfl)) ⟨rfl,Below.refl _ _⟩
  case sr_1 =>
   intro _ vs lo hi W_ hs hp
   have hc:W_.cell? ⟨b,0,none⟩=some (.pointer (some ⟨gj,0,none⟩)):=(blk_cell (blk_below XB.out hs.out) 0).trans rfl
   exact does_val (by first|(go_simp;done)|(go_simp;rfl)) ⟨rfl,Below.refl _ _⟩
  case sr_2 =>
   intro _ vs lo hi W_ hs hp
   have e1:vs 1 = .pointer (some ⟨gj,0,none⟩):=hp 1 (by kernel_rfl) rfl
   exact does_val (by first|(go_simp;done)|(go_simp;rfl)) ⟨rfl,Below.refl _ _⟩
  case sr_3 =>
   intro _ vs lo hi W_ hs hp
   have e2:vs 2 = .pointer (some ⟨gj,0,none⟩):=hp 2 (by kernel_rfl) rfl
   exact does_val (by first|(go_simp;done)|(go_simp;rfl)) ⟨rfl,Below.refl _ _⟩
  case sr_4 =>
   intro _ vs lo hi W_ hs hp
   have e3:vs 3 = .pointer (some ⟨gj,0,none⟩):=hp 3 (by kernel_rfl) rfl
   have hc:=(HJ.out.on hs.out).c0
   exact does_val (by first|(go_simp;done)|(go_simp;rfl)) ⟨rfl,Below.refl _ _⟩
  case sr_5 =>
   intro _ vs lo hi W_ hs hp
   have e4:vs 4 = .pointer (some ⟨g,0,none⟩):=hp 4 (by kernel_rfl) rfl
   refine does_call Try.func68 (by kernel_rfl) rfl #[.pointer (some ⟨g,0,none⟩)] rfl rfl (by rw [<-e4];simp only [List.map_toArray,List.map_cons,List.map_nil];rfl) ?_
   obtain ⟨v0,v1,hr⟩:=(HJ.out.on hs.out).dk
   refine(dead_calls hr).mono ?_
   rintro e w' ⟨rfl,hb⟩
   exact ⟨_,rfl,rfl,hb⟩
  case sr_6 =>
   intro _ vs lo hi W_ hs hp
   have e0:vs 0 = .pointer (some ⟨gj,0,none⟩):=hp 0 (by kernel_rfl) rfl
   exact does_val (by first|(go_simp;done)|(go_simp;rfl)) ⟨rfl,Below.refl _ _⟩
  case sr_7 =>
   intro _ vs lo hi W_ hs hp
   have e6:vs 6 = .pointer (some ⟨gj,0,none⟩):=hp 6 (by kernel_rfl) rfl
   exact does_val (by first|(go_simp;done)|(go_simp;rfl)) ⟨rfl,Below.refl _ _⟩
 case hendr =>
 intro vs lo_ hi_ Wc hs hp _
 simp only [List.drop_succ_cons,List.drop_zero]
 have e5:vs 5 = .bool d.dead:=hp 5 (by decide)
 have e7:vs 7 = .pointer (some ⟨gj,3,none⟩):=hp 7 (by decide)
 rw [e5,e7]
 have J2:=Aside0.mk (HJ.out.on hs.out)
 have S2:=Aside0.mk (Step.of_below (D:=JD D gj) hs.out)
 have f3:=J2.out.fz 3
 have c3:=J2.out.c3
 clear HJ hs hp e5 e7
 go_wp2
 refine ⟨rfl,.tuple #[],by simp [results,Try.results67],?_⟩
 have h3:=J2.out.set (s1:=s) (t1:=t) (br1:=d.dead) 3 (.bool d.dead) rfl
 exact ⟨rfl,h3.1,S2.out.trans h3.2⟩
end
end Go.Proofs.Ytfhamdobagjakaa.Dsk

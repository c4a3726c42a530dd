/- a part -/
import Derived.Test.YtfhamdobagjakaaHand
import Derived.Test.YtfhamdobagjakaaDkPlain
namespace Go.Proofs.Ytfhamdobagjakaa.Dsk
open Go.RowKit Go.Proofs.YtfhamdobagjakaaW.PrintWords Go.Proofs.YtfhamdobagjakaaW.PrintLast Go.Proofs.YtfhamdobagjakaaW.PrintMore Go.Proofs.Ytfhamdobagjakaa.Hand
set_option linter.unusedVariables false
set_option linter.unusedSimpArgs false
abbrev U8:Kd Int:=Kd.int .u8
abbrev DkObj (v0 v1:Value) (d:Dk):Obj:=.cells #[v0,.int .i64 d.s0,v1,.int .i64 d.s1,.int .i64 d.room,.int .i64 d.stop,.bool d.dead,.bool true] 71 (0,0)
structure Raw (w0 W:World) (g:Nat) (v0 v1:Value) (D:Nat->Prop) (d:Dk):Prop where
 below:Below w0.heap.size w0 W
 gb:w0.heap.size<=g
 gD:D g
 lt:∀ k,D k->k<W.heap.size
 ge:∀ k,D k->w0.heap.size<=k
 blk:W.heap[g]? = some (DkObj v0 v1 d)
 r0:U8.R 5 W w0.heap.size (λk=>D k/\k≠g/\some k≠v1.ownBlock) v0 d.b0
 r1:U8.R 5 W w0.heap.size (λk=>D k/\k≠g/\some k≠v0.ownBlock) v1 d.b1
def At (w0 W:World) (g:Nat) (D:Nat->Prop) (d:Dk):Prop:=∃ v0 v1,Raw w0 W g v0 v1 D d
structure Step (W W':World) (D D':Nat->Prop):Prop where
 size:W.heap.size<=W'.heap.size
 block:∀ k,k<W.heap.size->¬ D k->W'.heap[k]? = W.heap[k]?
 new:∀ k,D' k->D k\/W.heap.size<=k
section
variable {w0 W W1 W2 : World} {g : Nat} {v0 v1 v : Value} {D D1 D2 : Nat -> Prop} {d : Dk}
theorem Step.refl (W:World) (D:Nat->Prop):Step W W D D:=⟨Nat.le_refl _,λ_ _ _=>rfl,λ_ h=>.inl h⟩
theorem Step.of_below (h:Below W.heap.size W W1):Step W W1 D D:=⟨h.size,λk hk _=>h.block k hk,λ_ h=>.inl h⟩
theorem Step.trans (h:Step W W1 D D1) (k:Step W1 W2 D1 D2):Step W W2 D D2:=by
 refine ⟨Nat.le_trans h.size k.size,λi hi hd=>?_,λi hi=>?_⟩
 ·rw [k.block i (Nat.lt_of_lt_of_le hi h.size) (λh1=>by
   rcases h.new i h1 with h2|h2
   ·exact hd h2
   ·omega),h.block i hi hd]
 ·rcases k.new i hi with h1|h1
  ·exact h.new i h1
  ·exact .inr (Nat.le_trans h.size h1)
theorem Step.foot {α:Type} {e:Kd α} {A:Option Addr} {n:Nat} {xs:List α} (h:Step W W1 D D1) (f:Kd.F e W (λk=>¬ D k) A n xs):Kd.F e W1 (λk=>¬ D1 k) A n xs :=
 Kd.F_mono (Kd.F_step (Kd.F_bound f) (λk hk hlt=>h.block k hlt hk.1)) (λk hk h1=>by
  rcases h.new k h1 with h2|h2
  ·exact hk.1 h2
  ·omega)
theorem Step.blk (h:Step W W1 D D1) {o:Obj} (hb:W.heap[g]? = some o) (hd:¬ D g):W1.heap[g]? = some o/\¬ D1 g:=by
 have hlt:=blk_lt hb
 refine ⟨(h.block g hlt hd).trans hb,λh1=>?_⟩
 rcases h.new g h1 with h2|h2
 ·exact hd h2
 ·omega
theorem Raw.on (h:Raw w0 W g v0 v1 D d) (hb:Below W.heap.size W W1):Raw w0 W1 g v0 v1 D d :=
 ⟨below_step h.below hb,h.gb,h.gD,λk hk=>Nat.lt_of_lt_of_le (h.lt k hk) hb.size,h.ge,blk_below h.blk hb,Kd.R_below h.r0 hb,Kd.R_below h.r1 hb⟩
theorem At.on (h:At w0 W g D d) (hb:Below W.heap.size W W1):At w0 W1 g D d:=by
 obtain ⟨v0,v1,h⟩:=h
 exact ⟨v0,v1,h.on hb⟩
theorem At.lt (h:At w0 W g D d):∀ k,D k->k<W.heap.size:=by
 obtain ⟨v0,v1,h⟩:=h
 exact h.lt
theorem At.ge (h:At w0 W g D d):∀ k,D k->w0.heap.size<=k:=by
 obtain ⟨v0,v1,h⟩:=h
 exact h.ge
theorem At.below (h:At w0 W g D d):Below w0.heap.size w0 W:=by
 obtain ⟨v0,v1,h⟩:=h
 exact h.below
theorem size_set (W:World) (p:Addr) (v:Value):(W.setCell p v).heap.size=W.heap.size:=by simp [World.setCell]
theorem Raw.c0 (h:Raw w0 W g v0 v1 D d):W.cell? ⟨g,0,none⟩=some (v0):=(blk_cell h.blk 0).trans rfl
theorem Raw.c1 (h:Raw w0 W g v0 v1 D d):W.cell? ⟨g,1,none⟩=some (.int .i64 d.s0):=(blk_cell h.blk 1).trans rfl
theorem Raw.c2 (h:Raw w0 W g v0 v1 D d):W.cell? ⟨g,2,none⟩=some (v1):=(blk_cell h.blk 2).trans rfl
theorem Raw.c3 (h:Raw w0 W g v0 v1 D d):W.cell? ⟨g,3,none⟩=some (.int .i64 d.s1):=(blk_cell h.blk 3).trans rfl
theorem Raw.c4 (h:Raw w0 W g v0 v1 D d):W.cell? ⟨g,4,none⟩=some (.int .i64 d.room):=(blk_cell h.blk 4).trans rfl
theorem Raw.c5 (h:Raw w0 W g v0 v1 D d):W.cell? ⟨g,5,none⟩=some (.int .i64 d.stop):=(blk_cell h.blk 5).trans rfl
theorem Raw.c6 (h:Raw w0 W g v0 v1 D d):W.cell? ⟨g,6,none⟩=some (.bool d.dead):=(blk_cell h.blk 6).trans rfl
theorem Raw.c7 (h:Raw w0 W g v0 v1 D d):W.cell? ⟨g,7,none⟩=some (.bool true):=(blk_cell h.blk 7).trans rfl
theorem Raw.fz (h:Raw w0 W g v0 v1 D d) (j:Nat):W.frozen? ⟨g,j,none⟩=false:=blk_frozen h.blk j
theorem Raw.put (h:Raw w0 W g v0 v1 D d) {d':Dk} (h0:d'.b0=d.b0) (h1:d'.b1=d.b1) {j:Nat} {v:Value} (hb:(#[v0,.int .i64 d.s0,v1,.int .i64 d.s1,.int .i64 d.room,.int .i64 d.stop,.bool d.dead,.bool true]:Array Value).setIfInBounds j v=#[v0,.int .i64 d'.s0,v1,.int .i64 d'.s1,.int .i64 d'.room,.int .i64 d'.stop,.bool d'.dead,.bool true]) :
  Raw w0 (W.setCell ⟨g,j,none⟩ v) g v0 v1 D d'/\Step W (W.setCell ⟨g,j,none⟩ v) D D:=by
 have hf:∀ k,k≠g->(W.setCell ⟨g,j,none⟩ v).heap[k]? = W.heap[k]?:=λk hk=>Below.heap_setCell W ⟨g,j,none⟩ v k hk
 refine ⟨⟨below_set h.below h.gb,h.gb,h.gD,λk hk=>by rw [size_set];exact h.lt k hk,h.ge,blk_put h.blk j v hb,?_,?_⟩,⟨Nat.le_of_eq (size_set _ _ _).symm,λk hk hd=>hf k (λe=>hd (e ▸ h.gD)),λk hk=>.inl hk⟩⟩
 ·rw [h0];exact Kd.R_step h.r0 (λk hk _=>hf k hk.2.1)
 ·rw [h1];exact Kd.R_step h.r1 (λk hk _=>hf k hk.2.1)
theorem Raw.die (h:Raw w0 W g v0 v1 D d):Raw w0 (W.setCell ⟨g,6,none⟩ (.bool true)) g v0 v1 D d.die/\Step W (W.setCell ⟨g,6,none⟩ (.bool true)) D D:=h.put (d':=d.die) rfl rfl rfl
theorem Raw.stop (h:Raw w0 W g v0 v1 D d) (n:Int):Raw w0 (W.setCell ⟨g,5,none⟩ (.int .i64 n)) g v0 v1 D { d with stop:=n }/\Step W (W.setCell ⟨g,5,none⟩ (.int .i64 n)) D D:=h.put (d':={ d with stop:=n }) rfl rfl rfl
theorem Raw.live (h:Raw w0 W g v0 v1 D d):Raw w0 (W.setCell ⟨g,6,none⟩ (.bool false)) g v0 v1 D { d with dead:=false }/\Step W (W.setCell ⟨g,6,none⟩ (.bool false)) D D:=h.put (d':={ d with dead:=false }) rfl rfl rfl
def more (D:Nat->Prop) (W W1:World):Nat->Prop:=λk=>D k\/(W.heap.size<=k/\k<W1.heap.size)
theorem Raw.safe0 (h:Raw w0 W g v0 v1 D d) (n:Int):Raw w0 (W.setCell ⟨g,1,none⟩ (.int .i64 n)) g v0 v1 D { d with s0:=n }/\Step W (W.setCell ⟨g,1,none⟩ (.int .i64 n)) D D:=h.put (d':={ d with s0:=n }) rfl rfl rfl
theorem Raw.fresh0 (h:Raw w0 W g v0 v1 D d):∀ k,W.heap.size<=k->(k≠g/\some k≠v1.ownBlock/\(D k\/W.heap.size<=k)):=λk hk =>
 ⟨λe=>by have:=h.lt g h.gD;omega,λe=>by have:=Kd.R_lt h.r1 k e.symm;omega,.inr hk⟩
theorem Raw.wide0 (h:Raw w0 W g v0 v1 D d):U8.R 5 W w0.heap.size (λk=>k≠g/\some k≠v1.ownBlock/\(D k\/W.heap.size<=k)) v0 d.b0:=Kd.R_mono h.r0 (λk hk=>⟨hk.2.1,hk.2.2,.inl hk.1⟩)
theorem Raw.row0 (h:Raw w0 W g v0 v1 D d) {b:List Int} (hR:U8.R 5 W1 w0.heap.size (λk=>k≠g/\some k≠v1.ownBlock/\(D k\/W.heap.size<=k)) v b) (hb:Below w0.heap.size w0 W1) (hg:W.grownBy W1 v0.ownBlock) :
  Raw w0 (W1.setCell ⟨g,0,none⟩ v) g v v1 (more D W W1) { d with b0:=b }/\Step W (W1.setCell ⟨g,0,none⟩ v) D (more D W W1):=by
 have hf:∀ k,k≠g->(W1.setCell ⟨g,0,none⟩ v).heap[k]? = W1.heap[k]?:=λk hk=>Below.heap_setCell W1 ⟨g,0,none⟩ v k hk
 have hgo:some g≠v0.ownBlock:=λe=>(h.r0.1 g e.symm).2.1 rfl
 have hblk:=(hg.block g (h.lt g h.gD) hgo).trans h.blk
 have ho:U8.R 5 W1 w0.heap.size (λk=>some k=v1.ownBlock) v1 d.b1:=Kd.R_tight rfl (Kd.R_grown h.r1 hg (λk hk=>hk.2.2))
 have hn:U8.R 5 W1 w0.heap.size (λk=>some k=v.ownBlock) v b:=Kd.R_tight rfl hR
 have on:∀ k,some k=v1.ownBlock->D k/\k≠g/\k<W.heap.size:=λk hk=>⟨(h.r1.1 k hk.symm).1,(h.r1.1 k hk.symm).2.1,Kd.R_lt h.r1 k hk.symm⟩
 have nn:∀ k,some k=v.ownBlock->more D W W1 k/\k≠g/\some k≠v1.ownBlock:=λk hk=>by
  have h1:=hR.1 k hk.symm
  have h2:=Kd.R_lt hR k hk.symm
  exact ⟨h1.2.2.imp id (λh3=>⟨h3,h2⟩),h1.1,h1.2.1⟩
 refine ⟨⟨below_set hb h.gb,h.gb,.inl h.gD,λk hk=>?_,λk hk=>?_,blk_put hblk 0 v rfl,Kd.R_mono (Kd.R_step hn (λk hk _=>hf k (nn k hk).2.1)) nn,Kd.R_mono (Kd.R_step ho (λk hk _=>hf k (on k hk).2.1)) (λk hk=>⟨.inl (on k hk).1,(on k hk).2.1,λe=>(nn k e).2.2 hk⟩)⟩,⟨Nat.le_trans hg.size (Nat.le_of_eq (size_set _ _ _).symm),λk hk hd=>?_,λk hk=>hk.imp id (λh1=>h1.1)⟩⟩
 ·rw [size_set]
  rcases hk with hk|hk
  ·exact Nat.lt_of_lt_of_le (h.lt k hk) hg.size
  ·exact hk.2
 ·rcases hk with hk|hk
  ·exact h.ge k hk
  ·exact Nat.le_trans h.below.size hk.1
 ·rw [hf k (λe=>hd (e ▸ h.gD))]
  exact hg.block k hk (λe=>hd (h.r0.1 k e.symm).1)
theorem Raw.safe1 (h:Raw w0 W g v0 v1 D d) (n:Int):Raw w0 (W.setCell ⟨g,3,none⟩ (.int .i64 n)) g v0 v1 D { d with s1:=n }/\Step W (W.setCell ⟨g,3,none⟩ (.int .i64 n)) D D:=h.put (d':={ d with s1:=n }) rfl rfl rfl
theorem Raw.fresh1 (h:Raw w0 W g v0 v1 D d):∀ k,W.heap.size<=k->(k≠g/\some k≠v0.ownBlock/\(D k\/W.heap.size<=k)):=λk hk =>
 ⟨λe=>by have:=h.lt g h.gD;omega,λe=>by have:=Kd.R_lt h.r0 k e.symm;omega,.inr hk⟩
theorem Raw.wide1 (h:Raw w0 W g v0 v1 D d):U8.R 5 W w0.heap.size (λk=>k≠g/\some k≠v0.ownBlock/\(D k\/W.heap.size<=k)) v1 d.b1:=Kd.R_mono h.r1 (λk hk=>⟨hk.2.1,hk.2.2,.inl hk.1⟩)
theorem Raw.row1 (h:Raw w0 W g v0 v1 D d) {b:List Int} (hR:U8.R 5 W1 w0.heap.size (λk=>k≠g/\some k≠v0.ownBlock/\(D k\/W.heap.size<=k)) v b) (hb:Below w0.heap.size w0 W1) (hg:W.grownBy W1 v1.ownBlock) :
  Raw w0 (W1.setCell ⟨g,2,none⟩ v) g v0 v (more D W W1) { d with b1:=b }/\Step W (W1.setCell ⟨g,2,none⟩ v) D (more D W W1):=by
 have hf:∀ k,k≠g->(W1.setCell ⟨g,2,none⟩ v).heap[k]? = W1.heap[k]?:=λk hk=>Below.heap_setCell W1 ⟨g,2,none⟩ v k hk
 have hgo:some g≠v1.ownBlock:=λe=>(h.r1.1 g e.symm).2.1 rfl
 have hblk:=(hg.block g (h.lt g h.gD) hgo).trans h.blk
 have ho:U8.R 5 W1 w0.heap.size (λk=>some k=v0.ownBlock) v0 d.b0:=Kd.R_tight rfl (Kd.R_grown h.r0 hg (λk hk=>hk.2.2))
 have hn:U8.R 5 W1 w0.heap.size (λk=>some k=v.ownBlock) v b:=Kd.R_tight rfl hR
 have on:∀ k,some k=v0.ownBlock->D k/\k≠g/\k<W.heap.size:=λk hk=>⟨(h.r0.1 k hk.symm).1,(h.r0.1 k hk.symm).2.1,Kd.R_lt h.r0 k hk.symm⟩
 have nn:∀ k,some k=v.ownBlock->more D W W1 k/\k≠g/\some k≠v0.ownBlock:=λk hk=>by
  have h1:=hR.1 k hk.symm
  have h2:=Kd.R_lt hR k hk.symm
  exact ⟨h1.2.2.imp id (λh3=>⟨h3,h2⟩),h1.1,h1.2.1⟩
 refine ⟨⟨below_set hb h.gb,h.gb,.inl h.gD,λk hk=>?_,λk hk=>?_,blk_put hblk 2 v rfl,Kd.R_mono (Kd.R_step ho (λk hk _=>hf k (on k hk).2.1)) (λk hk=>⟨.inl (on k hk).1,(on k hk).2.1,λe=>(nn k e).2.2 hk⟩),Kd.R_mono (Kd.R_step hn (λk hk _=>hf k (nn k hk).2.1)) nn⟩,⟨Nat.le_trans hg.size (Nat.le_of_eq (size_set _ _ _).symm),λk hk hd=>?_,λk hk=>hk.imp id (λh1=>h1.1)⟩⟩
 ·rw [size_set]
  rcases hk with hk|hk
  ·exact Nat.lt_of_lt_of_le (h.lt k hk) hg.size
  ·exact hk.2
 ·rcases hk with hk|hk
  ·exact h.ge k hk
  ·exact Nat.le_trans h.below.size hk.1
 ·rw [hf k (λe=>hd (e ▸ h.gD))]
  exact hg.block k hk (λe=>hd (h.r1.1 k e.symm).1)
structure RawV (W:World) (D:Nat->Prop) (A0 A1:Option Addr) (c0 c1:Nat) (d:Dk):Prop where
 l0:d.b0.length<=c0
 f0:Kd.F U8 W (λk=>¬ D k) A0 d.b0.length d.b0
 l1:d.b1.length<=c1
 f1:Kd.F U8 W (λk=>¬ D k) A1 d.b1.length d.b1
abbrev dkV (A0 A1:Option Addr) (c0 c1:Nat) (d:Dk):Value:=.agg #[.slice A0 d.b0.length c0,.int .i64 d.s0,.slice A1 d.b1.length c1,.int .i64 d.s1,.int .i64 d.room,.int .i64 d.stop,.bool d.dead]
def Is (W:World) (D:Nat->Prop) (v:Value) (d:Dk):Prop:=∃ A0 A1 c0 c1,v=dkV A0 A1 c0 c1 d/\RawV W D A0 A1 c0 c1 d
variable {A0 A1 : Option Addr} {c0 c1 : Nat}
theorem RawV.step (h:RawV W D A0 A1 c0 c1 d) (hs:Step W W1 D D1):RawV W1 D1 A0 A1 c0 c1 d:=⟨h.l0,hs.foot h.f0,h.l1,hs.foot h.f1⟩
theorem Is.step (h:Is W D v d) (hs:Step W W1 D D1):Is W1 D1 v d:=by
 obtain ⟨A0,A1,c0,c1,e,h⟩:=h
 exact ⟨A0,A1,c0,c1,e,h.step hs⟩
theorem F_fresh {W W1:World} {e:Nat} {x:List Int} {v:Value} {base:Nat} {A:Option Addr} {n c:Nat} (h:U8.R e W1 base (λ_=>True) (.slice A n c) x) (hd:∀ k,D k->k<base):n=x.length/\n<=c/\Kd.F U8 W1 (λk=>¬ D k) A x.length x:=by
 have h1:=Kd.R_reads' h
 have h2:=Kd.R_F (Kd.R_mono (Kd.R_bound h) (ok':=λk=>¬ D k) (λk hk e=>by have:=hd k e;have:=hk.2.1;omega))
 rw [h1.1] at h2
 exact ⟨h1.1,h1.2.1,h2⟩
end
end Go.Proofs.Ytfhamdobagjakaa.Dsk

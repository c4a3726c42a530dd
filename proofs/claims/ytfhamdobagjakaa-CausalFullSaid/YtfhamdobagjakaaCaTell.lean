/- a part -/
import Derived.Test.YtfhamdobagjakaaCaKnown
import Derived.Test.YtfhamdobagjakaaCards2
import Derived.Test.YtfhamdobagjakaaDkPath
namespace Go.Proofs.Ytfhamdobagjakaa.Cau
open Go.RowKit Go.Proofs.YtfhamdobagjakaaW.PrintWords Go.Proofs.YtfhamdobagjakaaW.PrintLast Go.Proofs.YtfhamdobagjakaaW.PrintMore Go.Proofs.Ytfhamdobagjakaa.Hand Go.Proofs.Ytfhamdobagjakaa.Cards Go.Proofs.Ytfhamdobagjakaa.PCa Go.Proofs.Ytfhamdobagjakaa.DotMap
set_option linter.unusedVariables false
set_option linter.unusedSimpArgs false
section
variable {w0 W w W1 W2 : World} {g bm clk : Nat} {X : Nat -> Prop} {c : List Int} {es : List En} {ok ok' : Nat -> Prop} {x : Ev} {v : Value} {Ap Ae Ac Ac1 : Option Addr} {cp ce cc cc1 : Nat}
structure Only (W W':World) (g bm:Nat):Prop where
 size:W.heap.size<=W'.heap.size
 block:∀ k,k<W.heap.size->k≠g->k≠bm->W'.heap[k]? = W.heap[k]?
theorem Only.refl (W:World):Only W W g bm:=⟨Nat.le_refl _,λ_ _ _ _=>rfl⟩
theorem Only.of_below (h:Below W.heap.size W W1):Only W W1 g bm:=⟨h.size,λk hk _ _=>h.block k hk⟩
theorem Only.trans (h:Only W W1 g bm) (k:Only W1 W2 g bm):Only W W2 g bm:=⟨Nat.le_trans h.size k.size,λi hi h1 h2=>(k.block i (Nat.lt_of_lt_of_le hi h.size) h1 h2).trans (h.block i hi h1 h2)⟩
theorem Only.set (W:World) (j:Nat) (v:Value):Only W (W.setCell ⟨g,j,none⟩ v) g bm:=⟨by simp [World.setCell],λk _ h1 _=>Below.heap_setCell W ⟨g,j,none⟩ v k h1⟩
theorem Only.grown (h:W.grownBy W1 (some bm)):Only W W1 g bm:=⟨h.size,λk hk _ h2=>h.block k hk (λe=>h2 (by injection e))⟩
theorem EvR.only (h:EvR W (λk=>¬ X k) x Ap cp Ae ce) (ho:Only W W1 g bm) (hg:X g) (hm:X bm):EvR W1 (λk=>¬ X k) x Ap cp Ae ce:=h.step (λk hk hlt=>ho.block k hlt (λe=>hk (e ▸ hg)) (λe=>hk (e ▸ hm)))
theorem EvIs.only (h:EvIs W (λk=>¬ X k) v x) (ho:Only W W1 g bm) (hg:X g) (hm:X bm):EvIs W1 (λk=>¬ X k) v x:=h.step (λk hk hlt=>ho.block k hlt (λe=>hk (e ▸ hg)) (λe=>hk (e ▸ hm)))
theorem Bf.clock (h:Bf w0 W g bm X Ac cc c es clk) {c1:List Int} (hl:c1.length<=cc1) (hf:Kd.F KI W (λk=>¬ X k) Ac1 c1.length c1):Bf w0 (W.setCell ⟨g,0,none⟩ (.slice Ac1 c1.length cc1)) g bm X Ac1 cc1 c1 es clk :=
 have ho:=Only.set (g:=g) (bm:=bm) W 0 (.slice Ac1 c1.length cc1)
 ⟨below_set h.below h.gb,h.gb,h.mb,h.ne,h.xg,h.xm,blk_put h.blk 0 (.slice Ac1 c1.length cc1) rfl,hl,Kd.F_far (p:=⟨g,0,none⟩) hf (λk hk e=>hk (by rw [show k=g from e];exact h.xg)) _,
  by have hm:=h.map;unfold MapIs at *;rw [Below.heap_setCell W ⟨g,0,none⟩ _ bm (λe=>h.ne (show bm=g from e).symm)];exact hm,λe he=>(h.evs e he).only ho h.xg h.xm,h.old,h.nod,h.key⟩
theorem EvR.wide (h:EvR W (λk=>¬ X k) x Ap cp Ae ce) {Y:Nat->Prop} (hY:∀ k,Y k->W.heap.size<=k):EvR W (λk=>¬ (X k\/Y k)) x Ap cp Ae ce :=
 ⟨h.lp,Kd.F_mono (Kd.F_bound h.fp) (λk hk e=>e.elim hk.1 (λe=>by have:=hY k e;have:=hk.2;omega)),h.le,Kd.F_mono (Kd.F_bound h.fe) (λk hk e=>e.elim hk.1 (λe=>by have:=hY k e;have:=hk.2;omega))⟩
theorem EvIs.wide (h:EvIs W (λk=>¬ X k) v x) {Y:Nat->Prop} (hY:∀ k,Y k->W.heap.size<=k):EvIs W (λk=>¬ (X k\/Y k)) v x:=by
 obtain ⟨Ap,cp,Ae,ce,e,h⟩:=h
 exact ⟨Ap,cp,Ae,ce,e,h.wide hY⟩
theorem Bf.wide (h:Bf w0 W g bm X Ac cc c es clk) {Y:Nat->Prop} (hY:∀ k,Y k->W.heap.size<=k):Bf w0 W g bm (λk=>X k\/Y k) Ac cc c es clk :=
 ⟨h.below,h.gb,h.mb,h.ne,.inl h.xg,.inl h.xm,h.blk,h.lc,Kd.F_mono (Kd.F_bound h.fc) (λk hk e=>e.elim hk.1 (λe=>by have:=hY k e;have:=hk.2;omega)),h.map,λe he=>(h.evs e he).wide hY,h.old,h.nod,h.key⟩
theorem Bf.narrow {Y:Nat->Prop} (h:Bf w0 W g bm Y Ac cc c es clk) (hs:∀ k,X k->Y k) (xg:X g) (xm:X bm):Bf w0 W g bm X Ac cc c es clk :=
 ⟨h.below,h.gb,h.mb,h.ne,xg,xm,h.blk,h.lc,Kd.F_mono h.fc (λk hk e=>hk (hs k e)),h.map,λe he=>(h.evs e he).mono (λk hk e=>hk (hs k e)),h.old,h.nod,h.key⟩
theorem Bf.far (h:Bf w0 W g bm X Ac cc c es clk) {b:Nat} (hb:X b) (hg:b≠g) (hm:b≠bm) (h0:w0.heap.size<=b) (j:Nat) (v:Value):Bf w0 (W.setCell ⟨b,j,none⟩ v) g bm X Ac cc c es clk:=by
 have hf:∀ k,k≠b->(W.setCell ⟨b,j,none⟩ v).heap[k]? = W.heap[k]?:=λk hk=>Below.heap_setCell W ⟨b,j,none⟩ v k hk
 refine ⟨below_set h.below h0,h.gb,h.mb,h.ne,h.xg,h.xm,(hf g hg.symm).trans h.blk,h.lc,Kd.F_step h.fc (λk hk _=>hf k (λe=>hk (e ▸ hb))),?_,λe he=>(h.evs e he).step (λk hk _=>hf k (λe=>hk (e ▸ hb))),h.old,h.nod,h.key⟩
 have hmap:=h.map
 unfold MapIs at *
 rw [hf bm hm.symm]
 exact hmap
def delE (d:Int×Int):List En->List En
 | []=>[]
 | e :: l=>if d=dotE e.x then l else e :: delE d l
theorem delE_ent (d:Int×Int):∀ es:List En,(delE d es).map En.ent=del d (es.map En.ent)
 | []=>rfl
 | e :: l=>by
  simp only [delE,List.map_cons,del]
  by_cases h:d=dotE e.x
  ·rw [if_pos h,if_pos (show d=(En.ent e).k from h)]
  ·rw [if_neg h,if_neg (show ¬ d=(En.ent e).k from h),List.map_cons,delE_ent d l]
theorem delE_sub (d:Int×Int):∀ es:List En,(delE d es).Sublist es
 | []=>List.Sublist.refl _
 | e :: l=>by
  simp only [delE]
  by_cases h:d=dotE e.x
  ·rw [if_pos h];exact List.sublist_cons_self e l
  ·rw [if_neg h];exact(delE_sub d l).cons_cons e
theorem delE_map (d:Int×Int):∀ es:List En,(es.map λe=>dotE e.x).Nodup->(delE d es).map (·.x)=(es.map (·.x)).filter (λy=>decide (dotE y≠d))
 | [],_=>rfl
 | e :: l,hn=>by
  simp only [List.map_cons,List.nodup_cons] at hn
  simp only [delE,List.map_cons]
  by_cases h:d=dotE e.x
  ·rw [if_pos h,List.filter_cons_of_neg (by simp [h])]
   rw [List.filter_eq_self.2]
   intro y hy
   obtain ⟨e',he',rfl⟩:=List.mem_map.1 hy
   refine decide_eq_true (λe2=>hn.1 ?_)
   rw [<-h,<-e2]
   exact List.mem_map.2 ⟨e',he',rfl⟩
  ·rw [if_neg h,List.map_cons,List.filter_cons_of_pos (by simp [Ne.symm h]),delE_map d l hn.2]
theorem Bf.gone (h:Bf w0 W g bm X Ac cc c es clk) (d:Int×Int) (hm:MapIs W1 bm (del d (es.map En.ent)) clk) (hg:W.grownBy W1 (some bm)):Bf w0 W1 g bm X Ac cc c (delE d es) clk:=by
 have ho:Only W W1 g bm:=Only.grown hg
 have hs:=delE_sub d es
 refine ⟨⟨hg.os.trans h.below.os,hg.tape.trans h.below.tape,hg.output.trans h.below.output,Nat.le_trans h.below.size hg.size,λk hk=>(hg.block k (Nat.lt_of_lt_of_le hk h.below.size) (λe=>by injection e with e;have:=h.mb;omega)).trans (h.below.block k hk)⟩,
  h.gb,h.mb,h.ne,h.xg,h.xm,(hg.block g (blk_lt h.blk) (λe=>h.ne (by injection e))).trans h.blk,h.lc,Kd.F_step h.fc (λk hk hlt=>ho.block k hlt (λe=>hk (e ▸ h.xg)) (λe=>hk (e ▸ h.xm))),by rw [delE_ent];exact hm,λe he=>(h.evs e (hs.subset he)).only ho h.xg h.xm,λe he=>h.old e (hs.subset he),h.nod.sublist (hs.map _),h.key.sublist (hs.map _)⟩
theorem F_new {α:Type} {d:Kd α} {e base:Nat} {A:Option Addr} {n c':Nat} {xs:List α} (h:d.R e W base (λ_=>True) (.slice A n c') xs) (hX:∀ k,X k->k<base):n=xs.length/\n<=c'/\Kd.F d W (λk=>¬ X k) A n xs:=by
 have h1:=Kd.R_reads' h
 have h2:=Kd.R_F (Kd.R_mono (Kd.R_bound h) (ok':=λk=>¬ X k) (λk hk e=>by have:=hX k e;have:=hk.2.1;omega))
 exact ⟨h1.1,h1.2.1,h2⟩
theorem own_f (x:Ev) (h1:x.f1.length<=1000) (h2:x.f2.length<=100000):causal_own.f x.f0.f0 x.f0.f1 x.f1 x.f2=some (x.f0.f0,x.f0.f1,x.f1,x.f2):=by
 unfold causal_own.f api_Clock_int_76.f api_Effect_94.f
 simp only [Option.bind_some,List.nil_append,List.length_nil,Nat.zero_add]
 rw [if_pos (by omega)]
 simp only [Option.bind_some]
 rw [if_pos (by omega)]
 rfl
set_option maxHeartbeats 16000000 in
set_option maxRecDepth 100000 in
theorem tell_calls (h:Bf w0 W g bm X Ac cc c es clk) (hX:∀ k,X k->k<W.heap.size) (hx:EvR W (λk=>¬ X k) x Ap cp Ae ce) (hok:ClockBase.setOk x.f0.f0 x.f0.f1=true) (hlen:x.f1.length<=1000/\x.f2.length<=100000):Calls Try.prog 59 #[.pointer (some ⟨g,0,none⟩),evV x Ap cp Ae ce] W λe w'=>∃ v' Ac' cc',e = .returned v'/\EvIs w' (λk=>¬ X k) v' x/\Bf w0 w' g bm X Ac' cc' (ClockBase.setS c x.f0.f0 x.f0.f1) (delE (dotE x) es) clk/\Only W w' g bm:=by
 have hb:Below W.heap.size W ((W.alloc (.cells (evC x Ap cp Ae ce) 59)).alloc (.cells #[.int .i64 0,.int .i64 0,.slice none 0 0,.slice none 0 0] 59)):=below_alloc (below_alloc (Below.refl _ _) _) _
 obtain ⟨Xr,hXr⟩:∃ Xr:Nat->Prop,Xr=λk=>X k\/k=W.heap.size+1:=⟨_,rfl⟩
 have hYr:∀ k,k=W.heap.size+1->W.heap.size<=k:=λk e=>by omega
 have H:=Aside0.mk (show Bf w0 _ g bm Xr Ac cc c es clk by rw [hXr];exact(h.wide hYr).on hb)
 have HX:=Aside0.mk (show EvR _ (λk=>¬ Xr k) x Ap cp Ae ce by rw [hXr];exact(hx.wide hYr).on hb)
 have XS:=Aside0.mk (show(∀ k,X k->Xr k)/\Xr (W.heap.size+1)/\X g/\X bm/\w0.heap.size<=W.heap.size+1 by rw [hXr];exact ⟨λk e=>.inl e,.inr rfl,h.xg,h.xm,by have:=h.below.size;omega⟩)
 have OO:=Aside0.mk (Only.of_below (g:=g) (bm:=bm) hb)
 have XB:=Aside0.mk (show((W.alloc (.cells (evC x Ap cp Ae ce) 59)).alloc (.cells #[.int .i64 0,.int .i64 0,.slice none 0 0,.slice none 0 0] 59)).heap[W.heap.size]? = some (.cells (evC x Ap cp Ae ce) 59 (0,0)) from blk_below (heap_alloc_new W _) (below_alloc (Below.refl _ _) _))
 have XR:=Aside0.mk (show((W.alloc (.cells (evC x Ap cp Ae ce) 59)).alloc (.cells #[.int .i64 0,.int .i64 0,.slice none 0 0,.slice none 0 0] 59)).heap[W.heap.size+1]? = some (.cells #[.int .i64 0,.int .i64 0,.slice none 0 0,.slice none 0 0] 59 (0,0)) by
  have h_:=heap_alloc_new (W.alloc (.cells (evC x Ap cp Ae ce) 59)) (.cells #[.int .i64 0,.int .i64 0,.slice none 0 0,.slice none 0 0] 59)
  rwa [show(W.alloc (.cells (evC x Ap cp Ae ce) 59)).heap.size=W.heap.size+1 by simp] at h_)
 have lg:=blk_lt h.blk
 have lm:=blk_lt h.map
 have HLX:=Aside0.mk (show ∀ k,Xr k->k<((W.alloc (.cells (evC x Ap cp Ae ce) 59)).alloc (.cells #[.int .i64 0,.int .i64 0,.slice none 0 0,.slice none 0 0] 59)).heap.size by
  rw [hXr]
  rintro k (hk|rfl)
  ·exact Nat.lt_of_lt_of_le (hX k hk) hb.size
  ·simp)
 have SET:clock_Set.f c x.f0.f0 x.f0.f1=some (ClockBase.setS c x.f0.f0 x.f0.f1,0):=by unfold clock_Set.f;rw [if_pos hok]
 have HSET:=Aside0.mk SET
 have HLEN:=Aside0.mk hlen
 clear hx SET hok hlen
 go_enter Try.func59,Try.ntmps59
 go_upto_region 1 with (fail)
 obtain ⟨ba,hba⟩:∃ ba,ba=W.heap.size:=⟨_,rfl⟩
 obtain ⟨br,hbr⟩:∃ br,br=W.heap.size+1:=⟨_,rfl⟩
 have NE:=Aside0.mk (show ba≠g/\ba≠bm/\br≠g/\br≠bm/\br≠ba/\¬ X br/\W.heap.size<=br from ⟨by omega,by omega,by omega,by omega,by omega,λe=>by have:=hX _ e;omega,by omega⟩)
 rw [<-hbr] at XR XS ⊢
 rw [<-hba] at XB ⊢
 clear hba hbr h hb lg lm hX hXr hYr
 generalize (W.alloc (.cells (evC x Ap cp Ae ce) 59)).alloc (.cells #[.int .i64 0,.int .i64 0,.slice none 0 0,.slice none 0 0] 59)=w1 at H HX XB XR OO HLX ⊢
 refine wp_region_any (by kernel_rfl) ?_
 refine take_pre (i:=0) (N:=some 6) (v:=.pointer (some ⟨g,0,none⟩)) rfl rfl (by kernel_rfl) (by kernel_rfl) (by kernel_rfl) (λ_ _ _ h=>h) (by rfl) ?_ ?_
 ·intro w_
  first|(go_simp;done)|(go_simp;rfl)
 (try simp only [Act.put,List.setIfInBounds_toArray,List.set_cons_zero,List.set_cons_succ])
 refine any_cards2 (F:=?Fr) [0] 12 (λw'=>Aside0 (Below w1.heap.size w1 w'))
  [λ_ _ _ _=>True,
  λv _ _ _=>v = .pointer (some ⟨g,0,none⟩),
  λv _ _ _=>v = .pointer (some ⟨g,0,none⟩),
  λv _ _ _=>v = .pointer (some ⟨g,0,none⟩),
  λv _ _ _=>v = .slice Ac c.length cc,
  λv _ _ _=>v = .pointer (some ⟨ba,0,none⟩),
  λv _ _ _=>v = .pointer (some ⟨ba,0,none⟩),
  λv _ _ _=>v = .int .i64 x.f0.f0,
  λv _ _ _=>v = .pointer (some ⟨ba,0,none⟩),
  λv _ _ _=>v = .pointer (some ⟨ba,1,none⟩),
  λv _ _ _=>v = .int .i64 x.f0.f1,
  λv w' _ _=>∃ v1,v = .tuple #[v1,.int .i64 0]/\KI.R 3 w' w1.heap.size (λ_=>True) v1 (ClockBase.setS c x.f0.f0 x.f0.f1)]
  (by kernel_rfl) (by kernel_rfl) (by kernel_rfl) ?hFr ?hS0r ?hSr ?hstayr ?hstepsr ?hendr
 case hFr =>
  intro vs
  simp only [List.take_succ_cons,List.take_zero,fill,if_true,if_false,Act.put,List.setIfInBounds_toArray,List.set_cons_zero,List.set_cons_succ,Nat.reduceAdd,List.contains_cons,List.contains_nil,Nat.reduceBEq,Bool.or_false,Bool.false_or,Bool.not_true,Bool.not_false,Bool.false_eq_true,Bool.or_self,Bool.true_or]
  rfl
 case hS0r=>exact ⟨below_drew (Below.refl _ _)⟩
 case hSr=>exact λw1 w2 hb hs=>⟨below_step hs.out hb⟩
 case hstayr=>exact ⟨λ_ _ _ _ _ _ h=>h,λ_ _ _ _ _ _ h=>h,λ_ _ _ _ _ _ h=>h,λ_ _ _ _ _ _ h=>h,λ_ _ _ _ _ _ h=>h,λ_ _ _ _ _ _ h=>h,λ_ _ _ _ _ _ h=>h,λ_ _ _ _ _ _ h=>h,λ_ _ _ _ _ _ h=>h,λ_ _ _ _ _ _ h=>h,λ_ _ _ _ _ _ h=>h,λ_ _ _ _ _ hb h=>by obtain ⟨v1,q1,q2⟩:=h;exact ⟨v1,q1,Kd.R_below q2 hb⟩,trivial⟩
 case hstepsr =>
  refine ⟨?sr_0,?sr_1,?sr_2,?sr_3,?sr_4,?sr_5,?sr_6,?sr_7,?sr_8,?sr_9,?sr_10,?sr_11,trivial⟩
  case sr_0=>exact λhk=>absurd hk (by decide)
  case sr_1 =>
   intro _ vs lo hi W_ hs hp
   exact does_val (by first|(go_simp;done)|(go_simp;rfl)) ⟨rfl,Below.refl _ _⟩
  case sr_2 =>
   intro _ vs lo hi W_ hs hp
   have e1:vs 1 = .pointer (some ⟨g,0,none⟩):=hp 1 (by kernel_rfl) rfl
   exact does_val (by first|(go_simp;done)|(go_simp;rfl)) ⟨rfl,Below.refl _ _⟩
  case sr_3 =>
   intro _ vs lo hi W_ hs hp
   have e2:vs 2 = .pointer (some ⟨g,0,none⟩):=hp 2 (by kernel_rfl) rfl
   exact does_val (by first|(go_simp;done)|(go_simp;rfl)) ⟨rfl,Below.refl _ _⟩
  case sr_4 =>
   intro _ vs lo hi W_ hs hp
   have e3:vs 3 = .pointer (some ⟨g,0,none⟩):=hp 3 (by kernel_rfl) rfl
   have hc:=(H.out.on hs.out).c0
   exact does_val (by first|(go_simp;done)|(go_simp;rfl)) ⟨rfl,Below.refl _ _⟩
  case sr_5 =>
   intro _ vs lo hi W_ hs hp
   exact does_val (by first|(go_simp;done)|(go_simp;rfl)) ⟨rfl,Below.refl _ _⟩
  case sr_6 =>
   intro _ vs lo hi W_ hs hp
   have e5:vs 5 = .pointer (some ⟨ba,0,none⟩):=hp 5 (by kernel_rfl) rfl
   exact does_val (by first|(go_simp;done)|(go_simp;rfl)) ⟨rfl,Below.refl _ _⟩
  case sr_7 =>
   intro _ vs lo hi W_ hs hp
   have e6:vs 6 = .pointer (some ⟨ba,0,none⟩):=hp 6 (by kernel_rfl) rfl
   have y0:=(blk_cell (blk_below XB.out hs.out) 0).trans (rfl:_=some (Value.int .i64 x.f0.f0))
   exact does_val (by first|(go_simp;done)|(go_simp;rfl)) ⟨rfl,Below.refl _ _⟩
  case sr_8 =>
   intro _ vs lo hi W_ hs hp
   exact does_val (by first|(go_simp;done)|(go_simp;rfl)) ⟨rfl,Below.refl _ _⟩
  case sr_9 =>
   intro _ vs lo hi W_ hs hp
   have e8:vs 8 = .pointer (some ⟨ba,0,none⟩):=hp 8 (by kernel_rfl) rfl
   exact does_val (by first|(go_simp;done)|(go_simp;rfl)) ⟨rfl,Below.refl _ _⟩
  case sr_10 =>
   intro _ vs lo hi W_ hs hp
   have e9:vs 9 = .pointer (some ⟨ba,1,none⟩):=hp 9 (by kernel_rfl) rfl
   have y1:=(blk_cell (blk_below XB.out hs.out) 1).trans (rfl:_=some (Value.int .i64 x.f0.f1))
   exact does_val (by first|(go_simp;done)|(go_simp;rfl)) ⟨rfl,Below.refl _ _⟩
  case sr_11 =>
   intro _ vs lo hi W_ hs hp
   have e4:vs 4 = .slice Ac c.length cc:=hp 4 (by kernel_rfl) rfl
   have e7:vs 7 = .int .i64 x.f0.f0:=hp 7 (by kernel_rfl) rfl
   have e10:vs 10 = .int .i64 x.f0.f1:=hp 10 (by kernel_rfl) rfl
   refine does_call Try.func95 (by kernel_rfl) rfl #[.slice Ac c.length cc,.int .i64 x.f0.f0,.int .i64 x.f0.f1] rfl rfl (by rw [<-e4,<-e7,<-e10];simp only [List.map_toArray,List.map_cons,List.map_nil];rfl) ?_
   refine(clock_Set.calls Ac cc c x.f0.f0 x.f0.f1 (ClockBase.setS c x.f0.f0 x.f0.f1) 0 W_ (Kd.F_now (H.out.on hs.out).fc) H.out.lc HSET.out).mono ?_
   rintro e w' ⟨v0,rfl,hR,hb⟩
   exact ⟨_,rfl,⟨v0,rfl,Kd.R_lower hR hs.out.size⟩,hb⟩
 case hendr =>
 intro vs lo_ hi_ Wc hs hp _
 obtain ⟨v1,e11,hR⟩:∃ v1,vs 11 = .tuple #[v1,.int .i64 0]/\KI.R 3 Wc w1.heap.size (λ_=>True) v1 (ClockBase.setS c x.f0.f0 x.f0.f1):=hp 11 (by decide) rfl
 rw [e11]
 obtain ⟨A1,c1,e1⟩:=Kd.R_slice hR
 subst e1
 have FC:=Aside0.mk (F_new hR HLX.out)
 have q_:=H.out.on hs.out
 have qx_:=HX.out.on hs.out
 have qb_:=blk_below XB.out hs.out
 have qr_:=blk_below XR.out hs.out
 have qo_:=OO.out.trans (Only.of_below hs.out)
 clear H HX XB XR OO hp hR e11
 have H:=Aside0.mk q_
 have HX:=Aside0.mk qx_
 have XB:=Aside0.mk qb_
 have XR:=Aside0.mk qr_
 have OO:=Aside0.mk qo_
 have LX:=Aside0.mk (λk hk=>Nat.lt_of_lt_of_le (HLX.out k hk) hs.out.size)
 clear q_ qx_ qb_ qr_ qo_ hs HLX
 obtain ⟨nc,hnc⟩:∃ nc,nc=ClockBase.setS c x.f0.f0 x.f0.f1:=⟨_,rfl⟩
 rw [<-hnc] at FC ⊢
 have HNC:=Aside0.mk hnc
 clear hnc
 refine any_does (i:=12) (N:=some 5) rfl rfl (by kernel_rfl) rfl ?_
 refine does_val (v:=.tuple #[.slice A1 nc.length c1,.int .i64 0]) (w1:=Wc) (by first|(go_simp;done)|(go_simp;rfl)) ?_
 refine take_pre (i:=14) (N:=some 19) (v:=.int .i64 0) rfl rfl (by kernel_rfl) (by kernel_rfl) (by kernel_rfl) (λ_ _ _ h=>h) (by rfl) ?_ ?_
 ·intro w_
  first|(go_simp;done)|(go_simp;rfl)
 refine wpAny_of_path [13,15,16,17] (_ :: _ :: _ :: _ :: []) _ _ _ rfl (by kernel_rfl) ?_
 (try simp only [List.getElem_toArray,List.getElem_cons_succ,List.getElem_cons_zero])
 (try simp only [Act.put,List.setIfInBounds_toArray,List.set_cons_zero,List.set_cons_succ])
 have c0:=H.out.c0
 have f0:=H.out.fz 0
 go_upto_region 2 with (fail)
 clear c0 f0
 have hset:=λk (hk:k≠g)=>Below.heap_setCell Wc ⟨g,0,none⟩ (.slice A1 nc.length c1) k hk
 have q_:=H.out.clock FC.out.2.1 FC.out.2.2
 have qo_:=Only.set (g:=g) (bm:=bm) Wc 0 (.slice A1 nc.length c1)
 have qx_:=HX.out.only qo_ H.out.xg H.out.xm
 have qb_:=(hset ba NE.out.1).trans XB.out
 have qr_:=(hset br NE.out.2.2.1).trans XR.out
 have ql_:∀ k,Xr k->k<(Wc.setCell ⟨g,0,none⟩ (.slice A1 nc.length c1)).heap.size:=λk hk=>Nat.lt_of_lt_of_le (LX.out k hk) qo_.size
 have qo2_:=OO.out.trans qo_
 clear H HX XB XR OO LX FC hset qo_
 have H:=Aside0.mk q_
 have HX:=Aside0.mk qx_
 have XB:=Aside0.mk qb_
 have XR:=Aside0.mk qr_
 have LX:=Aside0.mk ql_
 have OO:=Aside0.mk qo2_
 clear q_ qx_ qb_ qr_ ql_ qo2_
 generalize Wc.setCell ⟨g,0,none⟩ (.slice A1 nc.length c1)=w2 at H HX XB XR LX OO ⊢
 refine region_cards (F:=?Fd) 6 (λw'=>Aside0 (Below w2.heap.size w2 w'))
  [λv _ _ _=>v = .pointer (some ⟨g,0,none⟩),
  λv _ _ _=>v = .pointer (some ⟨g,0,none⟩),
  λv _ _ _=>v = .pointer (some ⟨g,1,none⟩),
  λv _ _ _=>v = .map (some bm),
  λv _ _ _=>v = .pointer (some ⟨ba,0,none⟩),
  λv _ _ _=>v = .agg #[.int .i64 x.f0.f0,.int .i64 x.f0.f1]]
  (by kernel_rfl) (by kernel_rfl) ?hFd ?hS0d ?hSd ?hstayd ?hstepsd ?hendd
 case hFd =>
  intro vs
  simp only [List.take_succ_cons,List.take_zero,fill,if_true,if_false,Act.put,List.setIfInBounds_toArray,List.set_cons_zero,List.set_cons_succ,Nat.reduceAdd,List.contains_cons,List.contains_nil,Nat.reduceBEq,Bool.or_false,Bool.false_or,Bool.not_true,Bool.not_false,Bool.false_eq_true,Bool.or_self,Bool.true_or]
  rfl
 case hS0d=>exact ⟨below_drew (Below.refl _ _)⟩
 case hSd=>exact λw1 w2 hb hs=>⟨below_step hs.out hb⟩
 case hstayd=>exact ⟨λ_ _ _ _ _ _ h=>h,λ_ _ _ _ _ _ h=>h,λ_ _ _ _ _ _ h=>h,λ_ _ _ _ _ _ h=>h,λ_ _ _ _ _ _ h=>h,λ_ _ _ _ _ _ h=>h,trivial⟩
 case hstepsd =>
  refine ⟨?sd_0,?sd_1,?sd_2,?sd_3,?sd_4,?sd_5,trivial⟩
  case sd_0 =>
   intro _ vs lo hi W_ hs hp
   exact does_val (by first|(go_simp;done)|(go_simp;rfl)) ⟨rfl,Below.refl _ _⟩
  case sd_1 =>
   intro _ vs lo hi W_ hs hp
   have e0:vs 0 = .pointer (some ⟨g,0,none⟩):=hp 0 (by kernel_rfl) rfl
   exact does_val (by first|(go_simp;done)|(go_simp;rfl)) ⟨rfl,Below.refl _ _⟩
  case sd_2 =>
   intro _ vs lo hi W_ hs hp
   have e1:vs 1 = .pointer (some ⟨g,0,none⟩):=hp 1 (by kernel_rfl) rfl
   exact does_val (by first|(go_simp;done)|(go_simp;rfl)) ⟨rfl,Below.refl _ _⟩
  case sd_3 =>
   intro _ vs lo hi W_ hs hp
   have e2:vs 2 = .pointer (some ⟨g,1,none⟩):=hp 2 (by kernel_rfl) rfl
   have hc:=(H.out.on hs.out).c1
   exact does_val (by first|(go_simp;done)|(go_simp;rfl)) ⟨rfl,Below.refl _ _⟩
  case sd_4 =>
   intro _ vs lo hi W_ hs hp
   exact does_val (by first|(go_simp;done)|(go_simp;rfl)) ⟨rfl,Below.refl _ _⟩
  case sd_5 =>
   intro _ vs lo hi W_ hs hp
   have e4:vs 4 = .pointer (some ⟨ba,0,none⟩):=hp 4 (by kernel_rfl) rfl
   have y0:=(blk_cell (blk_below XB.out hs.out) 0).trans (rfl:_=some (Value.int .i64 x.f0.f0))
   have y1:=(blk_cell (blk_below XB.out hs.out) 1).trans (rfl:_=some (Value.int .i64 x.f0.f1))
   exact does_val (by first|(go_simp;done)|(go_simp;rfl)) ⟨rfl,Below.refl _ _⟩
 case hendd =>
 intro vs lo_ hi_ Wd hs hp _
 simp only [List.drop_succ_cons,List.drop_zero]
 have e3:vs 3 = .map (some bm):=hp 3 (by decide)
 have e5:vs 5 = .agg #[.int .i64 x.f0.f0,.int .i64 x.f0.f1]:=hp 5 (by decide)
 rw [e3,e5]
 have q_:=H.out.on hs.out
 have qx_:=HX.out.on hs.out
 have qb_:=blk_below XB.out hs.out
 have qr_:=blk_below XR.out hs.out
 have qo_:=OO.out.trans (Only.of_below hs.out)
 have ql_:∀ k,Xr k->k<Wd.heap.size:=λk hk=>Nat.lt_of_lt_of_le (LX.out k hk) hs.out.size
 clear H HX XB XR OO hp hs e3 e5 LX
 have H:=Aside0.mk q_
 have HX:=Aside0.mk qx_
 have XB:=Aside0.mk qb_
 have XR:=Aside0.mk qr_
 have OO:=Aside0.mk qo_
 have LX:=Aside0.mk ql_
 clear q_ qx_ qb_ qr_ qo_ ql_
 refine wpList_del (b:=bm) (clock:=clk) (t:=88) (e:=59) (kt:=54) (l:=es.map En.ent) (dotE x) rfl rfl (.tmp 25) (.tmp 27) rfl (by first|rfl|(go_simp;done)) (by first|rfl|(go_simp;done)) Try.underlying88 H.out.map ?_
 intro w3 hm3 hg3
 have qo_:Only Wd w3 g bm:=Only.grown hg3
 have q_:=H.out.gone (dotE x) hm3 hg3
 have qx_:=HX.out.only qo_ H.out.xg H.out.xm
 have qb_:=(qo_.block ba (blk_lt XB.out) NE.out.1 NE.out.2.1).trans XB.out
 have qr_:=(qo_.block br (blk_lt XR.out) NE.out.2.2.1 NE.out.2.2.2.1).trans XR.out
 have ql_:∀ k,Xr k->k<w3.heap.size:=λk hk=>Nat.lt_of_lt_of_le (LX.out k hk) qo_.size
 have qo2_:=OO.out.trans qo_
 clear H HX XB XR OO LX hm3 hg3 qo_
 have H:=Aside0.mk q_
 have HX:=Aside0.mk qx_
 have XB:=Aside0.mk qb_
 have XR:=Aside0.mk qr_
 have OO:=Aside0.mk qo2_
 have LX:=Aside0.mk ql_
 clear q_ qx_ qb_ qr_ qo2_ ql_
 have OWN:=own_f x HLEN.out.1 HLEN.out.2
 have HOWN:=Aside0.mk OWN
 clear OWN
 have y0:=(blk_cell XB.out 0).trans (rfl:_=some (Value.int .i64 x.f0.f0))
 have y1:=(blk_cell XB.out 1).trans (rfl:_=some (Value.int .i64 x.f0.f1))
 have y2:=(blk_cell XB.out 2).trans (rfl:_=some (Value.slice Ap x.f1.length cp))
 have y3:=(blk_cell XB.out 3).trans (rfl:_=some (Value.slice Ae x.f2.length ce))
 go_wp2_with (first|(go_at_call 58;(with_reducible refine Calls.mono (causal_own.calls x.f0.f0 x.f0.f1 Ap cp x.f1 Ae ce x.f2 x.f0.f0 x.f0.f1 x.f1 x.f2 w3 (Kd.F_now HX.out.fp) HX.out.lp (Kd.F_now HX.out.fe) HX.out.le HOWN.out) ?_);rintro e w4 ⟨v2,v3,rfl,hr2,hr3,hb⟩;obtain ⟨A2,c2,e2⟩:=Kd.R_slice hr2;obtain ⟨A3,c3,e3⟩:=Kd.R_slice hr3;subst e2;subst e3;have F2:=Aside0.mk (F_new hr2 LX.out);have F3:=Aside0.mk (F_new hr3 LX.out);have q_:=H.out.on hb;have qr_:=blk_below XR.out hb;have qo_:=OO.out.trans (Only.of_below hb);clear H XR OO HX XB y0 y1 y2 y3 hr2 hr3 hb;have H:=Aside0.mk q_;have XR:=Aside0.mk qr_;have OO:=Aside0.mk qo_;clear q_ qr_ qo_;have r0:=(blk_cell XR.out 0).trans (rfl:_=some (Value.int .i64 0));have r1:=(blk_cell XR.out 1).trans (rfl:_=some (Value.int .i64 0));have r2:=(blk_cell XR.out 2).trans (rfl:_=some (Value.slice none 0 0));have r3:=(blk_cell XR.out 3).trans (rfl:_=some (Value.slice none 0 0));have z0:=blk_frozen XR.out 0;have z1:=blk_frozen XR.out 1;have z2:=blk_frozen XR.out 2;have z3:=blk_frozen XR.out 3)|((with_reducible refine store_event (t:=59) (p:=4) rfl rfl rfl (w1:=((((w4.setCell ⟨br,0,none⟩ (.int .i64 x.f0.f0)).setCell ⟨br,1,none⟩ (.int .i64 x.f0.f1)).setCell ⟨br,2,none⟩ (.slice A2 x.f1.length c2)).setCell ⟨br,3,none⟩ (.slice A3 x.f2.length c3))) ?hrun ?_);(case hrun=>first|(go_simp;done)|(go_simp;rfl));intro w5 hw5;have HW5:=Aside0.mk hw5;have YR:=Aside0.mk (show w5.heap[br]? = some (.cells (evC x A2 c2 A3 c3) 59 (0,0)) by rw [hw5];exact blk_put (blk_put (blk_put (blk_put XR.out 0 (.int .i64 x.f0.f0) rfl) 1 (.int .i64 x.f0.f1) rfl) 2 (.slice A2 x.f1.length c2) rfl) 3 (.slice A3 x.f2.length c3) rfl);clear hw5 r0 r1 r2 r3 z0 z1 z2 z3;have r0:=(blk_cell YR.out 0).trans (rfl:_=some (Value.int .i64 x.f0.f0));have r1:=(blk_cell YR.out 1).trans (rfl:_=some (Value.int .i64 x.f0.f1));have r2:=(blk_cell YR.out 2).trans (rfl:_=some (Value.slice A2 x.f1.length c2));have r3:=(blk_cell YR.out 3).trans (rfl:_=some (Value.slice A3 x.f2.length c3))))
 refine bodyPost_ret (v:=evV x A2 c2 A3 c3) ?hres rfl ?_
 case hres =>
  simp only [results,Try.results59,r0,r1,r2,r3]
  first|rfl|(simp [r0,r1,r2,r3];done)|(go_simp;done)|(go_simp;rfl)
 have hch:∀ k,k≠br->w5.heap[k]? = w4.heap[k]?:=λk hk=>by rw [HW5.out,Below.heap_setCell _ _ _ _ hk,Below.heap_setCell _ _ _ _ hk,Below.heap_setCell _ _ _ _ hk,Below.heap_setCell _ _ _ _ hk]
 have hsz:w5.heap.size=w4.heap.size:=by rw [HW5.out];simp [World.setCell]
 have h4:=H.out
 obtain ⟨n1,n2,n3,n4,n5,n6,n7⟩:=NE.out
 obtain ⟨s1,s2,s3,s4,s5⟩:=XS.out
 have hbf:Bf w0 w5 g bm Xr A1 c1 nc (delE (dotE x) es) clk:=by
  rw [HW5.out]
  exact(((h4.far s2 n3 n4 s5 0 _).far s2 n3 n4 s5 1 _).far s2 n3 n4 s5 2 _).far s2 n3 n4 s5 3 _
 have hst:∀ k,¬ Xr k->k<w4.heap.size->w5.heap[k]? = w4.heap[k]?:=λk hk _=>hch k (λe=>hk (e ▸ s2))
 rw [<-HNC.out]
 refine ⟨_,A1,c1,rfl,⟨A2,c2,A3,c3,rfl,F2.out.2.1,Kd.F_mono (Kd.F_step F2.out.2.2 hst) (λk hk e=>hk (s1 k e)),F3.out.2.1,Kd.F_mono (Kd.F_step F3.out.2.2 hst) (λk hk e=>hk (s1 k e))⟩,hbf.narrow s1 s3 s4,?_⟩
 have ho:=OO.out
 exact ⟨by rw [hsz];exact ho.size,λk hk h1 h2=>(hch k (by omega)).trans (ho.block k hk h1 h2)⟩
end
end Go.Proofs.Ytfhamdobagjakaa.Cau

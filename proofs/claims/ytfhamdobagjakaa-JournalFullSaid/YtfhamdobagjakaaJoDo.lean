/- a part -/
import Derived.Test.YtfhamdobagjakaaJoAwake
import Derived.Test.YtfhamdobagjakaaAppN
import Derived.Test.YtfhamdobagjakaaPJox5
namespace Go.Proofs.Ytfhamdobagjakaa.Dsk
open Go.RowKit Go.Proofs.YtfhamdobagjakaaW.PrintWords Go.Proofs.YtfhamdobagjakaaW.PrintLast Go.Proofs.YtfhamdobagjakaaW.PrintMore Go.Proofs.Ytfhamdobagjakaa.Hand Go.Proofs.Ytfhamdobagjakaa.Cards Go.Proofs.Ytfhamdobagjakaa.PJo
set_option linter.unusedVariables false
set_option linter.unusedSimpArgs false
section
variable {w0 W W0 W1 : World} {g gj gw ba : Nat} {D D0 D1 : Nat -> Prop} {d d1 : Dk} {s t s1 t1 n n1 o : Int} {Ab Am A Ab1 Am1 : Option Addr} {cb cm c cb1 cm1 : Nat} {base more R base1 more1 : List S92}
abbrev LD (D:Nat->Prop) (gj gw:Nat):Nat->Prop:=λk=>JD D gj k\/k=gw
abbrev LwC (g gj:Nat) (Ab Am:Option Addr) (cb cm:Nat) (base more:List S92) (n:Int):Array Value:=#[.pointer (some ⟨g,0,none⟩),.pointer (some ⟨gj,0,none⟩),.slice Ab base.length cb,.slice Am more.length cm,.int .i64 n]
structure Lw (w0 W:World) (g gj gw:Nat) (D:Nat->Prop) (Ab Am:Option Addr) (cb cm:Nat) (d:Dk) (s t:Int) (base more:List S92) (n:Int):Prop where
 jo:Jo w0 W g gj D d s t false
 nd:¬ JD D gj gw
 gb:w0.heap.size<=gw
 blk:W.heap[gw]? = some (.cells (LwC g gj Ab Am cb cm base more n) 32 (0,0))
 lb:base.length<=cb
 fb:Kd.F k92 W (λk=>¬ LD D gj gw k) Ab base.length base
 lm:more.length<=cm
 fm:Kd.F k92 W (λk=>¬ LD D gj gw k) Am more.length more
theorem LD_step {xs:List S92} (f:Kd.F k92 W (λk=>¬ LD D gj gw k) A xs.length xs) (hs:Step W W1 (JD D gj) (JD D1 gj)):Kd.F k92 W1 (λk=>¬ LD D1 gj gw k) A xs.length xs :=
 Kd.F_mono (Kd.F_step (Kd.F_bound f) (λk hk hlt=>hs.block k hlt (λe=>hk.1 (.inl e)))) (λk hk h1=>h1.elim (λh1=>(hs.new k h1).elim (λh2=>hk.1 (.inl h2)) (λh2=>by have:=hk.2;omega)) (λh1=>hk.1 (.inr h1)))
theorem Step.wide2 (h:Step W W1 (JD D gj) (JD D1 gj)):Step W W1 (LD D gj gw) (LD D1 gj gw):=by
 refine ⟨h.size,λk hk hd=>h.block k hk (λe=>hd (.inl e)),λk hk=>?_⟩
 rcases hk with hk|rfl
 ·exact(h.new k hk).imp .inl id
 ·exact .inl (.inr rfl)
theorem Jo.far (h:Jo w0 W g gj D d s t false) (hg:w0.heap.size<=gw) (hn:¬ JD D gj gw) (j:Nat) (v:Value):Jo w0 (W.setCell ⟨gw,j,none⟩ v) g gj D d s t false :=
 ⟨h.dk.far hg (λe=>hn (.inl e)) j v,h.nd,h.gb,(Below.heap_setCell W ⟨gw,j,none⟩ v gj (λe=>hn (.inr e.symm))).trans h.blk⟩
theorem Lw.on (h:Lw w0 W g gj gw D Ab Am cb cm d s t base more n) (hb:Below W.heap.size W W1):Lw w0 W1 g gj gw D Ab Am cb cm d s t base more n :=
 ⟨h.jo.on hb,h.nd,h.gb,blk_below h.blk hb,h.lb,Kd.F_below h.fb hb,h.lm,Kd.F_below h.fm hb⟩
theorem Lw.did (h:Lw w0 W g gj gw D Ab Am cb cm d s t base more n) (hj:Jo w0 W1 g gj D1 d1 s1 t1 false) (hs:Step W W1 (JD D gj) (JD D1 gj)):Lw w0 W1 g gj gw D1 Ab Am cb cm d1 s1 t1 base more n:=by
 have h1:=hs.blk h.blk h.nd
 exact ⟨hj,h1.2,h.gb,h1.1,h.lb,LD_step h.fb hs,h.lm,LD_step h.fm hs⟩
theorem Lw.set (h:Lw w0 W g gj gw D Ab Am cb cm d s t base more n) (j:Nat) (v:Value) (e:(LwC g gj Ab Am cb cm base more n).setIfInBounds j v=LwC g gj Ab1 Am1 cb1 cm1 base1 more1 n1)
  (lb:base1.length<=cb1) (fb:Kd.F k92 W (λk=>¬ LD D gj gw k) Ab1 base1.length base1) (lm:more1.length<=cm1) (fm:Kd.F k92 W (λk=>¬ LD D gj gw k) Am1 more1.length more1):Lw w0 (W.setCell ⟨gw,j,none⟩ v) g gj gw D Ab1 Am1 cb1 cm1 d s t base1 more1 n1 :=
 ⟨h.jo.far h.gb h.nd j v,h.nd,h.gb,blk_put h.blk j v e,lb,Kd.F_far (p:=⟨gw,j,none⟩) fb (λk hk e=>hk (.inr e)) v,lm,Kd.F_far (p:=⟨gw,j,none⟩) fm (λk hk e=>hk (.inr e)) v⟩
theorem Lw.lt (h:Lw w0 W g gj gw D Ab Am cb cm d s t base more n):∀ k,LD D gj gw k->k<W.heap.size:=by
 rintro k (hk|rfl)
 ·exact h.jo.lt k hk
 ·exact blk_lt h.blk
theorem Lw.c0 (h:Lw w0 W g gj gw D Ab Am cb cm d s t base more n):W.cell? ⟨gw,0,none⟩=some (.pointer (some ⟨g,0,none⟩)):=(blk_cell h.blk 0).trans rfl
theorem Lw.c1 (h:Lw w0 W g gj gw D Ab Am cb cm d s t base more n):W.cell? ⟨gw,1,none⟩=some (.pointer (some ⟨gj,0,none⟩)):=(blk_cell h.blk 1).trans rfl
theorem Lw.c2 (h:Lw w0 W g gj gw D Ab Am cb cm d s t base more n):W.cell? ⟨gw,2,none⟩=some (.slice Ab base.length cb):=(blk_cell h.blk 2).trans rfl
theorem Lw.c3 (h:Lw w0 W g gj gw D Ab Am cb cm d s t base more n):W.cell? ⟨gw,3,none⟩=some (.slice Am more.length cm):=(blk_cell h.blk 3).trans rfl
theorem Lw.c4 (h:Lw w0 W g gj gw D Ab Am cb cm d s t base more n):W.cell? ⟨gw,4,none⟩=some (.int .i64 n):=(blk_cell h.blk 4).trans rfl
theorem Lw.fz (h:Lw w0 W g gj gw D Ab Am cb cm d s t base more n) (j:Nat):W.frozen? ⟨gw,j,none⟩=false:=blk_frozen h.blk j
structure Lx (w0 W0 W:World) (g gj gw ba:Nat) (D0 D:Nat->Prop) (Ab Am:Option Addr) (cb cm:Nat) (d:Dk) (s t:Int) (base more:List S92) (n o:Int) (A:Option Addr) (c:Nat) (R:List S92):Prop where
 lw:Lw w0 W g gj gw D Ab Am cb cm d s t base more n
 st:Step W0 W (LD D0 gj gw) (LD D gj gw)
 xa:W.heap[ba]? = some (.cells #[.int .i64 o,.slice A R.length c] 34 (0,0))
 na:¬ LD D gj gw ba
 fr:Kd.F k92 W (λk=>¬ LD D gj gw k) A R.length R
 lr:R.length<=c
theorem Lx.on (h:Lx w0 W0 W g gj gw ba D0 D Ab Am cb cm d s t base more n o A c R) (hb:Below W.heap.size W W1):Lx w0 W0 W1 g gj gw ba D0 D Ab Am cb cm d s t base more n o A c R :=
 ⟨h.lw.on hb,h.st.trans (Step.of_below hb),blk_below h.xa hb,h.na,Kd.F_below h.fr hb,h.lr⟩
theorem Lx.did (h:Lx w0 W0 W g gj gw ba D0 D Ab Am cb cm d s t base more n o A c R) (hj:Jo w0 W1 g gj D1 d1 s1 t1 false) (hs:Step W W1 (JD D gj) (JD D1 gj)):Lx w0 W0 W1 g gj gw ba D0 D1 Ab Am cb cm d1 s1 t1 base more n o A c R:=by
 have h1:=(Step.wide2 (gw:=gw) hs).blk h.xa h.na
 exact ⟨h.lw.did hj hs,h.st.trans hs.wide2,h1.1,h1.2,LD_step h.fr hs,h.lr⟩
theorem Lx.set (h:Lx w0 W0 W g gj gw ba D0 D Ab Am cb cm d s t base more n o A c R) (j:Nat) (v:Value) (e:(LwC g gj Ab Am cb cm base more n).setIfInBounds j v=LwC g gj Ab1 Am1 cb1 cm1 base1 more1 n1)
  (lb:base1.length<=cb1) (fb:Kd.F k92 W (λk=>¬ LD D gj gw k) Ab1 base1.length base1) (lm:more1.length<=cm1) (fm:Kd.F k92 W (λk=>¬ LD D gj gw k) Am1 more1.length more1):Lx w0 W0 (W.setCell ⟨gw,j,none⟩ v) g gj gw ba D0 D Ab1 Am1 cb1 cm1 d s t base1 more1 n1 o A c R :=
 ⟨h.lw.set j v e lb fb lm fm,h.st.trans (Step.own v j (.inr rfl)),(Below.heap_setCell W ⟨gw,j,none⟩ v ba (λe=>h.na (.inr e))).trans h.xa,h.na,Kd.F_far (p:=⟨gw,j,none⟩) h.fr (λk hk e=>hk (.inr e)) v,h.lr⟩
theorem Lx.a0 (h:Lx w0 W0 W g gj gw ba D0 D Ab Am cb cm d s t base more n o A c R):W.cell? ⟨ba,0,none⟩=some (.int .i64 o):=(blk_cell h.xa 0).trans rfl
theorem Lx.a1 (h:Lx w0 W0 W g gj gw ba D0 D Ab Am cb cm d s t base more n o A c R):W.cell? ⟨ba,1,none⟩=some (.slice A R.length c):=(blk_cell h.xa 1).trans rfl
theorem does_app {P:Program} {ρ:Operand->Value} {op:Oper} {w w1:World} {Q:Value->World->Prop} {s x:Operand} {t:TypeId} {v y v1:Value} (ho:op.op = .call { callee:=.builtin .append,args:=#[s,x],argTypes:=#[t,t] }) (hs:ρ s=v) (hx:ρ x=y)
  (hr:(Builtin.append_ #[t,t] op.type #[v,y]).run P w = .ok v1 w1) (h:Q v1 w1):does P ρ op w Q:=by
 refine does_val (v:=v1) (w1:=w1) ?_ h
 unfold execOp
 simp only [ho,resolve,invoke,builtin,Sem.run_bind,Sem.run_pure,Result.andThen_ok,List.map_toArray,List.map_cons,List.map_nil,hs,hx,hr]
theorem app_event {P:Program} {ops rest:_} {op:Oper} {a:Act} {Q:Exit->Act->World->Prop} {w w1:World} {s x:Operand} {t:TypeId} {v y v1:Value} {N:Option Tmp} (hgd:op.guard=none) (ho:op.op = .call { callee:=.builtin .append,args:=#[s,x],argTypes:=#[t,t] }) (hN:op.dst=N) (hs:a.eval s=v) (hx:a.eval x=y)
  (hr:(Builtin.append_ #[t,t] op.type #[v,y]).run P w = .ok v1 w1) (h:wpList P ops Q rest (a.put N v1) w1):wpList P ops Q (op :: rest) a w:=by
 refine wpList_plain hgd λK hK=>wp_of_does (does_app ho hs hx hr ?_)
 rw [hN]
 exact hK _ _ h
set_option maxHeartbeats 16000000 in
set_option maxRecDepth 100000 in
theorem do_put_no (h:Lw w0 W g gj gw D Ab Am cb cm d s t base more n) (hR:Kd.F k92 W (λk=>¬ LD D gj gw k) A R.length R) (hc:R.length<=c) {km:Nat} {may:Bool} (hmay:r07_May.f km R=some may) (hm:may=false) (hp:∀ W1,Below W.heap.size W W1->Calls Try.prog 26 #[.pointer (some ⟨gj,0,none⟩),.slice A R.length c] W1 λe w'=>e = .returned (.int .i64 1)/\Below W1.heap.size W1 w') :
  Calls Try.prog 13 #[.pointer (some ⟨gw,0,none⟩),.agg #[.int .i64 0,.slice A R.length c]] W λe w'=>e = .returned (.bool true)/\∃ D',Lw w0 w' g gj gw D' Ab Am cb cm d s t base more n/\Step W w' (LD D gj gw) (LD D' gj gw):=by
 have X:=Aside0.mk (show Lx w0 W (W.alloc (.cells #[.int .i64 0,.slice A R.length c] 34)) g gj gw W.heap.size D D Ab Am cb cm d s t base more n 0 A c R from
  ⟨h.on (below_alloc (Below.refl _ _) _),Step.of_below (below_alloc (Below.refl _ _) _),heap_alloc_new W _,λe=>by have:=h.lt _ e;omega,Kd.F_below hR (below_alloc (Below.refl _ _) _),hc⟩)
 have HB:=Aside0.mk (below_alloc (Below.refl W.heap.size W) (.cells #[.int .i64 0,.slice A R.length c] 34))
 have HM:=Aside0.mk hmay
 have HP:=Aside0.mk hp
 clear hp
 subst hm
 clear h hR hc hmay
 go_enter Try.func13,Try.ntmps13
 go_upto_region 1 with (fail)
 obtain ⟨ba,hba⟩:∃ ba,ba=W.heap.size:=⟨_,rfl⟩
 rw [<-hba] at X ⊢
 clear hba
 generalize W.alloc (.cells #[.int .i64 0,.slice A R.length c] 34)=w1 at X HB ⊢
 have a1:=X.out.a1
 go_upto_region 2 with (first|(go_at_call 15;(with_reducible refine Calls.mono (r07_May.calls km A c R _ w1 (Kd.F_now X.out.fr) X.out.lr HM.out) ?_);rintro e w2 ⟨rfl,hd⟩;have q_:=X.out.on hd.below;have qb_:=below_step HB.out hd.below;clear X HB hd a1;have X:=Aside0.mk q_;have HB:=Aside0.mk qb_;clear q_ qb_))
 have a0:=X.out.a0
 go_upto_region 4 with (fail)
 clear a0
 refine region_cards (F:=?Fq) 6 (λw'=>Aside0 (Below w2.heap.size w2 w'))
  [λv _ _ _=>v = .pointer (some ⟨gw,0,none⟩),
  λv _ _ _=>v = .pointer (some ⟨gw,0,none⟩),
  λv _ _ _=>v = .pointer (some ⟨gw,1,none⟩),
  λv _ _ _=>v = .pointer (some ⟨gj,0,none⟩),
  λv _ _ _=>v = .pointer (some ⟨ba,1,none⟩),
  λv _ _ _=>v = .slice A R.length c]
  (by kernel_rfl) (by kernel_rfl) ?hFq ?hS0q ?hSq ?hstayq ?hstepsq ?hendq
 case hFq =>
  intro vs
  simp only [List.take_succ_cons,List.take_zero,fill,if_true,if_false,Act.put,List.setIfInBounds_toArray,List.set_cons_zero,List.set_cons_succ,Nat.reduceAdd,List.contains_cons,List.contains_nil,Nat.reduceBEq,Bool.or_false,Bool.false_or,Bool.not_true,Bool.not_false,Bool.false_eq_true,Bool.or_self,Bool.true_or]
  rfl
 case hS0q=>exact ⟨below_drew (Below.refl _ _)⟩
 case hSq=>exact λw1 w2 hb hs=>⟨below_step hs.out hb⟩
 case hstayq=>exact ⟨λ_ _ _ _ _ _ h=>h,λ_ _ _ _ _ _ h=>h,λ_ _ _ _ _ _ h=>h,λ_ _ _ _ _ _ h=>h,λ_ _ _ _ _ _ h=>h,λ_ _ _ _ _ _ h=>h,trivial⟩
 case hstepsq =>
  refine ⟨?sq_0,?sq_1,?sq_2,?sq_3,?sq_4,?sq_5,trivial⟩
  case sq_0 =>
   intro _ vs lo hi W_ hs hp
   exact does_val (by first|(go_simp;done)|(go_simp;rfl)) ⟨rfl,Below.refl _ _⟩
  case sq_1 =>
   intro _ vs lo hi W_ hs hp
   have e0:vs 0 = .pointer (some ⟨gw,0,none⟩):=hp 0 (by kernel_rfl) rfl
   exact does_val (by first|(go_simp;done)|(go_simp;rfl)) ⟨rfl,Below.refl _ _⟩
  case sq_2 =>
   intro _ vs lo hi W_ hs hp
   have e1:vs 1 = .pointer (some ⟨gw,0,none⟩):=hp 1 (by kernel_rfl) rfl
   exact does_val (by first|(go_simp;done)|(go_simp;rfl)) ⟨rfl,Below.refl _ _⟩
  case sq_3 =>
   intro _ vs lo hi W_ hs hp
   have e2:vs 2 = .pointer (some ⟨gw,1,none⟩):=hp 2 (by kernel_rfl) rfl
   have hc:=(X.out.on hs.out).lw.c1
   exact does_val (by first|(go_simp;done)|(go_simp;rfl)) ⟨rfl,Below.refl _ _⟩
  case sq_4 =>
   intro _ vs lo hi W_ hs hp
   exact does_val (by first|(go_simp;done)|(go_simp;rfl)) ⟨rfl,Below.refl _ _⟩
  case sq_5 =>
   intro _ vs lo hi W_ hs hp
   have e4:vs 4 = .pointer (some ⟨ba,1,none⟩):=hp 4 (by kernel_rfl) rfl
   have hc:=(X.out.on hs.out).a1
   exact does_val (by first|(go_simp;done)|(go_simp;rfl)) ⟨rfl,Below.refl _ _⟩
 case hendq =>
 intro vs lo_ hi_ Wc hs hp _
 simp only [List.drop_succ_cons,List.drop_zero]
 have q_:=X.out.on hs.out
 have qb_:=below_step HB.out hs.out
 clear X HB
 have X:=Aside0.mk q_
 have HB:=Aside0.mk qb_
 clear q_ qb_ hs
 have e3:vs 3 = .pointer (some ⟨gj,0,none⟩):=hp 3 (by decide)
 have e5:vs 5 = .slice A R.length c:=hp 5 (by decide)
 rw [e3,e5]
 clear hp e3 e5
 go_wp2_with (first|(go_at_call 26;(with_reducible refine Calls.mono (HP.out Wc HB.out) ?_);rintro e w4 ⟨rfl,hb⟩;have q_:=X.out.on hb;have qb_:=below_step HB.out hb;clear X HB hb;have X:=Aside0.mk q_;have HB:=Aside0.mk qb_;clear q_ qb_))
 go_ret
 exact ⟨rfl,_,X.out.lw,X.out.st⟩
set_option maxHeartbeats 16000000 in
set_option maxRecDepth 100000 in
theorem do_renew_no (h:Lw w0 W g gj gw D Ab Am cb cm d s t base more n) (hR:Kd.F k92 W (λk=>¬ LD D gj gw k) A R.length R) (hc:R.length<=c) {km:Nat} {may:Bool} (hmay:r07_May.f km R=some may) (hm:may=false) (hp:∀ W1,Below W.heap.size W W1->Calls Try.prog 28 #[.pointer (some ⟨gj,0,none⟩),.slice A R.length c] W1 λe w'=>e = .returned (.int .i64 1)/\Below W1.heap.size W1 w') :
  Calls Try.prog 13 #[.pointer (some ⟨gw,0,none⟩),.agg #[.int .i64 2,.slice A R.length c]] W λe w'=>e = .returned (.bool true)/\∃ D',Lw w0 w' g gj gw D' Ab Am cb cm d s t base more n/\Step W w' (LD D gj gw) (LD D' gj gw):=by
 have X:=Aside0.mk (show Lx w0 W (W.alloc (.cells #[.int .i64 2,.slice A R.length c] 34)) g gj gw W.heap.size D D Ab Am cb cm d s t base more n 2 A c R from
  ⟨h.on (below_alloc (Below.refl _ _) _),Step.of_below (below_alloc (Below.refl _ _) _),heap_alloc_new W _,λe=>by have:=h.lt _ e;omega,Kd.F_below hR (below_alloc (Below.refl _ _) _),hc⟩)
 have HB:=Aside0.mk (below_alloc (Below.refl W.heap.size W) (.cells #[.int .i64 2,.slice A R.length c] 34))
 have HM:=Aside0.mk hmay
 have HP:=Aside0.mk hp
 clear hp
 subst hm
 clear h hR hc hmay
 go_enter Try.func13,Try.ntmps13
 go_upto_region 1 with (fail)
 obtain ⟨ba,hba⟩:∃ ba,ba=W.heap.size:=⟨_,rfl⟩
 rw [<-hba] at X ⊢
 clear hba
 generalize W.alloc (.cells #[.int .i64 2,.slice A R.length c] 34)=w1 at X HB ⊢
 have a1:=X.out.a1
 go_upto_region 2 with (first|(go_at_call 15;(with_reducible refine Calls.mono (r07_May.calls km A c R _ w1 (Kd.F_now X.out.fr) X.out.lr HM.out) ?_);rintro e w2 ⟨rfl,hd⟩;have q_:=X.out.on hd.below;have qb_:=below_step HB.out hd.below;clear X HB hd a1;have X:=Aside0.mk q_;have HB:=Aside0.mk qb_;clear q_ qb_))
 have a0:=X.out.a0
 go_upto_region 15 with (fail)
 clear a0
 refine region_cards (F:=?Fq) 6 (λw'=>Aside0 (Below w2.heap.size w2 w'))
  [λv _ _ _=>v = .pointer (some ⟨gw,0,none⟩),
  λv _ _ _=>v = .pointer (some ⟨gw,0,none⟩),
  λv _ _ _=>v = .pointer (some ⟨gw,1,none⟩),
  λv _ _ _=>v = .pointer (some ⟨gj,0,none⟩),
  λv _ _ _=>v = .pointer (some ⟨ba,1,none⟩),
  λv _ _ _=>v = .slice A R.length c]
  (by kernel_rfl) (by kernel_rfl) ?hFq ?hS0q ?hSq ?hstayq ?hstepsq ?hendq
 case hFq =>
  intro vs
  simp only [List.take_succ_cons,List.take_zero,fill,if_true,if_false,Act.put,List.setIfInBounds_toArray,List.set_cons_zero,List.set_cons_succ,Nat.reduceAdd,List.contains_cons,List.contains_nil,Nat.reduceBEq,Bool.or_false,Bool.false_or,Bool.not_true,Bool.not_false,Bool.false_eq_true,Bool.or_self,Bool.true_or]
  rfl
 case hS0q=>exact ⟨below_drew (Below.refl _ _)⟩
 case hSq=>exact λw1 w2 hb hs=>⟨below_step hs.out hb⟩
 case hstayq=>exact ⟨λ_ _ _ _ _ _ h=>h,λ_ _ _ _ _ _ h=>h,λ_ _ _ _ _ _ h=>h,λ_ _ _ _ _ _ h=>h,λ_ _ _ _ _ _ h=>h,λ_ _ _ _ _ _ h=>h,trivial⟩
 case hstepsq =>
  refine ⟨?sq_0,?sq_1,?sq_2,?sq_3,?sq_4,?sq_5,trivial⟩
  case sq_0 =>
   intro _ vs lo hi W_ hs hp
   exact does_val (by first|(go_simp;done)|(go_simp;rfl)) ⟨rfl,Below.refl _ _⟩
  case sq_1 =>
   intro _ vs lo hi W_ hs hp
   have e0:vs 0 = .pointer (some ⟨gw,0,none⟩):=hp 0 (by kernel_rfl) rfl
   exact does_val (by first|(go_simp;done)|(go_simp;rfl)) ⟨rfl,Below.refl _ _⟩
  case sq_2 =>
   intro _ vs lo hi W_ hs hp
   have e1:vs 1 = .pointer (some ⟨gw,0,none⟩):=hp 1 (by kernel_rfl) rfl
   exact does_val (by first|(go_simp;done)|(go_simp;rfl)) ⟨rfl,Below.refl _ _⟩
  case sq_3 =>
   intro _ vs lo hi W_ hs hp
   have e2:vs 2 = .pointer (some ⟨gw,1,none⟩):=hp 2 (by kernel_rfl) rfl
   have hc:=(X.out.on hs.out).lw.c1
   exact does_val (by first|(go_simp;done)|(go_simp;rfl)) ⟨rfl,Below.refl _ _⟩
  case sq_4 =>
   intro _ vs lo hi W_ hs hp
   exact does_val (by first|(go_simp;done)|(go_simp;rfl)) ⟨rfl,Below.refl _ _⟩
  case sq_5 =>
   intro _ vs lo hi W_ hs hp
   have e4:vs 4 = .pointer (some ⟨ba,1,none⟩):=hp 4 (by kernel_rfl) rfl
   have hc:=(X.out.on hs.out).a1
   exact does_val (by first|(go_simp;done)|(go_simp;rfl)) ⟨rfl,Below.refl _ _⟩
 case hendq =>
 intro vs lo_ hi_ Wc hs hp _
 simp only [List.drop_succ_cons,List.drop_zero]
 have q_:=X.out.on hs.out
 have qb_:=below_step HB.out hs.out
 clear X HB
 have X:=Aside0.mk q_
 have HB:=Aside0.mk qb_
 clear q_ qb_ hs
 have e3:vs 3 = .pointer (some ⟨gj,0,none⟩):=hp 3 (by decide)
 have e5:vs 5 = .slice A R.length c:=hp 5 (by decide)
 rw [e3,e5]
 clear hp e3 e5
 go_wp2_with (first|(go_at_call 28;(with_reducible refine Calls.mono (HP.out Wc HB.out) ?_);rintro e w4 ⟨rfl,hb⟩;have q_:=X.out.on hb;have qb_:=below_step HB.out hb;clear X HB hb;have X:=Aside0.mk q_;have HB:=Aside0.mk qb_;clear q_ qb_))
 go_ret
 exact ⟨rfl,_,X.out.lw,X.out.st⟩
set_option maxHeartbeats 16000000 in
set_option maxRecDepth 100000 in
theorem do_put_base (h:Lw w0 W g gj gw D Ab Am cb cm d s t base more n) (hR:Kd.F k92 W (λk=>¬ LD D gj gw k) A R.length R) (hc:R.length<=c) {km:Nat} {may:Bool} (hmay:r07_May.f km R=some may) (hm:may=true) (hn:n=0) (hl:R≠[]) {er s' t':Int} {d':Dk} (hp:∀ W1,Below W.heap.size W W1->Calls Try.prog 26 #[.pointer (some ⟨gj,0,none⟩),.slice A R.length c] W1 λe w'=>e = .returned (.int .i64 er)/\∃ D',Jo w0 w' g gj D' d' s' t' false/\Step W1 w' (JD D gj) (JD D' gj)) :
  Calls Try.prog 13 #[.pointer (some ⟨gw,0,none⟩),.agg #[.int .i64 0,.slice A R.length c]] W λe w'=>e = .returned (.bool (er == 0))/\∃ D',Lw w0 w' g gj gw D' A Am c cm d' s' t' R more 1/\Step W w' (LD D gj gw) (LD D' gj gw):=by
 have X:=Aside0.mk (show Lx w0 W (W.alloc (.cells #[.int .i64 0,.slice A R.length c] 34)) g gj gw W.heap.size D D Ab Am cb cm d s t base more n 0 A c R from
  ⟨h.on (below_alloc (Below.refl _ _) _),Step.of_below (below_alloc (Below.refl _ _) _),heap_alloc_new W _,λe=>by have:=h.lt _ e;omega,Kd.F_below hR (below_alloc (Below.refl _ _) _),hc⟩)
 have HB:=Aside0.mk (below_alloc (Below.refl W.heap.size W) (.cells #[.int .i64 0,.slice A R.length c] 34))
 have HM:=Aside0.mk hmay
 have HP:=Aside0.mk hp
 clear hp
 subst hm hn
 have hl0:decide ((R.length:Int) > 0)=true:=decide_eq_true (by have:=List.length_pos_iff.2 hl;omega)
 have hl1:decide (0<(R.length:Int))=true:=hl0
 have hl2:decide (0<R.length)=true:=decide_eq_true (List.length_pos_iff.2 hl)
 clear hl
 clear h hR hc hmay
 go_enter Try.func13,Try.ntmps13
 go_upto_region 1 with (fail)
 obtain ⟨ba,hba⟩:∃ ba,ba=W.heap.size:=⟨_,rfl⟩
 rw [<-hba] at X ⊢
 clear hba
 generalize W.alloc (.cells #[.int .i64 0,.slice A R.length c] 34)=w1 at X HB ⊢
 have a1:=X.out.a1
 go_upto_region 2 with (first|(go_at_call 15;(with_reducible refine Calls.mono (r07_May.calls km A c R _ w1 (Kd.F_now X.out.fr) X.out.lr HM.out) ?_);rintro e w2 ⟨rfl,hd⟩;have q_:=X.out.on hd.below;have qb_:=below_step HB.out hd.below;clear X HB hd a1;have X:=Aside0.mk q_;have HB:=Aside0.mk qb_;clear q_ qb_))
 have a0:=X.out.a0
 go_upto_region 4 with (fail)
 clear a0
 refine region_cards (F:=?Fq) 6 (λw'=>Aside0 (Below w2.heap.size w2 w'))
  [λv _ _ _=>v = .pointer (some ⟨gw,0,none⟩),
  λv _ _ _=>v = .pointer (some ⟨gw,0,none⟩),
  λv _ _ _=>v = .pointer (some ⟨gw,1,none⟩),
  λv _ _ _=>v = .pointer (some ⟨gj,0,none⟩),
  λv _ _ _=>v = .pointer (some ⟨ba,1,none⟩),
  λv _ _ _=>v = .slice A R.length c]
  (by kernel_rfl) (by kernel_rfl) ?hFq ?hS0q ?hSq ?hstayq ?hstepsq ?hendq
 case hFq =>
  intro vs
  simp only [List.take_succ_cons,List.take_zero,fill,if_true,if_false,Act.put,List.setIfInBounds_toArray,List.set_cons_zero,List.set_cons_succ,Nat.reduceAdd,List.contains_cons,List.contains_nil,Nat.reduceBEq,Bool.or_false,Bool.false_or,Bool.not_true,Bool.not_false,Bool.false_eq_true,Bool.or_self,Bool.true_or]
  rfl
 case hS0q=>exact ⟨below_drew (Below.refl _ _)⟩
 case hSq=>exact λw1 w2 hb hs=>⟨below_step hs.out hb⟩
 case hstayq=>exact ⟨λ_ _ _ _ _ _ h=>h,λ_ _ _ _ _ _ h=>h,λ_ _ _ _ _ _ h=>h,λ_ _ _ _ _ _ h=>h,λ_ _ _ _ _ _ h=>h,λ_ _ _ _ _ _ h=>h,trivial⟩
 case hstepsq =>
  refine ⟨?sq_0,?sq_1,?sq_2,?sq_3,?sq_4,?sq_5,trivial⟩
  case sq_0 =>
   intro _ vs lo hi W_ hs hp
   exact does_val (by first|(go_simp;done)|(go_simp;rfl)) ⟨rfl,Below.refl _ _⟩
  case sq_1 =>
   intro _ vs lo hi W_ hs hp
   have e0:vs 0 = .pointer (some ⟨gw,0,none⟩):=hp 0 (by kernel_rfl) rfl
   exact does_val (by first|(go_simp;done)|(go_simp;rfl)) ⟨rfl,Below.refl _ _⟩
  case sq_2 =>
   intro _ vs lo hi W_ hs hp
   have e1:vs 1 = .pointer (some ⟨gw,0,none⟩):=hp 1 (by kernel_rfl) rfl
   exact does_val (by first|(go_simp;done)|(go_simp;rfl)) ⟨rfl,Below.refl _ _⟩
  case sq_3 =>
   intro _ vs lo hi W_ hs hp
   have e2:vs 2 = .pointer (some ⟨gw,1,none⟩):=hp 2 (by kernel_rfl) rfl
   have hc:=(X.out.on hs.out).lw.c1
   exact does_val (by first|(go_simp;done)|(go_simp;rfl)) ⟨rfl,Below.refl _ _⟩
  case sq_4 =>
   intro _ vs lo hi W_ hs hp
   exact does_val (by first|(go_simp;done)|(go_simp;rfl)) ⟨rfl,Below.refl _ _⟩
  case sq_5 =>
   intro _ vs lo hi W_ hs hp
   have e4:vs 4 = .pointer (some ⟨ba,1,none⟩):=hp 4 (by kernel_rfl) rfl
   have hc:=(X.out.on hs.out).a1
   exact does_val (by first|(go_simp;done)|(go_simp;rfl)) ⟨rfl,Below.refl _ _⟩
 case hendq =>
 intro vs lo_ hi_ Wc hs hp _
 simp only [List.drop_succ_cons,List.drop_zero]
 have q_:=X.out.on hs.out
 have qb_:=below_step HB.out hs.out
 clear X HB
 have X:=Aside0.mk q_
 have HB:=Aside0.mk qb_
 clear q_ qb_ hs
 have e3:vs 3 = .pointer (some ⟨gj,0,none⟩):=hp 3 (by decide)
 have e5:vs 5 = .slice A R.length c:=hp 5 (by decide)
 rw [e3,e5]
 clear hp e3 e5
 go_upto_region 7 with (first|(go_at_call 26;(with_reducible refine Calls.mono (HP.out Wc HB.out) ?_);rintro e w4 ⟨rfl,D4,hj,hs⟩;have q_:=X.out.did hj hs;clear X HB hj hs;have X:=Aside0.mk q_;clear q_))
 have c4:=X.out.lw.c4
 have a1:=X.out.a1
 have f2:=X.out.lw.fz 2
 have f4:=X.out.lw.fz 4
 have c2:=X.out.lw.c2
 have ne:ba≠gw:=λe=>X.out.na (.inr e)
 have ne':gw≠ba:=λe=>ne e.symm
 go_wp2
 go_ret
 have x1:=X.out.set (base1:=R) (Ab1:=A) (cb1:=c) (more1:=more) (Am1:=Am) (cm1:=cm) (n1:=0) 2 (.slice A R.length c) rfl X.out.lr X.out.fr X.out.lw.lm X.out.lw.fm
 have x2:=x1.set (base1:=R) (Ab1:=A) (cb1:=c) (more1:=more) (Am1:=Am) (cm1:=cm) (n1:=1) 4 (.int .i64 1) rfl x1.lr x1.fr x1.lw.lm x1.lw.fm
 exact ⟨rfl,_,x2.lw,x2.st⟩
set_option maxHeartbeats 16000000 in
set_option maxRecDepth 100000 in
theorem do_put_more1 (h:Lw w0 W g gj gw D Ab Am cb cm d s t base more n) (hR:Kd.F k92 W (λk=>¬ LD D gj gw k) A R.length R) (hc:R.length<=c) {km:Nat} {may:Bool} (hmay:r07_May.f km R=some may) (hm:may=true) (hn:n≠0) (hbig:more.length+R.length<=1000000) {er s' t':Int} {d':Dk} (hp:∀ W1,Below W.heap.size W W1->Calls Try.prog 26 #[.pointer (some ⟨gj,0,none⟩),.slice A R.length c] W1 λe w'=>e = .returned (.int .i64 er)/\∃ D',Jo w0 w' g gj D' d' s' t' false/\Step W1 w' (JD D gj) (JD D' gj)) :
  Calls Try.prog 13 #[.pointer (some ⟨gw,0,none⟩),.agg #[.int .i64 0,.slice A R.length c]] W λe w'=>e = .returned (.bool (er == 0))/\∃ D' Am' cm',Lw w0 w' g gj gw D' Ab Am' cb cm' d' s' t' base (more++R) n/\Step W w' (LD D gj gw) (LD D' gj gw):=by
 have X:=Aside0.mk (show Lx w0 W (W.alloc (.cells #[.int .i64 0,.slice A R.length c] 34)) g gj gw W.heap.size D D Ab Am cb cm d s t base more n 0 A c R from
  ⟨h.on (below_alloc (Below.refl _ _) _),Step.of_below (below_alloc (Below.refl _ _) _),heap_alloc_new W _,λe=>by have:=h.lt _ e;omega,Kd.F_below hR (below_alloc (Below.refl _ _) _),hc⟩)
 have HB:=Aside0.mk (below_alloc (Below.refl W.heap.size W) (.cells #[.int .i64 0,.slice A R.length c] 34))
 have HM:=Aside0.mk hmay
 have HP:=Aside0.mk hp
 clear hp
 subst hm
 have hn0:(n == 0)=false:=by simp [hn]
 clear hn
 have HBIG:=Aside0.mk hbig
 clear hbig
 clear h hR hc hmay
 go_enter Try.func13,Try.ntmps13
 go_upto_region 1 with (fail)
 obtain ⟨ba,hba⟩:∃ ba,ba=W.heap.size:=⟨_,rfl⟩
 rw [<-hba] at X ⊢
 clear hba
 generalize W.alloc (.cells #[.int .i64 0,.slice A R.length c] 34)=w1 at X HB ⊢
 have a1:=X.out.a1
 go_upto_region 2 with (first|(go_at_call 15;(with_reducible refine Calls.mono (r07_May.calls km A c R _ w1 (Kd.F_now X.out.fr) X.out.lr HM.out) ?_);rintro e w2 ⟨rfl,hd⟩;have q_:=X.out.on hd.below;have qb_:=below_step HB.out hd.below;clear X HB hd a1;have X:=Aside0.mk q_;have HB:=Aside0.mk qb_;clear q_ qb_))
 have a0:=X.out.a0
 go_upto_region 4 with (fail)
 clear a0
 refine region_cards (F:=?Fq) 6 (λw'=>Aside0 (Below w2.heap.size w2 w'))
  [λv _ _ _=>v = .pointer (some ⟨gw,0,none⟩),
  λv _ _ _=>v = .pointer (some ⟨gw,0,none⟩),
  λv _ _ _=>v = .pointer (some ⟨gw,1,none⟩),
  λv _ _ _=>v = .pointer (some ⟨gj,0,none⟩),
  λv _ _ _=>v = .pointer (some ⟨ba,1,none⟩),
  λv _ _ _=>v = .slice A R.length c]
  (by kernel_rfl) (by kernel_rfl) ?hFq ?hS0q ?hSq ?hstayq ?hstepsq ?hendq
 case hFq =>
  intro vs
  simp only [List.take_succ_cons,List.take_zero,fill,if_true,if_false,Act.put,List.setIfInBounds_toArray,List.set_cons_zero,List.set_cons_succ,Nat.reduceAdd,List.contains_cons,List.contains_nil,Nat.reduceBEq,Bool.or_false,Bool.false_or,Bool.not_true,Bool.not_false,Bool.false_eq_true,Bool.or_self,Bool.true_or]
  rfl
 case hS0q=>exact ⟨below_drew (Below.refl _ _)⟩
 case hSq=>exact λw1 w2 hb hs=>⟨below_step hs.out hb⟩
 case hstayq=>exact ⟨λ_ _ _ _ _ _ h=>h,λ_ _ _ _ _ _ h=>h,λ_ _ _ _ _ _ h=>h,λ_ _ _ _ _ _ h=>h,λ_ _ _ _ _ _ h=>h,λ_ _ _ _ _ _ h=>h,trivial⟩
 case hstepsq =>
  refine ⟨?sq_0,?sq_1,?sq_2,?sq_3,?sq_4,?sq_5,trivial⟩
  case sq_0 =>
   intro _ vs lo hi W_ hs hp
   exact does_val (by first|(go_simp;done)|(go_simp;rfl)) ⟨rfl,Below.refl _ _⟩
  case sq_1 =>
   intro _ vs lo hi W_ hs hp
   have e0:vs 0 = .pointer (some ⟨gw,0,none⟩):=hp 0 (by kernel_rfl) rfl
   exact does_val (by first|(go_simp;done)|(go_simp;rfl)) ⟨rfl,Below.refl _ _⟩
  case sq_2 =>
   intro _ vs lo hi W_ hs hp
   have e1:vs 1 = .pointer (some ⟨gw,0,none⟩):=hp 1 (by kernel_rfl) rfl
   exact does_val (by first|(go_simp;done)|(go_simp;rfl)) ⟨rfl,Below.refl _ _⟩
  case sq_3 =>
   intro _ vs lo hi W_ hs hp
   have e2:vs 2 = .pointer (some ⟨gw,1,none⟩):=hp 2 (by kernel_rfl) rfl
   have hc:=(X.out.on hs.out).lw.c1
   exact does_val (by first|(go_simp;done)|(go_simp;rfl)) ⟨rfl,Below.refl _ _⟩
  case sq_4 =>
   intro _ vs lo hi W_ hs hp
   exact does_val (by first|(go_simp;done)|(go_simp;rfl)) ⟨rfl,Below.refl _ _⟩
  case sq_5 =>
   intro _ vs lo hi W_ hs hp
   have e4:vs 4 = .pointer (some ⟨ba,1,none⟩):=hp 4 (by kernel_rfl) rfl
   have hc:=(X.out.on hs.out).a1
   exact does_val (by first|(go_simp;done)|(go_simp;rfl)) ⟨rfl,Below.refl _ _⟩
 case hendq =>
 intro vs lo_ hi_ Wc hs hp _
 simp only [List.drop_succ_cons,List.drop_zero]
 have q_:=X.out.on hs.out
 have qb_:=below_step HB.out hs.out
 clear X HB
 have X:=Aside0.mk q_
 have HB:=Aside0.mk qb_
 clear q_ qb_ hs
 have e3:vs 3 = .pointer (some ⟨gj,0,none⟩):=hp 3 (by decide)
 have e5:vs 5 = .slice A R.length c:=hp 5 (by decide)
 rw [e3,e5]
 clear hp e3 e5
 go_upto_region 7 with (first|(go_at_call 26;(with_reducible refine Calls.mono (HP.out Wc HB.out) ?_);rintro e w4 ⟨rfl,D4,hj,hs⟩;have q_:=X.out.did hj hs;clear X HB hj hs;have X:=Aside0.mk q_;clear q_))
 have c4:=X.out.lw.c4
 have a1:=X.out.a1
 go_upto_region 10 with (fail)
 clear c4 a1
 refine wp_region_any (by kernel_rfl) ?_
 refine take_pre (i:=0) (N:=some 48) (v:=.pointer (some ⟨gw,0,none⟩)) rfl rfl (by kernel_rfl) (by kernel_rfl) (by kernel_rfl) (λ_ _ _ h=>h) (by rfl) ?_ ?_
 ·intro w_
  first|(go_simp;done)|(go_simp;rfl)
 (try simp only [Act.put,List.setIfInBounds_toArray,List.set_cons_zero,List.set_cons_succ])
 refine any_cards (F:=?Fm) [0] 9 (λw'=>Aside0 (Below w4.heap.size w4 w'))
  [λ_ _ _ _=>True,
  λv w' lo hi=>∃ b,v = .slice (some ⟨b,0,none⟩) 0 0/\w4.heap.size<=b/\w'.heap[b]? = some (.cells #[] 92 (0,0)),
  λv _ _ _=>v = .pointer (some ⟨gw,0,none⟩),
  λv _ _ _=>v = .pointer (some ⟨gw,0,none⟩),
  λv _ _ _=>v = .pointer (some ⟨gw,3,none⟩),
  λv _ _ _=>v = .slice Am more.length cm,
  λv w' _ _=>Kd.N k92 92 w' w4.heap.size (λk=>¬ LD D4 gj gw k) v more,
  λv _ _ _=>v = .pointer (some ⟨ba,1,none⟩),
  λv _ _ _=>v = .slice A R.length c]
  (by kernel_rfl) (by kernel_rfl) (by kernel_rfl) ?hFm ?hS0m ?hSm ?hstaym ?hstepsm ?hendm
 case hFm =>
  intro vs
  simp only [List.take_succ_cons,List.take_zero,fill,if_true,if_false,Act.put,List.setIfInBounds_toArray,List.set_cons_zero,List.set_cons_succ,Nat.reduceAdd,List.contains_cons,List.contains_nil,Nat.reduceBEq,Bool.or_false,Bool.false_or,Bool.not_true,Bool.not_false,Bool.false_eq_true,Bool.or_self,Bool.true_or]
  rfl
 case hS0m=>exact ⟨below_drew (Below.refl _ _)⟩
 case hSm=>exact λw1 w2 hb hs=>⟨below_step hs.out hb⟩
 case hstaym=>exact ⟨λ_ _ _ _ _ _ h=>h,λ_ _ _ _ _ hb h=>by obtain ⟨k,q1,q2,q3⟩:=h;exact ⟨k,q1,q2,blk_below q3 hb⟩,λ_ _ _ _ _ _ h=>h,λ_ _ _ _ _ _ h=>h,λ_ _ _ _ _ _ h=>h,λ_ _ _ _ _ _ h=>h,λ_ _ _ _ _ hb h=>Kd.N_below h hb,λ_ _ _ _ _ _ h=>h,λ_ _ _ _ _ _ h=>h,trivial⟩
 case hstepsm =>
  refine ⟨?sm_0,?sm_1,?sm_2,?sm_3,?sm_4,?sm_5,?sm_6,?sm_7,?sm_8,trivial⟩
  case sm_0=>exact λhk=>absurd hk (by decide)
  case sm_1 =>
   intro _ vs lo hi W_ hs hp
   exact does_val (v:=.slice (some ⟨W_.heap.size,0,none⟩) 0 0) (w1:=W_.alloc (.cells #[] 92)) (by first|(go_simp;done)|(go_simp;rfl)) ⟨⟨W_.heap.size,rfl,below_size hs.out,heap_alloc_new W_ _⟩,below_alloc (Below.refl _ _) _⟩
  case sm_2 =>
   intro _ vs lo hi W_ hs hp
   exact does_val (by first|(go_simp;done)|(go_simp;rfl)) ⟨rfl,Below.refl _ _⟩
  case sm_3 =>
   intro _ vs lo hi W_ hs hp
   have e2:vs 2 = .pointer (some ⟨gw,0,none⟩):=hp 2 (by kernel_rfl) rfl
   exact does_val (by first|(go_simp;done)|(go_simp;rfl)) ⟨rfl,Below.refl _ _⟩
  case sm_4 =>
   intro _ vs lo hi W_ hs hp
   have e3:vs 3 = .pointer (some ⟨gw,0,none⟩):=hp 3 (by kernel_rfl) rfl
   exact does_val (by first|(go_simp;done)|(go_simp;rfl)) ⟨rfl,Below.refl _ _⟩
  case sm_5 =>
   intro _ vs lo hi W_ hs hp
   have e4:vs 4 = .pointer (some ⟨gw,3,none⟩):=hp 4 (by kernel_rfl) rfl
   have hc:=(X.out.on hs.out).lw.c3
   exact does_val (by first|(go_simp;done)|(go_simp;rfl)) ⟨rfl,Below.refl _ _⟩
  case sm_6 =>
   intro _ vs lo hi W_ hs hp
   have e5:vs 5 = .slice Am more.length cm:=hp 5 (by kernel_rfl) rfl
   obtain ⟨k3,e1,hk3,hx3⟩:∃ k,vs 1 = .slice (some ⟨k,0,none⟩) 0 0/\w4.heap.size<=k/\W_.heap[k]? = some (.cells #[] 92 (0,0)):=hp 1 (by kernel_rfl) rfl
   have fm_:=Kd.F_below (Kd.F_bound X.out.lw.fm) hs.out
   obtain ⟨vv1,ww1,hrr,hN,hbb⟩:=N_fresh_run (P:=Try.prog) (d:=k92) (e:=92) (base:=w4.heap.size) (ok:=λk=>¬ LD D4 gj gw k) (c:=cm) (t:=30) (ty:=30) Try.underlying30 info92 rfl (by decide) (by omega) hk3 hx3 fm_ (λad ea hq=>Kd.F_in fm_ ea hq (by decide)) (λk' hk'=>⟨hk'.1,λe=>by have:=hk'.2;omega⟩) (λe=>by have:=X.out.lw.lt _ e;omega) (λk hk e=>by have:=X.out.lw.lt _ e;have:=hs.out.size;omega) (below_size hs.out) (by have:=HBIG.out;omega)
   exact does_app (s:=.tmp 49) (x:=.tmp 53) rfl (by rw [<-e1];first|rfl|(go_simp;done)) (by rw [<-e5];first|rfl|(go_simp;done)) hrr ⟨hN,hbb⟩
  case sm_7 =>
   intro _ vs lo hi W_ hs hp
   exact does_val (by first|(go_simp;done)|(go_simp;rfl)) ⟨rfl,Below.refl _ _⟩
  case sm_8 =>
   intro _ vs lo hi W_ hs hp
   have e7:vs 7 = .pointer (some ⟨ba,1,none⟩):=hp 7 (by kernel_rfl) rfl
   have hc:=(X.out.on hs.out).a1
   exact does_val (by first|(go_simp;done)|(go_simp;rfl)) ⟨rfl,Below.refl _ _⟩
 case hendm =>
 intro vs lo_ hi_ Wc2 hs hp _
 simp only [List.drop_succ_cons,List.drop_zero]
 have e6:Kd.N k92 92 Wc2 w4.heap.size (λk=>¬ LD D4 gj gw k) (vs 6) more:=hp 6 (by decide) rfl
 have e8:vs 8 = .slice A R.length c:=hp 8 (by decide) rfl
 rw [e8]
 obtain ⟨v6,hv6⟩:∃ v6,v6=vs 6:=⟨_,rfl⟩
 rw [<-hv6] at e6 ⊢
 clear hv6 e8
 have hsz:=hs.out.size
 have ltx:=X.out.lw.lt
 have q_:=X.out.on hs.out
 have fr_:=Kd.F_below (Kd.F_bound X.out.fr) hs.out
 have fin:=λ(ad:Addr) ea hq=>Kd.F_in fr_ (ad:=ad) ea hq (by decide)
 have hap:=N_append_run (P:=Try.prog) (d:=k92) (e:=92) (base:=w4.heap.size) (ok:=λk=>¬ LD D4 gj gw k) (c:=c) (t:=30) (ty:=30) Try.underlying30 info92 rfl (by decide) (by omega) e6 fr_ fin (λk hk=>⟨hk.1,λe=>by have:=Kd.N_base e6 k e.symm;have:=hk.2;omega⟩) (λk hk e=>by have:=ltx _ e;omega) hsz (by have:=HBIG.out;omega)
 obtain ⟨v9,w9,hrun,hN,hgr,hat⟩:=hap
 have ob:=λk (hk:v6.ownBlock=some k)=>Kd.N_base e6 k hk
 have hk9:∀ k,k<w4.heap.size->w9.heap[k]? = Wc2.heap[k]?:=λk hk=>hgr.block k (by omega) (λe=>by have:=ob k e.symm;omega)
 have b9:Below w4.heap.size w4 w9:=⟨hgr.os.trans hs.out.os,hgr.tape.trans hs.out.tape,hgr.output.trans hs.out.output,Nat.le_trans hsz hgr.size,λk hk=>(hk9 k hk).trans (hs.out.block k hk)⟩
 have X9:=Aside0.mk (X.out.on b9)
 obtain ⟨A9,c9,e9⟩:=Kd.N_slice hN
 subst e9
 have F9:=Aside0.mk (N_foot hN)
 have HRUN:=Aside0.mk hrun
 clear e6 hsz ltx q_ fr_ fin hrun hN hgr hat ob hk9 b9 X hp hs
 refine app_event (s:=.tmp 54) (x:=.tmp 56) (N:=some 57) rfl rfl rfl (by first|rfl|(go_simp;done)) (by first|rfl|(go_simp;done)) HRUN.out ?_
 (try simp only [Act.put,List.setIfInBounds_toArray,List.set_cons_zero,List.set_cons_succ])
 have f3:=X9.out.lw.fz 3
 have c3:=X9.out.lw.c3
 go_wp2
 go_ret
 have x1:=X9.out.set (base1:=base) (Ab1:=Ab) (cb1:=cb) (more1:=more++R) (Am1:=A9) (cm1:=c9) (n1:=n) 3 (.slice A9 (more++R).length c9) rfl X9.out.lw.lb X9.out.lw.fb F9.out.2.1 F9.out.2.2
 have e_:more.length+R.length=(more++R).length:=(List.length_append ..).symm
 (try rw [e_])
 exact ⟨rfl,_,⟨_,_,x1.lw⟩,x1.st⟩
set_option maxHeartbeats 16000000 in
set_option maxRecDepth 100000 in
theorem do_put_more2 (h:Lw w0 W g gj gw D Ab Am cb cm d s t base more n) (hR:Kd.F k92 W (λk=>¬ LD D gj gw k) A R.length R) (hc:R.length<=c) {km:Nat} {may:Bool} (hmay:r07_May.f km R=some may) (hm:may=true) (hn:n=0) (hl:R=[]) (hbig:more.length+R.length<=1000000) {er s' t':Int} {d':Dk} (hp:∀ W1,Below W.heap.size W W1->Calls Try.prog 26 #[.pointer (some ⟨gj,0,none⟩),.slice A R.length c] W1 λe w'=>e = .returned (.int .i64 er)/\∃ D',Jo w0 w' g gj D' d' s' t' false/\Step W1 w' (JD D gj) (JD D' gj)) :
  Calls Try.prog 13 #[.pointer (some ⟨gw,0,none⟩),.agg #[.int .i64 0,.slice A R.length c]] W λe w'=>e = .returned (.bool (er == 0))/\∃ D' Am' cm',Lw w0 w' g gj gw D' Ab Am' cb cm' d' s' t' base (more++R) n/\Step W w' (LD D gj gw) (LD D' gj gw):=by
 have X:=Aside0.mk (show Lx w0 W (W.alloc (.cells #[.int .i64 0,.slice A R.length c] 34)) g gj gw W.heap.size D D Ab Am cb cm d s t base more n 0 A c R from
  ⟨h.on (below_alloc (Below.refl _ _) _),Step.of_below (below_alloc (Below.refl _ _) _),heap_alloc_new W _,λe=>by have:=h.lt _ e;omega,Kd.F_below hR (below_alloc (Below.refl _ _) _),hc⟩)
 have HB:=Aside0.mk (below_alloc (Below.refl W.heap.size W) (.cells #[.int .i64 0,.slice A R.length c] 34))
 have HM:=Aside0.mk hmay
 have HP:=Aside0.mk hp
 clear hp
 subst hm
 subst hn
 have hl0:decide ((R.length:Int) > 0)=false:=by rw [hl];rfl
 have hl1:decide (0<(R.length:Int))=false:=hl0
 have hl2:decide (0<R.length)=false:=by rw [hl];rfl
 clear hl
 have HBIG:=Aside0.mk hbig
 clear hbig
 clear h hR hc hmay
 go_enter Try.func13,Try.ntmps13
 go_upto_region 1 with (fail)
 obtain ⟨ba,hba⟩:∃ ba,ba=W.heap.size:=⟨_,rfl⟩
 rw [<-hba] at X ⊢
 clear hba
 generalize W.alloc (.cells #[.int .i64 0,.slice A R.length c] 34)=w1 at X HB ⊢
 have a1:=X.out.a1
 go_upto_region 2 with (first|(go_at_call 15;(with_reducible refine Calls.mono (r07_May.calls km A c R _ w1 (Kd.F_now X.out.fr) X.out.lr HM.out) ?_);rintro e w2 ⟨rfl,hd⟩;have q_:=X.out.on hd.below;have qb_:=below_step HB.out hd.below;clear X HB hd a1;have X:=Aside0.mk q_;have HB:=Aside0.mk qb_;clear q_ qb_))
 have a0:=X.out.a0
 go_upto_region 4 with (fail)
 clear a0
 refine region_cards (F:=?Fq) 6 (λw'=>Aside0 (Below w2.heap.size w2 w'))
  [λv _ _ _=>v = .pointer (some ⟨gw,0,none⟩),
  λv _ _ _=>v = .pointer (some ⟨gw,0,none⟩),
  λv _ _ _=>v = .pointer (some ⟨gw,1,none⟩),
  λv _ _ _=>v = .pointer (some ⟨gj,0,none⟩),
  λv _ _ _=>v = .pointer (some ⟨ba,1,none⟩),
  λv _ _ _=>v = .slice A R.length c]
  (by kernel_rfl) (by kernel_rfl) ?hFq ?hS0q ?hSq ?hstayq ?hstepsq ?hendq
 case hFq =>
  intro vs
  simp only [List.take_succ_cons,List.take_zero,fill,if_true,if_false,Act.put,List.setIfInBounds_toArray,List.set_cons_zero,List.set_cons_succ,Nat.reduceAdd,List.contains_cons,List.contains_nil,Nat.reduceBEq,Bool.or_false,Bool.false_or,Bool.not_true,Bool.not_false,Bool.false_eq_true,Bool.or_self,Bool.true_or]
  rfl
 case hS0q=>exact ⟨below_drew (Below.refl _ _)⟩
 case hSq=>exact λw1 w2 hb hs=>⟨below_step hs.out hb⟩
 case hstayq=>exact ⟨λ_ _ _ _ _ _ h=>h,λ_ _ _ _ _ _ h=>h,λ_ _ _ _ _ _ h=>h,λ_ _ _ _ _ _ h=>h,λ_ _ _ _ _ _ h=>h,λ_ _ _ _ _ _ h=>h,trivial⟩
 case hstepsq =>
  refine ⟨?sq_0,?sq_1,?sq_2,?sq_3,?sq_4,?sq_5,trivial⟩
  case sq_0 =>
   intro _ vs lo hi W_ hs hp
   exact does_val (by first|(go_simp;done)|(go_simp;rfl)) ⟨rfl,Below.refl _ _⟩
  case sq_1 =>
   intro _ vs lo hi W_ hs hp
   have e0:vs 0 = .pointer (some ⟨gw,0,none⟩):=hp 0 (by kernel_rfl) rfl
   exact does_val (by first|(go_simp;done)|(go_simp;rfl)) ⟨rfl,Below.refl _ _⟩
  case sq_2 =>
   intro _ vs lo hi W_ hs hp
   have e1:vs 1 = .pointer (some ⟨gw,0,none⟩):=hp 1 (by kernel_rfl) rfl
   exact does_val (by first|(go_simp;done)|(go_simp;rfl)) ⟨rfl,Below.refl _ _⟩
  case sq_3 =>
   intro _ vs lo hi W_ hs hp
   have e2:vs 2 = .pointer (some ⟨gw,1,none⟩):=hp 2 (by kernel_rfl) rfl
   have hc:=(X.out.on hs.out).lw.c1
   exact does_val (by first|(go_simp;done)|(go_simp;rfl)) ⟨rfl,Below.refl _ _⟩
  case sq_4 =>
   intro _ vs lo hi W_ hs hp
   exact does_val (by first|(go_simp;done)|(go_simp;rfl)) ⟨rfl,Below.refl _ _⟩
  case sq_5 =>
   intro _ vs lo hi W_ hs hp
   have e4:vs 4 = .pointer (some ⟨ba,1,none⟩):=hp 4 (by kernel_rfl) rfl
   have hc:=(X.out.on hs.out).a1
   exact does_val (by first|(go_simp;done)|(go_simp;rfl)) ⟨rfl,Below.refl _ _⟩
 case hendq =>
 intro vs lo_ hi_ Wc hs hp _
 simp only [List.drop_succ_cons,List.drop_zero]
 have q_:=X.out.on hs.out
 have qb_:=below_step HB.out hs.out
 clear X HB
 have X:=Aside0.mk q_
 have HB:=Aside0.mk qb_
 clear q_ qb_ hs
 have e3:vs 3 = .pointer (some ⟨gj,0,none⟩):=hp 3 (by decide)
 have e5:vs 5 = .slice A R.length c:=hp 5 (by decide)
 rw [e3,e5]
 clear hp e3 e5
 go_upto_region 7 with (first|(go_at_call 26;(with_reducible refine Calls.mono (HP.out Wc HB.out) ?_);rintro e w4 ⟨rfl,D4,hj,hs⟩;have q_:=X.out.did hj hs;clear X HB hj hs;have X:=Aside0.mk q_;clear q_))
 have c4:=X.out.lw.c4
 have a1:=X.out.a1
 go_upto_region 10 with (fail)
 clear c4 a1
 refine wp_region_any (by kernel_rfl) ?_
 refine take_pre (i:=0) (N:=some 48) (v:=.pointer (some ⟨gw,0,none⟩)) rfl rfl (by kernel_rfl) (by kernel_rfl) (by kernel_rfl) (λ_ _ _ h=>h) (by rfl) ?_ ?_
 ·intro w_
  first|(go_simp;done)|(go_simp;rfl)
 (try simp only [Act.put,List.setIfInBounds_toArray,List.set_cons_zero,List.set_cons_succ])
 refine any_cards (F:=?Fm) [0] 9 (λw'=>Aside0 (Below w4.heap.size w4 w'))
  [λ_ _ _ _=>True,
  λv w' lo hi=>∃ b,v = .slice (some ⟨b,0,none⟩) 0 0/\w4.heap.size<=b/\w'.heap[b]? = some (.cells #[] 92 (0,0)),
  λv _ _ _=>v = .pointer (some ⟨gw,0,none⟩),
  λv _ _ _=>v = .pointer (some ⟨gw,0,none⟩),
  λv _ _ _=>v = .pointer (some ⟨gw,3,none⟩),
  λv _ _ _=>v = .slice Am more.length cm,
  λv w' _ _=>Kd.N k92 92 w' w4.heap.size (λk=>¬ LD D4 gj gw k) v more,
  λv _ _ _=>v = .pointer (some ⟨ba,1,none⟩),
  λv _ _ _=>v = .slice A R.length c]
  (by kernel_rfl) (by kernel_rfl) (by kernel_rfl) ?hFm ?hS0m ?hSm ?hstaym ?hstepsm ?hendm
 case hFm =>
  intro vs
  simp only [List.take_succ_cons,List.take_zero,fill,if_true,if_false,Act.put,List.setIfInBounds_toArray,List.set_cons_zero,List.set_cons_succ,Nat.reduceAdd,List.contains_cons,List.contains_nil,Nat.reduceBEq,Bool.or_false,Bool.false_or,Bool.not_true,Bool.not_false,Bool.false_eq_true,Bool.or_self,Bool.true_or]
  rfl
 case hS0m=>exact ⟨below_drew (Below.refl _ _)⟩
 case hSm=>exact λw1 w2 hb hs=>⟨below_step hs.out hb⟩
 case hstaym=>exact ⟨λ_ _ _ _ _ _ h=>h,λ_ _ _ _ _ hb h=>by obtain ⟨k,q1,q2,q3⟩:=h;exact ⟨k,q1,q2,blk_below q3 hb⟩,λ_ _ _ _ _ _ h=>h,λ_ _ _ _ _ _ h=>h,λ_ _ _ _ _ _ h=>h,λ_ _ _ _ _ _ h=>h,λ_ _ _ _ _ hb h=>Kd.N_below h hb,λ_ _ _ _ _ _ h=>h,λ_ _ _ _ _ _ h=>h,trivial⟩
 case hstepsm =>
  refine ⟨?sm_0,?sm_1,?sm_2,?sm_3,?sm_4,?sm_5,?sm_6,?sm_7,?sm_8,trivial⟩
  case sm_0=>exact λhk=>absurd hk (by decide)
  case sm_1 =>
   intro _ vs lo hi W_ hs hp
   exact does_val (v:=.slice (some ⟨W_.heap.size,0,none⟩) 0 0) (w1:=W_.alloc (.cells #[] 92)) (by first|(go_simp;done)|(go_simp;rfl)) ⟨⟨W_.heap.size,rfl,below_size hs.out,heap_alloc_new W_ _⟩,below_alloc (Below.refl _ _) _⟩
  case sm_2 =>
   intro _ vs lo hi W_ hs hp
   exact does_val (by first|(go_simp;done)|(go_simp;rfl)) ⟨rfl,Below.refl _ _⟩
  case sm_3 =>
   intro _ vs lo hi W_ hs hp
   have e2:vs 2 = .pointer (some ⟨gw,0,none⟩):=hp 2 (by kernel_rfl) rfl
   exact does_val (by first|(go_simp;done)|(go_simp;rfl)) ⟨rfl,Below.refl _ _⟩
  case sm_4 =>
   intro _ vs lo hi W_ hs hp
   have e3:vs 3 = .pointer (some ⟨gw,0,none⟩):=hp 3 (by kernel_rfl) rfl
   exact does_val (by first|(go_simp;done)|(go_simp;rfl)) ⟨rfl,Below.refl _ _⟩
  case sm_5 =>
   intro _ vs lo hi W_ hs hp
   have e4:vs 4 = .pointer (some ⟨gw,3,none⟩):=hp 4 (by kernel_rfl) rfl
   have hc:=(X.out.on hs.out).lw.c3
   exact does_val (by first|(go_simp;done)|(go_simp;rfl)) ⟨rfl,Below.refl _ _⟩
  case sm_6 =>
   intro _ vs lo hi W_ hs hp
   have e5:vs 5 = .slice Am more.length cm:=hp 5 (by kernel_rfl) rfl
   obtain ⟨k3,e1,hk3,hx3⟩:∃ k,vs 1 = .slice (some ⟨k,0,none⟩) 0 0/\w4.heap.size<=k/\W_.heap[k]? = some (.cells #[] 92 (0,0)):=hp 1 (by kernel_rfl) rfl
   have fm_:=Kd.F_below (Kd.F_bound X.out.lw.fm) hs.out
   obtain ⟨vv1,ww1,hrr,hN,hbb⟩:=N_fresh_run (P:=Try.prog) (d:=k92) (e:=92) (base:=w4.heap.size) (ok:=λk=>¬ LD D4 gj gw k) (c:=cm) (t:=30) (ty:=30) Try.underlying30 info92 rfl (by decide) (by omega) hk3 hx3 fm_ (λad ea hq=>Kd.F_in fm_ ea hq (by decide)) (λk' hk'=>⟨hk'.1,λe=>by have:=hk'.2;omega⟩) (λe=>by have:=X.out.lw.lt _ e;omega) (λk hk e=>by have:=X.out.lw.lt _ e;have:=hs.out.size;omega) (below_size hs.out) (by have:=HBIG.out;omega)
   exact does_app (s:=.tmp 49) (x:=.tmp 53) rfl (by rw [<-e1];first|rfl|(go_simp;done)) (by rw [<-e5];first|rfl|(go_simp;done)) hrr ⟨hN,hbb⟩
  case sm_7 =>
   intro _ vs lo hi W_ hs hp
   exact does_val (by first|(go_simp;done)|(go_simp;rfl)) ⟨rfl,Below.refl _ _⟩
  case sm_8 =>
   intro _ vs lo hi W_ hs hp
   have e7:vs 7 = .pointer (some ⟨ba,1,none⟩):=hp 7 (by kernel_rfl) rfl
   have hc:=(X.out.on hs.out).a1
   exact does_val (by first|(go_simp;done)|(go_simp;rfl)) ⟨rfl,Below.refl _ _⟩
 case hendm =>
 intro vs lo_ hi_ Wc2 hs hp _
 simp only [List.drop_succ_cons,List.drop_zero]
 have e6:Kd.N k92 92 Wc2 w4.heap.size (λk=>¬ LD D4 gj gw k) (vs 6) more:=hp 6 (by decide) rfl
 have e8:vs 8 = .slice A R.length c:=hp 8 (by decide) rfl
 rw [e8]
 obtain ⟨v6,hv6⟩:∃ v6,v6=vs 6:=⟨_,rfl⟩
 rw [<-hv6] at e6 ⊢
 clear hv6 e8
 have hsz:=hs.out.size
 have ltx:=X.out.lw.lt
 have q_:=X.out.on hs.out
 have fr_:=Kd.F_below (Kd.F_bound X.out.fr) hs.out
 have fin:=λ(ad:Addr) ea hq=>Kd.F_in fr_ (ad:=ad) ea hq (by decide)
 have hap:=N_append_run (P:=Try.prog) (d:=k92) (e:=92) (base:=w4.heap.size) (ok:=λk=>¬ LD D4 gj gw k) (c:=c) (t:=30) (ty:=30) Try.underlying30 info92 rfl (by decide) (by omega) e6 fr_ fin (λk hk=>⟨hk.1,λe=>by have:=Kd.N_base e6 k e.symm;have:=hk.2;omega⟩) (λk hk e=>by have:=ltx _ e;omega) hsz (by have:=HBIG.out;omega)
 obtain ⟨v9,w9,hrun,hN,hgr,hat⟩:=hap
 have ob:=λk (hk:v6.ownBlock=some k)=>Kd.N_base e6 k hk
 have hk9:∀ k,k<w4.heap.size->w9.heap[k]? = Wc2.heap[k]?:=λk hk=>hgr.block k (by omega) (λe=>by have:=ob k e.symm;omega)
 have b9:Below w4.heap.size w4 w9:=⟨hgr.os.trans hs.out.os,hgr.tape.trans hs.out.tape,hgr.output.trans hs.out.output,Nat.le_trans hsz hgr.size,λk hk=>(hk9 k hk).trans (hs.out.block k hk)⟩
 have X9:=Aside0.mk (X.out.on b9)
 obtain ⟨A9,c9,e9⟩:=Kd.N_slice hN
 subst e9
 have F9:=Aside0.mk (N_foot hN)
 have HRUN:=Aside0.mk hrun
 clear e6 hsz ltx q_ fr_ fin hrun hN hgr hat ob hk9 b9 X hp hs
 refine app_event (s:=.tmp 54) (x:=.tmp 56) (N:=some 57) rfl rfl rfl (by first|rfl|(go_simp;done)) (by first|rfl|(go_simp;done)) HRUN.out ?_
 (try simp only [Act.put,List.setIfInBounds_toArray,List.set_cons_zero,List.set_cons_succ])
 have f3:=X9.out.lw.fz 3
 have c3:=X9.out.lw.c3
 go_wp2
 go_ret
 have x1:=X9.out.set (base1:=base) (Ab1:=Ab) (cb1:=cb) (more1:=more++R) (Am1:=A9) (cm1:=c9) (n1:=0) 3 (.slice A9 (more++R).length c9) rfl X9.out.lw.lb X9.out.lw.fb F9.out.2.1 F9.out.2.2
 have e_:more.length+R.length=(more++R).length:=(List.length_append ..).symm
 (try rw [e_])
 exact ⟨rfl,_,⟨_,_,x1.lw⟩,x1.st⟩
set_option maxHeartbeats 16000000 in
set_option maxRecDepth 100000 in
theorem do_renew (h:Lw w0 W g gj gw D Ab Am cb cm d s t base more n) (hR:Kd.F k92 W (λk=>¬ LD D gj gw k) A R.length R) (hc:R.length<=c) {km:Nat} {may:Bool} (hmay:r07_May.f km R=some may) (hm:may=true) {er s' t':Int} {d':Dk} (hp:∀ W1,Below W.heap.size W W1->Calls Try.prog 28 #[.pointer (some ⟨gj,0,none⟩),.slice A R.length c] W1 λe w'=>e = .returned (.int .i64 er)/\∃ D',Jo w0 w' g gj D' d' s' t' false/\Step W1 w' (JD D gj) (JD D' gj)) :
  Calls Try.prog 13 #[.pointer (some ⟨gw,0,none⟩),.agg #[.int .i64 2,.slice A R.length c]] W λe w'=>e = .returned (.bool (er == 0))/\∃ D',Lw w0 w' g gj gw D' A none c 0 d' s' t' R [] (wrap64 (n+1))/\Step W w' (LD D gj gw) (LD D' gj gw):=by
 have X:=Aside0.mk (show Lx w0 W (W.alloc (.cells #[.int .i64 2,.slice A R.length c] 34)) g gj gw W.heap.size D D Ab Am cb cm d s t base more n 2 A c R from
  ⟨h.on (below_alloc (Below.refl _ _) _),Step.of_below (below_alloc (Below.refl _ _) _),heap_alloc_new W _,λe=>by have:=h.lt _ e;omega,Kd.F_below hR (below_alloc (Below.refl _ _) _),hc⟩)
 have HB:=Aside0.mk (below_alloc (Below.refl W.heap.size W) (.cells #[.int .i64 2,.slice A R.length c] 34))
 have HM:=Aside0.mk hmay
 have HP:=Aside0.mk hp
 clear hp
 subst hm
 clear h hR hc hmay
 go_enter Try.func13,Try.ntmps13
 go_upto_region 1 with (fail)
 obtain ⟨ba,hba⟩:∃ ba,ba=W.heap.size:=⟨_,rfl⟩
 rw [<-hba] at X ⊢
 clear hba
 generalize W.alloc (.cells #[.int .i64 2,.slice A R.length c] 34)=w1 at X HB ⊢
 have a1:=X.out.a1
 go_upto_region 2 with (first|(go_at_call 15;(with_reducible refine Calls.mono (r07_May.calls km A c R _ w1 (Kd.F_now X.out.fr) X.out.lr HM.out) ?_);rintro e w2 ⟨rfl,hd⟩;have q_:=X.out.on hd.below;have qb_:=below_step HB.out hd.below;clear X HB hd a1;have X:=Aside0.mk q_;have HB:=Aside0.mk qb_;clear q_ qb_))
 have a0:=X.out.a0
 go_upto_region 15 with (fail)
 clear a0
 refine region_cards (F:=?Fq) 6 (λw'=>Aside0 (Below w2.heap.size w2 w'))
  [λv _ _ _=>v = .pointer (some ⟨gw,0,none⟩),
  λv _ _ _=>v = .pointer (some ⟨gw,0,none⟩),
  λv _ _ _=>v = .pointer (some ⟨gw,1,none⟩),
  λv _ _ _=>v = .pointer (some ⟨gj,0,none⟩),
  λv _ _ _=>v = .pointer (some ⟨ba,1,none⟩),
  λv _ _ _=>v = .slice A R.length c]
  (by kernel_rfl) (by kernel_rfl) ?hFq ?hS0q ?hSq ?hstayq ?hstepsq ?hendq
 case hFq =>
  intro vs
  simp only [List.take_succ_cons,List.take_zero,fill,if_true,if_false,Act.put,List.setIfInBounds_toArray,List.set_cons_zero,List.set_cons_succ,Nat.reduceAdd,List.contains_cons,List.contains_nil,Nat.reduceBEq,Bool.or_false,Bool.false_or,Bool.not_true,Bool.not_false,Bool.false_eq_true,Bool.or_self,Bool.true_or]
  rfl
 case hS0q=>exact ⟨below_drew (Below.refl _ _)⟩
 case hSq=>exact λw1 w2 hb hs=>⟨below_step hs.out hb⟩
 case hstayq=>exact ⟨λ_ _ _ _ _ _ h=>h,λ_ _ _ _ _ _ h=>h,λ_ _ _ _ _ _ h=>h,λ_ _ _ _ _ _ h=>h,λ_ _ _ _ _ _ h=>h,λ_ _ _ _ _ _ h=>h,trivial⟩
 case hstepsq =>
  refine ⟨?sq_0,?sq_1,?sq_2,?sq_3,?sq_4,?sq_5,trivial⟩
  case sq_0 =>
   intro _ vs lo hi W_ hs hp
   exact does_val (by first|(go_simp;done)|(go_simp;rfl)) ⟨rfl,Below.refl _ _⟩
  case sq_1 =>
   intro _ vs lo hi W_ hs hp
   have e0:vs 0 = .pointer (some ⟨gw,0,none⟩):=hp 0 (by kernel_rfl) rfl
   exact does_val (by first|(go_simp;done)|(go_simp;rfl)) ⟨rfl,Below.refl _ _⟩
  case sq_2 =>
   intro _ vs lo hi W_ hs hp
   have e1:vs 1 = .pointer (some ⟨gw,0,none⟩):=hp 1 (by kernel_rfl) rfl
   exact does_val (by first|(go_simp;done)|(go_simp;rfl)) ⟨rfl,Below.refl _ _⟩
  case sq_3 =>
   intro _ vs lo hi W_ hs hp
   have e2:vs 2 = .pointer (some ⟨gw,1,none⟩):=hp 2 (by kernel_rfl) rfl
   have hc:=(X.out.on hs.out).lw.c1
   exact does_val (by first|(go_simp;done)|(go_simp;rfl)) ⟨rfl,Below.refl _ _⟩
  case sq_4 =>
   intro _ vs lo hi W_ hs hp
   exact does_val (by first|(go_simp;done)|(go_simp;rfl)) ⟨rfl,Below.refl _ _⟩
  case sq_5 =>
   intro _ vs lo hi W_ hs hp
   have e4:vs 4 = .pointer (some ⟨ba,1,none⟩):=hp 4 (by kernel_rfl) rfl
   have hc:=(X.out.on hs.out).a1
   exact does_val (by first|(go_simp;done)|(go_simp;rfl)) ⟨rfl,Below.refl _ _⟩
 case hendq =>
 intro vs lo_ hi_ Wc hs hp _
 simp only [List.drop_succ_cons,List.drop_zero]
 have q_:=X.out.on hs.out
 have qb_:=below_step HB.out hs.out
 clear X HB
 have X:=Aside0.mk q_
 have HB:=Aside0.mk qb_
 clear q_ qb_ hs
 have e3:vs 3 = .pointer (some ⟨gj,0,none⟩):=hp 3 (by decide)
 have e5:vs 5 = .slice A R.length c:=hp 5 (by decide)
 rw [e3,e5]
 clear hp e3 e5
 go_upto_region 18 with (first|(go_at_call 28;(with_reducible refine Calls.mono (HP.out Wc HB.out) ?_);rintro e w4 ⟨rfl,D4,hj,hs⟩;have q_:=X.out.did hj hs;clear X HB hj hs;have X:=Aside0.mk q_;clear q_))
 have c4:=X.out.lw.c4
 have a1:=X.out.a1
 have f2:=X.out.lw.fz 2
 have f3:=X.out.lw.fz 3
 have f4:=X.out.lw.fz 4
 have c2:=X.out.lw.c2
 have c3:=X.out.lw.c3
 have ne:ba≠gw:=λe=>X.out.na (.inr e)
 have ne':gw≠ba:=λe=>ne e.symm
 go_wp2
 go_ret
 have x1:=X.out.set (base1:=R) (Ab1:=A) (cb1:=c) (more1:=more) (Am1:=Am) (cm1:=cm) (n1:=n) 2 (.slice A R.length c) rfl X.out.lr X.out.fr X.out.lw.lm X.out.lw.fm
 have x2:=x1.set (base1:=R) (Ab1:=A) (cb1:=c) (more1:=[]) (Am1:=none) (cm1:=0) (n1:=n) 3 (.slice none 0 0) rfl x1.lr x1.fr (Nat.le_refl _) (Kd.F_nil _ _ _)
 have x3:=x2.set (base1:=R) (Ab1:=A) (cb1:=c) (more1:=[]) (Am1:=none) (cm1:=0) (n1:=wrap64 (n+1)) 4 (.int .i64 (wrap64 (n+1))) rfl x2.lr x2.fr (Nat.le_refl _) (Kd.F_nil _ _ _)
 exact ⟨rfl,_,x3.lw,x3.st⟩
set_option maxHeartbeats 16000000 in
set_option maxRecDepth 100000 in
theorem do_sync (h:Lw w0 W g gj gw D Ab Am cb cm d s t base more n) (hR:Kd.F k92 W (λk=>¬ LD D gj gw k) A R.length R) (hc:R.length<=c) {km:Nat} {may:Bool} (hmay:r07_May.f km R=some may) {er s' t':Int} {d':Dk} (hp:∀ W1,Below W.heap.size W W1->Calls Try.prog 27 #[.pointer (some ⟨gj,0,none⟩)] W1 λe w'=>e = .returned (.int .i64 er)/\∃ D',Jo w0 w' g gj D' d' s' t' false/\Step W1 w' (JD D gj) (JD D' gj)) :
  Calls Try.prog 13 #[.pointer (some ⟨gw,0,none⟩),.agg #[.int .i64 1,.slice A R.length c]] W λe w'=>e = .returned (.bool (er == 0))/\∃ D',Lw w0 w' g gj gw D' Ab Am cb cm d' s' t' base more n/\Step W w' (LD D gj gw) (LD D' gj gw):=by
 have X:=Aside0.mk (show Lx w0 W (W.alloc (.cells #[.int .i64 1,.slice A R.length c] 34)) g gj gw W.heap.size D D Ab Am cb cm d s t base more n 1 A c R from
  ⟨h.on (below_alloc (Below.refl _ _) _),Step.of_below (below_alloc (Below.refl _ _) _),heap_alloc_new W _,λe=>by have:=h.lt _ e;omega,Kd.F_below hR (below_alloc (Below.refl _ _) _),hc⟩)
 have HB:=Aside0.mk (below_alloc (Below.refl W.heap.size W) (.cells #[.int .i64 1,.slice A R.length c] 34))
 have HM:=Aside0.mk hmay
 have HP:=Aside0.mk hp
 clear hp
 clear h hR hc hmay
 go_enter Try.func13,Try.ntmps13
 go_upto_region 1 with (fail)
 obtain ⟨ba,hba⟩:∃ ba,ba=W.heap.size:=⟨_,rfl⟩
 rw [<-hba] at X ⊢
 clear hba
 generalize W.alloc (.cells #[.int .i64 1,.slice A R.length c] 34)=w1 at X HB ⊢
 have a1:=X.out.a1
 go_upto_region 2 with (first|(go_at_call 15;(with_reducible refine Calls.mono (r07_May.calls km A c R _ w1 (Kd.F_now X.out.fr) X.out.lr HM.out) ?_);rintro e w2 ⟨rfl,hd⟩;have q_:=X.out.on hd.below;have qb_:=below_step HB.out hd.below;clear X HB hd a1;have X:=Aside0.mk q_;have HB:=Aside0.mk qb_;clear q_ qb_))
 have a0:=X.out.a0
 have c1:=X.out.lw.c1
 go_wp2_with (first|(go_at_call 27;(with_reducible refine Calls.mono (HP.out w2 HB.out) ?_);rintro e w4 ⟨rfl,D4,hj,hs⟩;have q_:=X.out.did hj hs;clear X HB hj hs;have X:=Aside0.mk q_;clear q_))
 go_ret
 exact ⟨rfl,_,X.out.lw,X.out.st⟩
set_option maxHeartbeats 16000000 in
set_option maxRecDepth 100000 in
theorem do_other (h:Lw w0 W g gj gw D Ab Am cb cm d s t base more n) (hR:Kd.F k92 W (λk=>¬ LD D gj gw k) A R.length R) (hc:R.length<=c) {km:Nat} {may:Bool} (hmay:r07_May.f km R=some may) (h0:¬ o=0) (h1:¬ o=1) (h2:¬ o=2) (h3:¬ o=3) :
  Calls Try.prog 13 #[.pointer (some ⟨gw,0,none⟩),.agg #[.int .i64 o,.slice A R.length c]] W λe w'=>e = .returned (.bool true)/\∃ D',Lw w0 w' g gj gw D' Ab Am cb cm d s t base more n/\Step W w' (LD D gj gw) (LD D' gj gw):=by
 have X:=Aside0.mk (show Lx w0 W (W.alloc (.cells #[.int .i64 o,.slice A R.length c] 34)) g gj gw W.heap.size D D Ab Am cb cm d s t base more n o A c R from
  ⟨h.on (below_alloc (Below.refl _ _) _),Step.of_below (below_alloc (Below.refl _ _) _),heap_alloc_new W _,λe=>by have:=h.lt _ e;omega,Kd.F_below hR (below_alloc (Below.refl _ _) _),hc⟩)
 have HB:=Aside0.mk (below_alloc (Below.refl W.heap.size W) (.cells #[.int .i64 o,.slice A R.length c] 34))
 have HM:=Aside0.mk hmay
 have o0:(o == 0)=false:=by simp [h0]
 have o1:(o == 1)=false:=by simp [h1]
 have o2:(o == 2)=false:=by simp [h2]
 have o3:(o == 3)=false:=by simp [h3]
 clear h0 h1 h2 h3
 clear h hR hc hmay
 go_enter Try.func13,Try.ntmps13
 go_upto_region 1 with (fail)
 obtain ⟨ba,hba⟩:∃ ba,ba=W.heap.size:=⟨_,rfl⟩
 rw [<-hba] at X ⊢
 clear hba
 generalize W.alloc (.cells #[.int .i64 o,.slice A R.length c] 34)=w1 at X HB ⊢
 have a1:=X.out.a1
 go_upto_region 2 with (first|(go_at_call 15;(with_reducible refine Calls.mono (r07_May.calls km A c R _ w1 (Kd.F_now X.out.fr) X.out.lr HM.out) ?_);rintro e w2 ⟨rfl,hd⟩;have q_:=X.out.on hd.below;have qb_:=below_step HB.out hd.below;clear X HB hd a1;have X:=Aside0.mk q_;have HB:=Aside0.mk qb_;clear q_ qb_))
 have a0:=X.out.a0
 go_wp2
 go_ret
 exact ⟨rfl,_,X.out.lw,X.out.st⟩
end
end Go.Proofs.Ytfhamdobagjakaa.Dsk

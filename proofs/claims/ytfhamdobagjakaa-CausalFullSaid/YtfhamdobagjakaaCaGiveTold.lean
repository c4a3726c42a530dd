/- a part -/
import Derived.Test.YtfhamdobagjakaaCaTold
namespace Go.Proofs.Ytfhamdobagjakaa.Cau
open Go.RowKit Go.Proofs.YtfhamdobagjakaaW.PrintWords Go.Proofs.YtfhamdobagjakaaW.PrintLast Go.Proofs.YtfhamdobagjakaaW.PrintMore Go.Proofs.Ytfhamdobagjakaa.Hand Go.Proofs.Ytfhamdobagjakaa.Cards Go.Proofs.Ytfhamdobagjakaa.PCa Go.Proofs.Ytfhamdobagjakaa.DotMap
set_option linter.unusedVariables false
set_option linter.unusedSimpArgs false
section
variable {w0 W w W1 W2 : World} {g bm clk base k : Nat} {X : Nat -> Prop} {c : List Int} {es : List En} {l : List Ev} {ok ok' : Nat -> Prop} {x : Ev} {v : Value} {A Ap Ae Ac Ac1 : Option Addr} {cl cp ce cc cc1 : Nat}
theorem delE_self {d:Int×Int}:∀ {es:List En},(d ∉ es.map λe=>dotE e.x)->delE d es=es
 | [],_=>rfl
 | e :: l,h=>by
  simp only [List.map_cons,List.mem_cons,not_or] at h
  rw [delE,if_neg h.1,delE_self h.2]
set_option maxHeartbeats 16000000 in
set_option maxRecDepth 100000 in
theorem give_told (h:Bf w0 W g bm X Ac cc c es clk) (hx:EvR W (λk=>¬ X k) x Ap cp Ae ce) (hck:event_Check.f k x.f0.f0 x.f0.f1 x.f1 x.f2=some 0) (hX:∀ k,X k->k<W.heap.size) (hlen:x.f1.length<=1000/\x.f2.length<=100000) (hok:ClockBase.setOk x.f0.f0 x.f0.f1=true) (hall:∀ e ∈ es,(e.x.f1.length<=1000/\e.x.f2.length<=100000)/\ClockBase.setOk e.x.f0.f0 e.x.f0.f1=true) (hfew:es.length<=100000) (hk:knownB c es x=false) (hcan:canB c x=true):Calls Try.prog 22 #[.pointer (some ⟨g,0,none⟩),evV x Ap cp Ae ce] W λe w'=>∃ v' Ac' cc' c' es',e = .returned (.tuple #[v',.int .i64 0])/\Kd.N k59 59 w' W.heap.size (λk=>¬ X k) v' (x :: (runS es.length (ClockBase.setS c x.f0.f0 x.f0.f1) (es.map (·.x))).1)/\Bf w0 w' g bm X Ac' cc' c' es' clk/\Only W w' g bm/\(runS es.length (ClockBase.setS c x.f0.f0 x.f0.f1) (es.map (·.x))).2=(c',es'.map (·.x)):=by
 have HNK:=Aside0.mk (not_known hk)
 have HSZ:=Aside0.mk hX
 have HLEN:=Aside0.mk hlen
 have HOK:=Aside0.mk hok
 have HALL:=Aside0.mk hall
 have HFEW:=Aside0.mk hfew
 have XG:=Aside0.mk (show X g/\X bm from ⟨h.xg,h.xm⟩)
 have HW0:=Aside0.mk (show w0.heap.size<=W.heap.size from h.below.size)
 have hde:=delE_self (not_known hk).2
 have HDE:=Aside0.mk hde
 clear hX hlen hok hall hfew hde
 obtain ⟨R,hR⟩:∃ R,R=(x :: (runS es.length (ClockBase.setS c x.f0.f0 x.f0.f1) (es.map (·.x))).1,(runS es.length (ClockBase.setS c x.f0.f0 x.f0.f1) (es.map (·.x))).2):=⟨_,rfl⟩
 change Calls _ _ _ _ λe w'=>∃ v' Ac' cc' c' es',e = .returned (.tuple #[v',.int .i64 0])/\Kd.N _ _ w' W.heap.size (λk=>¬ X k) v' (x :: (runS es.length (ClockBase.setS c x.f0.f0 x.f0.f1) (es.map (·.x))).1,(runS es.length (ClockBase.setS c x.f0.f0 x.f0.f1) (es.map (·.x))).2).1/\Bf w0 w' g bm X Ac' cc' c' es' clk/\Only W w' g bm/\(x :: (runS es.length (ClockBase.setS c x.f0.f0 x.f0.f1) (es.map (·.x))).1,(runS es.length (ClockBase.setS c x.f0.f0 x.f0.f1) (es.map (·.x))).2).2=(c',es'.map (·.x))
 rw [<-hR]
 have HR:=Aside0.mk hR
 clear hR
 have HK:=Aside0.mk (λ(W:World) (h:Bf w0 W g bm X Ac cc c es clk)=>by have h_:=known_calls (x:=x) (Ap:=Ap) (cp:=cp) (Ae:=Ae) (ce:=ce) h;rw [hk] at h_;exact h_)
 have HC:=Aside0.mk (λ(W:World) (h:Bf w0 W g bm X Ac cc c es clk) (hx:EvR W (λk=>¬ X k) x Ap cp Ae ce)=>by have h_:=can_calls h hx;rw [hcan] at h_;exact h_)
 clear hk hcan
 have hb:=below_alloc (Below.refl W.heap.size W) (.cells (evC x Ap cp Ae ce) 59)
 have H:=Aside0.mk (h.on hb)
 have HX:=Aside0.mk (hx.on hb)
 have XB:=Aside0.mk (heap_alloc_new W (.cells (evC x Ap cp Ae ce) 59))
 have HB:=Aside0.mk hb
 have HCK:=Aside0.mk hck
 have lg:=blk_lt h.blk
 have lm:=blk_lt h.map
 obtain ⟨ba,hba⟩:∃ ba,ba=W.heap.size:=⟨_,rfl⟩
 have NE:=Aside0.mk (show ba≠g/\ba≠bm/\ba=W.heap.size from ⟨by omega,by omega,hba⟩)
 clear h hx hck hb lg lm
 go_enter Try.func22,Try.ntmps22
 go_upto_region 1 with (fail)
 rw [<-hba] at XB ⊢
 clear hba
 generalize W.alloc (.cells (evC x Ap cp Ae ce) 59)=w1 at H HX XB HB ⊢
 have y0:=(blk_cell XB.out 0).trans (rfl:_=some (Value.int .i64 x.f0.f0))
 have y1:=(blk_cell XB.out 1).trans (rfl:_=some (Value.int .i64 x.f0.f1))
 have y2:=(blk_cell XB.out 2).trans (rfl:_=some (Value.slice Ap x.f1.length cp))
 have y3:=(blk_cell XB.out 3).trans (rfl:_=some (Value.slice Ae x.f2.length ce))
 go_upto_region 10 with (first|(go_at_call 54;(with_reducible refine Calls.mono (is_calls H.out) ?_);rintro e_ w_ ⟨rfl,hb⟩;have q_:=H.out.on hb;have qx_:=HX.out.on hb;have qb_:=blk_below XB.out hb;have qo_:=below_step HB.out hb;clear H HX XB HB y0 y1 y2 y3 hb;have H:=Aside0.mk q_;have HX:=Aside0.mk qx_;have XB:=Aside0.mk qb_;have HB:=Aside0.mk qo_;clear q_ qx_ qb_ qo_;have y0:=(blk_cell XB.out 0).trans (rfl:_=some (Value.int .i64 x.f0.f0));have y1:=(blk_cell XB.out 1).trans (rfl:_=some (Value.int .i64 x.f0.f1));have y2:=(blk_cell XB.out 2).trans (rfl:_=some (Value.slice Ap x.f1.length cp));have y3:=(blk_cell XB.out 3).trans (rfl:_=some (Value.slice Ae x.f2.length ce)))|(go_at_call 55;(with_reducible refine Calls.mono (event_Check.calls k x.f0.f0 x.f0.f1 Ap cp x.f1 Ae ce x.f2 _ _ (Kd.F_now HX.out.fp) HX.out.lp (Kd.F_now HX.out.fe) HX.out.le HCK.out) ?_);rintro e_ w_ ⟨rfl,hb⟩;have q_:=H.out.on hb;have qx_:=HX.out.on hb;have qb_:=blk_below XB.out hb;have qo_:=below_step HB.out hb;clear H HX XB HB y0 y1 y2 y3 hb;have H:=Aside0.mk q_;have HX:=Aside0.mk qx_;have XB:=Aside0.mk qb_;have HB:=Aside0.mk qo_;clear q_ qx_ qb_ qo_;have y0:=(blk_cell XB.out 0).trans (rfl:_=some (Value.int .i64 x.f0.f0));have y1:=(blk_cell XB.out 1).trans (rfl:_=some (Value.int .i64 x.f0.f1));have y2:=(blk_cell XB.out 2).trans (rfl:_=some (Value.slice Ap x.f1.length cp));have y3:=(blk_cell XB.out 3).trans (rfl:_=some (Value.slice Ae x.f2.length ce)))|(go_at_call 56;(with_reducible refine Calls.mono (HK.out _ H.out) ?_);rintro e_ w_ ⟨rfl,hb⟩;have q_:=H.out.on hb;have qx_:=HX.out.on hb;have qb_:=blk_below XB.out hb;have qo_:=below_step HB.out hb;clear H HX XB HB y0 y1 y2 y3 hb;have H:=Aside0.mk q_;have HX:=Aside0.mk qx_;have XB:=Aside0.mk qb_;have HB:=Aside0.mk qo_;clear q_ qx_ qb_ qo_;have y0:=(blk_cell XB.out 0).trans (rfl:_=some (Value.int .i64 x.f0.f0));have y1:=(blk_cell XB.out 1).trans (rfl:_=some (Value.int .i64 x.f0.f1));have y2:=(blk_cell XB.out 2).trans (rfl:_=some (Value.slice Ap x.f1.length cp));have y3:=(blk_cell XB.out 3).trans (rfl:_=some (Value.slice Ae x.f2.length ce)))|(go_at_call 57;(with_reducible refine Calls.mono (HC.out _ H.out HX.out) ?_);rintro e_ w_ ⟨rfl,hb⟩;have q_:=H.out.on hb;have qx_:=HX.out.on hb;have qb_:=blk_below XB.out hb;have qo_:=below_step HB.out hb;clear H HX XB HB y0 y1 y2 y3 hb;have H:=Aside0.mk q_;have HX:=Aside0.mk qx_;have XB:=Aside0.mk qb_;have HB:=Aside0.mk qo_;clear q_ qx_ qb_ qo_;have y0:=(blk_cell XB.out 0).trans (rfl:_=some (Value.int .i64 x.f0.f0));have y1:=(blk_cell XB.out 1).trans (rfl:_=some (Value.int .i64 x.f0.f1));have y2:=(blk_cell XB.out 2).trans (rfl:_=some (Value.slice Ap x.f1.length cp));have y3:=(blk_cell XB.out 3).trans (rfl:_=some (Value.slice Ae x.f2.length ce))))
 go_upto_region 11 with (first|(go_at_call 59;(with_reducible refine Calls.mono (tell_calls H.out (λk hk=>Nat.lt_of_lt_of_le (HSZ.out k hk) HB.out.size) HX.out HOK.out HLEN.out) ?_);rintro e_ w2 ⟨v_,Ac2,cc2,rfl,⟨A2,c2,A4,c4,rfl,hE⟩,hBf,hO⟩;have E2:=Aside0.mk hE;have BF2:=Aside0.mk hBf;have O2:=Aside0.mk ((Only.of_below HB.out).trans hO);clear hE hBf hO y0 y1 y2 y3))
 clear H HX XB HB NE HCK HK HC
 obtain ⟨b6,hb6⟩:∃ b6,b6=w2.heap.size:=⟨_,rfl⟩
 obtain ⟨w3,hw3⟩:∃ w3,w3=w2.alloc (.cells (evC x A2 c2 A4 c4) 59):=⟨_,rfl⟩
 have t_:=told_first BF2.out HSZ.out E2.out O2.out hw3 hb6
 rw [HDE.out] at t_
 have T3:=Aside0.mk t_
 rw [<-hb6]
 rw [<-hw3]
 clear t_ hb6 hw3 BF2 E2 O2
 have NXC:=Aside0.mk (nx_calls T3.out.1 T3.out.2.2.2 (λe he=>(HALL.out e he).1) (Nat.le_trans HFEW.out (by omega)))
 go_upto_region 12 with (first|(go_at_call 60;(with_reducible refine Calls.mono NXC.out ?_);rintro e_ w4 ⟨⟨y,Ay,cy,By,dy,q,rfl,hE,ho⟩,hb⟩;have E4:=Aside0.mk hE;have O4:=Aside0.mk ho;have B4:=Aside0.mk hb;clear hE ho hb))
 obtain ⟨bt,hbt⟩:∃ bt,bt=w4.heap.size:=⟨_,rfl⟩
 obtain ⟨w5,hw5⟩:∃ w5,w5=w4.alloc (.cells (evC y Ay cy By dy) 59):=⟨_,rfl⟩
 have tp_:=tp_alloc (X:=X) (T3.out.1.on B4.out) (λk hk=>.inl hk) (λk hk=>Nat.lt_of_lt_of_le (T3.out.2.2.2 k hk) B4.out.size) (T3.out.2.2.1.trans (Only.of_below B4.out)) (Kd.N_below T3.out.2.1 B4.out) (λk hk=>.inr (by injection hk with hk;exact hk.symm)) hbt hw5
 have ev_:EvR w5 (λk=>¬ ((X k\/k=b6)\/k=bt)) y Ay cy By dy:=(E4.out.tight.on (by rw [hw5];exact below_alloc (Below.refl _ _) _)).mono (λk hk e=>by
  rcases e with e|e
  ·have:=T3.out.2.2.2 k e
   have:=hk.1
   omega
  ·have:=hk.2
   omega)
 have TS:=Aside0.mk (tp_.tl0 (q:=q) (kn:=es.length) (R:=R) ev_ O4.out (Nat.le_refl _) HALL.out HFEW.out (by have:=HFEW.out;simp only [List.length_singleton];omega) HR.out)
 rw [<-hbt]
 rw [<-hw5]
 clear T3 NXC E4 O4 B4 tp_ ev_ hbt hw5 HNK HLEN HOK HFEW HDE HR HALL
 go_loopg [6,7,8] es.length (λkn_ v6 v7 v8 wr=>∃ bt q Xr Ac3 cc3 c3 es3 hd y Ay cy By dy,v7 = .pointer (some ⟨bt,0,none⟩)/\v8 = .bool q/\Aside0 (TL w0 W wr g bm X clk bt v6 q kn_ R Xr Ac3 cc3 c3 es3 hd y Ay cy By dy))
 case atStart=>exact ⟨_,_,_,_,_,_,_,_,_,_,_,_,_,rfl,rfl,TS⟩
 case round =>
  clear TS
  obtain ⟨bt,q,Xr,Ac3,cc3,c3_,es3,hd,y,Ay,cy,By,dy,rfl,rfl,TT⟩:=hrel
  obtain ⟨A3,c3,e3⟩:=Kd.N_slice TT.out.row
  subst e3
  cases q with
  | false =>
   have hR:=TT.out.end_
   have HR:=Aside0.mk hR
   clear hR
   go_wp2
   go_ret2
   refine ⟨_,Ac3,cc3,c3_,es3,rfl,?_,TT.out.bf.narrow TT.out.xx XG.out.1 XG.out.2,TT.out.only,by rw [HR.out]⟩
   rw [HR.out]
   exact Kd.N_mono TT.out.row (λk hk=>hk.1)
  | true =>
   have YY:=Aside0.mk TT.out.y_ok
   have y0:=(blk_cell TT.out.box 0).trans (rfl:_=some (Value.int .i64 y.f0.f0))
   have y1:=(blk_cell TT.out.box 1).trans (rfl:_=some (Value.int .i64 y.f0.f1))
   have y2:=(blk_cell TT.out.box 2).trans (rfl:_=some (Value.slice Ay y.f1.length cy))
   have y3:=(blk_cell TT.out.box 3).trans (rfl:_=some (Value.slice By y.f2.length dy))
   go_upto_region 15 with (first|(go_at_call 59;(with_reducible refine Calls.mono (tell_calls TT.out.bf TT.out.xr TT.out.ev YY.out.2 YY.out.1) ?_);rintro e_ w5 ⟨v_,Ac5,cc5,rfl,⟨A2,c2,A4,c4,rfl,hE⟩,hBf,hO⟩;have HO5:=Aside0.mk hO;have T5:=Aside0.mk (⟨hBf,λk hk=>Nat.lt_of_lt_of_le (TT.out.xr k hk) hO.size,hE,Kd.N_mono (Kd.N_step TT.out.row (λk hk hlt=>hO.block k hlt (λe=>hk.1 (e ▸ XG.out.1)) (λe=>hk.1 (e ▸ XG.out.2)))) (λk hk=>hk.1),Nat.le_trans TT.out.only.size hO.size,Nat.le_trans (Nat.le_of_add_right_le TT.out.hdl) (by omega)⟩:Bf w0 w5 g bm Xr Ac5 cc5 (ClockBase.setS c3_ y.f0.f0 y.f0.f1) (delE (dotE y) es3) clk/\(∀ k,Xr k->k<w5.heap.size)/\EvR w5 (λk=>¬ Xr k) y A2 c2 A4 c4/\Kd.N k59 59 w5 W.heap.size (λk=>¬ X k) (.slice A3 hd.length c3) hd/\W.heap.size<=w5.heap.size/\hd.length<=1000000);have B5:=Aside0.mk ((hO.block bt (blk_lt TT.out.box) TT.out.bt.2.2.1 TT.out.bt.2.2.2.1).trans TT.out.box);clear hE hBf hO)|((with_reducible refine gate_builtin (b:=.append) (xs:=#[.tmp 62,.tmp 66]) rfl ?_);at_builtin;obtain ⟨w7,hw7⟩:∃ w7,w7=w5.alloc (.cells (evC y A2 c2 A4 c4) 59):=⟨_,rfl⟩;have a8:=told_app (bt:=bt) T5.out.1 T5.out.2.1 TT.out.xx HSZ.out XG.out T5.out.2.2.1 T5.out.2.2.2.1 TT.out.own HW0.out T5.out.2.2.2.2.1 hw7 T5.out.2.2.2.2.2 ⟨Nat.lt_of_lt_of_le (blk_lt TT.out.box) HO5.out.size,TT.out.bt.2.1⟩;obtain ⟨v8,w8,Xs,hr8,a9⟩:=a8;rw [hw7] at hr8;refine app_event (s:=.tmp 62) (x:=.tmp 66) (t:=50) (N:=some 67) rfl rfl rfl rfl rfl hr8 ?_;have A9:=Aside0.mk a9;clear hr8 a9 hw7;have B8:=Aside0.mk ((A9.out.2.2.2.2.2.2.2 bt (Nat.lt_of_lt_of_le (blk_lt TT.out.box) HO5.out.size) TT.out.bt.2.2.1 TT.out.bt.2.2.2.1 (.inr rfl)).trans B5.out);clear y0 y1 y2 y3;have y0:=(blk_cell B8.out 0).trans (rfl:_=some (Value.int .i64 y.f0.f0));have y1:=(blk_cell B8.out 1).trans (rfl:_=some (Value.int .i64 y.f0.f1));have y2:=(blk_cell B8.out 2).trans (rfl:_=some (Value.slice Ay y.f1.length cy));have y3:=(blk_cell B8.out 3).trans (rfl:_=some (Value.slice By y.f2.length dy))))
   go_upto_region 13 with (fail)
   clear y0 y1 y2 y3
   obtain ⟨b9,hb9⟩:∃ b9,b9=w8.heap.size:=⟨_,rfl⟩
   obtain ⟨w9,hw9⟩:∃ w9,w9=w8.alloc (.cells (evC y Ay cy By dy) 59):=⟨_,rfl⟩
   have on8:Only W w8 g bm:=⟨Nat.le_trans TT.out.only.size (Nat.le_trans HO5.out.size A9.out.2.2.2.2.2.2.1),λk hk h1 h2=>(A9.out.2.2.2.2.2.2.2 k (Nat.lt_of_lt_of_le hk T5.out.2.2.2.2.1) h1 h2 (.inl hk)).trans ((TT.out.only.trans HO5.out).block k hk h1 h2)⟩
   have tp_:=tp_alloc (X:=X) A9.out.2.1 (λk hk=>A9.out.2.2.1 k (TT.out.xx k hk)) A9.out.2.2.2.1 on8 A9.out.1 A9.out.2.2.2.2.1 hb9 hw9
   have TP9:=Aside0.mk tp_
   have LS:=Aside0.mk TT.out.less
   have FW:=Aside0.mk (⟨TT.out.len,TT.out.few,TT.out.hdl⟩:_/\_/\_)
   have NX9:=Aside0.mk (nx_calls TP9.out.bf TP9.out.xr (λe he=>(TT.out.all_next e he).1) (by have:=FW.out.2.1;have:=LS.out;omega))
   have RS:=Aside0.mk TT.out.res_next
   have AL:=Aside0.mk TT.out.all_next
   rw [<-hb9]
   rw [<-hw9]
   clear on8 tp_ hb9 hw9 A9 B8 B5 T5 HO5 TT YY
   go_wp2_with (first|(go_at_call 60;(with_reducible refine Calls.mono NX9.out ?_);rintro e_ w10 ⟨⟨z,Az,cz,Bz,dz,q2,rfl,hE,ho⟩,hb⟩;have E10:=Aside0.mk hE;have O10:=Aside0.mk ho;have TP10:=Aside0.mk (TP9.out.on hb);clear hE ho hb;have r0:=(blk_cell TP10.out.box 0).trans (rfl:_=some (Value.int .i64 y.f0.f0));have r1:=(blk_cell TP10.out.box 1).trans (rfl:_=some (Value.int .i64 y.f0.f1));have r2:=(blk_cell TP10.out.box 2).trans (rfl:_=some (Value.slice Ay y.f1.length cy));have r3:=(blk_cell TP10.out.box 3).trans (rfl:_=some (Value.slice By y.f2.length dy));have z0:=blk_frozen TP10.out.box 0;have z1:=blk_frozen TP10.out.box 1;have z2:=blk_frozen TP10.out.box 2;have z3:=blk_frozen TP10.out.box 3))
   go_roundg (delE (dotE y) es3).length
   case measure =>
    have:=FW.out.1
    have:=LS.out
    omega
   case rel =>
    have hx9:=TP9.out.xr
    refine ⟨b9,q2,_,_,_,_,delE (dotE y) es3,hd++[y],z,Az,cz,Bz,dz,rfl,rfl,⟨TP10.out.tl HW0.out (E10.out.mono (λk hk e=>by have:=hx9 k e;omega)) O10.out (Nat.le_refl _) AL.out (by have:=FW.out.2.1;have:=LS.out;omega) (by have:=FW.out.2.2;have:=LS.out;rw [List.length_append,List.length_singleton];omega) RS.out⟩⟩
end
end Go.Proofs.Ytfhamdobagjakaa.Cau

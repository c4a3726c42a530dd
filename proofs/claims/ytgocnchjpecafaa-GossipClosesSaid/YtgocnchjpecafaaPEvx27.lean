/- a part -/
import Derived.Test.YtgocnchjpecafaaPEvx18
import Derived.Test.YtgocnchjpecafaaPEvx26
namespace Go.Proofs.Ytgocnchjpecafaa.PEv
open Go.RowKit Go.Proofs.YtgocnchjpecafaaW.PrintWords Go.Proofs.YtgocnchjpecafaaW.PrintLast Go.Proofs.YtgocnchjpecafaaW.PrintMore
attribute [local go_sem] max2_int min2_int max_two min_two max_three min_three max_four min_four
set_option linter.unusedVariables false
set_option linter.unusedSimpArgs false
set_option maxHeartbeats 8000000
set_option maxRecDepth 100000
theorem z27_0 {P:Prop} (h:P:=by repeat(first|(with_reducible first|exact HB.out|apply below_alloc|apply pw_below_drewN|apply below_drew1|refine below_set ?_ GE551.out)|exact HB.out)):P:=h
theorem z27_2 {P:Prop} (h:P:=by(with_reducible repeat(first|refine blk_drewN ?_ _|refine blk_drew ?_|refine blk_alloc ?_ _));exact BK551.out):P:=h
theorem z27_3 {P:Prop} (h:P:=by repeat(first|(with_reducible first|exact HB.out|apply below_alloc|apply pw_below_drewN|apply below_drew1|refine below_set ?_ GE551.out|refine below_set ?_ GE564.out)|exact HB.out)):P:=h
theorem z27_7 {P:Prop} (h:P:=by(with_reducible repeat(first|refine Kd.C_alloc ?_ _|refine Kd.C_drewN ?_ _|refine Kd.C_drew ?_));exact HA.out.2.2):P:=h
theorem z27_9 {P:Prop} (h:P:=by exact(Reps.one (show Kd.M (Kd.int .i64) _ _ _ 1 [.int .i64 1] from rfl) (Reps.none _ _))):P:=h
theorem z27_10 {P:Prop} (h:P:=by(with_reducible repeat(first|refine Ft_alloc ?_ _|refine Ft_drew ?_));exact HA.out):P:=h
theorem z27_11 {P:Prop} (h:P:=by(with_reducible repeat(first|refine blk_drewN ?_ _|refine blk_drew ?_|refine blk_alloc ?_ _));exact BK564.out):P:=h
mutual
def gossip_Put.j0:Nat->List Int->List Int->Bool->List (S30)->Option (List Int×Int)
 | 0,_,_,_,_=>none
 | k+1,x4,x552000,x552001,x552002=>(clock_Put.f k x552000).bind λt557=>(gossip_Put.l0 k (([x4,t557]:List (List Int))) x552002 (x552002.length:Int) 0)
def gossip_Put.l0:Nat->List (List Int)->List (S30)->Int->Int->Option (List Int×Int)
 | 0,_,_,_,_=>none
 | k+1,x5,x24,x25,x26=>if x26<x25 then(if 0<=x26 then(if x26<(x24.length:Int) then((event_Put.f k ((rd_T30 x24 x26).f0.f0) ((rd_T30 x24 x26).f0.f1) ((rd_T30 x24 x26).f1) ((rd_T30 x24 x26).f2)).bind λbt565=>(if x5.length<5864062014805 then(gossip_Put.l0 k (x5++[bt565.1]) x24 x25 (wrap64 (x26+1))) else(none))) else(none)) else(none)) else((wire_Pack.f k x5).bind λt572=>(some (t572,0)))
end
def gossip_Put.f (k:Nat) (l0_0:List Int) (a0_1:Bool) (l0_2:List (S30)):Option (List Int×Int):=(gossip_may.f k l0_0 a0_1 l0_2).bind λt552=>(if t552=true then((some (([0]:List Int):List Int)).bind λy553=>(if a0_1=true then(if 0<(y553.length:Int) then(gossip_Put.j0 k (y553.set (0:Int).toNat 1) l0_0 a0_1 l0_2) else(none)) else(gossip_Put.j0 k y553 l0_0 a0_1 l0_2))) else(some (([]:List Int),1)))
theorem gossip_Put.mono_l:∀ k,(∀ y0 y1 y2 y3,LeO (gossip_Put.j0 k y0 y1 y2 y3) (gossip_Put.j0 (k+1) y0 y1 y2 y3))/\(∀ y0 y1 y2 y3,LeO (gossip_Put.l0 k y0 y1 y2 y3) (gossip_Put.l0 (k+1) y0 y1 y2 y3))
 | 0=>⟨λ_ _ _ _ r h=>by simp [gossip_Put.j0] at h,λ_ _ _ _ r h=>by simp [gossip_Put.l0] at h⟩
 | k+1=>by
  obtain ⟨ih0,ih1⟩:=gossip_Put.mono_l k
  refine ⟨?_,?_⟩
  ·intro y0 y1 y2 y3
   unfold gossip_Put.j0
   repeat' first
   | (with_reducible exact ih0 _ _ _ _)
   | (with_reducible exact ih1 _ _ _ _)
   | (with_reducible exact clock_Put.mono _ _)
   | (with_reducible exact event_Put.mono _ _ _ _ _)
   | (with_reducible exact gossip_may.mono _ _ _ _)
   | (with_reducible exact wire_Pack.mono _ _)
   | (with_reducible exact LeO.refl _)
   | (with_reducible exact LeO.none _)
   | (with_reducible refine LeO.ite ?_ ?_)
   | (with_reducible refine LeO.bind ?_ (λ_=>?_))
  ·intro y0 y1 y2 y3
   unfold gossip_Put.l0
   repeat' first
   | (with_reducible exact ih0 _ _ _ _)
   | (with_reducible exact ih1 _ _ _ _)
   | (with_reducible exact clock_Put.mono _ _)
   | (with_reducible exact event_Put.mono _ _ _ _ _)
   | (with_reducible exact gossip_may.mono _ _ _ _)
   | (with_reducible exact wire_Pack.mono _ _)
   | (with_reducible exact LeO.refl _)
   | (with_reducible exact LeO.none _)
   | (with_reducible refine LeO.ite ?_ ?_)
   | (with_reducible refine LeO.bind ?_ (λ_=>?_))
theorem gossip_Put.mono:∀ a0 a1 a2 k,LeO (gossip_Put.f k a0 a1 a2) (gossip_Put.f (k+1) a0 a1 a2):=by
 intro a0 a1 a2 k
 obtain ⟨ih0,ih1⟩:=gossip_Put.mono_l k
 unfold gossip_Put.f
 repeat' first
  | (with_reducible exact ih0 _ _ _ _)
  | (with_reducible exact ih1 _ _ _ _)
  | (with_reducible exact clock_Put.mono _ _)
  | (with_reducible exact event_Put.mono _ _ _ _ _)
  | (with_reducible exact gossip_may.mono _ _ _ _)
  | (with_reducible exact wire_Pack.mono _ _)
  | (with_reducible exact LeO.refl _)
  | (with_reducible exact LeO.none _)
  | (with_reducible refine LeO.ite ?_ ?_)
  | (with_reducible refine LeO.bind ?_ (λ_=>?_))
theorem gossip_Put.calls (k:Nat) (A0_0:Option Addr) (c0_0:Nat) (l0_0:List Int) (a0_1:Bool) (A0_2:Option Addr) (c0_2:Nat) (l0_2:List (S30)) (r1:List Int) (r2:Int) (w:World) (hr0_0:Kd.C (Kd.int .i64) w A0_0 l0_0.length l0_0) (hc0_0:l0_0.length<=c0_0) (hr0_2:Kd.C k30 w A0_2 l0_2.length l0_2) (hc0_2:l0_2.length<=c0_2) (h:gossip_Put.f k l0_0 a0_1 l0_2=some (r1,r2)) :
  Calls Try.prog 38 #[.agg #[.slice A0_0 l0_0.length c0_0,.bool a0_1,.slice A0_2 l0_2.length c0_2]] w λe w'=>∃ v0_:Value,e = .returned (.tuple #[v0_,.int .i64 r2])/\Kd.R (Kd.int .u8) 5 w' w.heap.size (λ_=>True) v0_ r1/\Below w.heap.size w w':=by
 have hu53:=Try.underlying53
 have hu30:=Try.underlying30
 have HR0_0:=Aside0.mk hr0_0
 have HC0_0:=Aside0.mk hc0_0
 clear hr0_0 hc0_0
 have HR0_2:=Aside0.mk hr0_2
 have HC0_2:=Aside0.mk hc0_2
 clear hr0_2 hc0_2
 have HB:=U (Below.refl w.heap.size w)
 have H:((gossip_may.f k l0_0 a0_1 l0_2).bind λt552=>(if t552=true then((some (([0]:List Int):List Int)).bind λy553=>(if a0_1=true then(if 0<(y553.length:Int) then(gossip_Put.j0 k (y553.set (0:Int).toNat 1) l0_0 a0_1 l0_2) else(none)) else(gossip_Put.j0 k y553 l0_0 a0_1 l0_2))) else(some (([]:List Int),1))))=some (r1,r2):=h
 clear h
 replace H:=oB_ H
 obtain ⟨t552,A20,H⟩:=H
 replace H:(if t552=true then((some (([0]:List Int):List Int)).bind λy553=>(if a0_1=true then(if 0<(y553.length:Int) then(gossip_Put.j0 k (y553.set (0:Int).toNat 1) l0_0 a0_1 l0_2) else(none)) else(gossip_Put.j0 k y553 l0_0 a0_1 l0_2))) else(some (([]:List Int),1)))=some (r1,r2):=H
 have A2:=Aside0.mk A20
 clear A20
 by_cases c3:t552=true
 rotate_left
 ·replace c3:=Bool.eq_false_iff.mpr c3
  subst c3
  have H1:(some (([]:List Int),1))=some (r1,r2):=by rw [if_neg (show ¬ (false=true) by decide)] at H;exact H
  clear H
  have H:=H1
  clear H1
  simp only [Option.some.injEq,Prod.mk.injEq] at H
  obtain ⟨rfl,rfl⟩:=H
  go_enter Try.func38,Try.ntmps38
  go_wp2_with (first|((with_reducible refine gate_dst (N:=1) rfl ?_);refine box_event ?hg (N:=1) ?hd (cs:=#[.slice A0_0 l0_0.length c0_0,.bool a0_1,.slice A0_2 l0_2.length c0_2]) (t:=53) ?hr ?_;(case hd=>rfl);(case hg=>rfl);(case hr=>exact z10_10);intro gb551 hg w38 hbox hb;have BK551:=U (hbox);have GW551:=U ((by rw [hg];exact(below_size z9_4):w.heap.size<=gb551));have GE551:=U ((by rw [hg];exact(below_size z9_4):w.heap.size<=gb551));replace HB:=U (below_step z9_4 hb);clear hb hbox hg;obtain ⟨hcz39_0,hcz39_1,hcz39_2,hfz39_0,hfz39_1,hfz39_2⟩:=cz3_ BK551.out)|((with_reducible refine gate_callee (f:=83) rfl ?_);refine goesL_ (some 11) rfl rfl Try.func83 (by kernel_rfl) rfl #[.agg #[.slice A0_0 l0_0.length c0_0,.bool a0_1,.slice A0_2 l0_2.length c0_2]] rfl z6_5 ?_;(with_reducible refine(gossip_may.calls k _ _ l0_0 a0_1 _ _ l0_2 false _ ?side1 ?side2 ?side3 ?side4 A2.out).mono ?_);(case side1=>exact z26_5);(case side2=>exact HC0_0.out);(case side3=>exact z3_11);(case side4=>exact HC0_2.out);rintro e w40 ⟨rfl,hb⟩;refine ⟨_,rfl,?_⟩;replace BK551:=U (blk_below (g:=gb551) (o:=.cells #[.slice A0_0 l0_0.length c0_0,.bool a0_1,.slice A0_2 l0_2.length c0_2] 53 (0,0)) z27_2 hb);replace HB:=U (below_step z27_0 hb);(try clear hb);(try clear hb2);(try clear hk);(try clear hi)))
  go_ret2
  exact ⟨_,(by first|rfl|(simp [errW_none,errW_some]<;>rfl)|(simp [*,errW_none,errW_some]<;>rfl)),(by first|exact Kd.R_nil _ _ _ _ _|exact Kd.N_nil _ _ _ _ _|exact Kd.V_nil _ _ _ _ _|exact Kd.Q_nil _ _ _ _ _|exact Kd.S_nil _ _ _ _ _),z27_0⟩
 subst c3
 have H1:((some (([0]:List Int):List Int)).bind λy553=>(if a0_1=true then(if 0<(y553.length:Int) then(gossip_Put.j0 k (y553.set (0:Int).toNat 1) l0_0 a0_1 l0_2) else(none)) else(gossip_Put.j0 k y553 l0_0 a0_1 l0_2)))=some (r1,r2):=by rw [if_pos rfl] at H;exact H
 clear H
 have H:=H1
 clear H1
 obtain ⟨y553,hy553⟩:∃ y_:List Int,y_=(([0]:List Int)):=⟨_,rfl⟩
 replace H:(if a0_1=true then(if 0<(y553.length:Int) then(gossip_Put.j0 k (y553.set (0:Int).toNat 1) l0_0 a0_1 l0_2) else(none)) else(gossip_Put.j0 k y553 l0_0 a0_1 l0_2))=some (r1,r2):=by first|(rw [hy553];with_reducible exact H)|(have H2_:=(Option.bind_some _ _).symm.trans H;rw [hy553];with_reducible exact H2_)|(have H2_:=(Option.bind_some _ _).symm.trans H;with_reducible exact H2_)|with_reducible exact H|(rw [hy553];exact H)|exact H
 have Ny553:=Aside0.mk hy553
 clear hy553
 have HC4:=Aside0.mk H
 clear H
 go_enter Try.func38,Try.ntmps38
 go_upto_if 15 with (first|((with_reducible refine gate_dst (N:=1) rfl ?_);refine box_event ?hg (N:=1) ?hd (cs:=#[.slice A0_0 l0_0.length c0_0,.bool a0_1,.slice A0_2 l0_2.length c0_2]) (t:=53) ?hr ?_;(case hd=>rfl);(case hg=>rfl);(case hr=>exact z10_10);intro gb551 hg w5 hbox hb;have BK551:=U (hbox);have GW551:=U ((by rw [hg];exact(below_size z9_4):w.heap.size<=gb551));have GE551:=U ((by rw [hg];exact(below_size z9_4):w.heap.size<=gb551));replace HB:=U (below_step z9_4 hb);clear hb hbox hg;obtain ⟨hcz6_0,hcz6_1,hcz6_2,hfz6_0,hfz6_1,hfz6_2⟩:=cz3_ BK551.out)|((with_reducible refine gate_callee (f:=83) rfl ?_);refine goesL_ (some 11) rfl rfl Try.func83 (by kernel_rfl) rfl #[.agg #[.slice A0_0 l0_0.length c0_0,.bool a0_1,.slice A0_2 l0_2.length c0_2]] rfl z6_5 ?_;(with_reducible refine(gossip_may.calls k _ _ l0_0 a0_1 _ _ l0_2 true _ ?side1 ?side2 ?side3 ?side4 A2.out).mono ?_);(case side1=>exact z26_5);(case side2=>exact HC0_0.out);(case side3=>exact z3_11);(case side4=>exact HC0_2.out);rintro e w7 ⟨rfl,hb⟩;refine ⟨_,rfl,?_⟩;replace BK551:=U (blk_below (g:=gb551) (o:=.cells #[.slice A0_0 l0_0.length c0_0,.bool a0_1,.slice A0_2 l0_2.length c0_2] 53 (0,0)) z27_2 hb);replace HB:=U (below_step z27_0 hb);(try clear hb);(try clear hb2);(try clear hk);(try clear hi))|((with_reducible refine gate_dst (N:=13) rfl ?_);refine Kd.R_lit (Kd.int .u8) _ 5 ?hg (N:=13) ?hd (xs:=([0]:List Int)) (inner:=[.int .u8 0]) (ok:=λ_=>True) (okp:=λ_=>True) ?hr ?hp (λ_ hk=>hk) trivial (Below.refl _ _) (Nat.le_refl _) (by simp) ?_;(case hd=>rfl);(case hg=>rfl);(case hr=>exact z10_10);(case hp=>exact(Reps.one (show Kd.M (Kd.int .u8) _ _ _ 0 [.int .u8 0] from rfl) (Reps.none _ _)));intro v554 w8 ho9 hb hg_ hnew_;clear hg_ hnew_;(first|rw [<-Ny553.out] at ho9|(simp only [Int.reduceToNat] at ho9;rw [<-Ny553.out] at ho9));have HO555:=U (Kd.R_lower ho9 (below_size z27_0));replace BK551:=U (blk_below (g:=gb551) (o:=.cells #[.slice A0_0 l0_0.length c0_0,.bool a0_1,.slice A0_2 l0_2.length c0_2] 53 (0,0)) z27_2 hb);replace HB:=U (below_step z27_0 hb);clear hb ho9;obtain ⟨hcz10_0,hcz10_1,hcz10_2,hfz10_0,hfz10_1,hfz10_2⟩:=cz3_ BK551.out))
 (try simp only [Act.put,List.setIfInBounds_toArray,List.set_cons_zero,List.set_cons_succ])
 go_cut [] (λwc=>∃ (kq:Nat) (x4_3:List Int),Aside0 (gossip_Put.j0 kq x4_3 l0_0 a0_1 l0_2=some (r1,r2))/\Aside0 (kq<=k)/\Aside0 (Kd.R (Kd.int .u8) 5 wc w.heap.size (λ_=>True) v554 x4_3)/\Aside0 (wc.heap[gb551]? = some (.cells #[(.slice A0_0 l0_0.length c0_0),.bool a0_1,(.slice A0_2 l0_2.length c0_2)] 53 (0,0)))/\Aside0 (Below w.heap.size w wc))
 case first =>
  have H:=HC4.out
  clear HC4
  by_cases c11:a0_1=true
  rotate_left
  ·replace c11:=Bool.eq_false_iff.mpr c11
   subst c11
   have H1:(gossip_Put.j0 k y553 l0_0 false l0_2)=some (r1,r2):=by rw [if_neg (show ¬ (false=true) by decide)] at H;exact H
   clear H
   have H:=H1
   clear H1
   have H':=Aside0.mk H
   clear H
   go_wp2
   go_meet
   case rel=>exact ⟨_,(y553),H',⟨(by first|omega|exact Nat.le_refl _)⟩,⟨(by(with_reducible repeat(first|apply Kd.R_alloc|apply Kd.R_drewN|apply Kd.R_drew));exact HO555.out)⟩,⟨z27_2⟩,⟨z27_0⟩⟩
  subst c11
  have H1:(if 0<(y553.length:Int) then(gossip_Put.j0 k (y553.set (0:Int).toNat 1) l0_0 true l0_2) else(none))=some (r1,r2):=by rw [if_pos rfl] at H;exact H
  clear H
  have H:=H1
  clear H1
  by_cases c12:0<(y553.length:Int)
  rotate_left
  ·rw [if_neg c12] at H
   exact absurd H (by simp)
  rw [if_pos c12] at H
  have c12b0:decide (0<(y553.length:Int))=true:=dT_ c12
  have c12b1:decide (0<y553.length)=true:=dT_ (by omega)
  clear c12
  (first|rw [c12b0]|(simp only [i64_w,i32_w];rw [c12b0])|skip)
  obtain ⟨y556,hy556⟩:∃ y_:List Int,y_=(y553.set (0:Int).toNat 1):=⟨_,rfl⟩
  replace H:(gossip_Put.j0 k y556 l0_0 true l0_2)=some (r1,r2):=by first|(rw [hy556];with_reducible exact H)|(have H2_:=(Option.bind_some _ _).symm.trans H;rw [hy556];with_reducible exact H2_)|(have H2_:=(Option.bind_some _ _).symm.trans H;with_reducible exact H2_)|with_reducible exact H|(rw [hy556];exact H)|exact H
  have Ny556:=Aside0.mk hy556
  clear hy556
  have H':=Aside0.mk H
  clear H
  have p13:0<=(0:Int):=(by omega)
  have q13:(0:Int)<((y553.length:Int):Int):=oD_ (by first|(with_reducible assumption)|assumption)
  have qi13:(0<y553.length)=True:=eq_true (by omega)
  obtain ⟨go13,co13,eo13,gb13,gl13,cl13,HG13⟩:=Kd.R_form HO555.out (by omega)
  (first|cases eo13|(injection eo13 with ea_ en_ ec_;(first|subst ea_|(injection ea_ with ea_;subst ea_));subst ec_;clear en_))
  have GB13:=Aside0.mk gb13
  have GG13:=Aside0.mk HG13
  clear gb13 gl13 HG13
  obtain ⟨hx13_0,hf13_0⟩:=Kd.R_celln 0 HO555.out (0:Int) p13 q13
  (try rw [show((0:Int)).toNat=0 from rfl] at hx13_0)
  (try simp only [Nat.reduceMul,Nat.zero_mul,Nat.zero_add,Nat.reduceAdd] at hx13_0)
  (try rw [show((0:Int)).toNat=0 from rfl] at hf13_0)
  (try simp only [Nat.reduceMul,Nat.zero_mul,Nat.zero_add,Nat.reduceAdd] at hf13_0)
  replace p13:=eq_true p13
  replace q13:=eq_true q13
  have HP14:=Kd.R_putg HO555.out (0:Int) 1
  go_wp2_with (first|((with_reducible refine gate_store (t:=5) (p:=17) rfl ?_);refine store_event (t:=5) (p:=17) (v:=?vo_w15) (w1:=(w8.setCell ⟨go13,(0:Int).toNat,none⟩ (.int .u8 1))) ?hg ?ho ?hn ?hr ?_;(case ho=>rfl);(case hg=>rfl);(case hn=>rfl);(case hr=>exact z10_10);intro w15 hw;have hg:w8.grownBy w15 (some go13):=(by rw [hw];exact HP14.2);have hp_:Kd.R (Kd.int .u8) 5 w15 w.heap.size (λ_=>True) (.slice (some ⟨go13,0,none⟩) y553.length co13) y556:=(by rw [hw,Ny556.out];exact HP14.1);clear HP14;replace BK551:=U (blk_grown (g:=gb551) (o:=.cells #[.slice A0_0 l0_0.length c0_0,.bool true,.slice A0_2 l0_2.length c0_2] 53 (0,0)) z27_2 hg (Kd.R_ne HO555.out BK551.out (by decide)));replace HO555:=U (hp_);replace HB:=U ((by rw [hw];exact below_set (HB.out) GB13.out:Below w.heap.size w w15));clear hg hw hp_))
  go_meet
  case rel=>exact ⟨_,(y556),H',⟨(by first|omega|exact Nat.le_refl _)⟩,⟨(by(with_reducible repeat(first|apply Kd.R_alloc|apply Kd.R_drewN|apply Kd.R_drew));exact HO555.out)⟩,⟨z27_2⟩,⟨z27_0⟩⟩
 case rest =>
 clear HC4
 try clear c1
 try clear p1
 try clear q1
 try clear hx1
 try clear qi1
 try clear hf1
 try clear p2
 try clear c3
 try clear c8
 try clear c11
 try clear c12
 try clear c12b0
 try clear c12b1
 try clear p13
 try clear q13
 try clear hx13
 try clear qi13
 try clear hf13
 try clear hcz10_0 hcz10_1 hcz10_2
 try clear hcz6_0 hcz6_1 hcz6_2
 try clear hfz10_0 hfz10_1 hfz10_2
 try clear hfz6_0 hfz6_1 hfz6_2
 try clear hx13_0
 try clear p13
 try clear q13
 obtain ⟨kq,x4_3,HA,HJ3,HO_4,BK551,HB⟩:=hcut
 cases kq with
 | zero=>exact absurd HA.out (by simp [gossip_Put.j0])
 | succ kj3 =>
 have H:=HA.out
 clear HA
 simp only [gossip_Put.j0] at H
 replace H:=oB_ H
 obtain ⟨t557,A160,H⟩:=H
 replace H:(gossip_Put.l0 kj3 (([x4_3,t557]:List (List Int))) l0_2 (l0_2.length:Int) 0)=some (r1,r2):=H
 have A16:=Aside0.mk A160
 clear A160
 obtain ⟨y560,hy560⟩:∃ y_:List (List Int),y_=(([x4_3,t557]:List (List Int))):=⟨_,rfl⟩
 replace H:(gossip_Put.l0 kj3 y560 l0_2 (l0_2.length:Int) 0)=some (r1,r2):=by first|(rw [hy560];with_reducible exact H)|(have H2_:=(Option.bind_some _ _).symm.trans H;rw [hy560];with_reducible exact H2_)|(have H2_:=(Option.bind_some _ _).symm.trans H;with_reducible exact H2_)|with_reducible exact H|(rw [hy560];exact H)|exact H
 have Ny560:=Aside0.mk hy560
 clear hy560
 have H':=Aside0.mk H
 clear H
 obtain ⟨hcz17_0,hcz17_1,hcz17_2,hfz17_0,hfz17_1,hfz17_2⟩:=cz3_ BK551.out
 go_wp2_with (first|((with_reducible refine gate_callee (f:=68) rfl ?_);refine goesL_ (some 21) rfl rfl Try.func68 (by kernel_rfl) rfl #[.slice A0_0 l0_0.length c0_0] rfl z6_5 ?_;(with_reducible refine(clock_Put.calls kj3 _ _ l0_0 t557 _ ?side1 ?side2 A16.out).mono ?_);(case side1=>exact z26_5);(case side2=>exact HC0_0.out);rintro e w18 ⟨v558,rfl,ho0,hb⟩;refine ⟨_,rfl,?_⟩;have HO559:=U (Kd.R_lower (Kd.R_new' ho0 (Kd.R_lt (by(with_reducible repeat(first|apply Kd.R_alloc|apply Kd.R_drewN|apply Kd.R_drew));exact HO_4.out))) (below_size z27_0));replace HO_4:=U (Kd.R_elder' (by(with_reducible repeat(first|apply Kd.R_alloc|apply Kd.R_drewN|apply Kd.R_drew));exact HO_4.out) (Kd.R_base ho0) hb);replace BK551:=U (blk_below (g:=gb551) (o:=.cells #[.slice A0_0 l0_0.length c0_0,.bool a0_1,.slice A0_2 l0_2.length c0_2] 53 (0,0)) z27_2 hb);replace HB:=U (below_step z27_0 hb);(try clear hb);(try clear hb2);(try clear hk);(try clear hi);(try clear ho0);obtain ⟨Ao19,co19,eo19⟩:=Kd.R_slice HO_4.out;subst eo19;obtain ⟨Ao20,co20,eo20⟩:=Kd.R_slice HO559.out;subst eo20)|((with_reducible refine gate_dst (N:=22) rfl ?_);refine Kd.N_lit (Kd.slice 5 (Kd.int .u8)) _ 22 ?hg (N':=22) ?hd (xs:=([x4_3,t557]:List (List Int))) (inner:=[.slice Ao19 x4_3.length co19,.slice Ao20 t557.length co20]) (ok:=(λk_=>k_≠gb551)) (okp:=(λk_=>k_≠gb551)) ?hr ?hp (λ_ hk=>hk) ((show ∀ k_,w18.heap.size<=k_->(λk_=>k_≠gb551) k_ from λk_ hk=>Kd.freshB (g:=gb551) (o:=.cells #[.slice A0_0 l0_0.length c0_0,.bool a0_1,.slice A0_2 l0_2.length c0_2] 53 (0,0)) z27_2 k_ hk) _ (Nat.le_refl _)) (Below.refl _ _) (Nat.le_refl _) (by simp) ?_;(case hd=>rfl);(case hg=>rfl);(case hr=>exact z10_10);(case hp=>exact(Reps.one (show Kd.FK (Kd.slice 5 (Kd.int .u8)) _ _ x4_3 [.slice Ao19 x4_3.length co19] from(by first|(obtain ⟨A_,c_,e_⟩:=Kd.R_slice HO_4.out;have hq_:=HO_4.out;rw [e_] at hq_ ⊢;exact Kd.FK_slice_mk (Kd.R_reads' (Kd.R_mono (ok':=(λk_=>k_≠gb551)) (Kd.R_types (hq_) BK551.out (by decide)) (λk_ hk=>hk.2))).2.1 (Kd.R_F (Kd.R_mono (ok':=(λk_=>k_≠gb551)) (Kd.R_types (hq_) BK551.out (by decide)) (λk_ hk=>hk.2))))|exact Kd.FK_slice_mk (Kd.R_reads' (Kd.R_mono (ok':=(λk_=>k_≠gb551)) (Kd.R_types (HO_4.out) BK551.out (by decide)) (λk_ hk=>hk.2))).2.1 (Kd.R_F (Kd.R_mono (ok':=(λk_=>k_≠gb551)) (Kd.R_types (HO_4.out) BK551.out (by decide)) (λk_ hk=>hk.2))))) (Reps.one (show Kd.FK (Kd.slice 5 (Kd.int .u8)) _ _ t557 [.slice Ao20 t557.length co20] from(by first|(obtain ⟨A_,c_,e_⟩:=Kd.R_slice HO559.out;have hq_:=HO559.out;rw [e_] at hq_ ⊢;exact Kd.FK_slice_mk (Kd.R_reads' (Kd.R_mono (ok':=(λk_=>k_≠gb551)) (Kd.R_types (hq_) BK551.out (by decide)) (λk_ hk=>hk.2))).2.1 (Kd.R_F (Kd.R_mono (ok':=(λk_=>k_≠gb551)) (Kd.R_types (hq_) BK551.out (by decide)) (λk_ hk=>hk.2))))|exact Kd.FK_slice_mk (Kd.R_reads' (Kd.R_mono (ok':=(λk_=>k_≠gb551)) (Kd.R_types (HO559.out) BK551.out (by decide)) (λk_ hk=>hk.2))).2.1 (Kd.R_F (Kd.R_mono (ok':=(λk_=>k_≠gb551)) (Kd.R_types (HO559.out) BK551.out (by decide)) (λk_ hk=>hk.2))))) (Reps.none _ _))));intro v561 w21 ho22 hb hg_ hnew_;clear hg_ hnew_;(first|rw [<-Ny560.out] at ho22|(simp only [Int.reduceToNat] at ho22;rw [<-Ny560.out] at ho22));have HO562:=U (Kd.N_lower ho22 (below_size z27_0));replace BK551:=U (blk_below (g:=gb551) (o:=.cells #[.slice A0_0 l0_0.length c0_0,.bool a0_1,.slice A0_2 l0_2.length c0_2] 53 (0,0)) z27_2 hb);replace HB:=U (below_step z27_0 hb);clear HO559 HO_4;clear hb ho22;obtain ⟨hcz23_0,hcz23_1,hcz23_2,hfz23_0,hfz23_1,hfz23_2⟩:=cz3_ BK551.out))
 go_loopg [5,26] kj3 (λkq v5 v26 w'=>∃ (x5_2:List (List Int)) (x26_2:Int),v26 = .int .i64 x26_2/\Aside0 (gossip_Put.l0 kq x5_2 l0_2 (l0_2.length:Int) x26_2=some (r1,r2))/\Aside0 (kq<=kj3)/\Aside0 (Kd.N (Kd.slice 5 (Kd.int .u8)) 22 w' w.heap.size (λk_=>k_≠gb551) v5 x5_2)/\Aside0 (w'.heap[gb551]? = some (.cells #[(.slice A0_0 l0_0.length c0_0),.bool a0_1,(.slice A0_2 l0_2.length c0_2)] 53 (0,0)))/\Aside0 (Below w.heap.size w w'))
 case atStart=>exact ⟨(y560),(0),(by first|rfl|(simp;done)|(simp [*];done)),H',⟨Nat.le_refl _⟩,⟨(by(with_reducible repeat(first|apply Kd.N_alloc|apply Kd.N_drewN|apply Kd.N_drew));exact HO562.out)⟩,⟨z27_2⟩,⟨z27_0⟩⟩
 case round =>
 clear H'
 try clear c1
 try clear p1
 try clear q1
 try clear hx1
 try clear qi1
 try clear hf1
 try clear p2
 try clear c3
 try clear c6
 try clear c8
 try clear c11
 try clear c12
 try clear c12b0
 try clear c12b1
 try clear p13
 try clear q13
 try clear hx13
 try clear qi13
 try clear hf13
 try clear hcz10_0 hcz10_1 hcz10_2
 try clear hcz17_0 hcz17_1 hcz17_2
 try clear hcz23_0 hcz23_1 hcz23_2
 try clear hcz6_0 hcz6_1 hcz6_2
 try clear hfz10_0 hfz10_1 hfz10_2
 try clear hfz17_0 hfz17_1 hfz17_2
 try clear hfz23_0 hfz23_1 hfz23_2
 try clear hfz6_0 hfz6_1 hfz6_2
 try clear hx13_0
 try clear p1
 try clear p13
 try clear p2
 try clear q1
 try clear q13
 obtain ⟨x5_2,x26_2,rfl,HA,HK2,HO_5,BK551,HB⟩:=hrel
 cases gk with
 | zero=>exact absurd HA.out (by simp [gossip_Put.l0])
 | succ k2 =>
 have H:=HA.out
 clear HA
 simp only [gossip_Put.l0] at H
 by_cases c24:x26_2<(l0_2.length:Int)
 rotate_left
 ·rw [if_neg c24] at H
  have c24b0:decide (x26_2<(l0_2.length:Int))=false:=dF_ c24
  clear c24
  replace H:=oB_ H
  obtain ⟨t572,A350,H⟩:=H
  replace H:(some (t572,0))=some (r1,r2):=H
  have A35:=Aside0.mk A350
  clear A350
  simp only [Option.some.injEq,Prod.mk.injEq] at H
  obtain ⟨rfl,rfl⟩:=H
  obtain ⟨Ao36,co36,eo36⟩:=Kd.N_slice HO_5.out
  subst eo36
  go_wp2_with (first|((with_reducible refine gate_callee (f:=66) rfl ?_);refine goesL_ (some 41) rfl rfl Try.func66 (by kernel_rfl) rfl #[.slice Ao36 x5_2.length co36] rfl z6_5 ?_;(with_reducible refine(wire_Pack.calls k2 _ _ x5_2 t572 _ ?side1 ?side2 A35.out).mono ?_);(case side1=>repeat(first|exact(Kd.N_reads' HO_5.out).2.2|(with_reducible refine Kd.C_alloc ?_ _)|(with_reducible refine Kd.C_drewN ?_ _)|(with_reducible refine Kd.C_drew ?_)));(case side2=>exact(Kd.N_reads' HO_5.out).2.1);rintro e w37 ⟨v573,rfl,ho0,hb⟩;refine ⟨_,rfl,?_⟩;replace HO_5:=U (Kd.N_elder' (by(with_reducible repeat(first|apply Kd.N_alloc|apply Kd.N_drewN|apply Kd.N_drew));exact HO_5.out) (Kd.R_base ho0) hb);have HO574:=U (Kd.R_lower ho0 (below_size z27_0));replace BK551:=U (blk_below (g:=gb551) (o:=.cells #[.slice A0_0 l0_0.length c0_0,.bool a0_1,.slice A0_2 l0_2.length c0_2] 53 (0,0)) z27_2 hb);replace HB:=U (below_step z27_0 hb);(try clear hb);(try clear hb2);(try clear hk);(try clear hi);(try clear ho0)))
  go_ret2
  exact ⟨_,(by first|rfl|(simp [errW_none,errW_some]<;>rfl)|(simp [*,errW_none,errW_some]<;>rfl)),(by(with_reducible repeat(first|apply Kd.R_alloc|apply Kd.R_drewN|apply Kd.R_drew));exact HO574.out),z27_0⟩
 rw [if_pos c24] at H
 have c24b0:decide (x26_2<(l0_2.length:Int))=true:=dT_ c24
 clear c24
 by_cases c25:0<=x26_2
 rotate_left
 ·rw [if_neg c25] at H
  exact absurd H (by simp)
 rw [if_pos c25] at H
 have c25b0:decide (0<=x26_2)=true:=dT_ c25
 clear c25
 by_cases c26:x26_2<(l0_2.length:Int)
 rotate_left
 ·rw [if_neg c26] at H
  exact absurd H (by simp)
 rw [if_pos c26] at H
 have c26b0:decide (x26_2<(l0_2.length:Int))=true:=dT_ c26
 clear c26
 replace H:=oB_ H
 obtain ⟨⟨t565,t568⟩,A270,H⟩:=H
 replace H:(if x5_2.length<5864062014805 then(gossip_Put.l0 k2 (x5_2++[t565]) l0_2 (l0_2.length:Int) (wrap64 (x26_2+1))) else(none))=some (r1,r2):=H
 have A27:=Aside0.mk A270
 clear A270
 by_cases c28:x5_2.length<5864062014805
 rotate_left
 ·rw [if_neg c28] at H
  exact absurd H (by simp)
 rw [if_pos c28] at H
 have LMc28:=Aside0.mk c28
 clear c28
 obtain ⟨y569,hy569⟩:∃ y_:List (List Int),y_=(x5_2++[t565]):=⟨_,rfl⟩
 replace H:(gossip_Put.l0 k2 y569 l0_2 (l0_2.length:Int) (wrap64 (x26_2+1)))=some (r1,r2):=by first|(rw [hy569];with_reducible exact H)|(have H2_:=(Option.bind_some _ _).symm.trans H;rw [hy569];with_reducible exact H2_)|(have H2_:=(Option.bind_some _ _).symm.trans H;with_reducible exact H2_)|with_reducible exact H|(rw [hy569];exact H)|exact H
 have Ny569:=Aside0.mk hy569
 clear hy569
 have H':=Aside0.mk H
 clear H
 have p563:0<=(x26_2:Int):=oD_ (by first|(with_reducible assumption)|assumption)
 have q563:x26_2<(l0_2.length:Int):=oD_ (by first|(with_reducible assumption)|assumption)
 obtain ⟨ad563,A563_2,c563_2,A563_3,c563_3,e563,hx563_0,hx563_1,hx563_2,hx563_3,hl563_2,hi563_2,hl563_3,hi563_3⟩:=at_T30 HR0_2.out x26_2 p563 q563
 cases e563
 replace hx563_0:=(HB.out.cell (World.block_lt_of_cell? w _ hx563_0)).trans hx563_0
 replace hx563_1:=(HB.out.cell (World.block_lt_of_cell? w _ hx563_1)).trans hx563_1
 replace hx563_2:=(HB.out.cell (World.block_lt_of_cell? w _ hx563_2)).trans hx563_2
 replace hx563_3:=(HB.out.cell (World.block_lt_of_cell? w _ hx563_3)).trans hx563_3
 have HR563_2:=Aside0.mk hi563_2
 have HC563_2:=Aside0.mk hl563_2
 clear hi563_2 hl563_2
 have HR563_3:=Aside0.mk hi563_3
 have HC563_3:=Aside0.mk hl563_3
 clear hi563_3 hl563_3
 replace p563:=eq_true p563
 replace q563:=eq_true q563
 go_wp2_with (first|((with_reducible refine gate_dst (N:=7) rfl ?_);refine box_event ?hg (N:=7) ?hd (cs:=#[.int .i64 0,.int .i64 0,.slice none 0 0,.slice none 0 0]) (t:=30) ?hr ?_;(case hd=>rfl);(case hg=>rfl);(case hr=>exact z10_10);intro gb564 hg w29 hbox hb;replace HO_5:=U (Kd.N_below (Kd.N_elderB (by(with_reducible repeat(first|apply Kd.N_alloc|apply Kd.N_drewN|apply Kd.N_drew));exact HO_5.out) gb564 (Nat.le_of_eq hg.symm)) hb);have BK564:=U (hbox);have GW564:=U ((by rw [hg];exact(below_size z27_0):w.heap.size<=gb564));have GE564:=U ((by rw [hg];exact(below_size z27_0):w.heap.size<=gb564));replace HB:=U (below_step z27_0 hb);have NB551_564:=U ((by rw [hg];exact Nat.ne_of_lt (blk_lt (g:=gb551) (o:=.cells #[.slice A0_0 l0_0.length c0_0,.bool a0_1,.slice (some ad563) l0_2.length c0_2] 53 (0,0)) z27_2):gb551≠gb564));have NB564_551:=U ((by rw [hg];exact Nat.ne_of_gt (blk_lt (g:=gb551) (o:=.cells #[.slice A0_0 l0_0.length c0_0,.bool a0_1,.slice (some ad563) l0_2.length c0_2] 53 (0,0)) z27_2):gb564≠gb551));replace BK551:=U (blk_below (g:=gb551) (o:=.cells #[.slice A0_0 l0_0.length c0_0,.bool a0_1,.slice (some ad563) l0_2.length c0_2] 53 (0,0)) z27_2 hb);clear hb hbox hg;have hnb30:=NB564_551.out;have hnc30:=NB551_564.out;obtain ⟨hcz31_0,hcz31_1,hcz31_2,hcz31_3,hfz31_0,hfz31_1,hfz31_2,hfz31_3⟩:=cz4_ BK564.out)|((with_reducible refine gate_callee (f:=22) rfl ?_);refine goesL_ (some 32) rfl rfl Try.func22 (by kernel_rfl) rfl #[.agg #[.int .i64 ((rd_T30 l0_2 x26_2).f0.f0),.int .i64 ((rd_T30 l0_2 x26_2).f0.f1),.slice A563_2 ((rd_T30 l0_2 x26_2).f1).length c563_2,.slice A563_3 ((rd_T30 l0_2 x26_2).f2).length c563_3]] rfl z6_5 ?_;(with_reducible refine(event_Put.calls k2 ((rd_T30 l0_2 x26_2).f0.f0) ((rd_T30 l0_2 x26_2).f0.f1) _ _ ((rd_T30 l0_2 x26_2).f1) _ _ ((rd_T30 l0_2 x26_2).f2) t565 t568 _ ?side1 ?side2 ?side3 ?side4 A27.out).mono ?_);(case side1=>exact Kd.C_below HR563_2.out z27_3);(case side2=>exact HC563_2.out);(case side3=>exact Kd.C_below HR563_3.out z27_3);(case side4=>exact HC563_3.out);rintro e w32 ⟨v566,rfl,ho0,hb⟩;refine ⟨_,rfl,?_⟩;replace HO_5:=U (Kd.N_elder' (by(with_reducible repeat(first|apply Kd.N_alloc|apply Kd.N_drewN|apply Kd.N_drew));exact(Kd.N_mono (Kd.N_far (p:=⟨gb564,3,none⟩) (Kd.N_far (p:=⟨gb564,2,none⟩) (Kd.N_far (p:=⟨gb564,1,none⟩) (Kd.N_far (p:=⟨gb564,0,none⟩) (Kd.N_mono HO_5.out (λk_ hk=>(⟨hk,hk.2⟩:_/\k_≠gb564))) (λ_ hk=>hk.2) (.int .i64 ((rd_T30 l0_2 x26_2).f0.f0))) (λ_ hk=>hk.2) (.int .i64 ((rd_T30 l0_2 x26_2).f0.f1))) (λ_ hk=>hk.2) (.slice A563_2 ((rd_T30 l0_2 x26_2).f1).length c563_2)) (λ_ hk=>hk.2) (.slice A563_3 ((rd_T30 l0_2 x26_2).f2).length c563_3)) (λ_ h_=>h_.1))) (Kd.R_base ho0) hb);have HO567:=U (Kd.R_lower ho0 (below_size z27_3));replace BK551:=U (blk_below (g:=gb551) (o:=.cells #[.slice A0_0 l0_0.length c0_0,.bool a0_1,.slice (some ad563) l0_2.length c0_2] 53 (0,0)) (by(with_reducible repeat(first|refine blk_drewN ?_ _|refine blk_drew ?_|refine blk_alloc ?_ _));refine blk_far ?_ NB551_564.out _;(with_reducible repeat(first|refine blk_drewN ?_ _|refine blk_drew ?_|refine blk_alloc ?_ _));refine blk_far ?_ NB551_564.out _;(with_reducible repeat(first|refine blk_drewN ?_ _|refine blk_drew ?_|refine blk_alloc ?_ _));refine blk_far ?_ NB551_564.out _;(with_reducible repeat(first|refine blk_drewN ?_ _|refine blk_drew ?_|refine blk_alloc ?_ _));refine blk_far ?_ NB551_564.out _;(with_reducible repeat(first|refine blk_drewN ?_ _|refine blk_drew ?_|refine blk_alloc ?_ _));exact BK551.out) hb);replace BK564:=U (blk_below (g:=gb564) (o:=.cells #[.int .i64 ((rd_T30 l0_2 x26_2).f0.f0),.int .i64 ((rd_T30 l0_2 x26_2).f0.f1),.slice A563_2 ((rd_T30 l0_2 x26_2).f1).length c563_2,.slice A563_3 ((rd_T30 l0_2 x26_2).f2).length c563_3] 30 (0,0)) (by(with_reducible repeat(first|refine blk_drewN ?_ _|refine blk_drew ?_|refine blk_alloc ?_ _));refine blk_put (cs:=#[.int .i64 ((rd_T30 l0_2 x26_2).f0.f0),.int .i64 ((rd_T30 l0_2 x26_2).f0.f1),.slice A563_2 ((rd_T30 l0_2 x26_2).f1).length c563_2,.slice none 0 0]) ?_ 3 _ rfl;(with_reducible repeat(first|refine blk_drewN ?_ _|refine blk_drew ?_|refine blk_alloc ?_ _));refine blk_put (cs:=#[.int .i64 ((rd_T30 l0_2 x26_2).f0.f0),.int .i64 ((rd_T30 l0_2 x26_2).f0.f1),.slice none 0 0,.slice none 0 0]) ?_ 2 _ rfl;(with_reducible repeat(first|refine blk_drewN ?_ _|refine blk_drew ?_|refine blk_alloc ?_ _));refine blk_put (cs:=#[.int .i64 ((rd_T30 l0_2 x26_2).f0.f0),.int .i64 0,.slice none 0 0,.slice none 0 0]) ?_ 1 _ rfl;(with_reducible repeat(first|refine blk_drewN ?_ _|refine blk_drew ?_|refine blk_alloc ?_ _));refine blk_put (cs:=#[.int .i64 0,.int .i64 0,.slice none 0 0,.slice none 0 0]) ?_ 0 _ rfl;(with_reducible repeat(first|refine blk_drewN ?_ _|refine blk_drew ?_|refine blk_alloc ?_ _));exact BK564.out) hb);replace HB:=U (below_step z27_3 hb);(try clear hb);(try clear hb2);(try clear hk);(try clear hi);(try clear ho0);obtain ⟨Ao34,co34,eo34⟩:=Kd.R_slice HO567.out;subst eo34)|((with_reducible refine gate_builtin (b:=.append) (xs:=#[.tmp 35,.tmp 37]) rfl ?_);at_builtin;refine Kd.N_append (Kd.slice 5 (Kd.int .u8)) (w0:=w) w.heap.size rfl (.tmp 35) (.tmp 37) 73 22 (.slice none 0 0) 24 rfl Try.underlying73 info22 rfl (by decide) (by omega) u5 x5_2 t565 [.slice Ao34 t565.length co34] (λk_=>k_≠gb551/\k_≠gb564) (λk_=>((λk_=>k_≠gb551/\k_≠gb564)) k_/\some k_≠(u5:Value).ownBlock) rfl rfl ?aP (λ_ hk=>hk) ?aF ?aO ?aB ?aS ?aL ?_;(case aP=>exact(by first|(obtain ⟨A_,c_,e_⟩:=Kd.R_slice HO567.out;have hq_:=HO567.out;rw [e_] at hq_ ⊢;exact Kd.FK_slice_mk (Kd.R_reads' (Kd.R_mono (ok':=(λk_=>((λk_=>k_≠gb551/\k_≠gb564)) k_/\some k_≠(u5:Value).ownBlock)) (Kd.R_types (Kd.R_types (Kd.R_apart' (hq_) (Kd.N_typed HO_5.out) (by decide)) BK551.out (by decide)) BK564.out (by decide)) (λk_ hk=>⟨⟨hk.1.2,hk.2⟩,hk.1.1.2⟩))).2.1 (Kd.R_F (Kd.R_mono (ok':=(λk_=>((λk_=>k_≠gb551/\k_≠gb564)) k_/\some k_≠(u5:Value).ownBlock)) (Kd.R_types (Kd.R_types (Kd.R_apart' (hq_) (Kd.N_typed HO_5.out) (by decide)) BK551.out (by decide)) BK564.out (by decide)) (λk_ hk=>⟨⟨hk.1.2,hk.2⟩,hk.1.1.2⟩))))|exact Kd.FK_slice_mk (Kd.R_reads' (Kd.R_mono (ok':=(λk_=>((λk_=>k_≠gb551/\k_≠gb564)) k_/\some k_≠(u5:Value).ownBlock)) (Kd.R_types (Kd.R_types (Kd.R_apart' (HO567.out) (Kd.N_typed HO_5.out) (by decide)) BK551.out (by decide)) BK564.out (by decide)) (λk_ hk=>⟨⟨hk.1.2,hk.2⟩,hk.1.1.2⟩))).2.1 (Kd.R_F (Kd.R_mono (ok':=(λk_=>((λk_=>k_≠gb551/\k_≠gb564)) k_/\some k_≠(u5:Value).ownBlock)) (Kd.R_types (Kd.R_types (Kd.R_apart' (HO567.out) (Kd.N_typed HO_5.out) (by decide)) BK551.out (by decide)) BK564.out (by decide)) (λk_ hk=>⟨⟨hk.1.2,hk.2⟩,hk.1.1.2⟩)))));(case aB=>exact z27_3);(case aF=>exact(λk_ hk=>⟨Kd.freshB (g:=gb551) (o:=.cells #[.slice A0_0 l0_0.length c0_0,.bool a0_1,.slice (some ad563) l0_2.length c0_2] 53 (0,0)) z27_2 k_ hk,Kd.freshB (g:=gb564) (o:=.cells #[.int .i64 ((rd_T30 l0_2 x26_2).f0.f0),.int .i64 ((rd_T30 l0_2 x26_2).f0.f1),.slice A563_2 ((rd_T30 l0_2 x26_2).f1).length c563_2,.slice A563_3 ((rd_T30 l0_2 x26_2).f2).length c563_3] 30 (0,0)) z27_11 k_ hk⟩));(case aO=>exact(by(with_reducible repeat(first|apply Kd.N_alloc|apply Kd.N_drewN|apply Kd.N_drew));exact Kd.N_mono HO_5.out (λ_ hk=>⟨hk.1.1,hk.1.2⟩)));(case aS=>exact(below_size z27_3));(case aL=>have:=LMc28.out;omega);intro v570 w33 ho hb hg hat;rw [<-Ny569.out] at ho;replace BK551:=U (blk_grown (g:=gb551) (o:=.cells #[.slice A0_0 l0_0.length c0_0,.bool a0_1,.slice (some ad563) l0_2.length c0_2] 53 (0,0)) z27_2 hg (Kd.N_ne HO_5.out BK551.out (by decide)));replace BK564:=U (blk_grown (g:=gb564) (o:=.cells #[.int .i64 ((rd_T30 l0_2 x26_2).f0.f0),.int .i64 ((rd_T30 l0_2 x26_2).f0.f1),.slice A563_2 ((rd_T30 l0_2 x26_2).f1).length c563_2,.slice A563_3 ((rd_T30 l0_2 x26_2).f2).length c563_3] 30 (0,0)) z27_11 hg (Kd.N_ne HO_5.out BK564.out (by decide)));replace HB:=U (hb);have HO571:=U (ho);clear HO_5 HO567;clear ho hb hg hat))
 go_roundg k2
 case measure=>have:=HJ3.out;have:=HK2.out;omega
 case rel=>exact ⟨(y569),(wrap64 (x26_2+1)),(by first|rfl|(simp;done)|(simp [*];done)),H',⟨(by have:=HJ3.out;have:=HK2.out;omega)⟩,⟨(by(with_reducible repeat(first|apply Kd.N_alloc|apply Kd.N_drewN|apply Kd.N_drew));exact Kd.N_mono HO571.out (λ_ hk=>hk.1))⟩,⟨z27_2⟩,⟨z27_3⟩⟩
def w28_awake.ev:S30:=⟨⟨1,2⟩,[1],[(⟨1,0,(⟨#[107]⟩:ByteArray),0,0,(⟨#[]⟩:ByteArray)⟩:S48)]⟩
def w28_awake.f (k:Nat):Option Bool :=
 (gossip_Lacks.f k [w28_awake.ev] [1] 5).bind λo=>(gossip_Put.f k [1] true []).bind λb=>(gossip_Get.f k b.1).bind λx =>
  some ((o.length:Int) == 1 && b.2 == 0 && x.2.2.2 == 0 && x.2.1 && (x.1.length:Int) == 1)
theorem w28_awake.mono:∀ k,LeO (w28_awake.f k) (w28_awake.f (k+1)):=by
 intro k
 unfold w28_awake.f
 repeat' first
  | (with_reducible exact LeO.refl _)
  | (with_reducible exact gossip_Lacks.mono _ _ _ _)
  | (with_reducible exact gossip_Put.mono _ _ _ _)
  | (with_reducible exact gossip_Get.mono _ _)
  | (with_reducible refine LeO.bind ?_ (λ_=>?_))
open Go.Proofs.Ytgocnchjpecafaa.Cards Go.Proofs.Ytgocnchjpecafaa.Hand in
theorem w28_awake.calls (k:Nat) (r:Bool) (w:World) (h:w28_awake.f k=some r) :
  Calls Try.prog 29 #[] w λe w'=>e = .returned (.bool r)/\Below w.heap.size w w':=by
 have hu53:=Try.underlying53
 have hu30:=Try.underlying30
 have hu25:=Try.underlying25
 have hu48:=Try.underlying48
 have HB:=U (Below.refl w.heap.size w)
 have HH:=h
 clear h
 unfold w28_awake.f at HH
 replace HH:=oB_ HH
 obtain ⟨o,h1,HH⟩:=HH
 replace HH:=oB_ HH
 obtain ⟨⟨b,e1⟩,h2,HH⟩:=HH
 replace HH:=oB_ HH
 obtain ⟨⟨p,q,es,e2⟩,h3,HH⟩:=HH
 have H1:=Aside0.mk h1
 have H2:=Aside0.mk h2
 have H3:=Aside0.mk h3
 have H:=Aside0.mk HH
 clear h1 h2 h3 HH
 go_enter Try.func29,Try.ntmps29
 go_upto_region 2 with (first|((with_reducible refine gate_dst (N:=8) rfl ?_);refine Kd.R_lit (Kd.int .i64) _ 3 ?hg (N:=8) ?hd (xs:=([1]:List Int)) (inner:=[.int .i64 1]) (ok:=λ_=>True) (okp:=λ_=>True) ?hr ?hp (λ_ hk=>hk) trivial (Below.refl _ _) (Nat.le_refl _) (by simp) ?_;(case hd=>rfl);(case hg=>rfl);(case hr=>exact z10_10);(case hp=>exact z27_9);intro v8 w8 ho8 hb hg_ hnew_;clear hg_ hnew_;replace HB:=U (below_step z9_4 hb);clear hb;obtain ⟨A8,c8,e8⟩:=Kd.R_slice ho8;subst e8;have HA:=U (R_Ft ho8).2.2;have CA:=U (R_Ft ho8).2.1;clear ho8)|((with_reducible refine gate_dst (N:=10) rfl ?_);refine Kd.R_lit k48 _ 48 ?hg (N:=10) ?hd (xs:=([(⟨1,0,(⟨#[107]⟩:ByteArray),0,0,(⟨#[]⟩:ByteArray)⟩:S48)]:List (S48))) (inner:=[.int .i64 1,.int .i64 0,.string (⟨#[107]⟩:ByteArray),.int .i64 0,.int .i64 0,.string (⟨#[]⟩:ByteArray)]) (ok:=λ_=>True) (okp:=λ_=>True) ?hr ?hp (λ_ hk=>hk) trivial (Below.refl _ _) (Nat.le_refl _) (by simp) ?_;(case hd=>rfl);(case hg=>rfl);(case hr=>exact z10_10);(case hp=>exact(Reps.c6 (show Kd.M k48 _ _ _ (⟨1,0,(⟨#[107]⟩:ByteArray),0,0,(⟨#[]⟩:ByteArray)⟩:S48) [.int .i64 1,.int .i64 0,.string (⟨#[107]⟩:ByteArray),.int .i64 0,.int .i64 0,.string (⟨#[]⟩:ByteArray)] from(k48_mkM _ _ _ (⟨1,0,(⟨#[107]⟩:ByteArray),0,0,(⟨#[]⟩:ByteArray)⟩:S48))) (Reps.none _ _)));intro v10 w10 ho10 hb hg_ hnew_;clear hg_ hnew_;replace HB:=U (below_step z9_4 hb);replace HA:=U (Ft_below z27_10 hb);clear hb;obtain ⟨A10,c10,e10⟩:=Kd.R_slice ho10;subst e10;have HE:=U (R_Ft ho10).2.2;have CE:=U (R_Ft ho10).2.1;clear ho10)|((with_reducible refine gate_dst (N:=1) rfl ?_);refine box_event ?hg (N:=1) ?hd (cs:=#[.int .i64 0,.int .i64 0,.slice none 0 0,.slice none 0 0]) (t:=30) ?hr ?_;(case hd=>rfl);(case hg=>rfl);(case hr=>exact z10_10);intro gb hg w3 hbox hb;have n1:=U (below_step z9_4 hb);have n2:=U (Ft_below z27_10 hb);have n3:=U (Ft_below (by(with_reducible repeat(first|refine Ft_alloc ?_ _|refine Ft_drew ?_));exact HE.out) hb);have GE:=U (show w.heap.size<=gb from hg ▸ below_size z9_4);have BK:=Aside0.mk hbox;clear HB HA HE hb hbox hg;have HB:=n1;have HA:=n2;have HE:=n3;clear n1 n2 n3;obtain ⟨hz0,hz1,hz2,hz3,hf0,hf1,hf2,hf3⟩:=cz4_ BK.out))
 clear hz0 hz1 hz2 hz3 hf0 hf1 hf2 hf3
 have TB:=typed_of_block BK.out
 have n0:=U (put4 (a':=.int .i64 1) (b':=.int .i64 2) (c':=.slice A8 1 c8) (d':=.slice A10 1 c10) BK.out)
 have n1:=U (below_put4 (a':=.int .i64 1) (b':=.int .i64 2) (c':=.slice A8 1 c8) (d':=.slice A10 1 c10) HB.out GE.out)
 have n2:=U (Ft_set (i:=3) (Ft_set (i:=2) (Ft_set (i:=1) (Ft_set (i:=0) HA.out TB (by decide) (.int .i64 1)) (typed_set TB) (by decide) (.int .i64 2)) (typed_set (typed_set TB)) (by decide) (.slice A8 1 c8)) (typed_set (typed_set (typed_set TB))) (by decide) (.slice A10 1 c10))
 have n3:=U (Ft_set (i:=3) (Ft_set (i:=2) (Ft_set (i:=1) (Ft_set (i:=0) HE.out TB (by decide) (.int .i64 1)) (typed_set TB) (by decide) (.int .i64 2)) (typed_set (typed_set TB)) (by decide) (.slice A8 1 c8)) (typed_set (typed_set (typed_set TB))) (by decide) (.slice A10 1 c10))
 clear HB HA HE BK TB
 generalize (((w3.setCell ⟨gb,0,none⟩ (.int .i64 1)).setCell ⟨gb,1,none⟩ (.int .i64 2)).setCell ⟨gb,2,none⟩ (.slice A8 1 c8)).setCell ⟨gb,3,none⟩ (.slice A10 1 c10)=w4 at n0 n1 n2 n3 ⊢
 have BK:=n0;have HB:=n1;have HA:=n2;have HE:=n3
 clear n0 n1 n2 n3
 obtain ⟨hz0,hz1,hz2,hz3,_,_,_,_⟩:=cz4_ BK.out
 go_upto_region 3 with (first|((with_reducible refine gate_dst (N:=13) rfl ?_);refine Kd.N_lit k30 _ 30 ?hg (N':=13) ?hd (xs:=[w28_awake.ev]) (inner:=[.int .i64 1,.int .i64 2,.slice A8 1 c8,.slice A10 1 c10]) (ok:=λ_=>True) (okp:=λ_=>True) ?hr ?hp (λ_ hk=>hk) trivial (Below.refl _ _) (Nat.le_refl _) (by simp) ?_;(case hd=>rfl);(case hg=>rfl);(case hr=>exact z10_10);(case hp=>exact(Reps.c4 (show Kd.FK k30 _ _ w28_awake.ev [.int .i64 1,.int .i64 2,.slice A8 1 c8,.slice A10 1 c10] from(k30_mkF _ _ w28_awake.ev (show 1<=c8 from CA.out) (show Kd.F (Kd.int .i64) _ (λ_=>True) A8 1 [1] from Kd.F_mono z27_10 (λ_ _=>trivial)) (show 1<=c10 from CE.out) (show Kd.F k48 _ (λ_=>True) A10 1 [(⟨1,0,(⟨#[107]⟩:ByteArray),0,0,(⟨#[]⟩:ByteArray)⟩:S48)] from Kd.F_mono (by(with_reducible repeat(first|refine Ft_alloc ?_ _|refine Ft_drew ?_));exact HE.out) (λ_ _=>trivial)))) (Reps.none _ _)));intro v13 w13 ho13 hb hg_ hnew_;clear hg_ hnew_;replace HB:=U (below_step z9_4 hb);clear hb HA HE BK hz0 hz1 hz2 hz3;obtain ⟨A13,c13,e13⟩:=Kd.N_slice ho13;subst e13;have HV:=U (Kd.N_reads' ho13);clear ho13)|((with_reducible refine gate_dst (N:=14) rfl ?_);refine Kd.R_lit (Kd.int .i64) _ 3 ?hg (N:=14) ?hd (xs:=([1]:List Int)) (inner:=[.int .i64 1]) (ok:=λ_=>True) (okp:=λ_=>True) ?hr ?hp (λ_ hk=>hk) trivial (Below.refl _ _) (Nat.le_refl _) (by simp) ?_;(case hd=>rfl);(case hg=>rfl);(case hr=>exact z10_10);(case hp=>exact z27_9);intro v14 w14 ho14 hb hg_ hnew_;clear hg_ hnew_;replace HB:=U (below_step z9_4 hb);have CV:=Aside0.mk HV.out.2.1;replace HV:=U (Kd.C_below (by(with_reducible repeat(first|refine Kd.C_alloc ?_ _|refine Kd.C_drewN ?_ _|refine Kd.C_drew ?_));exact HV.out.2.2) hb);clear hb;obtain ⟨A14,c14,e14⟩:=Kd.R_slice ho14;subst e14;have HA:=U (Kd.R_reads' ho14);clear ho14)|(go_at_call 36;(refine(gossip_Lacks.calls k _ _ [w28_awake.ev] _ _ [1] 5 o _ ?s1 ?s2 ?s3 ?s4 H1.out).mono ?_);(case s1=>(with_reducible repeat(first|refine Kd.C_alloc ?_ _|refine Kd.C_drewN ?_ _|refine Kd.C_drew ?_));exact HV.out);(case s2=>exact CV.out);(case s3=>exact z27_7);(case s4=>exact HA.out.2.1);rintro e w15 ⟨v15,rfl,ho,hb⟩;replace HB:=U (below_step z9_4 hb);clear HV HA CV hb;obtain ⟨A15,c15,e15⟩:=Kd.N_slice ho;subst e15;clear ho))
 go_upto_region 4 with (first|((with_reducible refine gate_dst (N:=17) rfl ?_);refine Kd.R_lit (Kd.int .i64) _ 3 ?hg (N:=17) ?hd (xs:=([1]:List Int)) (inner:=[.int .i64 1]) (ok:=λ_=>True) (okp:=λ_=>True) ?hr ?hp (λ_ hk=>hk) trivial (Below.refl _ _) (Nat.le_refl _) (by simp) ?_;(case hd=>rfl);(case hg=>rfl);(case hr=>exact z10_10);(case hp=>exact z27_9);intro v14 w14 ho14 hb hg_ hnew_;clear hg_ hnew_;replace HB:=U (below_step z9_4 hb);clear hb;obtain ⟨A17,c17,e17⟩:=Kd.R_slice ho14;subst e17;have HA:=U (Kd.R_reads' ho14);clear ho14)|(go_at_call 38;(refine(gossip_Put.calls k _ _ [1] true _ _ [] b e1 _ ?s1 ?s2 ?s3 ?s4 H2.out).mono ?_);(case s1=>exact z27_7);(case s2=>exact HA.out.2.1);(case s3=>exact Kd.C_nil _ _);(case s4=>exact Nat.le_refl _);rintro e w19 ⟨v19,rfl,ho,hb⟩;replace HB:=U (below_step z9_4 hb);clear HA hb;obtain ⟨A19,c19,e19⟩:=Kd.R_slice ho;subst e19;have HA:=U (Kd.R_reads' ho);clear ho))
 go_upto_region 5 with (first|(go_at_call 30;(refine(gossip_Get.calls k _ _ b p q es e2 _ ?s1 ?s2 H3.out).mono ?_);(case s1=>exact z27_7);(case s2=>exact HA.out.2.1);rintro e w24 ⟨v24,u24,rfl,ho,hn,hb⟩;replace HB:=U (below_step z9_4 hb);clear HA hb;obtain ⟨A24,c24,e24⟩:=Kd.R_slice ho;subst e24;obtain ⟨B24,d24,f24⟩:=Kd.N_slice hn;subst f24;clear ho hn))
 have BX:=U (heap_alloc_new w24 (.cells #[.slice A24 p.length c24,.bool q,.slice B24 es.length d24] 53))
 have hb:=below_alloc (Below.refl w24.heap.size w24) (.cells #[.slice A24 p.length c24,.bool q,.slice B24 es.length d24] 53)
 generalize w24.alloc (.cells #[.slice A24 p.length c24,.bool q,.slice B24 es.length d24] 53)=w25 at BX hb ⊢
 generalize w24.heap.size=gx at BX ⊢
 have n1:=U (below_step HB.out hb)
 clear HB hb
 have HB:=n1
 clear n1
 have hx0:=(blk_cell BX.out 0).trans (rfl:_=some (Value.slice A24 p.length c24));have hx1:=(blk_cell BX.out 1).trans (rfl:_=some (Value.bool q))
 clear H1 H2 H3
 have HH:=H.out
 clear H
 (try simp only at HH)
 obtain rfl:=sI_ HH
 clear HH
 cases hb1:((o.length:Int) == 1) with
 | false =>
  go_wp2
  go_ret
  exact ⟨(by simp [hb1]),HB.out⟩
 | true =>
 cases hb2:(e1 == 0) with
 | false =>
  go_wp2
  go_ret
  exact ⟨(by simp [hb1,hb2]),HB.out⟩
 | true =>
 cases hb3:(e2 == 0) with
 | false =>
  go_wp2
  go_ret
  exact ⟨(by simp [hb1,hb2,hb3]),HB.out⟩
 | true =>
 cases q with
 | false =>
  go_wp2
  go_ret
  exact ⟨(by simp [hb1,hb2,hb3]),HB.out⟩
 | true =>
  go_wp2
  go_ret
  exact ⟨(by simp [hb1,hb2,hb3]),HB.out⟩
end Go.Proofs.Ytgocnchjpecafaa.PEv

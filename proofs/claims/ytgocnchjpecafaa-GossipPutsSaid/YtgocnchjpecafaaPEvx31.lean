/- a part -/
import Derived.Test.YtgocnchjpecafaaPEvx21
import Derived.Test.YtgocnchjpecafaaPEvx30
namespace Go.Proofs.Ytgocnchjpecafaa.PEv
open Go.RowKit Go.Proofs.YtgocnchjpecafaaW.PrintWords Go.Proofs.YtgocnchjpecafaaW.PrintLast Go.Proofs.YtgocnchjpecafaaW.PrintMore
attribute [local go_sem] max2_int min2_int max_two min_two max_three min_three max_four min_four
set_option linter.unusedVariables false
set_option linter.unusedSimpArgs false
set_option maxHeartbeats 8000000
set_option maxRecDepth 100000
theorem z31_0 {P:Prop} (h:P:=by repeat(first|(with_reducible first|exact HB.out|apply below_alloc|apply pw_below_drewN|apply below_drew1|refine below_set ?_ GE666.out|refine below_set ?_ GE667.out)|exact HB.out)):P:=h
theorem z31_1 {P:Prop} (h:P:=by(with_reducible repeat(first|refine blk_drewN ?_ _|refine blk_drew ?_|refine blk_alloc ?_ _));exact BK666.out):P:=h
theorem z31_2 {P:Prop} (h:P:=by(with_reducible repeat(first|refine blk_drewN ?_ _|refine blk_drew ?_|refine blk_alloc ?_ _));exact BK667.out):P:=h
theorem z31_4 {P:Prop} (h:P:=by repeat(first|(with_reducible first|exact HB.out|apply below_alloc|apply pw_below_drewN|apply below_drew1|refine below_set ?_ GE666.out|refine below_set ?_ GE667.out|refine below_set ?_ GE687.out)|exact HB.out)):P:=h
theorem z31_8 {P:Prop} (h:P:=by repeat(first|(with_reducible first|exact HB.out|apply below_alloc|apply pw_below_drewN|apply below_drew1|refine below_set ?_ GE662.out)|exact HB.out)):P:=h
theorem z31_9 {P:Prop} (h:P:=by(with_reducible repeat(first|apply Kd.R_alloc|apply Kd.R_drewN|apply Kd.R_drew));exact HO673.out):P:=h
theorem z31_11 {P:Prop} (h:P:=by(with_reducible repeat(first|refine blk_drewN ?_ _|refine blk_drew ?_|refine blk_alloc ?_ _));exact BK662.out):P:=h
theorem z31_12 {P:Prop} (h:P:=by repeat(first|(with_reducible first|exact HB.out|apply below_alloc|apply pw_below_drewN|apply below_drew1|refine below_set ?_ GE662.out|refine below_set ?_ GE663.out)|exact HB.out)):P:=h
theorem z31_16 {P:Prop} (h:P:=by(with_reducible repeat(first|apply Kd.R_alloc|apply Kd.R_drewN|apply Kd.R_drew));exact(Kd.R_mono (Kd.R_far (p:=⟨gb687,2,none⟩) (Kd.R_far (p:=⟨gb687,1,none⟩) (Kd.R_far (p:=⟨gb687,0,none⟩) (Kd.R_types HO673.out BK687.out (by decide)) (fun _ hk=>hk.2) (.slice Ao52 t679.length co52)) (fun _ hk=>hk.2) (.bool t682)) (fun _ hk=>hk.2) (.slice Ao56 t683.length co56)) (fun _ h_=>h_.1))):P:=h
theorem z31_17 {P:Prop} (h:P:=by repeat(first|(with_reducible first|exact HB.out|apply below_alloc|apply pw_below_drewN|apply below_drew1|refine below_set ?_ GE666.out)|exact HB.out)):P:=h
theorem z31_19 {P:Prop} (h:P:=by(with_reducible repeat(first|apply Kd.R_alloc|apply Kd.R_drewN|apply Kd.R_drew));exact HO681.out):P:=h
theorem z31_20 {P:Prop} (h:P:=by(with_reducible repeat(first|apply Kd.N_alloc|apply Kd.N_drewN|apply Kd.N_drew));exact HO685.out):P:=h
theorem z31_22 {P:Prop} (h:P:=by repeat(first|exact(Kd.R_reads' HO673.out).2.2|(with_reducible refine Kd.C_alloc ?_ _)|(with_reducible refine Kd.C_drewN ?_ _)|(with_reducible refine Kd.C_drew ?_))):P:=h
theorem z31_24 {P:Prop} (h:P:=by show Act.put _ (some 28) _=_;simp only [Act.put,List.setIfInBounds_toArray,List.set_cons_zero,List.set_cons_succ,i64_w,i32_w];rfl):P:=h
theorem z31_25 {P:Prop} (h:P:=by(with_reducible repeat(first|refine blk_drewN ?_ _|refine blk_drew ?_|refine blk_alloc ?_ _));exact BK687.out):P:=h
def api_Event_85.all (k:Nat):List S30→List S30→Option Bool
 | x :: l,y :: m=>(event_Same.f k x.f0.f0 x.f0.f1 x.f1 x.f2 y.f0.f0 y.f0.f1 y.f1 y.f2).bind fun t=>if t=true then api_Event_85.all k l m else some false
 | [],_=>some true
 | _ :: _,[]=>some true
def api_Event_85.f (k:Nat) (l m:List S30):Option Bool:=if l.length=m.length then api_Event_85.all k l m else some false
theorem api_Event_85.calls (k:Nat) (A0:Option Addr) (c0:Nat) (l0:List S30) (A1:Option Addr) (c1:Nat) (l1:List S30) (r:Bool) (w:World) (hr0:Kd.C k30 w A0 l0.length l0) (hc0:l0.length≤c0) (hr1:Kd.C k30 w A1 l1.length l1) (hc1:l1.length≤c1) (h:api_Event_85.f k l0 l1=some r) :
  Calls Try.prog 85 #[.slice A0 l0.length c0,.slice A1 l1.length c1,.func (.func 26) #[] #[]] w fun e w'=>e = .returned (.bool r)∧Below w.heap.size w w':=by
 have hu30:=Try.underlying30
 have HR:=Aside0.mk hr0
 have HS:=Aside0.mk hr1
 have hn:l0.length≤9223372036854775807:=hr0.2.1
 have HH:=Aside0.mk h
 clear hr0 h hr1 hc0 hc1
 go_enter Try.func85,Try.ntmps85
 by_cases hlen:l0.length=l1.length
 rotate_left
 ·have h:=HH.out
  unfold api_Event_85.f at h
  rw [if_neg hlen] at h
  obtain rfl:=Option.some.inj h
  have hz:¬ (l0.length:Int)=(l1.length:Int):=by omega
  go_wp2
  go_ret
  exact ⟨rfl,Below.refl _ _⟩
 have h:=HH.out
 unfold api_Event_85.f at h
 rw [if_pos hlen] at h
 have HA0:=Aside0.mk h
 have hz:(l0.length:Int)=(l1.length:Int):=by omega
 clear h HH
 go_wp2_with fail
 have HLEN:=Aside0.mk hlen
 clear hz hlen
 go_loopg [17] l0.length (fun gg s17 wr=>∃ kk:Nat,kk≤l0.length∧l0.length - kk≤gg∧s17 = .int .i64 kk∧Aside0 (Below w.heap.size w wr)∧Aside0 (api_Event_85.all k (l0.drop kk) (l1.drop kk)=some r))
 case atStart=>exact ⟨0,Nat.zero_le _,(by omega),rfl,⟨Below.refl _ _⟩,HA0⟩
 case round =>
 obtain ⟨kk,hkk,hg,rfl,HB,HA⟩:=hrel
 by_cases hlt:kk<l0.length
 rotate_left
 ·have hltz:¬ (kk:Int)<(l0.length:Int):=by omega
  have hltz1:¬ (kk:Int)<(l1.length:Int):=by have:=HLEN.out;omega
  have ha:=HA.out
  rw [List.drop_eq_nil_of_le (by omega)] at ha
  unfold api_Event_85.all at ha
  obtain rfl:=Option.some.inj ha
  clear ha HA
  go_wp2
  go_ret
  exact ⟨rfl,HB.out⟩
 have hltz:(kk:Int)<(l0.length:Int):=by omega
 have hltz1:(kk:Int)<(l1.length:Int):=by have:=HLEN.out;omega
 have hlt1:kk<l1.length:=by have:=HLEN.out;omega
 obtain ⟨ad,A2,c2,A3,c3,e_,f0,f1,f2,f3,m2,o2,m3,o3⟩:=at_T30 (Kd.C_below HR.out HB.out) (kk:Int) (by omega) hltz
 subst e_
 have ha:=HA.out
 rw [List.drop_eq_getElem_cons hlt,List.drop_eq_getElem_cons hlt1] at ha
 unfold api_Event_85.all at ha
 have hx:rd_T30 l0 (kk:Int)=l0[kk]:=by
  unfold rd_T30
  rw [Int.toNat_natCast,List.getD_eq_getElem?_getD,List.getElem?_eq_getElem hlt]
  rfl
 have hy:rd_T30 l1 (kk:Int)=l1[kk]:=by
  unfold rd_T30
  rw [Int.toNat_natCast,List.getD_eq_getElem?_getD,List.getElem?_eq_getElem hlt1]
  rfl
 rw [hx] at f0 f1 f2 f3 m2 o2 m3 o3
 simp only [Int.toNat_natCast] at f0 f1 f2 f3
 generalize l0[kk]=x at ha f0 f1 f2 f3 m2 o2 m3 o3
 have K2:=Aside0.mk m2;have G2:=Aside0.mk o2;have K3:=Aside0.mk m3;have G3:=Aside0.mk o3
 have HH:=Aside0.mk ha
 clear m2 o2 m3 o3 ha hx HA
 go_upto_region 6 with (fail)
 have BX:=U (heap_alloc_new wr (.cells #[.int .i64 x.f0.f0,.int .i64 x.f0.f1,.slice A2 x.f1.length c2,.slice A3 x.f2.length c3] 30))
 have hb:=below_alloc (Below.refl wr.heap.size wr) (.cells #[.int .i64 x.f0.f0,.int .i64 x.f0.f1,.slice A2 x.f1.length c2,.slice A3 x.f2.length c3] 30)
 obtain ⟨bx,hbx⟩:∃ bx,bx=wr.heap.size:=⟨_,rfl⟩
 generalize wr.alloc (.cells #[.int .i64 x.f0.f0,.int .i64 x.f0.f1,.slice A2 x.f1.length c2,.slice A3 x.f2.length c3] 30)=w2 at BX hb ⊢
 rw [←hbx] at BX ⊢
 have n1:=U (below_step HB.out hb)
 have G2':=U (Kd.C_below G2.out hb);have G3':=U (Kd.C_below G3.out hb)
 clear HB hb f0 f1 f2 f3 hbx G2 G3
 have HB:=n1
 clear n1
 obtain ⟨bd,B2,d2,B3,d3,e_,g0,g1,g2,g3,m2,o2,m3,o3⟩:=at_T30 (Kd.C_below HS.out HB.out) (kk:Int) (by omega) hltz1
 subst e_
 rw [hy] at g0 g1 g2 g3 m2 o2 m3 o3
 simp only [Int.toNat_natCast] at g0 g1 g2 g3
 have hh:=HH.out
 clear HH
 generalize l1[kk]=y at hh g0 g1 g2 g3 m2 o2 m3 o3
 have M2:=Aside0.mk m2;have O2:=Aside0.mk o2;have M3:=Aside0.mk m3;have O3:=Aside0.mk o3
 have HH:=Aside0.mk hh
 clear m2 o2 m3 o3 hh hy
 go_upto_region 7 with (fail)
 have BY:=U (heap_alloc_new w2 (.cells #[.int .i64 y.f0.f0,.int .i64 y.f0.f1,.slice B2 y.f1.length d2,.slice B3 y.f2.length d3] 30))
 have hb:=below_alloc (Below.refl w2.heap.size w2) (.cells #[.int .i64 y.f0.f0,.int .i64 y.f0.f1,.slice B2 y.f1.length d2,.slice B3 y.f2.length d3] 30)
 obtain ⟨bz,hbz⟩:∃ bz,bz=w2.heap.size:=⟨_,rfl⟩
 generalize w2.alloc (.cells #[.int .i64 y.f0.f0,.int .i64 y.f0.f1,.slice B2 y.f1.length d2,.slice B3 y.f2.length d3] 30)=w3 at BY hb ⊢
 rw [←hbz] at BY ⊢
 have n1:=U (below_step HB.out hb)
 have n2:=U (blk_below BX.out hb)
 have q2:=Kd.C_below G2'.out hb;have q3:=Kd.C_below G3'.out hb;have p2:=Kd.C_below O2.out hb;have p3:=Kd.C_below O3.out hb
 clear HB hb g0 g1 g2 g3 hbz BX G2' G3' O2 O3
 have HB:=n1;have BX:=n2
 clear n1 n2
 have x0:=(blk_cell BX.out 0).trans (rfl:_=some (Value.int .i64 x.f0.f0));have x1:=(blk_cell BX.out 1).trans (rfl:_=some (Value.int .i64 x.f0.f1));have x2:=(blk_cell BX.out 2).trans (rfl:_=some (Value.slice A2 x.f1.length c2));have x3:=(blk_cell BX.out 3).trans (rfl:_=some (Value.slice A3 x.f2.length c3))
 have y0:=(blk_cell BY.out 0).trans (rfl:_=some (Value.int .i64 y.f0.f0));have y1:=(blk_cell BY.out 1).trans (rfl:_=some (Value.int .i64 y.f0.f1));have y2:=(blk_cell BY.out 2).trans (rfl:_=some (Value.slice B2 y.f1.length d2));have y3:=(blk_cell BY.out 3).trans (rfl:_=some (Value.slice B3 y.f2.length d3))
 obtain ⟨t,ht,ha⟩:=Option.bind_eq_some_iff.1 HH.out
 have hcall:=event_Same.calls k x.f0.f0 x.f0.f1 A2 c2 x.f1 A3 c3 x.f2 y.f0.f0 y.f0.f1 B2 d2 y.f1 B3 d3 y.f2 t w3 q2 K2.out q3 K3.out p2 M2.out p3 M3.out ht
 clear ht HH q2 q3 p2 p3 K2 K3 M2 M3
 cases t with
 | true =>
  rw [if_pos rfl] at ha
  have HA:=Aside0.mk ha
  clear ha
  go_wp2_with (go_at_call 26;(with_reducible refine hcall.mono ?_);rintro e w' ⟨rfl,hb⟩)
  go_roundg (l0.length - (kk+1))
  case measure=>omega
  case rel=>exact ⟨kk+1,(by omega),(by omega),(by go_num),⟨below_step HB.out hb⟩,HA⟩
 | false =>
 rw [if_neg (by decide)] at ha
 obtain rfl:=Option.some.inj ha
 clear ha
 go_wp2_with (go_at_call 26;(with_reducible refine hcall.mono ?_);rintro e w' ⟨rfl,hb⟩)
 go_ret
 exact ⟨rfl,below_step HB.out hb⟩
def gossip_Same.f (k:Nat) (l0_0:List Int) (a0_1:Bool) (l0_2:List (S30)) (l1_0:List Int) (a1_1:Bool) (l1_2:List (S30)):Option (Bool):=if (a0_1 == a1_1)=true then((api_Clock_int_69.f k l0_0 l1_0).bind fun t664=>(if t664=true then((api_Event_85.f k l0_2 l1_2).bind fun t665=>(some t665)) else(some false))) else(some false)
theorem gossip_Same.calls (k:Nat) (A0_0:Option Addr) (c0_0:Nat) (l0_0:List Int) (a0_1:Bool) (A0_2:Option Addr) (c0_2:Nat) (l0_2:List (S30)) (A1_0:Option Addr) (c1_0:Nat) (l1_0:List Int) (a1_1:Bool) (A1_2:Option Addr) (c1_2:Nat) (l1_2:List (S30)) (r:Bool) (w:World) (hr0_0:Kd.C (Kd.int .i64) w A0_0 l0_0.length l0_0) (hc0_0:l0_0.length≤c0_0) (hr0_2:Kd.C k30 w A0_2 l0_2.length l0_2) (hc0_2:l0_2.length≤c0_2) (hr1_0:Kd.C (Kd.int .i64) w A1_0 l1_0.length l1_0) (hc1_0:l1_0.length≤c1_0) (hr1_2:Kd.C k30 w A1_2 l1_2.length l1_2) (hc1_2:l1_2.length≤c1_2) (h:gossip_Same.f k l0_0 a0_1 l0_2 l1_0 a1_1 l1_2=some r) :
  Calls Try.prog 46 #[.agg #[.slice A0_0 l0_0.length c0_0,.bool a0_1,.slice A0_2 l0_2.length c0_2],.agg #[.slice A1_0 l1_0.length c1_0,.bool a1_1,.slice A1_2 l1_2.length c1_2]] w fun e w'=>e = .returned (.bool r)∧Below w.heap.size w w':=by
 have hu53:=Try.underlying53
 have HR0_0:=Aside0.mk hr0_0
 have HC0_0:=Aside0.mk hc0_0
 clear hr0_0 hc0_0
 have HR0_2:=Aside0.mk hr0_2
 have HC0_2:=Aside0.mk hc0_2
 clear hr0_2 hc0_2
 have HR1_0:=Aside0.mk hr1_0
 have HC1_0:=Aside0.mk hc1_0
 clear hr1_0 hc1_0
 have HR1_2:=Aside0.mk hr1_2
 have HC1_2:=Aside0.mk hc1_2
 clear hr1_2 hc1_2
 have HB:=U (Below.refl w.heap.size w)
 have H:(if (a0_1 == a1_1)=true then((api_Clock_int_69.f k l0_0 l1_0).bind fun t664=>(if t664=true then((api_Event_85.f k l0_2 l1_2).bind fun t665=>(some t665)) else(some false))) else(some false))=some r:=h
 clear h
 by_cases c3:(a0_1 == a1_1)=true
 rotate_left
 ·rw [if_neg c3] at H
  have c3b0:(a0_1 == a1_1)=false:=by simpa using c3
  (try(have c3b1:decide (a0_1=a1_1)=false:=by simpa using c3))
  (try(have c3b2:(a0_1 == a1_1)=false:=by simpa using c3))
  (try(have c3b3:¬ (a0_1=a1_1):=by simpa using c3))
  clear c3
  obtain rfl:=Option.some.inj H
  go_enter Try.func46,Try.ntmps46
  go_wp2_with (first|((with_reducible refine gate_dst (N:=2) rfl ?_);refine box_event ?hg (N:=2) ?hd (cs:=#[.slice A0_0 l0_0.length c0_0,.bool a0_1,.slice A0_2 l0_2.length c0_2]) (t:=53) ?hr ?_;(case hd=>rfl);(case hg=>rfl);(case hr=>exact z10_10);intro gb662 hg w18 hbox hb;have BK662:=U (hbox);have GW662:=U ((by rw [hg];exact(below_size z9_4):w.heap.size≤gb662));have GE662:=U ((by rw [hg];exact(below_size z9_4):w.heap.size≤gb662));replace HB:=U (below_step z9_4 hb);clear hb hbox hg)|((with_reducible refine gate_dst (N:=3) rfl ?_);refine box_event ?hg (N:=3) ?hd (cs:=#[.slice A1_0 l1_0.length c1_0,.bool a1_1,.slice A1_2 l1_2.length c1_2]) (t:=53) ?hr ?_;(case hd=>rfl);(case hg=>rfl);(case hr=>exact z10_10);intro gb663 hg w19 hbox hb;have BK663:=U (hbox);have GW663:=U ((by rw [hg];exact(below_size z31_8):w.heap.size≤gb663));have GE663:=U ((by rw [hg];exact(below_size z31_8):w.heap.size≤gb663));replace HB:=U (below_step z31_8 hb);have NB662_663:=U ((by rw [hg];exact Nat.ne_of_lt (blk_lt (g:=gb662) (o:=.cells #[.slice A0_0 l0_0.length c0_0,.bool a0_1,.slice A0_2 l0_2.length c0_2] 53 (0,0)) z31_11):gb662≠gb663));have NB663_662:=U ((by rw [hg];exact Nat.ne_of_gt (blk_lt (g:=gb662) (o:=.cells #[.slice A0_0 l0_0.length c0_0,.bool a0_1,.slice A0_2 l0_2.length c0_2] 53 (0,0)) z31_11):gb663≠gb662));replace BK662:=U (blk_below (g:=gb662) (o:=.cells #[.slice A0_0 l0_0.length c0_0,.bool a0_1,.slice A0_2 l0_2.length c0_2] 53 (0,0)) z31_11 hb);clear hb hbox hg;have hnb20:=NB662_663.out;have hnc20:=NB663_662.out;obtain ⟨hcz21_0,hcz21_1,hcz21_2,hfz21_0,hfz21_1,hfz21_2⟩:=cz3_ BK662.out;obtain ⟨hcz22_0,hcz22_1,hcz22_2,hfz22_0,hfz22_1,hfz22_2⟩:=cz3_ BK663.out))
  go_ret
  exact ⟨z9_2,z31_12⟩
 rw [if_pos c3] at H
 have c3b0:(a0_1 == a1_1)=true:=c3
 (try(have c3b1:decide (a0_1=a1_1)=true:=by simpa using c3))
 (try(have c3b2:(a0_1 == a1_1)=true:=by simpa using c3))
 clear c3
 replace H:=Option.bind_eq_some_iff.mp H
 obtain ⟨t664,A40,H⟩:=H
 replace H:(if t664=true then((api_Event_85.f k l0_2 l1_2).bind fun t665=>(some t665)) else(some false))=some r:=H
 have A4:=Aside0.mk A40
 clear A40
 by_cases c5:t664=true
 rotate_left
 ·replace c5:=Bool.eq_false_iff.mpr c5
  subst c5
  have H1:(some false)=some r:=by rw [if_neg (show ¬ (false=true) by decide)] at H;exact H
  clear H
  have H:=H1
  clear H1
  obtain rfl:=Option.some.inj H
  go_enter Try.func46,Try.ntmps46
  go_wp2_with (first|((with_reducible refine gate_dst (N:=2) rfl ?_);refine box_event ?hg (N:=2) ?hd (cs:=#[.slice A0_0 l0_0.length c0_0,.bool a0_1,.slice A0_2 l0_2.length c0_2]) (t:=53) ?hr ?_;(case hd=>rfl);(case hg=>rfl);(case hr=>exact z10_10);intro gb662 hg w13 hbox hb;have BK662:=U (hbox);have GW662:=U ((by rw [hg];exact(below_size z9_4):w.heap.size≤gb662));have GE662:=U ((by rw [hg];exact(below_size z9_4):w.heap.size≤gb662));replace HB:=U (below_step z9_4 hb);clear hb hbox hg)|((with_reducible refine gate_dst (N:=3) rfl ?_);refine box_event ?hg (N:=3) ?hd (cs:=#[.slice A1_0 l1_0.length c1_0,.bool a1_1,.slice A1_2 l1_2.length c1_2]) (t:=53) ?hr ?_;(case hd=>rfl);(case hg=>rfl);(case hr=>exact z10_10);intro gb663 hg w14 hbox hb;have BK663:=U (hbox);have GW663:=U ((by rw [hg];exact(below_size z31_8):w.heap.size≤gb663));have GE663:=U ((by rw [hg];exact(below_size z31_8):w.heap.size≤gb663));replace HB:=U (below_step z31_8 hb);have NB662_663:=U ((by rw [hg];exact Nat.ne_of_lt (blk_lt (g:=gb662) (o:=.cells #[.slice A0_0 l0_0.length c0_0,.bool a0_1,.slice A0_2 l0_2.length c0_2] 53 (0,0)) z31_11):gb662≠gb663));have NB663_662:=U ((by rw [hg];exact Nat.ne_of_gt (blk_lt (g:=gb662) (o:=.cells #[.slice A0_0 l0_0.length c0_0,.bool a0_1,.slice A0_2 l0_2.length c0_2] 53 (0,0)) z31_11):gb663≠gb662));replace BK662:=U (blk_below (g:=gb662) (o:=.cells #[.slice A0_0 l0_0.length c0_0,.bool a0_1,.slice A0_2 l0_2.length c0_2] 53 (0,0)) z31_11 hb);clear hb hbox hg;have hnb15:=NB662_663.out;have hnc15:=NB663_662.out;obtain ⟨hcz16_0,hcz16_1,hcz16_2,hfz16_0,hfz16_1,hfz16_2⟩:=cz3_ BK662.out;obtain ⟨hcz17_0,hcz17_1,hcz17_2,hfz17_0,hfz17_1,hfz17_2⟩:=cz3_ BK663.out)|(go_at_call 69;(with_reducible refine(api_Clock_int_69.calls k _ _ l0_0 _ _ l1_0 false _ ?side1 ?side2 ?side3 ?side4 A4.out).mono ?_);(case side1=>exact z28_3);(case side2=>exact HC0_0.out);(case side3=>exact z30_13);(case side4=>exact HC1_0.out);rintro e w' ⟨rfl,⟨nd,rfl⟩⟩))
  go_ret
  exact ⟨z9_2,z31_12⟩
 subst c5
 have H1:((api_Event_85.f k l0_2 l1_2).bind fun t665=>(some t665))=some r:=by rw [if_pos rfl] at H;exact H
 clear H
 have H:=H1
 clear H1
 replace H:=Option.bind_eq_some_iff.mp H
 obtain ⟨t665,A60,H⟩:=H
 replace H:(some t665)=some r:=H
 have A6:=Aside0.mk A60
 clear A60
 obtain rfl:=Option.some.inj H
 go_enter Try.func46,Try.ntmps46
 go_wp2_with (first|((with_reducible refine gate_dst (N:=2) rfl ?_);refine box_event ?hg (N:=2) ?hd (cs:=#[.slice A0_0 l0_0.length c0_0,.bool a0_1,.slice A0_2 l0_2.length c0_2]) (t:=53) ?hr ?_;(case hd=>rfl);(case hg=>rfl);(case hr=>exact z10_10);intro gb662 hg w7 hbox hb;have BK662:=U (hbox);have GW662:=U ((by rw [hg];exact(below_size z9_4):w.heap.size≤gb662));have GE662:=U ((by rw [hg];exact(below_size z9_4):w.heap.size≤gb662));replace HB:=U (below_step z9_4 hb);clear hb hbox hg)|((with_reducible refine gate_dst (N:=3) rfl ?_);refine box_event ?hg (N:=3) ?hd (cs:=#[.slice A1_0 l1_0.length c1_0,.bool a1_1,.slice A1_2 l1_2.length c1_2]) (t:=53) ?hr ?_;(case hd=>rfl);(case hg=>rfl);(case hr=>exact z10_10);intro gb663 hg w8 hbox hb;have BK663:=U (hbox);have GW663:=U ((by rw [hg];exact(below_size z31_8):w.heap.size≤gb663));have GE663:=U ((by rw [hg];exact(below_size z31_8):w.heap.size≤gb663));replace HB:=U (below_step z31_8 hb);have NB662_663:=U ((by rw [hg];exact Nat.ne_of_lt (blk_lt (g:=gb662) (o:=.cells #[.slice A0_0 l0_0.length c0_0,.bool a0_1,.slice A0_2 l0_2.length c0_2] 53 (0,0)) z31_11):gb662≠gb663));have NB663_662:=U ((by rw [hg];exact Nat.ne_of_gt (blk_lt (g:=gb662) (o:=.cells #[.slice A0_0 l0_0.length c0_0,.bool a0_1,.slice A0_2 l0_2.length c0_2] 53 (0,0)) z31_11):gb663≠gb662));replace BK662:=U (blk_below (g:=gb662) (o:=.cells #[.slice A0_0 l0_0.length c0_0,.bool a0_1,.slice A0_2 l0_2.length c0_2] 53 (0,0)) z31_11 hb);clear hb hbox hg;have hnb9:=NB662_663.out;have hnc9:=NB663_662.out;obtain ⟨hcz10_0,hcz10_1,hcz10_2,hfz10_0,hfz10_1,hfz10_2⟩:=cz3_ BK662.out;obtain ⟨hcz11_0,hcz11_1,hcz11_2,hfz11_0,hfz11_1,hfz11_2⟩:=cz3_ BK663.out)|(go_at_call 69;(with_reducible refine(api_Clock_int_69.calls k _ _ l0_0 _ _ l1_0 true _ ?side1 ?side2 ?side3 ?side4 A4.out).mono ?_);(case side1=>exact z28_3);(case side2=>exact HC0_0.out);(case side3=>exact z30_13);(case side4=>exact HC1_0.out);rintro e w' ⟨rfl,⟨nd,rfl⟩⟩)|(go_at_call 85;(with_reducible refine(api_Event_85.calls k _ _ l0_2 _ _ l1_2 t665 _ ?side1 ?side2 ?side3 ?side4 A6.out).mono ?_);(case side1=>repeat(first|exact(Kd.C_below HR0_2.out z31_12)|(with_reducible refine Kd.C_alloc ?_ _)|(with_reducible refine Kd.C_drewN ?_ _)|(with_reducible refine Kd.C_drew ?_)));(case side2=>exact HC0_2.out);(case side3=>repeat(first|exact(Kd.C_below HR1_2.out z31_12)|(with_reducible refine Kd.C_alloc ?_ _)|(with_reducible refine Kd.C_drewN ?_ _)|(with_reducible refine Kd.C_drew ?_)));(case side4=>exact HC1_2.out);rintro e w12 ⟨rfl,hb⟩;replace BK662:=U (blk_below (g:=gb662) (o:=.cells #[.slice A0_0 l0_0.length c0_0,.bool a0_1,.slice A0_2 l0_2.length c0_2] 53 (0,0)) z31_11 hb);replace BK663:=U (blk_below (g:=gb663) (o:=.cells #[.slice A1_0 l1_0.length c1_0,.bool a1_1,.slice A1_2 l1_2.length c1_2] 53 (0,0)) (by(with_reducible repeat(first|refine blk_drewN ?_ _|refine blk_drew ?_|refine blk_alloc ?_ _));exact BK663.out) hb);replace HB:=U (below_step z31_12 hb);(try clear hb);(try clear hb2);(try clear hk);(try clear hi)))
 go_ret
 exact ⟨z9_2,z31_12⟩
def w28_GossipPuts.j0:Nat→Bool→List Int→Bool→List (S30)→List Int→Bool→List (S30)→Option (Bool)
 | 0,_,_,_,_,_,_,_=>none
 | k+1,x16,x667000,x667001,x667002,x668000,x668001,x668002=>if x16=true then((w28_awake.f k).bind fun t670=>(some t670)) else((gossip_Put.f k x667000 x667001 x667002).bind fun bt671=>((gossip_Same.f k x667000 x667001 x667002 x668000 x668001 x668002).bind fun t675=>((r28_Same.f k x667000 x667001 x667002 x668000 x668001 x668002).bind fun t676=>(if (t675 != t676)=true then(some false) else((r28_May.f k x667000 x667001 x667002).bind fun t677=>(if t677=true then((gossip_Get.f k bt671.1).bind fun bt679=>(if bt671.2=0 then((r28_Put.f k x667000 x667001 x667002).bind fun t688=>((r02_Bytes.f k bt671.1 t688).bind fun t691=>(if t691=true then(if bt679.2.2.2=0 then((r28_Same.f k bt679.1 bt679.2.1 bt679.2.2.1 x667000 x667001 x667002).bind fun t692=>(if t692=true then((w28_awake.f k).bind fun t693=>(some t693)) else(some false))) else(some false)) else(some false)))) else(some false))) else(if bt671.2=1 then(if (bt671.1.length:Int)=0 then((w28_awake.f k).bind fun t678=>(some t678)) else(some false)) else(some false))))))))
def w28_GossipPuts.f (k:Nat) (l0_0:List Int) (a0_1:Bool) (l0_2:List (S30)) (l1_0:List Int) (a1_1:Bool) (l1_2:List (S30)):Option (Bool):=(w28_Light.f k l0_0 a0_1 l0_2).bind fun t668=>(if t668=true then((w28_Light.f k l1_0 a1_1 l1_2).bind fun t669=>(w28_GossipPuts.j0 k (!t669) l0_0 a0_1 l0_2 l1_0 a1_1 l1_2)) else(w28_GossipPuts.j0 k true l0_0 a0_1 l0_2 l1_0 a1_1 l1_2))
theorem w28_GossipPuts.calls (k:Nat) (A0_0:Option Addr) (c0_0:Nat) (l0_0:List Int) (a0_1:Bool) (A0_2:Option Addr) (c0_2:Nat) (l0_2:List (S30)) (A1_0:Option Addr) (c1_0:Nat) (l1_0:List Int) (a1_1:Bool) (A1_2:Option Addr) (c1_2:Nat) (l1_2:List (S30)) (r:Bool) (w:World) (hr0_0:Kd.C (Kd.int .i64) w A0_0 l0_0.length l0_0) (hc0_0:l0_0.length≤c0_0) (hr0_2:Kd.C k30 w A0_2 l0_2.length l0_2) (hc0_2:l0_2.length≤c0_2) (hr1_0:Kd.C (Kd.int .i64) w A1_0 l1_0.length l1_0) (hc1_0:l1_0.length≤c1_0) (hr1_2:Kd.C k30 w A1_2 l1_2.length l1_2) (hc1_2:l1_2.length≤c1_2) (h:w28_GossipPuts.f k l0_0 a0_1 l0_2 l1_0 a1_1 l1_2=some r) (hrt_:r=true) :
  Calls Try.prog 11 #[.agg #[.slice A0_0 l0_0.length c0_0,.bool a0_1,.slice A0_2 l0_2.length c0_2],.agg #[.slice A1_0 l1_0.length c1_0,.bool a1_1,.slice A1_2 l1_2.length c1_2]] w fun e w'=>e = .returned (.bool r)∧Below w.heap.size w w':=by
 have hu53:=Try.underlying53
 have HR0_0:=Aside0.mk hr0_0
 have HC0_0:=Aside0.mk hc0_0
 clear hr0_0 hc0_0
 have HR0_2:=Aside0.mk hr0_2
 have HC0_2:=Aside0.mk hc0_2
 clear hr0_2 hc0_2
 have HR1_0:=Aside0.mk hr1_0
 have HC1_0:=Aside0.mk hc1_0
 clear hr1_0 hc1_0
 have HR1_2:=Aside0.mk hr1_2
 have HC1_2:=Aside0.mk hc1_2
 clear hr1_2 hc1_2
 have HB:=U (Below.refl w.heap.size w)
 have HRT_:=Aside0.mk hrt_
 clear hrt_
 have H:((w28_Light.f k l0_0 a0_1 l0_2).bind fun t668=>(if t668=true then((w28_Light.f k l1_0 a1_1 l1_2).bind fun t669=>(w28_GossipPuts.j0 k (!t669) l0_0 a0_1 l0_2 l1_0 a1_1 l1_2)) else(w28_GossipPuts.j0 k true l0_0 a0_1 l0_2 l1_0 a1_1 l1_2)))=some r:=h
 clear h
 have HC3:=Aside0.mk H
 clear H
 go_enter Try.func11,Try.ntmps11
 go_upto_region 1 with (first|((with_reducible refine gate_dst (N:=2) rfl ?_);(try(refine gate_guard (by rfl) ?_;dsimp only));refine box_event ?hg (N:=2) ?hd (cs:=#[.slice A0_0 l0_0.length c0_0,.bool a0_1,.slice A0_2 l0_2.length c0_2]) (t:=53) ?hr ?_;(case hd=>rfl);(case hg=>rfl);(case hr=>exact z10_10);intro gb666 hg w4 hbox hb;have BK666:=U (hbox);have GW666:=U ((by rw [hg];exact(below_size z9_4):w.heap.size≤gb666));have GE666:=U ((by rw [hg];exact(below_size z9_4):w.heap.size≤gb666));replace HB:=U (below_step z9_4 hb);clear hb hbox hg)|((with_reducible refine gate_dst (N:=3) rfl ?_);(try(refine gate_guard (by rfl) ?_;dsimp only));refine box_event ?hg (N:=3) ?hd (cs:=#[.slice A1_0 l1_0.length c1_0,.bool a1_1,.slice A1_2 l1_2.length c1_2]) (t:=53) ?hr ?_;(case hd=>rfl);(case hg=>rfl);(case hr=>exact z10_10);intro gb667 hg w5 hbox hb;have BK667:=U (hbox);have GW667:=U ((by rw [hg];exact(below_size z31_17):w.heap.size≤gb667));have GE667:=U ((by rw [hg];exact(below_size z31_17):w.heap.size≤gb667));replace HB:=U (below_step z31_17 hb);have NB666_667:=U ((by rw [hg];exact Nat.ne_of_lt (blk_lt (g:=gb666) (o:=.cells #[.slice A0_0 l0_0.length c0_0,.bool a0_1,.slice A0_2 l0_2.length c0_2] 53 (0,0)) z31_1):gb666≠gb667));have NB667_666:=U ((by rw [hg];exact Nat.ne_of_gt (blk_lt (g:=gb666) (o:=.cells #[.slice A0_0 l0_0.length c0_0,.bool a0_1,.slice A0_2 l0_2.length c0_2] 53 (0,0)) z31_1):gb667≠gb666));replace BK666:=U (blk_below (g:=gb666) (o:=.cells #[.slice A0_0 l0_0.length c0_0,.bool a0_1,.slice A0_2 l0_2.length c0_2] 53 (0,0)) z31_1 hb);clear hb hbox hg))
 (try simp only [Act.put,List.setIfInBounds_toArray,List.set_cons_zero,List.set_cons_succ])
 go_cut [16] (fun v16 wc=>∃ (kq:Nat) (x16_2:Bool),v16 = .bool x16_2∧Aside0 (w28_GossipPuts.j0 kq x16_2 l0_0 a0_1 l0_2 l1_0 a1_1 l1_2=some r)∧Aside0 (kq≤k)∧Aside0 (wc.heap[gb666]? = some (.cells #[(.slice A0_0 l0_0.length c0_0),.bool a0_1,(.slice A0_2 l0_2.length c0_2)] 53 (0,0)))∧Aside0 (wc.heap[gb667]? = some (.cells #[(.slice A1_0 l1_0.length c1_0),.bool a1_1,(.slice A1_2 l1_2.length c1_2)] 53 (0,0)))∧Aside0 (Below w.heap.size w wc))
 case first =>
  have H:=HC3.out
  clear HC3
  replace H:=Option.bind_eq_some_iff.mp H
  obtain ⟨t668,A60,H⟩:=H
  replace H:(if t668=true then((w28_Light.f k l1_0 a1_1 l1_2).bind fun t669=>(w28_GossipPuts.j0 k (!t669) l0_0 a0_1 l0_2 l1_0 a1_1 l1_2)) else(w28_GossipPuts.j0 k true l0_0 a0_1 l0_2 l1_0 a1_1 l1_2))=some r:=H
  have A6:=Aside0.mk A60
  clear A60
  by_cases c7:t668=true
  rotate_left
  ·replace c7:=Bool.eq_false_iff.mpr c7
   subst c7
   have H1:(w28_GossipPuts.j0 k true l0_0 a0_1 l0_2 l1_0 a1_1 l1_2)=some r:=by rw [if_neg (show ¬ (false=true) by decide)] at H;exact H
   clear H
   have H:=H1
   clear H1
   have H':=Aside0.mk H
   clear H
   have hnb14:=NB666_667.out
   have hnc14:=NB667_666.out
   obtain ⟨hcz15_0,hcz15_1,hcz15_2,hfz15_0,hfz15_1,hfz15_2⟩:=cz3_ BK666.out
   go_wp2_with (first|((with_reducible refine gate_callee (f:=39) rfl ?_);refine goesL_ (some 10) rfl rfl Try.func39 z3_17 rfl #[.agg #[.slice A0_0 l0_0.length c0_0,.bool a0_1,.slice A0_2 l0_2.length c0_2]] rfl z6_5 ?_;(with_reducible refine(w28_Light.calls k _ _ l0_0 a0_1 _ _ l0_2 false _ ?side1 ?side2 ?side3 ?side4 A6.out).mono ?_);(case side1=>exact z28_3);(case side2=>exact HC0_0.out);(case side3=>exact z3_11);(case side4=>exact HC0_2.out);rintro e w16 ⟨rfl,hb⟩;refine ⟨_,rfl,?_⟩;replace BK666:=U (blk_below (g:=gb666) (o:=.cells #[.slice A0_0 l0_0.length c0_0,.bool a0_1,.slice A0_2 l0_2.length c0_2] 53 (0,0)) z31_1 hb);replace BK667:=U (blk_below (g:=gb667) (o:=.cells #[.slice A1_0 l1_0.length c1_0,.bool a1_1,.slice A1_2 l1_2.length c1_2] 53 (0,0)) z31_2 hb);replace HB:=U (below_step z31_0 hb);(try clear hb);(try clear hb2);(try clear hk);(try clear hi)))
   go_meet
   case rel=>exact ⟨_,(true),(by first|rfl|(simp;done)|(simp [*];done)),H',⟨(by first|omega|exact Nat.le_refl _)⟩,⟨z31_1⟩,⟨z31_2⟩,⟨z31_0⟩⟩
  subst c7
  have H1:((w28_Light.f k l1_0 a1_1 l1_2).bind fun t669=>(w28_GossipPuts.j0 k (!t669) l0_0 a0_1 l0_2 l1_0 a1_1 l1_2))=some r:=by rw [if_pos rfl] at H;exact H
  clear H
  have H:=H1
  clear H1
  replace H:=Option.bind_eq_some_iff.mp H
  obtain ⟨t669,A80,H⟩:=H
  replace H:(w28_GossipPuts.j0 k (!t669) l0_0 a0_1 l0_2 l1_0 a1_1 l1_2)=some r:=H
  have A8:=Aside0.mk A80
  clear A80
  have H':=Aside0.mk H
  clear H
  have hnb9:=NB666_667.out
  have hnc9:=NB667_666.out
  obtain ⟨hcz10_0,hcz10_1,hcz10_2,hfz10_0,hfz10_1,hfz10_2⟩:=cz3_ BK666.out
  go_wp2_with (first|((with_reducible refine gate_callee (f:=39) rfl ?_);refine goesL_ (some 10) rfl rfl Try.func39 z3_17 rfl #[.agg #[.slice A0_0 l0_0.length c0_0,.bool a0_1,.slice A0_2 l0_2.length c0_2]] rfl z6_5 ?_;(with_reducible refine(w28_Light.calls k _ _ l0_0 a0_1 _ _ l0_2 true _ ?side1 ?side2 ?side3 ?side4 A6.out).mono ?_);(case side1=>exact z28_3);(case side2=>exact HC0_0.out);(case side3=>exact z3_11);(case side4=>exact HC0_2.out);rintro e w11 ⟨rfl,hb⟩;refine ⟨_,rfl,?_⟩;replace BK666:=U (blk_below (g:=gb666) (o:=.cells #[.slice A0_0 l0_0.length c0_0,.bool a0_1,.slice A0_2 l0_2.length c0_2] 53 (0,0)) z31_1 hb);replace BK667:=U (blk_below (g:=gb667) (o:=.cells #[.slice A1_0 l1_0.length c1_0,.bool a1_1,.slice A1_2 l1_2.length c1_2] 53 (0,0)) z31_2 hb);replace HB:=U (below_step z31_0 hb);(try clear hb);(try clear hb2);(try clear hk);(try clear hi);obtain ⟨hcz12_0,hcz12_1,hcz12_2,hfz12_0,hfz12_1,hfz12_2⟩:=cz3_ BK667.out)|(go_at_call 39;(with_reducible refine(w28_Light.calls k _ _ l1_0 a1_1 _ _ l1_2 t669 _ ?side1 ?side2 ?side3 ?side4 A8.out).mono ?_);(case side1=>exact z30_13);(case side2=>exact HC1_0.out);(case side3=>exact z3_12);(case side4=>exact HC1_2.out);rintro e w13 ⟨rfl,hb⟩;replace BK666:=U (blk_below (g:=gb666) (o:=.cells #[.slice A0_0 l0_0.length c0_0,.bool a0_1,.slice A0_2 l0_2.length c0_2] 53 (0,0)) z31_1 hb);replace BK667:=U (blk_below (g:=gb667) (o:=.cells #[.slice A1_0 l1_0.length c1_0,.bool a1_1,.slice A1_2 l1_2.length c1_2] 53 (0,0)) z31_2 hb);replace HB:=U (below_step z31_0 hb);(try clear hb);(try clear hb2);(try clear hk);(try clear hi)))
  go_meet
  case rel=>exact ⟨_,(!t669),(by first|rfl|(simp;done)|(simp [*];done)),H',⟨(by first|omega|exact Nat.le_refl _)⟩,⟨z31_1⟩,⟨z31_2⟩,⟨z31_0⟩⟩
 case rest =>
 clear HC3
 try clear c1
 try clear p2
 try clear c3
 try clear c7
 try clear c9
 try clear c11
 try clear c14
 try clear hcz10_0 hcz10_1 hcz10_2
 try clear hcz12_0 hcz12_1 hcz12_2
 try clear hcz15_0 hcz15_1 hcz15_2
 try clear hfz10_0 hfz10_1 hfz10_2
 try clear hfz12_0 hfz12_1 hfz12_2
 try clear hfz15_0 hfz15_1 hfz15_2
 obtain ⟨kq,x16_2,rfl,HA,HJ2,BK666,BK667,HB⟩:=hcut
 cases kq with
 | zero=>exact absurd HA.out (by simp [w28_GossipPuts.j0])
 | succ kj2 =>
 have H:=HA.out
 clear HA
 simp only [w28_GossipPuts.j0] at H
 by_cases c17:x16_2=true
 ·subst c17
  have H1:((w28_awake.f kj2).bind fun t670=>(some t670))=some r:=by rw [if_pos rfl] at H;exact H
  clear H
  have H:=H1
  clear H1
  replace H:=Option.bind_eq_some_iff.mp H
  obtain ⟨t670,A180,H⟩:=H
  replace H:(some t670)=some r:=H
  have A18:=Aside0.mk A180
  clear A180
  obtain rfl:=Option.some.inj H
  go_wp2_with (first|((with_reducible refine gate_callee (f:=29) rfl ?_);refine goesL_ (some 17) rfl rfl Try.func29 z3_17 rfl #[] rfl z6_5 ?_;(with_reducible refine(w28_awake.calls kj2  t670 _ A18.out).mono ?_);rintro e w19 ⟨rfl,hb⟩;refine ⟨_,rfl,?_⟩;replace BK666:=U (blk_below (g:=gb666) (o:=.cells #[.slice A0_0 l0_0.length c0_0,.bool a0_1,.slice A0_2 l0_2.length c0_2] 53 (0,0)) z31_1 hb);replace BK667:=U (blk_below (g:=gb667) (o:=.cells #[.slice A1_0 l1_0.length c1_0,.bool a1_1,.slice A1_2 l1_2.length c1_2] 53 (0,0)) z31_2 hb);replace HB:=U (below_step z31_0 hb);(try clear hb);(try clear hb2);(try clear hk);(try clear hi)))
  go_ret
  exact ⟨z9_2,z31_0⟩
 replace c17:=Bool.eq_false_iff.mpr c17
 subst c17
 have H1:((gossip_Put.f kj2 l0_0 a0_1 l0_2).bind fun bt671=>((gossip_Same.f kj2 l0_0 a0_1 l0_2 l1_0 a1_1 l1_2).bind fun t675=>((r28_Same.f kj2 l0_0 a0_1 l0_2 l1_0 a1_1 l1_2).bind fun t676=>(if (t675 != t676)=true then(some false) else((r28_May.f kj2 l0_0 a0_1 l0_2).bind fun t677=>(if t677=true then((gossip_Get.f kj2 bt671.1).bind fun bt679=>(if bt671.2=0 then((r28_Put.f kj2 l0_0 a0_1 l0_2).bind fun t688=>((r02_Bytes.f kj2 bt671.1 t688).bind fun t691=>(if t691=true then(if bt679.2.2.2=0 then((r28_Same.f kj2 bt679.1 bt679.2.1 bt679.2.2.1 l0_0 a0_1 l0_2).bind fun t692=>(if t692=true then((w28_awake.f kj2).bind fun t693=>(some t693)) else(some false))) else(some false)) else(some false)))) else(some false))) else(if bt671.2=1 then(if (bt671.1.length:Int)=0 then((w28_awake.f kj2).bind fun t678=>(some t678)) else(some false)) else(some false))))))))=some r:=by rw [if_neg (show ¬ (false=true) by decide)] at H;exact H
 clear H
 have H:=H1
 clear H1
 replace H:=Option.bind_eq_some_iff.mp H
 obtain ⟨⟨t671,t674⟩,A200,H⟩:=H
 replace H:((gossip_Same.f kj2 l0_0 a0_1 l0_2 l1_0 a1_1 l1_2).bind fun t675=>((r28_Same.f kj2 l0_0 a0_1 l0_2 l1_0 a1_1 l1_2).bind fun t676=>(if (t675 != t676)=true then(some false) else((r28_May.f kj2 l0_0 a0_1 l0_2).bind fun t677=>(if t677=true then((gossip_Get.f kj2 t671).bind fun bt679=>(if t674=0 then((r28_Put.f kj2 l0_0 a0_1 l0_2).bind fun t688=>((r02_Bytes.f kj2 t671 t688).bind fun t691=>(if t691=true then(if bt679.2.2.2=0 then((r28_Same.f kj2 bt679.1 bt679.2.1 bt679.2.2.1 l0_0 a0_1 l0_2).bind fun t692=>(if t692=true then((w28_awake.f kj2).bind fun t693=>(some t693)) else(some false))) else(some false)) else(some false)))) else(some false))) else(if t674=1 then(if (t671.length:Int)=0 then((w28_awake.f kj2).bind fun t678=>(some t678)) else(some false)) else(some false)))))))=some r:=H
 have A20:=Aside0.mk A200
 clear A200
 replace H:=Option.bind_eq_some_iff.mp H
 obtain ⟨t675,A210,H⟩:=H
 replace H:((r28_Same.f kj2 l0_0 a0_1 l0_2 l1_0 a1_1 l1_2).bind fun t676=>(if (t675 != t676)=true then(some false) else((r28_May.f kj2 l0_0 a0_1 l0_2).bind fun t677=>(if t677=true then((gossip_Get.f kj2 t671).bind fun bt679=>(if t674=0 then((r28_Put.f kj2 l0_0 a0_1 l0_2).bind fun t688=>((r02_Bytes.f kj2 t671 t688).bind fun t691=>(if t691=true then(if bt679.2.2.2=0 then((r28_Same.f kj2 bt679.1 bt679.2.1 bt679.2.2.1 l0_0 a0_1 l0_2).bind fun t692=>(if t692=true then((w28_awake.f kj2).bind fun t693=>(some t693)) else(some false))) else(some false)) else(some false)))) else(some false))) else(if t674=1 then(if (t671.length:Int)=0 then((w28_awake.f kj2).bind fun t678=>(some t678)) else(some false)) else(some false))))))=some r:=H
 have A21:=Aside0.mk A210
 clear A210
 replace H:=Option.bind_eq_some_iff.mp H
 obtain ⟨t676,A220,H⟩:=H
 replace H:(if (t675 != t676)=true then(some false) else((r28_May.f kj2 l0_0 a0_1 l0_2).bind fun t677=>(if t677=true then((gossip_Get.f kj2 t671).bind fun bt679=>(if t674=0 then((r28_Put.f kj2 l0_0 a0_1 l0_2).bind fun t688=>((r02_Bytes.f kj2 t671 t688).bind fun t691=>(if t691=true then(if bt679.2.2.2=0 then((r28_Same.f kj2 bt679.1 bt679.2.1 bt679.2.2.1 l0_0 a0_1 l0_2).bind fun t692=>(if t692=true then((w28_awake.f kj2).bind fun t693=>(some t693)) else(some false))) else(some false)) else(some false)))) else(some false))) else(if t674=1 then(if (t671.length:Int)=0 then((w28_awake.f kj2).bind fun t678=>(some t678)) else(some false)) else(some false)))))=some r:=H
 have A22:=Aside0.mk A220
 clear A220
 by_cases c23:(t675 != t676)=true
 ·rw [if_pos c23] at H
  exact absurd (HRT_.out.symm.trans (Option.some.inj H).symm) (by simp)
 rw [if_neg c23] at H
 have c23b0:(t675 != t676)=false:=by simpa using c23
 (try(have c23b1:decide (t675=t676)=true:=by simpa using c23))
 (try(have c23b2:(t675 == t676)=true:=by simpa using c23))
 clear c23
 replace H:=Option.bind_eq_some_iff.mp H
 obtain ⟨t677,A300,H⟩:=H
 replace H:(if t677=true then((gossip_Get.f kj2 t671).bind fun bt679=>(if t674=0 then((r28_Put.f kj2 l0_0 a0_1 l0_2).bind fun t688=>((r02_Bytes.f kj2 t671 t688).bind fun t691=>(if t691=true then(if bt679.2.2.2=0 then((r28_Same.f kj2 bt679.1 bt679.2.1 bt679.2.2.1 l0_0 a0_1 l0_2).bind fun t692=>(if t692=true then((w28_awake.f kj2).bind fun t693=>(some t693)) else(some false))) else(some false)) else(some false)))) else(some false))) else(if t674=1 then(if (t671.length:Int)=0 then((w28_awake.f kj2).bind fun t678=>(some t678)) else(some false)) else(some false)))=some r:=H
 have A30:=Aside0.mk A300
 clear A300
 by_cases c31:t677=true
 rotate_left
 ·replace c31:=Bool.eq_false_iff.mpr c31
  subst c31
  have H1:(if t674=1 then(if (t671.length:Int)=0 then((w28_awake.f kj2).bind fun t678=>(some t678)) else(some false)) else(some false))=some r:=by rw [if_neg (show ¬ (false=true) by decide)] at H;exact H
  clear H
  have H:=H1
  clear H1
  by_cases c140:t674=1
  rotate_left
  ·rw [if_neg c140] at H
   exact absurd (HRT_.out.symm.trans (Option.some.inj H).symm) (by simp)
  rw [if_pos c140] at H
  have c140b0:(t674 == 1)=true:=beq_iff_eq.mpr c140
  have c140b1:(t674 != 1)=false:=bne_eq_false_iff_eq.mpr c140
  clear c140
  by_cases c141:(t671.length:Int)=0
  rotate_left
  ·rw [if_neg c141] at H
   exact absurd (HRT_.out.symm.trans (Option.some.inj H).symm) (by simp)
  rw [if_pos c141] at H
  have c141b0:((t671.length:Int) == 0)=true:=beq_iff_eq.mpr c141
  have c141b1:((t671.length:Int) != 0)=false:=bne_eq_false_iff_eq.mpr c141
  clear c141
  replace H:=Option.bind_eq_some_iff.mp H
  obtain ⟨t678,A1420,H⟩:=H
  replace H:(some t678)=some r:=H
  have A142:=Aside0.mk A1420
  clear A1420
  obtain rfl:=Option.some.inj H
  have hnb143:=NB666_667.out
  have hnc143:=NB667_666.out
  obtain ⟨hcz144_0,hcz144_1,hcz144_2,hfz144_0,hfz144_1,hfz144_2⟩:=cz3_ BK666.out
  try go_wp2_with (first|((with_reducible refine gate_callee (f:=38) rfl ?_);refine goesL_ (some 20) rfl rfl Try.func38 z3_17 rfl #[.agg #[.slice A0_0 l0_0.length c0_0,.bool a0_1,.slice A0_2 l0_2.length c0_2]] rfl z6_5 ?_;(with_reducible refine(gossip_Put.calls kj2 _ _ l0_0 a0_1 _ _ l0_2 t671 t674 _ ?side1 ?side2 ?side3 ?side4 A20.out).mono ?_);(case side1=>exact z28_3);(case side2=>exact HC0_0.out);(case side3=>exact z3_11);(case side4=>exact HC0_2.out);rintro e w145 ⟨v672,rfl,ho0,hb⟩;refine ⟨_,rfl,?_⟩;have HO673:=U (Kd.R_lower ho0 (below_size z31_0));replace BK666:=U (blk_below (g:=gb666) (o:=.cells #[.slice A0_0 l0_0.length c0_0,.bool a0_1,.slice A0_2 l0_2.length c0_2] 53 (0,0)) z31_1 hb);replace BK667:=U (blk_below (g:=gb667) (o:=.cells #[.slice A1_0 l1_0.length c1_0,.bool a1_1,.slice A1_2 l1_2.length c1_2] 53 (0,0)) z31_2 hb);replace HB:=U (below_step z31_0 hb);(try clear hb);(try clear hb2);(try clear hk);(try clear hi);(try clear ho0)))
  have n0_:=U (Kd.R_drew HO673.out)
  have n1_:=U (blk_drew BK666.out)
  have n2_:=U (blk_drew BK667.out)
  have n3_:=U (below_drew1 HB.out)
  clear HO673
  clear BK666
  clear BK667
  clear HB
  have HO673:=n0_
  have BK666:=n1_
  have BK667:=n2_
  have HB:=n3_
  clear n0_ n1_ n2_ n3_
  refine start_ (n:=7) (S:=fun w'=>w'.cell? ⟨gb666,0,none⟩=some (.slice A0_0 l0_0.length c0_0)∧w'.cell? ⟨gb666,1,none⟩=some (.bool a0_1)∧w'.cell? ⟨gb666,2,none⟩=some (.slice A0_2 l0_2.length c0_2)∧w'.cell? ⟨gb667,0,none⟩=some (.slice A1_0 l1_0.length c1_0)∧w'.cell? ⟨gb667,1,none⟩=some (.bool a1_1)∧w'.cell? ⟨gb667,2,none⟩=some (.slice A1_2 l1_2.length c1_2)) (ds:=[]) #[J,J,J,J,J,J,J] z3_17 rfl rfl ⟨(blk_cell BK666.out 0).trans rfl,(blk_cell BK666.out 1).trans rfl,(blk_cell BK666.out 2).trans rfl,(blk_cell BK667.out 0).trans rfl,(blk_cell BK667.out 1).trans rfl,(blk_cell BK667.out 2).trans rfl⟩ (fun hHeld=>?_)
  generalize w145.drew=w146 at HO673 BK666 BK667 HB hHeld ⊢
  refine take_ (i:=0) (N:=some 23) (v:=?_) (a':=?_) #[Y,J,J,J,J,J,J] rfl rfl z3_17 (fun _ _ _ h=>h) (Or.inl ⟨(by rfl),?_⟩) hHeld ?_ ?_
  rotate_left
  ·rintro w' ⟨s0,s1,s2,s3,s4,s5⟩
   go_simp
   with_reducible rfl
  rotate_left
  ·exact z3_3
  refine take_ (i:=1) (N:=some 24) (v:=?_) (a':=?_) #[Y,Y,J,J,J,J,J] rfl rfl z3_17 (fun _ _ _ h=>h) (Or.inl ⟨(by rfl),?_⟩) hHeld ?_ ?_
  rotate_left
  ·rintro w' ⟨s0,s1,s2,s3,s4,s5⟩
   go_simp
   with_reducible rfl
  rotate_left
  ·exact z3_3
  refine take_ (i:=3) (N:=some 26) (v:=?_) (a':=?_) #[Y,Y,J,Y,J,J,J] rfl rfl z3_17 (fun _ _ _ h=>h) (Or.inl ⟨(by rfl),?_⟩) hHeld ?_ ?_
  rotate_left
  ·rintro w' ⟨s0,s1,s2,s3,s4,s5⟩
   go_simp
   with_reducible rfl
  rotate_left
  ·exact z3_3
  refine take_ (i:=4) (N:=some 27) (v:=?_) (a':=?_) #[Y,Y,J,Y,Y,J,J] rfl rfl z3_17 (fun _ _ _ h=>h) (Or.inl ⟨(by rfl),?_⟩) hHeld ?_ ?_
  rotate_left
  ·rintro w' ⟨s0,s1,s2,s3,s4,s5⟩
   go_simp
   with_reducible rfl
  rotate_left
  ·exact z3_3
  refine one_ (i:=2) (N:=some 25) #[Y,Y,Y,Y,Y,J,J] rfl rfl z3_17 (by decide) (fun K hK=>?_)
  refine goes_ Try.func46 z3_17 rfl #[.agg #[.slice A0_0 l0_0.length c0_0,.bool a0_1,.slice A0_2 l0_2.length c0_2],.agg #[.slice A1_0 l1_0.length c1_0,.bool a1_1,.slice A1_2 l1_2.length c1_2]] (by rfl) rfl rfl z6_5 ?_
  with_reducible refine(gossip_Same.calls kj2 _ _ l0_0 a0_1 _ _ l0_2 _ _ l1_0 a1_1 _ _ l1_2 t675 _ ?side1 ?side2 ?side3 ?side4 ?side5 ?side6 ?side7 ?side8 A21.out).mono ?_
  (case side1=>exact z28_3)
  (case side2=>exact HC0_0.out)
  (case side3=>exact z3_11)
  (case side4=>exact HC0_2.out)
  (case side5=>exact z30_13)
  (case side6=>exact HC1_0.out)
  (case side7=>exact z3_12)
  (case side8=>exact HC1_2.out)
  rintro e w147 ⟨rfl,hb⟩
  refine ⟨_,rfl,?_⟩
  have n0_:=U (Kd.R_below z31_9 hb)
  have n1_:=U (blk_below (g:=gb666) (o:=.cells #[.slice A0_0 l0_0.length c0_0,.bool a0_1,.slice A0_2 l0_2.length c0_2] 53 (0,0)) z31_1 hb)
  have n2_:=U (blk_below (g:=gb667) (o:=.cells #[.slice A1_0 l1_0.length c1_0,.bool a1_1,.slice A1_2 l1_2.length c1_2] 53 (0,0)) z31_2 hb)
  have n3_:=U (below_step z31_0 hb)
  clear HO673
  clear BK666
  clear BK667
  clear HB
  have HO673:=n0_
  have BK666:=n1_
  have BK667:=n2_
  have HB:=n3_
  clear n0_ n1_ n2_ n3_
  (try clear hb)
  (try clear hb2)
  (try clear hk)
  (try clear hi)
  refine hK.out _ _ ⟨(blk_cell BK666.out 0).trans rfl,(blk_cell BK666.out 1).trans rfl,(blk_cell BK666.out 2).trans rfl,(blk_cell BK667.out 0).trans rfl,(blk_cell BK667.out 1).trans rfl,(blk_cell BK667.out 2).trans rfl⟩ (fun hHeld=>?_)
  clear hK K
  refine norm_ (a':=?_) ?_ ?_
  rotate_left
  ·exact z30_17
  refine one_ (i:=5) (N:=some 28) #[Y,Y,Y,Y,Y,Y,J] rfl rfl z3_17 (by decide) (fun K hK=>?_)
  refine goes_ Try.func32 z3_17 rfl #[.agg #[.slice A0_0 l0_0.length c0_0,.bool a0_1,.slice A0_2 l0_2.length c0_2],.agg #[.slice A1_0 l1_0.length c1_0,.bool a1_1,.slice A1_2 l1_2.length c1_2]] (by rfl) rfl rfl z6_5 ?_
  with_reducible refine(r28_Same.calls kj2 _ _ l0_0 a0_1 _ _ l0_2 _ _ l1_0 a1_1 _ _ l1_2 t676 _ ?side1 ?side2 ?side3 ?side4 ?side5 ?side6 ?side7 ?side8 A22.out).mono ?_
  (case side1=>exact z28_3)
  (case side2=>exact HC0_0.out)
  (case side3=>exact z3_11)
  (case side4=>exact HC0_2.out)
  (case side5=>exact z30_13)
  (case side6=>exact HC1_0.out)
  (case side7=>exact z3_12)
  (case side8=>exact HC1_2.out)
  rintro e w148 ⟨rfl,hb⟩
  refine ⟨_,rfl,?_⟩
  have n0_:=U (Kd.R_below z31_9 hb)
  have n1_:=U (blk_below (g:=gb666) (o:=.cells #[.slice A0_0 l0_0.length c0_0,.bool a0_1,.slice A0_2 l0_2.length c0_2] 53 (0,0)) z31_1 hb)
  have n2_:=U (blk_below (g:=gb667) (o:=.cells #[.slice A1_0 l1_0.length c1_0,.bool a1_1,.slice A1_2 l1_2.length c1_2] 53 (0,0)) z31_2 hb)
  have n3_:=U (below_step z31_0 hb)
  clear HO673
  clear BK666
  clear BK667
  clear HB
  have HO673:=n0_
  have BK666:=n1_
  have BK667:=n2_
  have HB:=n3_
  clear n0_ n1_ n2_ n3_
  (try clear hb)
  (try clear hb2)
  (try clear hk)
  (try clear hi)
  refine hK.out _ _ ⟨(blk_cell BK666.out 0).trans rfl,(blk_cell BK666.out 1).trans rfl,(blk_cell BK666.out 2).trans rfl,(blk_cell BK667.out 0).trans rfl,(blk_cell BK667.out 1).trans rfl,(blk_cell BK667.out 2).trans rfl⟩ (fun hHeld=>?_)
  clear hK K
  refine norm_ (a':=?_) ?_ ?_
  rotate_left
  ·exact z31_24
  refine pure_ (i:=6) (N:=some 29) (v:=?_) (a':=?_) #[Y,Y,Y,Y,Y,Y,Y] rfl rfl z3_17 (fun _ _ _ h=>h) (Or.inl ⟨(by rfl),?_⟩) ?_ ?_
  rotate_left
  ·intro w'
   go_simp
   with_reducible rfl
  rotate_left
  ·exact z3_3
  refine done_ z3_17 ?_
  obtain ⟨hcz149_0,hcz149_1,hcz149_2,hfz149_0,hfz149_1,hfz149_2⟩:=cz3_ BK666.out
  try go_wp2_with (first|((with_reducible refine gate_callee (f:=45) rfl ?_);refine goesL_ (some 31) rfl rfl Try.func45 z3_17 rfl #[.agg #[.slice A0_0 l0_0.length c0_0,.bool a0_1,.slice A0_2 l0_2.length c0_2]] rfl z6_5 ?_;(with_reducible refine(r28_May.calls kj2 _ _ l0_0 a0_1 _ _ l0_2 false _ ?side1 ?side2 ?side3 ?side4 A30.out).mono ?_);(case side1=>exact z28_3);(case side2=>exact HC0_0.out);(case side3=>exact z3_11);(case side4=>exact HC0_2.out);rintro e w150 ⟨rfl,hb⟩;refine ⟨_,rfl,?_⟩;replace HO673:=U (Kd.R_below z31_9 hb);replace BK666:=U (blk_below (g:=gb666) (o:=.cells #[.slice A0_0 l0_0.length c0_0,.bool a0_1,.slice A0_2 l0_2.length c0_2] 53 (0,0)) z31_1 hb);replace BK667:=U (blk_below (g:=gb667) (o:=.cells #[.slice A1_0 l1_0.length c1_0,.bool a1_1,.slice A1_2 l1_2.length c1_2] 53 (0,0)) z31_2 hb);replace HB:=U (below_step z31_0 hb);(try clear hb);(try clear hb2);(try clear hk);(try clear hi);obtain ⟨Ao151,co151,eo151⟩:=Kd.R_slice HO673.out;subst eo151)|(go_at_call 29;(with_reducible refine(w28_awake.calls kj2  t678 _ A142.out).mono ?_);rintro e w152 ⟨rfl,hb⟩;replace HO673:=U (Kd.R_below z31_9 hb);replace BK666:=U (blk_below (g:=gb666) (o:=.cells #[.slice A0_0 l0_0.length c0_0,.bool a0_1,.slice A0_2 l0_2.length c0_2] 53 (0,0)) z31_1 hb);replace BK667:=U (blk_below (g:=gb667) (o:=.cells #[.slice A1_0 l1_0.length c1_0,.bool a1_1,.slice A1_2 l1_2.length c1_2] 53 (0,0)) z31_2 hb);replace HB:=U (below_step z31_0 hb);(try clear hb);(try clear hb2);(try clear hk);(try clear hi)))
  go_ret
  exact ⟨z9_2,z31_0⟩
 subst c31
 have H1:((gossip_Get.f kj2 t671).bind fun bt679=>(if t674=0 then((r28_Put.f kj2 l0_0 a0_1 l0_2).bind fun t688=>((r02_Bytes.f kj2 t671 t688).bind fun t691=>(if t691=true then(if bt679.2.2.2=0 then((r28_Same.f kj2 bt679.1 bt679.2.1 bt679.2.2.1 l0_0 a0_1 l0_2).bind fun t692=>(if t692=true then((w28_awake.f kj2).bind fun t693=>(some t693)) else(some false))) else(some false)) else(some false)))) else(some false)))=some r:=by rw [if_pos rfl] at H;exact H
 clear H
 have H:=H1
 clear H1
 replace H:=Option.bind_eq_some_iff.mp H
 obtain ⟨⟨t679,t682,t683,t686⟩,A320,H⟩:=H
 replace H:(if t674=0 then((r28_Put.f kj2 l0_0 a0_1 l0_2).bind fun t688=>((r02_Bytes.f kj2 t671 t688).bind fun t691=>(if t691=true then(if t686=0 then((r28_Same.f kj2 t679 t682 t683 l0_0 a0_1 l0_2).bind fun t692=>(if t692=true then((w28_awake.f kj2).bind fun t693=>(some t693)) else(some false))) else(some false)) else(some false)))) else(some false))=some r:=H
 have A32:=Aside0.mk A320
 clear A320
 by_cases c33:t674=0
 rotate_left
 ·rw [if_neg c33] at H
  exact absurd (HRT_.out.symm.trans (Option.some.inj H).symm) (by simp)
 rw [if_pos c33] at H
 have c33b0:(t674 == 0)=true:=beq_iff_eq.mpr c33
 have c33b1:(t674 != 0)=false:=bne_eq_false_iff_eq.mpr c33
 clear c33
 replace H:=Option.bind_eq_some_iff.mp H
 obtain ⟨t688,A340,H⟩:=H
 replace H:((r02_Bytes.f kj2 t671 t688).bind fun t691=>(if t691=true then(if t686=0 then((r28_Same.f kj2 t679 t682 t683 l0_0 a0_1 l0_2).bind fun t692=>(if t692=true then((w28_awake.f kj2).bind fun t693=>(some t693)) else(some false))) else(some false)) else(some false)))=some r:=H
 have A34:=Aside0.mk A340
 clear A340
 replace H:=Option.bind_eq_some_iff.mp H
 obtain ⟨t691,A350,H⟩:=H
 replace H:(if t691=true then(if t686=0 then((r28_Same.f kj2 t679 t682 t683 l0_0 a0_1 l0_2).bind fun t692=>(if t692=true then((w28_awake.f kj2).bind fun t693=>(some t693)) else(some false))) else(some false)) else(some false))=some r:=H
 have A35:=Aside0.mk A350
 clear A350
 by_cases c36:t691=true
 rotate_left
 ·replace c36:=Bool.eq_false_iff.mpr c36
  subst c36
  have H1:(some false)=some r:=by rw [if_neg (show ¬ (false=true) by decide)] at H;exact H
  exact absurd (HRT_.out.symm.trans (Option.some.inj H1).symm) (by simp)
 subst c36
 have H1:(if t686=0 then((r28_Same.f kj2 t679 t682 t683 l0_0 a0_1 l0_2).bind fun t692=>(if t692=true then((w28_awake.f kj2).bind fun t693=>(some t693)) else(some false))) else(some false))=some r:=by rw [if_pos rfl] at H;exact H
 clear H
 have H:=H1
 clear H1
 by_cases c37:t686=0
 rotate_left
 ·rw [if_neg c37] at H
  exact absurd (HRT_.out.symm.trans (Option.some.inj H).symm) (by simp)
 rw [if_pos c37] at H
 have c37b0:(t686 == 0)=true:=beq_iff_eq.mpr c37
 have c37b1:(t686 != 0)=false:=bne_eq_false_iff_eq.mpr c37
 clear c37
 replace H:=Option.bind_eq_some_iff.mp H
 obtain ⟨t692,A380,H⟩:=H
 replace H:(if t692=true then((w28_awake.f kj2).bind fun t693=>(some t693)) else(some false))=some r:=H
 have A38:=Aside0.mk A380
 clear A380
 by_cases c39:t692=true
 rotate_left
 ·replace c39:=Bool.eq_false_iff.mpr c39
  subst c39
  have H1:(some false)=some r:=by rw [if_neg (show ¬ (false=true) by decide)] at H;exact H
  exact absurd (HRT_.out.symm.trans (Option.some.inj H1).symm) (by simp)
 subst c39
 have H1:((w28_awake.f kj2).bind fun t693=>(some t693))=some r:=by rw [if_pos rfl] at H;exact H
 clear H
 have H:=H1
 clear H1
 replace H:=Option.bind_eq_some_iff.mp H
 obtain ⟨t693,A400,H⟩:=H
 replace H:(some t693)=some r:=H
 have A40:=Aside0.mk A400
 clear A400
 obtain rfl:=Option.some.inj H
 have hnb41:=NB666_667.out
 have hnc41:=NB667_666.out
 obtain ⟨hcz42_0,hcz42_1,hcz42_2,hfz42_0,hfz42_1,hfz42_2⟩:=cz3_ BK666.out
 try go_wp2_with (first|((with_reducible refine gate_callee (f:=38) rfl ?_);refine goesL_ (some 20) rfl rfl Try.func38 z3_17 rfl #[.agg #[.slice A0_0 l0_0.length c0_0,.bool a0_1,.slice A0_2 l0_2.length c0_2]] rfl z6_5 ?_;(with_reducible refine(gossip_Put.calls kj2 _ _ l0_0 a0_1 _ _ l0_2 t671 t674 _ ?side1 ?side2 ?side3 ?side4 A20.out).mono ?_);(case side1=>exact z28_3);(case side2=>exact HC0_0.out);(case side3=>exact z3_11);(case side4=>exact HC0_2.out);rintro e w43 ⟨v672,rfl,ho0,hb⟩;refine ⟨_,rfl,?_⟩;have HO673:=U (Kd.R_lower ho0 (below_size z31_0));replace BK666:=U (blk_below (g:=gb666) (o:=.cells #[.slice A0_0 l0_0.length c0_0,.bool a0_1,.slice A0_2 l0_2.length c0_2] 53 (0,0)) z31_1 hb);replace BK667:=U (blk_below (g:=gb667) (o:=.cells #[.slice A1_0 l1_0.length c1_0,.bool a1_1,.slice A1_2 l1_2.length c1_2] 53 (0,0)) z31_2 hb);replace HB:=U (below_step z31_0 hb);(try clear hb);(try clear hb2);(try clear hk);(try clear hi);(try clear ho0)))
 have n0_:=U (Kd.R_drew HO673.out)
 have n1_:=U (blk_drew BK666.out)
 have n2_:=U (blk_drew BK667.out)
 have n3_:=U (below_drew1 HB.out)
 clear HO673
 clear BK666
 clear BK667
 clear HB
 have HO673:=n0_
 have BK666:=n1_
 have BK667:=n2_
 have HB:=n3_
 clear n0_ n1_ n2_ n3_
 refine start_ (n:=7) (S:=fun w'=>w'.cell? ⟨gb666,0,none⟩=some (.slice A0_0 l0_0.length c0_0)∧w'.cell? ⟨gb666,1,none⟩=some (.bool a0_1)∧w'.cell? ⟨gb666,2,none⟩=some (.slice A0_2 l0_2.length c0_2)∧w'.cell? ⟨gb667,0,none⟩=some (.slice A1_0 l1_0.length c1_0)∧w'.cell? ⟨gb667,1,none⟩=some (.bool a1_1)∧w'.cell? ⟨gb667,2,none⟩=some (.slice A1_2 l1_2.length c1_2)) (ds:=[]) #[J,J,J,J,J,J,J] z3_17 rfl rfl ⟨(blk_cell BK666.out 0).trans rfl,(blk_cell BK666.out 1).trans rfl,(blk_cell BK666.out 2).trans rfl,(blk_cell BK667.out 0).trans rfl,(blk_cell BK667.out 1).trans rfl,(blk_cell BK667.out 2).trans rfl⟩ (fun hHeld=>?_)
 generalize w43.drew=w44 at HO673 BK666 BK667 HB hHeld ⊢
 refine take_ (i:=0) (N:=some 23) (v:=?_) (a':=?_) #[Y,J,J,J,J,J,J] rfl rfl z3_17 (fun _ _ _ h=>h) (Or.inl ⟨(by rfl),?_⟩) hHeld ?_ ?_
 rotate_left
 ·rintro w' ⟨s0,s1,s2,s3,s4,s5⟩
  go_simp
  with_reducible rfl
 rotate_left
 ·exact z3_3
 refine take_ (i:=1) (N:=some 24) (v:=?_) (a':=?_) #[Y,Y,J,J,J,J,J] rfl rfl z3_17 (fun _ _ _ h=>h) (Or.inl ⟨(by rfl),?_⟩) hHeld ?_ ?_
 rotate_left
 ·rintro w' ⟨s0,s1,s2,s3,s4,s5⟩
  go_simp
  with_reducible rfl
 rotate_left
 ·exact z3_3
 refine take_ (i:=3) (N:=some 26) (v:=?_) (a':=?_) #[Y,Y,J,Y,J,J,J] rfl rfl z3_17 (fun _ _ _ h=>h) (Or.inl ⟨(by rfl),?_⟩) hHeld ?_ ?_
 rotate_left
 ·rintro w' ⟨s0,s1,s2,s3,s4,s5⟩
  go_simp
  with_reducible rfl
 rotate_left
 ·exact z3_3
 refine take_ (i:=4) (N:=some 27) (v:=?_) (a':=?_) #[Y,Y,J,Y,Y,J,J] rfl rfl z3_17 (fun _ _ _ h=>h) (Or.inl ⟨(by rfl),?_⟩) hHeld ?_ ?_
 rotate_left
 ·rintro w' ⟨s0,s1,s2,s3,s4,s5⟩
  go_simp
  with_reducible rfl
 rotate_left
 ·exact z3_3
 refine one_ (i:=2) (N:=some 25) #[Y,Y,Y,Y,Y,J,J] rfl rfl z3_17 (by decide) (fun K hK=>?_)
 refine goes_ Try.func46 z3_17 rfl #[.agg #[.slice A0_0 l0_0.length c0_0,.bool a0_1,.slice A0_2 l0_2.length c0_2],.agg #[.slice A1_0 l1_0.length c1_0,.bool a1_1,.slice A1_2 l1_2.length c1_2]] (by rfl) rfl rfl z6_5 ?_
 with_reducible refine(gossip_Same.calls kj2 _ _ l0_0 a0_1 _ _ l0_2 _ _ l1_0 a1_1 _ _ l1_2 t675 _ ?side1 ?side2 ?side3 ?side4 ?side5 ?side6 ?side7 ?side8 A21.out).mono ?_
 (case side1=>exact z28_3)
 (case side2=>exact HC0_0.out)
 (case side3=>exact z3_11)
 (case side4=>exact HC0_2.out)
 (case side5=>exact z30_13)
 (case side6=>exact HC1_0.out)
 (case side7=>exact z3_12)
 (case side8=>exact HC1_2.out)
 rintro e w45 ⟨rfl,hb⟩
 refine ⟨_,rfl,?_⟩
 have n0_:=U (Kd.R_below z31_9 hb)
 have n1_:=U (blk_below (g:=gb666) (o:=.cells #[.slice A0_0 l0_0.length c0_0,.bool a0_1,.slice A0_2 l0_2.length c0_2] 53 (0,0)) z31_1 hb)
 have n2_:=U (blk_below (g:=gb667) (o:=.cells #[.slice A1_0 l1_0.length c1_0,.bool a1_1,.slice A1_2 l1_2.length c1_2] 53 (0,0)) z31_2 hb)
 have n3_:=U (below_step z31_0 hb)
 clear HO673
 clear BK666
 clear BK667
 clear HB
 have HO673:=n0_
 have BK666:=n1_
 have BK667:=n2_
 have HB:=n3_
 clear n0_ n1_ n2_ n3_
 (try clear hb)
 (try clear hb2)
 (try clear hk)
 (try clear hi)
 refine hK.out _ _ ⟨(blk_cell BK666.out 0).trans rfl,(blk_cell BK666.out 1).trans rfl,(blk_cell BK666.out 2).trans rfl,(blk_cell BK667.out 0).trans rfl,(blk_cell BK667.out 1).trans rfl,(blk_cell BK667.out 2).trans rfl⟩ (fun hHeld=>?_)
 clear hK K
 refine norm_ (a':=?_) ?_ ?_
 rotate_left
 ·exact z30_17
 refine one_ (i:=5) (N:=some 28) #[Y,Y,Y,Y,Y,Y,J] rfl rfl z3_17 (by decide) (fun K hK=>?_)
 refine goes_ Try.func32 z3_17 rfl #[.agg #[.slice A0_0 l0_0.length c0_0,.bool a0_1,.slice A0_2 l0_2.length c0_2],.agg #[.slice A1_0 l1_0.length c1_0,.bool a1_1,.slice A1_2 l1_2.length c1_2]] (by rfl) rfl rfl z6_5 ?_
 with_reducible refine(r28_Same.calls kj2 _ _ l0_0 a0_1 _ _ l0_2 _ _ l1_0 a1_1 _ _ l1_2 t676 _ ?side1 ?side2 ?side3 ?side4 ?side5 ?side6 ?side7 ?side8 A22.out).mono ?_
 (case side1=>exact z28_3)
 (case side2=>exact HC0_0.out)
 (case side3=>exact z3_11)
 (case side4=>exact HC0_2.out)
 (case side5=>exact z30_13)
 (case side6=>exact HC1_0.out)
 (case side7=>exact z3_12)
 (case side8=>exact HC1_2.out)
 rintro e w46 ⟨rfl,hb⟩
 refine ⟨_,rfl,?_⟩
 have n0_:=U (Kd.R_below z31_9 hb)
 have n1_:=U (blk_below (g:=gb666) (o:=.cells #[.slice A0_0 l0_0.length c0_0,.bool a0_1,.slice A0_2 l0_2.length c0_2] 53 (0,0)) z31_1 hb)
 have n2_:=U (blk_below (g:=gb667) (o:=.cells #[.slice A1_0 l1_0.length c1_0,.bool a1_1,.slice A1_2 l1_2.length c1_2] 53 (0,0)) z31_2 hb)
 have n3_:=U (below_step z31_0 hb)
 clear HO673
 clear BK666
 clear BK667
 clear HB
 have HO673:=n0_
 have BK666:=n1_
 have BK667:=n2_
 have HB:=n3_
 clear n0_ n1_ n2_ n3_
 (try clear hb)
 (try clear hb2)
 (try clear hk)
 (try clear hi)
 refine hK.out _ _ ⟨(blk_cell BK666.out 0).trans rfl,(blk_cell BK666.out 1).trans rfl,(blk_cell BK666.out 2).trans rfl,(blk_cell BK667.out 0).trans rfl,(blk_cell BK667.out 1).trans rfl,(blk_cell BK667.out 2).trans rfl⟩ (fun hHeld=>?_)
 clear hK K
 refine norm_ (a':=?_) ?_ ?_
 rotate_left
 ·exact z31_24
 refine pure_ (i:=6) (N:=some 29) (v:=?_) (a':=?_) #[Y,Y,Y,Y,Y,Y,Y] rfl rfl z3_17 (fun _ _ _ h=>h) (Or.inl ⟨(by rfl),?_⟩) ?_ ?_
 rotate_left
 ·intro w'
  go_simp
  with_reducible rfl
 rotate_left
 ·exact z3_3
 refine done_ z3_17 ?_
 obtain ⟨hcz47_0,hcz47_1,hcz47_2,hfz47_0,hfz47_1,hfz47_2⟩:=cz3_ BK666.out
 try go_wp2_with (first|((with_reducible refine gate_callee (f:=45) rfl ?_);refine goesL_ (some 31) rfl rfl Try.func45 z3_17 rfl #[.agg #[.slice A0_0 l0_0.length c0_0,.bool a0_1,.slice A0_2 l0_2.length c0_2]] rfl z6_5 ?_;(with_reducible refine(r28_May.calls kj2 _ _ l0_0 a0_1 _ _ l0_2 true _ ?side1 ?side2 ?side3 ?side4 A30.out).mono ?_);(case side1=>exact z28_3);(case side2=>exact HC0_0.out);(case side3=>exact z3_11);(case side4=>exact HC0_2.out);rintro e w48 ⟨rfl,hb⟩;refine ⟨_,rfl,?_⟩;replace HO673:=U (Kd.R_below z31_9 hb);replace BK666:=U (blk_below (g:=gb666) (o:=.cells #[.slice A0_0 l0_0.length c0_0,.bool a0_1,.slice A0_2 l0_2.length c0_2] 53 (0,0)) z31_1 hb);replace BK667:=U (blk_below (g:=gb667) (o:=.cells #[.slice A1_0 l1_0.length c1_0,.bool a1_1,.slice A1_2 l1_2.length c1_2] 53 (0,0)) z31_2 hb);replace HB:=U (below_step z31_0 hb);(try clear hb);(try clear hb2);(try clear hk);(try clear hi);obtain ⟨Ao49,co49,eo49⟩:=Kd.R_slice HO673.out;subst eo49)|((with_reducible refine gate_callee (f:=30) rfl ?_);refine goesL_ (some 45) rfl rfl Try.func30 z3_17 rfl #[.slice Ao49 t671.length co49] rfl z6_5 ?_;(with_reducible refine(gossip_Get.calls kj2 _ _ t671 t679 t682 t683 t686 _ ?side1 ?side2 A32.out).mono ?_);(case side1=>exact z31_22);(case side2=>exact(Kd.R_reads' HO673.out).2.1);rintro e w50 ⟨v680,v684,rfl,ho0,ho1,hb⟩;refine ⟨_,rfl,?_⟩;have HO681:=U (Kd.R_lower (Kd.R_mono (ok':=fun k_=>True) ho0 (fun _ hk_=>trivial)) (below_size z31_0));have HO685:=U (Kd.N_lower (Kd.N_mono (ok':=fun k_=>some k_≠(v680:Value).ownBlock∧some k_≠(.slice Ao49 t671.length co49:Value).ownBlock∧k_≠gb666∧k_≠gb667) ho1 (fun k_ hk_=>⟨hk_.2,(Kd.fresh' (Kd.R_lt z31_9) k_ hk_.1),(Kd.freshB (g:=gb666) (o:=.cells #[.slice A0_0 l0_0.length c0_0,.bool a0_1,.slice A0_2 l0_2.length c0_2] 53 (0,0)) z31_1 k_ hk_.1),(Kd.freshB (g:=gb667) (o:=.cells #[.slice A1_0 l1_0.length c1_0,.bool a1_1,.slice A1_2 l1_2.length c1_2] 53 (0,0)) z31_2 k_ hk_.1)⟩)) (below_size z31_0));replace HO673:=U (Kd.R_below z31_9 hb);replace BK666:=U (blk_below (g:=gb666) (o:=.cells #[.slice A0_0 l0_0.length c0_0,.bool a0_1,.slice A0_2 l0_2.length c0_2] 53 (0,0)) z31_1 hb);replace BK667:=U (blk_below (g:=gb667) (o:=.cells #[.slice A1_0 l1_0.length c1_0,.bool a1_1,.slice A1_2 l1_2.length c1_2] 53 (0,0)) z31_2 hb);replace HB:=U (below_step z31_0 hb);(try clear hb);(try clear hb2);(try clear hk);(try clear hi);(try clear ho0);(try clear ho1))|((with_reducible refine gate_dst (N:=7) rfl ?_);(try(refine gate_guard (by rfl) ?_;dsimp only));refine box_event ?hg (N:=7) ?hd (cs:=#[.slice none 0 0,.bool false,.slice none 0 0]) (t:=53) ?hr ?_;(case hd=>rfl);(case hg=>rfl);(case hr=>exact z10_10);intro gb687 hg w51 hbox hb;replace HO673:=U (Kd.R_below z31_9 hb);replace HO681:=U (Kd.R_below z31_19 hb);replace HO685:=U (Kd.N_below (Kd.N_elderB z31_20 gb687 (Nat.le_of_eq hg.symm)) hb);have BK687:=U (hbox);have GW687:=U ((by rw [hg];exact(below_size z31_0):w.heap.size≤gb687));have GE687:=U ((by rw [hg];exact(below_size z31_0):w.heap.size≤gb687));replace HB:=U (below_step z31_0 hb);have NB666_687:=U ((by rw [hg];exact Nat.ne_of_lt (blk_lt (g:=gb666) (o:=.cells #[.slice A0_0 l0_0.length c0_0,.bool a0_1,.slice A0_2 l0_2.length c0_2] 53 (0,0)) z31_1):gb666≠gb687));have NB687_666:=U ((by rw [hg];exact Nat.ne_of_gt (blk_lt (g:=gb666) (o:=.cells #[.slice A0_0 l0_0.length c0_0,.bool a0_1,.slice A0_2 l0_2.length c0_2] 53 (0,0)) z31_1):gb687≠gb666));replace BK666:=U (blk_below (g:=gb666) (o:=.cells #[.slice A0_0 l0_0.length c0_0,.bool a0_1,.slice A0_2 l0_2.length c0_2] 53 (0,0)) z31_1 hb);have NB667_687:=U ((by rw [hg];exact Nat.ne_of_lt (blk_lt (g:=gb667) (o:=.cells #[.slice A1_0 l1_0.length c1_0,.bool a1_1,.slice A1_2 l1_2.length c1_2] 53 (0,0)) z31_2):gb667≠gb687));have NB687_667:=U ((by rw [hg];exact Nat.ne_of_gt (blk_lt (g:=gb667) (o:=.cells #[.slice A1_0 l1_0.length c1_0,.bool a1_1,.slice A1_2 l1_2.length c1_2] 53 (0,0)) z31_2):gb687≠gb667));replace BK667:=U (blk_below (g:=gb667) (o:=.cells #[.slice A1_0 l1_0.length c1_0,.bool a1_1,.slice A1_2 l1_2.length c1_2] 53 (0,0)) z31_2 hb);clear hb hbox hg;obtain ⟨Ao52,co52,eo52⟩:=Kd.R_slice HO681.out;subst eo52;have hnb53:=NB687_666.out;have hnc53:=NB666_687.out;have hnb54:=NB687_667.out;have hnc54:=NB667_687.out;obtain ⟨hcz55_0,hcz55_1,hcz55_2,hfz55_0,hfz55_1,hfz55_2⟩:=cz3_ BK687.out;obtain ⟨Ao56,co56,eo56⟩:=Kd.N_slice HO685.out;subst eo56;obtain ⟨hcz57_0,hcz57_1,hcz57_2,hfz57_0,hfz57_1,hfz57_2⟩:=cz3_ BK666.out)|(go_at_call 47;(with_reducible refine(r28_Put.calls kj2 _ _ l0_0 a0_1 _ _ l0_2 t688 _ ?side1 ?side2 ?side3 ?side4 A34.out).mono ?_);(case side1=>exact Kd.C_below HR0_0.out z31_4);(case side2=>exact HC0_0.out);(case side3=>exact Kd.C_below HR0_2.out z31_4);(case side4=>exact HC0_2.out);rintro e w58 ⟨v689,rfl,ho0,hb⟩;replace HO681:=U (Kd.R_below (by(with_reducible repeat(first|apply Kd.R_alloc|apply Kd.R_drewN|apply Kd.R_drew));exact(Kd.R_mono (Kd.R_far (p:=⟨gb687,2,none⟩) (Kd.R_far (p:=⟨gb687,1,none⟩) (Kd.R_far (p:=⟨gb687,0,none⟩) (Kd.R_types HO681.out BK687.out (by decide)) (fun _ hk=>hk.2) (.slice Ao52 t679.length co52)) (fun _ hk=>hk.2) (.bool t682)) (fun _ hk=>hk.2) (.slice Ao56 t683.length co56)) (fun _ h_=>h_.1))) hb);replace HO685:=U (Kd.N_elder' (by(with_reducible repeat(first|apply Kd.N_alloc|apply Kd.N_drewN|apply Kd.N_drew));exact(Kd.N_mono (Kd.N_far (p:=⟨gb687,2,none⟩) (Kd.N_far (p:=⟨gb687,1,none⟩) (Kd.N_far (p:=⟨gb687,0,none⟩) (Kd.N_mono HO685.out (fun k_ hk=>(⟨hk,hk.2⟩:_∧k_≠gb687))) (fun _ hk=>hk.2) (.slice Ao52 t679.length co52)) (fun _ hk=>hk.2) (.bool t682)) (fun _ hk=>hk.2) (.slice Ao56 t683.length co56)) (fun _ h_=>h_.1))) (Kd.R_base ho0) hb);have HO690:=U (Kd.R_lower (Kd.R_new' ho0 (Kd.R_lt z31_16)) (below_size z31_4));replace HO673:=U (Kd.R_elder' z31_16 (Kd.R_base ho0) hb);replace BK666:=U (blk_below (g:=gb666) (o:=.cells #[.slice A0_0 l0_0.length c0_0,.bool a0_1,.slice A0_2 l0_2.length c0_2] 53 (0,0)) (by(with_reducible repeat(first|refine blk_drewN ?_ _|refine blk_drew ?_|refine blk_alloc ?_ _));refine blk_far ?_ NB666_687.out _;(with_reducible repeat(first|refine blk_drewN ?_ _|refine blk_drew ?_|refine blk_alloc ?_ _));refine blk_far ?_ NB666_687.out _;(with_reducible repeat(first|refine blk_drewN ?_ _|refine blk_drew ?_|refine blk_alloc ?_ _));refine blk_far ?_ NB666_687.out _;(with_reducible repeat(first|refine blk_drewN ?_ _|refine blk_drew ?_|refine blk_alloc ?_ _));exact BK666.out) hb);replace BK667:=U (blk_below (g:=gb667) (o:=.cells #[.slice A1_0 l1_0.length c1_0,.bool a1_1,.slice A1_2 l1_2.length c1_2] 53 (0,0)) (by(with_reducible repeat(first|refine blk_drewN ?_ _|refine blk_drew ?_|refine blk_alloc ?_ _));refine blk_far ?_ NB667_687.out _;(with_reducible repeat(first|refine blk_drewN ?_ _|refine blk_drew ?_|refine blk_alloc ?_ _));refine blk_far ?_ NB667_687.out _;(with_reducible repeat(first|refine blk_drewN ?_ _|refine blk_drew ?_|refine blk_alloc ?_ _));refine blk_far ?_ NB667_687.out _;(with_reducible repeat(first|refine blk_drewN ?_ _|refine blk_drew ?_|refine blk_alloc ?_ _));exact BK667.out) hb);replace BK687:=U (blk_below (g:=gb687) (o:=.cells #[.slice Ao52 t679.length co52,.bool t682,.slice Ao56 t683.length co56] 53 (0,0)) (by(with_reducible repeat(first|refine blk_drewN ?_ _|refine blk_drew ?_|refine blk_alloc ?_ _));refine blk_put (cs:=#[.slice Ao52 t679.length co52,.bool t682,.slice none 0 0]) ?_ 2 _ rfl;(with_reducible repeat(first|refine blk_drewN ?_ _|refine blk_drew ?_|refine blk_alloc ?_ _));refine blk_put (cs:=#[.slice Ao52 t679.length co52,.bool false,.slice none 0 0]) ?_ 1 _ rfl;(with_reducible repeat(first|refine blk_drewN ?_ _|refine blk_drew ?_|refine blk_alloc ?_ _));refine blk_put (cs:=#[.slice none 0 0,.bool false,.slice none 0 0]) ?_ 0 _ rfl;(with_reducible repeat(first|refine blk_drewN ?_ _|refine blk_drew ?_|refine blk_alloc ?_ _));exact BK687.out) hb);replace HB:=U (below_step z31_4 hb);(try clear hb);(try clear hb2);(try clear hk);(try clear hi);(try clear ho0);obtain ⟨Ao59,co59,eo59⟩:=Kd.R_slice HO690.out;subst eo59)|(go_at_call 23;(with_reducible refine(r02_Bytes.calls kj2 _ _ t671 _ _ t688 true _ ?side1 ?side2 ?side3 ?side4 A35.out).mono ?_);(case side1=>exact z31_22);(case side2=>exact(Kd.R_reads' HO673.out).2.1);(case side3=>repeat(first|exact(Kd.R_reads' HO690.out).2.2|(with_reducible refine Kd.C_alloc ?_ _)|(with_reducible refine Kd.C_drewN ?_ _)|(with_reducible refine Kd.C_drew ?_)));(case side4=>exact(Kd.R_reads' HO690.out).2.1);rintro e w' ⟨rfl,⟨nd,rfl⟩⟩;obtain ⟨hcz60_0,hcz60_1,hcz60_2,hfz60_0,hfz60_1,hfz60_2⟩:=cz3_ BK687.out;obtain ⟨hcz61_0,hcz61_1,hcz61_2,hfz61_0,hfz61_1,hfz61_2⟩:=cz3_ BK666.out)|(go_at_call 32;(with_reducible refine(r28_Same.calls kj2 _ _ t679 t682 _ _ t683 _ _ l0_0 a0_1 _ _ l0_2 true _ ?side1 ?side2 ?side3 ?side4 ?side5 ?side6 ?side7 ?side8 A38.out).mono ?_);(case side1=>repeat(first|exact(Kd.R_reads' HO681.out).2.2|(with_reducible refine Kd.C_alloc ?_ _)|(with_reducible refine Kd.C_drewN ?_ _)|(with_reducible refine Kd.C_drew ?_)));(case side2=>exact(Kd.R_reads' HO681.out).2.1);(case side3=>repeat(first|exact(Kd.N_reads' HO685.out).2.2|(with_reducible refine Kd.C_alloc ?_ _)|(with_reducible refine Kd.C_drewN ?_ _)|(with_reducible refine Kd.C_drew ?_)));(case side4=>exact(Kd.N_reads' HO685.out).2.1);(case side5=>repeat(first|exact(Kd.C_below HR0_0.out z31_4)|(with_reducible refine Kd.C_alloc ?_ _)|(with_reducible refine Kd.C_drewN ?_ _)|(with_reducible refine Kd.C_drew ?_)));(case side6=>exact HC0_0.out);(case side7=>repeat(first|exact(Kd.C_below HR0_2.out z31_4)|(with_reducible refine Kd.C_alloc ?_ _)|(with_reducible refine Kd.C_drewN ?_ _)|(with_reducible refine Kd.C_drew ?_)));(case side8=>exact HC0_2.out);rintro e w62 ⟨rfl,hb⟩;replace HO673:=U (Kd.R_below z31_9 hb);replace HO681:=U (Kd.R_below z31_19 hb);replace HO685:=U (Kd.N_below z31_20 hb);replace HO690:=U (Kd.R_below (by(with_reducible repeat(first|apply Kd.R_alloc|apply Kd.R_drewN|apply Kd.R_drew));exact HO690.out) hb);replace BK666:=U (blk_below (g:=gb666) (o:=.cells #[.slice A0_0 l0_0.length c0_0,.bool a0_1,.slice A0_2 l0_2.length c0_2] 53 (0,0)) z31_1 hb);replace BK667:=U (blk_below (g:=gb667) (o:=.cells #[.slice A1_0 l1_0.length c1_0,.bool a1_1,.slice A1_2 l1_2.length c1_2] 53 (0,0)) z31_2 hb);replace BK687:=U (blk_below (g:=gb687) (o:=.cells #[.slice Ao52 t679.length co52,.bool t682,.slice Ao56 t683.length co56] 53 (0,0)) z31_25 hb);replace HB:=U (below_step z31_4 hb);(try clear hb);(try clear hb2);(try clear hk);(try clear hi))|(go_at_call 29;(with_reducible refine(w28_awake.calls kj2  t693 _ A40.out).mono ?_);rintro e w63 ⟨rfl,hb⟩;replace HO673:=U (Kd.R_below z31_9 hb);replace HO681:=U (Kd.R_below z31_19 hb);replace HO685:=U (Kd.N_below z31_20 hb);replace HO690:=U (Kd.R_below (by(with_reducible repeat(first|apply Kd.R_alloc|apply Kd.R_drewN|apply Kd.R_drew));exact HO690.out) hb);replace BK666:=U (blk_below (g:=gb666) (o:=.cells #[.slice A0_0 l0_0.length c0_0,.bool a0_1,.slice A0_2 l0_2.length c0_2] 53 (0,0)) z31_1 hb);replace BK667:=U (blk_below (g:=gb667) (o:=.cells #[.slice A1_0 l1_0.length c1_0,.bool a1_1,.slice A1_2 l1_2.length c1_2] 53 (0,0)) z31_2 hb);replace BK687:=U (blk_below (g:=gb687) (o:=.cells #[.slice Ao52 t679.length co52,.bool t682,.slice Ao56 t683.length co56] 53 (0,0)) z31_25 hb);replace HB:=U (below_step z31_4 hb);(try clear hb);(try clear hb2);(try clear hk);(try clear hi)))
 go_ret
 exact ⟨z9_2,z31_4⟩
end Go.Proofs.Ytgocnchjpecafaa.PEv

/- a part -/
import Derived.Test.YtgocnchjpecafaaPEvx19
import Derived.Test.YtgocnchjpecafaaPEvx27
import Derived.Test.YtgocnchjpecafaaPEvx29
namespace Go.Proofs.Ytgocnchjpecafaa.PEv
open Go.RowKit Go.Proofs.YtgocnchjpecafaaW.PrintWords Go.Proofs.YtgocnchjpecafaaW.PrintLast Go.Proofs.YtgocnchjpecafaaW.PrintMore
attribute [local go_sem] max2_int min2_int max_two min_two max_three min_three max_four min_four
set_option linter.unusedVariables false
set_option linter.unusedSimpArgs false
set_option maxHeartbeats 8000000
set_option maxRecDepth 100000
theorem z30_2 {P:Prop} (h:P:=by repeat(first|(with_reducible first|exact HB.out|apply below_alloc|apply pw_below_drewN|apply below_drew1|refine below_set ?_ GE606.out)|exact HB.out)):P:=h
theorem z30_3 {P:Prop} (h:P:=by(with_reducible repeat(first|refine blk_drewN ?_ _|refine blk_drew ?_|refine blk_alloc ?_ _));exact BK606.out):P:=h
theorem z30_4 {P:Prop} (h:P:=by repeat(first|(with_reducible first|exact HB.out|apply below_alloc|apply pw_below_drewN|apply below_drew1|refine below_set ?_ GE606.out|refine below_set ?_ GE607.out)|exact HB.out)):P:=h
theorem z30_5 {P:Prop} (h:P:=by repeat(first|(with_reducible first|exact HB.out|apply below_alloc|apply pw_below_drewN|apply below_drew1|refine below_set ?_ GE625.out)|exact HB.out)):P:=h
theorem z30_6 {P:Prop} (h:P:=by(with_reducible repeat(first|apply Kd.R_alloc|apply Kd.R_drewN|apply Kd.R_drew));exact(Kd.R_mono (Kd.R_far (p:=⟨gb625,2,none⟩) (Kd.R_far (p:=⟨gb625,1,none⟩) (Kd.R_far (p:=⟨gb625,0,none⟩) (Kd.R_types HO619.out BK625.out (by decide)) (λ_ hk=>hk.2) (.slice Ao19 t617.length co19)) (λ_ hk=>hk.2) (.bool t620)) (λ_ hk=>hk.2) (.slice Ao21 t621.length co21)) (λ_ h_=>h_.1))):P:=h
theorem z30_7 {P:Prop} (h:P:=by(with_reducible repeat(first|refine blk_drewN ?_ _|refine blk_drew ?_|refine blk_alloc ?_ _));refine blk_put (cs:=#[.slice Ao19 t617.length co19,.bool t620,.slice none 0 0]) ?_ 2 _ rfl;(with_reducible repeat(first|refine blk_drewN ?_ _|refine blk_drew ?_|refine blk_alloc ?_ _));refine blk_put (cs:=#[.slice Ao19 t617.length co19,.bool false,.slice none 0 0]) ?_ 1 _ rfl;(with_reducible repeat(first|refine blk_drewN ?_ _|refine blk_drew ?_|refine blk_alloc ?_ _));refine blk_put (cs:=#[.slice none 0 0,.bool false,.slice none 0 0]) ?_ 0 _ rfl;(with_reducible repeat(first|refine blk_drewN ?_ _|refine blk_drew ?_|refine blk_alloc ?_ _));exact BK625.out):P:=h
theorem z30_10 {P:Prop} (h:P:=by(with_reducible repeat(first|apply Kd.N_alloc|apply Kd.N_drewN|apply Kd.N_drew));exact(Kd.N_mono (Kd.N_far (p:=⟨gb625,2,none⟩) (Kd.N_far (p:=⟨gb625,1,none⟩) (Kd.N_far (p:=⟨gb625,0,none⟩) (Kd.N_mono HO623.out (λk_ hk=>(⟨hk,hk.2⟩:_/\k_≠gb625))) (λ_ hk=>hk.2) (.slice Ao19 t617.length co19)) (λ_ hk=>hk.2) (.bool t620)) (λ_ hk=>hk.2) (.slice Ao21 t621.length co21)) (λ_ h_=>h_.1))):P:=h
theorem z30_11 {P:Prop} (h:P:=by(with_reducible repeat(first|apply Kd.N_alloc|apply Kd.N_drewN|apply Kd.N_drew));exact(Kd.N_mono (Kd.N_far (p:=⟨gb634,2,none⟩) (Kd.N_far (p:=⟨gb634,1,none⟩) (Kd.N_far (p:=⟨gb634,0,none⟩) (Kd.N_mono HO623.out (λk_ hk=>(⟨hk,hk.2⟩:_/\k_≠gb634))) (λ_ hk=>hk.2) (.slice Ao24 t626.length co24)) (λ_ hk=>hk.2) (.bool t629)) (λ_ hk=>hk.2) (.slice Ao27 t630.length co27)) (λ_ h_=>h_.1))):P:=h
theorem z30_12 {P:Prop} (h:P:=by(with_reducible repeat(first|apply Kd.N_alloc|apply Kd.N_drewN|apply Kd.N_drew));exact(Kd.N_mono (Kd.N_far (p:=⟨gb634,2,none⟩) (Kd.N_far (p:=⟨gb634,1,none⟩) (Kd.N_far (p:=⟨gb634,0,none⟩) (Kd.N_mono HO632.out (λk_ hk=>(⟨hk,hk.2⟩:_/\k_≠gb634))) (λ_ hk=>hk.2) (.slice Ao24 t626.length co24)) (λ_ hk=>hk.2) (.bool t629)) (λ_ hk=>hk.2) (.slice Ao27 t630.length co27)) (λ_ h_=>h_.1))):P:=h
theorem z30_13 {P:Prop} (h:P:=by(with_reducible repeat(first|apply Kd.R_alloc|apply Kd.R_drewN|apply Kd.R_drew));exact(Kd.R_mono (Kd.R_far (p:=⟨gb625,2,none⟩) (Kd.R_far (p:=⟨gb625,1,none⟩) (Kd.R_far (p:=⟨gb625,0,none⟩) (Kd.R_types HO616.out BK625.out (by decide)) (λ_ hk=>hk.2) (.slice Ao19 t617.length co19)) (λ_ hk=>hk.2) (.bool t620)) (λ_ hk=>hk.2) (.slice Ao21 t621.length co21)) (λ_ h_=>h_.1))):P:=h
theorem z30_14 {P:Prop} (h:P:=by(with_reducible repeat(first|apply Kd.R_alloc|apply Kd.R_drewN|apply Kd.R_drew));exact(Kd.R_mono (Kd.R_far (p:=⟨gb634,2,none⟩) (Kd.R_far (p:=⟨gb634,1,none⟩) (Kd.R_far (p:=⟨gb634,0,none⟩) (Kd.R_types HO619.out BK634.out (by decide)) (λ_ hk=>hk.2) (.slice Ao24 t626.length co24)) (λ_ hk=>hk.2) (.bool t629)) (λ_ hk=>hk.2) (.slice Ao27 t630.length co27)) (λ_ h_=>h_.1))):P:=h
theorem z30_15 {P:Prop} (h:P:=by(with_reducible repeat(first|apply Kd.R_alloc|apply Kd.R_drewN|apply Kd.R_drew));exact(Kd.R_mono (Kd.R_far (p:=⟨gb634,2,none⟩) (Kd.R_far (p:=⟨gb634,1,none⟩) (Kd.R_far (p:=⟨gb634,0,none⟩) (Kd.R_types HO628.out BK634.out (by decide)) (λ_ hk=>hk.2) (.slice Ao24 t626.length co24)) (λ_ hk=>hk.2) (.bool t629)) (λ_ hk=>hk.2) (.slice Ao27 t630.length co27)) (λ_ h_=>h_.1))):P:=h
theorem z30_16 {P:Prop} (h:P:=by(with_reducible repeat(first|apply Kd.R_alloc|apply Kd.R_drewN|apply Kd.R_drew));exact HO616.out):P:=h
theorem z30_17 {P:Prop} (h:P:=by repeat(first|(with_reducible first|exact HB.out|apply below_alloc|apply pw_below_drewN|apply below_drew1|refine below_set ?_ GE625.out|refine below_set ?_ GE634.out)|exact HB.out)):P:=h
theorem z30_18 {P:Prop} (h:P:=by(with_reducible repeat(first|refine blk_drewN ?_ _|refine blk_drew ?_|refine blk_alloc ?_ _));exact BK625.out):P:=h
theorem z30_21 {P:Prop} (h:P:=by(with_reducible repeat(first|apply Kd.R_alloc|apply Kd.R_drewN|apply Kd.R_drew));exact HO619.out):P:=h
theorem z30_22 {P:Prop} (h:P:=by(with_reducible repeat(first|apply Kd.N_alloc|apply Kd.N_drewN|apply Kd.N_drew));exact HO623.out):P:=h
theorem z30_24 {P:Prop} (h:P:=by repeat(first|exact(Kd.C_below HR603_2.out HB.out)|(with_reducible refine Kd.C_alloc ?_ _)|(with_reducible refine Kd.C_drewN ?_ _)|(with_reducible refine Kd.C_drew ?_))):P:=h
theorem z30_25 {P:Prop} (h:P:=by repeat(first|exact(Kd.C_below HR603_3.out HB.out)|(with_reducible refine Kd.C_alloc ?_ _)|(with_reducible refine Kd.C_drewN ?_ _)|(with_reducible refine Kd.C_drew ?_))):P:=h
theorem z30_26 {P:Prop} (h:P:=by repeat(first|exact(Kd.C_below HR604_2.out HB.out)|(with_reducible refine Kd.C_alloc ?_ _)|(with_reducible refine Kd.C_drewN ?_ _)|(with_reducible refine Kd.C_drew ?_))):P:=h
theorem z30_27 {P:Prop} (h:P:=by repeat(first|exact(Kd.C_below HR604_3.out HB.out)|(with_reducible refine Kd.C_alloc ?_ _)|(with_reducible refine Kd.C_drewN ?_ _)|(with_reducible refine Kd.C_drew ?_))):P:=h
theorem z30_29 {P:Prop} (h:P:=by repeat(first|exact(Kd.C_below HR1_0.out HB.out)|(with_reducible refine Kd.C_alloc ?_ _)|(with_reducible refine Kd.C_drewN ?_ _)|(with_reducible refine Kd.C_drew ?_))):P:=h
theorem z30_30 {P:Prop} (h:P:=by show Act.put _ (some 25) _=_;simp only [Act.put,List.setIfInBounds_toArray,List.set_cons_zero,List.set_cons_succ,i64_w,i32_w];rfl):P:=h
def r05_All.l0:Nat->List (S30)->List (S30)->Int->Option (Bool)
 | 0,_,_,_=>none
 | k+1,x0,x1,x5=>if x5<(x0.length:Int) then(if 0<=x5 then(if x5<(x1.length:Int) then((r05_Same.f k ((rd_T30 x0 x5).f0.f0) ((rd_T30 x0 x5).f0.f1) ((rd_T30 x0 x5).f1) ((rd_T30 x0 x5).f2) ((rd_T30 x1 x5).f0.f0) ((rd_T30 x1 x5).f0.f1) ((rd_T30 x1 x5).f1) ((rd_T30 x1 x5).f2)).bind λt605=>(if t605=true then(r05_All.l0 k x0 x1 (wrap64 (x5+1))) else(some false))) else(none)) else(none)) else(some true)
def r05_All.f (k:Nat) (l0:List (S30)) (l1:List (S30)):Option (Bool):=if (l0.length:Int)=(l1.length:Int) then(r05_All.l0 k l0 l1 0) else(some false)
def r05_All.T6:Bool×List (List Nat×List Nat):=(true,[([],[]),([],[]),([0,1],[0,1]),([2],[2]),([],[]),([],[]),([4,5],[4,5]),([6],[6]),([3,7],[3,7]),([8],[8])])
def r05_All.B6:List Nat:=[0,0,3,7,0,0,48,112,255,511]
theorem r05_All.tab6:rtab .any (opsOf Try.f42 6)=r05_All.T6:=by kernel_rfl
theorem r05_All.bits6:waitsOk r05_All.T6.2 r05_All.B6=true:=by kernel_rfl
theorem r05_All.calls (k:Nat) (A0:Option Addr) (c0:Nat) (l0:List (S30)) (A1:Option Addr) (c1:Nat) (l1:List (S30)) (r:Bool) (w:World) (hr0:Kd.C k30 w A0 l0.length l0) (hc0:l0.length<=c0) (hr1:Kd.C k30 w A1 l1.length l1) (hc1:l1.length<=c1) (h:r05_All.f k l0 l1=some r) :
  Calls Try.prog 42 #[.slice A0 l0.length c0,.slice A1 l1.length c1] w λe w'=>e = .returned (.bool r)/\Below w.heap.size w w':=by
 have hu30:=Try.underlying30
 have HR0:=Aside0.mk hr0
 have HC0:=Aside0.mk hc0
 clear hr0 hc0
 have HR1:=Aside0.mk hr1
 have HC1:=Aside0.mk hc1
 clear hr1 hc1
 have HB:=U (Below.refl w.heap.size w)
 have H:(if (l0.length:Int)=(l1.length:Int) then(r05_All.l0 k l0 l1 0) else(some false))=some r:=h
 clear h
 by_cases c3:(l0.length:Int)=(l1.length:Int)
 rotate_left
 ·rw [if_neg c3] at H
  have c3b0:((l0.length:Int) == (l1.length:Int))=false:=beq_eq_false_iff_ne.mpr c3
  have c3b1:((l0.length:Int) != (l1.length:Int))=true:=bne_iff_ne.mpr c3
  have c3b2:(l0.length == l1.length)=false:=by first|simpa using c3|(simp at c3 ⊢;omega)
  obtain rfl:=sI_ H
  go_enter Try.func42,Try.ntmps42
  go_wp2
  go_ret
  exact ⟨z9_2,z9_4⟩
 rw [if_pos c3] at H
 have c3b0:((l0.length:Int) == (l1.length:Int))=true:=beq_iff_eq.mpr c3
 have c3b1:((l0.length:Int) != (l1.length:Int))=false:=bne_eq_false_iff_eq.mpr c3
 have c3b2:(l0.length == l1.length)=true:=by first|simpa using c3|(simp at c3 ⊢;omega)
 clear c3
 have H':=Aside0.mk H
 clear H
 go_enter Try.func42,Try.ntmps42
 go_wp2
 go_loopg [5] k (λkq v5 w'=>∃ (x5_1:Int),v5 = .int .i64 x5_1/\Aside0 (r05_All.l0 kq l0 l1 x5_1=some r)/\Aside0 (kq<=k)/\Aside0 (Below w.heap.size w w'))
 case atStart=>exact ⟨(0),(by first|rfl|(simp;done)|(simp [*];done)),H',⟨Nat.le_refl _⟩,⟨z9_4⟩⟩
 case round =>
 clear H'
 try clear c1
 try clear p2
 try clear c3
 try clear c3b0
 try clear c3b1
 try clear c3b2
 obtain ⟨x5_1,rfl,HA,HK1,HB⟩:=hrel
 cases gk with
 | zero=>exact absurd HA.out (by simp [r05_All.l0])
 | succ k1 =>
 have H:=HA.out
 clear HA
 simp only [r05_All.l0] at H
 by_cases c4:x5_1<(l0.length:Int)
 rotate_left
 ·rw [if_neg c4] at H
  have c4b0:decide (x5_1<(l0.length:Int))=false:=dF_ c4
  clear c4
  obtain rfl:=sI_ H
  go_wp2
  go_ret
  exact ⟨z9_2,z9_4⟩
 rw [if_pos c4] at H
 have c4b0:decide (x5_1<(l0.length:Int))=true:=dT_ c4
 clear c4
 by_cases c5:0<=x5_1
 rotate_left
 ·rw [if_neg c5] at H
  exact absurd H (by simp)
 rw [if_pos c5] at H
 have c5b0:decide (0<=x5_1)=true:=dT_ c5
 clear c5
 by_cases c6:x5_1<(l1.length:Int)
 rotate_left
 ·rw [if_neg c6] at H
  exact absurd H (by simp)
 rw [if_pos c6] at H
 have c6b0:decide (x5_1<(l1.length:Int))=true:=dT_ c6
 clear c6
 replace H:=oB_ H
 obtain ⟨t605,A70,H⟩:=H
 replace H:(if t605=true then(r05_All.l0 k1 l0 l1 (wrap64 (x5_1+1))) else(some false))=some r:=H
 have A7:=Aside0.mk A70
 clear A70
 by_cases c8:t605=true
 rotate_left
 ·replace c8:=Bool.eq_false_iff.mpr c8
  subst c8
  have H1:(some false)=some r:=by rw [if_neg (show ¬ (false=true) by decide)] at H;exact H
  clear H
  have H:=H1
  clear H1
  obtain rfl:=sI_ H
  try go_wp2
  have n0_:=U (below_drew1 HB.out)
  clear HB
  have HB:=n0_
  clear n0_
  have p603:0<=(x5_1:Int):=oD_ z6_1
  have q603:x5_1<(l0.length:Int):=oD_ z6_1
  obtain ⟨ad603,A603_2,c603_2,A603_3,c603_3,e603,hx603_0,hx603_1,hx603_2,hx603_3,hl603_2,hi603_2,hl603_3,hi603_3⟩:=at_T30 HR0.out x5_1 p603 q603
  have hw603_3:=hx603_3
  have hw603_2:=hx603_2
  have hw603_1:=hx603_1
  have hw603_0:=hx603_0
  cases e603
  replace hx603_0:=(HB.out.cell (World.block_lt_of_cell? w _ hx603_0)).trans hx603_0
  replace hx603_1:=(HB.out.cell (World.block_lt_of_cell? w _ hx603_1)).trans hx603_1
  replace hx603_2:=(HB.out.cell (World.block_lt_of_cell? w _ hx603_2)).trans hx603_2
  replace hx603_3:=(HB.out.cell (World.block_lt_of_cell? w _ hx603_3)).trans hx603_3
  have HR603_2:=Aside0.mk hi603_2
  have HC603_2:=Aside0.mk hl603_2
  clear hi603_2 hl603_2
  have HR603_3:=Aside0.mk hi603_3
  have HC603_3:=Aside0.mk hl603_3
  clear hi603_3 hl603_3
  replace p603:=eq_true p603
  replace q603:=eq_true q603
  have p604:0<=(x5_1:Int):=oD_ z6_1
  have q604:x5_1<(l1.length:Int):=oD_ z6_1
  obtain ⟨ad604,A604_2,c604_2,A604_3,c604_3,e604,hx604_0,hx604_1,hx604_2,hx604_3,hl604_2,hi604_2,hl604_3,hi604_3⟩:=at_T30 HR1.out x5_1 p604 q604
  have hw604_3:=hx604_3
  have hw604_2:=hx604_2
  have hw604_1:=hx604_1
  have hw604_0:=hx604_0
  cases e604
  replace hx604_0:=(HB.out.cell (World.block_lt_of_cell? w _ hx604_0)).trans hx604_0
  replace hx604_1:=(HB.out.cell (World.block_lt_of_cell? w _ hx604_1)).trans hx604_1
  replace hx604_2:=(HB.out.cell (World.block_lt_of_cell? w _ hx604_2)).trans hx604_2
  replace hx604_3:=(HB.out.cell (World.block_lt_of_cell? w _ hx604_3)).trans hx604_3
  have HR604_2:=Aside0.mk hi604_2
  have HC604_2:=Aside0.mk hl604_2
  clear hi604_2 hl604_2
  have HR604_3:=Aside0.mk hi604_3
  have HC604_3:=Aside0.mk hl604_3
  clear hi604_3 hl604_3
  replace p604:=eq_true p604
  replace q604:=eq_true q604
  refine start_ (n:=10) (S:=λw'=>w'.cell? (ad603.add ((x5_1).toNat*4))=some (.int .i64 ((rd_T30 l0 x5_1).f0.f0))/\w'.cell? ⟨(ad603.add ((x5_1).toNat*4)).block,(ad603.add ((x5_1).toNat*4)).off+1,none⟩=some (.int .i64 ((rd_T30 l0 x5_1).f0.f1))/\w'.cell? ⟨(ad603.add ((x5_1).toNat*4)).block,(ad603.add ((x5_1).toNat*4)).off+2,none⟩=some (.slice A603_2 ((rd_T30 l0 x5_1).f1).length c603_2)/\w'.cell? ⟨(ad603.add ((x5_1).toNat*4)).block,(ad603.add ((x5_1).toNat*4)).off+3,none⟩=some (.slice A603_3 ((rd_T30 l0 x5_1).f2).length c603_3)/\w'.cell? (ad604.add ((x5_1).toNat*4))=some (.int .i64 ((rd_T30 l1 x5_1).f0.f0))/\w'.cell? ⟨(ad604.add ((x5_1).toNat*4)).block,(ad604.add ((x5_1).toNat*4)).off+1,none⟩=some (.int .i64 ((rd_T30 l1 x5_1).f0.f1))/\w'.cell? ⟨(ad604.add ((x5_1).toNat*4)).block,(ad604.add ((x5_1).toNat*4)).off+2,none⟩=some (.slice A604_2 ((rd_T30 l1 x5_1).f1).length c604_2)/\w'.cell? ⟨(ad604.add ((x5_1).toNat*4)).block,(ad604.add ((x5_1).toNat*4)).off+3,none⟩=some (.slice A604_3 ((rd_T30 l1 x5_1).f2).length c604_3)) (ds:=[]) #[J,J,J,J,J,J,J,J,J,J] z3_17 rfl rfl ⟨((HB.out.cell (World.block_lt_of_cell? w _ hw603_0)).trans hw603_0),((HB.out.cell (World.block_lt_of_cell? w _ hw603_1)).trans hw603_1),((HB.out.cell (World.block_lt_of_cell? w _ hw603_2)).trans hw603_2),((HB.out.cell (World.block_lt_of_cell? w _ hw603_3)).trans hw603_3),((HB.out.cell (World.block_lt_of_cell? w _ hw604_0)).trans hw604_0),((HB.out.cell (World.block_lt_of_cell? w _ hw604_1)).trans hw604_1),((HB.out.cell (World.block_lt_of_cell? w _ hw604_2)).trans hw604_2),((HB.out.cell (World.block_lt_of_cell? w _ hw604_3)).trans hw604_3)⟩ (λhHeld=>?_);refine with_tabW r05_All.tab6 r05_All.bits6 (λHT_ HW_=>?_)
  generalize wr.drew=w11 at HB HR603_2 HR603_3 HR604_2 HR604_3 hx603_0 hx603_1 hx603_2 hx603_3 hx604_0 hx604_1 hx604_2 hx604_3 hHeld ⊢
  refine pure_ (i:=0) (N:=some 17) (v:=?_) (a':=?_) #[Y,J,J,J,J,J,J,J,J,J] rfl rfl (any_of HT_.out z3_17) (λ_ _ _ h=>h) (Or.inl ⟨(by rfl),?_⟩) ?_ ?_
  rotate_left
  ·intro w'
   go_simp
   with_reducible rfl
  rotate_left
  ·exact z3_3
  refine pure_ (i:=1) (N:=some 18) (v:=?_) (a':=?_) #[Y,Y,J,J,J,J,J,J,J,J] rfl rfl (any_of HT_.out z3_17) (λ_ _ _ h=>h) (Or.inl ⟨(by rfl),?_⟩) ?_ ?_
  rotate_left
  ·intro w'
   go_simp
   with_reducible rfl
  rotate_left
  ·exact z3_3
  refine pure_ (i:=2) (N:=some 19) (v:=?_) (a':=?_) #[Y,Y,Y,J,J,J,J,J,J,J] rfl rfl (any_of HT_.out z3_17) (λ_ _ _ h=>h) (Or.inl ⟨(by rfl),?_⟩) ?_ ?_
  rotate_left
  ·intro w'
   go_simp
   with_reducible rfl
  rotate_left
  ·exact z3_3
  refine pure_ (i:=4) (N:=some 21) (v:=?_) (a':=?_) #[Y,Y,Y,J,Y,J,J,J,J,J] rfl rfl (any_of HT_.out z3_17) (λ_ _ _ h=>h) (Or.inl ⟨(by rfl),?_⟩) ?_ ?_
  rotate_left
  ·intro w'
   go_simp
   with_reducible rfl
  rotate_left
  ·exact z3_3
  refine pure_ (i:=5) (N:=some 22) (v:=?_) (a':=?_) #[Y,Y,Y,J,Y,Y,J,J,J,J] rfl rfl (any_of HT_.out z3_17) (λ_ _ _ h=>h) (Or.inl ⟨(by rfl),?_⟩) ?_ ?_
  rotate_left
  ·intro w'
   go_simp
   with_reducible rfl
  rotate_left
  ·exact z3_3
  refine pure_ (i:=6) (N:=some 23) (v:=?_) (a':=?_) #[Y,Y,Y,J,Y,Y,Y,J,J,J] rfl rfl (any_of HT_.out z3_17) (λ_ _ _ h=>h) (Or.inl ⟨(by rfl),?_⟩) ?_ ?_
  rotate_left
  ·intro w'
   go_simp
   with_reducible rfl
  rotate_left
  ·exact z3_3
  refine take_ (i:=3) (N:=some 20) (v:=?_) (a':=?_) #[Y,Y,Y,Y,Y,Y,Y,J,J,J] rfl rfl (take_ofW HT_.out HW_.out z3_17) (λ_ _ _ h=>h) (Or.inl ⟨(by rfl),?_⟩) hHeld ?_ ?_
  rotate_left
  ·rintro w' ⟨s0,s1,s2,s3,s4,s5,s6,s7⟩
   go_simp
   with_reducible rfl
  rotate_left
  ·exact z3_3
  refine take_ (i:=7) (N:=some 24) (v:=?_) (a':=?_) #[Y,Y,Y,Y,Y,Y,Y,Y,J,J] rfl rfl (take_ofW HT_.out HW_.out z3_17) (λ_ _ _ h=>h) (Or.inl ⟨(by rfl),?_⟩) hHeld ?_ ?_
  rotate_left
  ·rintro w' ⟨s0,s1,s2,s3,s4,s5,s6,s7⟩
   go_simp
   with_reducible rfl
  rotate_left
  ·exact z3_3
  refine one_ (i:=8) (N:=some 25) #[Y,Y,Y,Y,Y,Y,Y,Y,Y,J] rfl rfl (one_of HT_.out z3_17) (by decide) (λK hK=>?_)
  refine goes_ Try.func15 z3_17 rfl #[.agg #[.int .i64 ((rd_T30 l0 x5_1).f0.f0),.int .i64 ((rd_T30 l0 x5_1).f0.f1),.slice A603_2 ((rd_T30 l0 x5_1).f1).length c603_2,.slice A603_3 ((rd_T30 l0 x5_1).f2).length c603_3],.agg #[.int .i64 ((rd_T30 l1 x5_1).f0.f0),.int .i64 ((rd_T30 l1 x5_1).f0.f1),.slice A604_2 ((rd_T30 l1 x5_1).f1).length c604_2,.slice A604_3 ((rd_T30 l1 x5_1).f2).length c604_3]] (by rfl) rfl rfl z6_5 ?_
  with_reducible refine(r05_Same.calls k1 ((rd_T30 l0 x5_1).f0.f0) ((rd_T30 l0 x5_1).f0.f1) _ _ ((rd_T30 l0 x5_1).f1) _ _ ((rd_T30 l0 x5_1).f2) ((rd_T30 l1 x5_1).f0.f0) ((rd_T30 l1 x5_1).f0.f1) _ _ ((rd_T30 l1 x5_1).f1) _ _ ((rd_T30 l1 x5_1).f2) false _ ?side1 ?side2 ?side3 ?side4 ?side5 ?side6 ?side7 ?side8 A7.out).mono ?_
  (case side1=>exact z30_24)
  (case side2=>exact HC603_2.out)
  (case side3=>exact z30_25)
  (case side4=>exact HC603_3.out)
  (case side5=>exact z30_26)
  (case side6=>exact HC604_2.out)
  (case side7=>exact z30_27)
  (case side8=>exact HC604_3.out)
  rintro e w12 ⟨rfl,hb⟩
  refine ⟨_,rfl,?_⟩
  have n0_:=U (below_step z9_4 hb)
  clear HB
  have HB:=n0_
  clear n0_
  (try clear hb)
  (try clear hb2)
  (try clear hk)
  (try clear hi)
  refine hK.out _ _ ⟨((HB.out.cell (World.block_lt_of_cell? w _ hw603_0)).trans hw603_0),((HB.out.cell (World.block_lt_of_cell? w _ hw603_1)).trans hw603_1),((HB.out.cell (World.block_lt_of_cell? w _ hw603_2)).trans hw603_2),((HB.out.cell (World.block_lt_of_cell? w _ hw603_3)).trans hw603_3),((HB.out.cell (World.block_lt_of_cell? w _ hw604_0)).trans hw604_0),((HB.out.cell (World.block_lt_of_cell? w _ hw604_1)).trans hw604_1),((HB.out.cell (World.block_lt_of_cell? w _ hw604_2)).trans hw604_2),((HB.out.cell (World.block_lt_of_cell? w _ hw604_3)).trans hw604_3)⟩ (λhHeld=>?_)
  clear hK K
  refine norm_ (a':=?_) ?_ ?_
  rotate_left
  ·exact z30_30
  refine pure_ (i:=9) (N:=some 26) (v:=?_) (a':=?_) #[Y,Y,Y,Y,Y,Y,Y,Y,Y,Y] rfl rfl (any_of HT_.out z3_17) (λ_ _ _ h=>h) (Or.inl ⟨(by rfl),?_⟩) ?_ ?_
  rotate_left
  ·intro w'
   go_simp
   with_reducible rfl
  rotate_left
  ·exact z3_3
  refine done_ (done_of HT_.out z3_17) ?_
  try go_wp2
  go_ret
  exact ⟨z9_2,z9_4⟩
 subst c8
 have H1:(r05_All.l0 k1 l0 l1 (wrap64 (x5_1+1)))=some r:=by rw [if_pos rfl] at H;exact H
 clear H
 have H:=H1
 clear H1
 have H':=Aside0.mk H
 clear H
 try go_wp2
 have n0_:=U (below_drew1 HB.out)
 clear HB
 have HB:=n0_
 clear n0_
 have p603:0<=(x5_1:Int):=oD_ z6_1
 have q603:x5_1<(l0.length:Int):=oD_ z6_1
 obtain ⟨ad603,A603_2,c603_2,A603_3,c603_3,e603,hx603_0,hx603_1,hx603_2,hx603_3,hl603_2,hi603_2,hl603_3,hi603_3⟩:=at_T30 HR0.out x5_1 p603 q603
 have hw603_3:=hx603_3
 have hw603_2:=hx603_2
 have hw603_1:=hx603_1
 have hw603_0:=hx603_0
 cases e603
 replace hx603_0:=(HB.out.cell (World.block_lt_of_cell? w _ hx603_0)).trans hx603_0
 replace hx603_1:=(HB.out.cell (World.block_lt_of_cell? w _ hx603_1)).trans hx603_1
 replace hx603_2:=(HB.out.cell (World.block_lt_of_cell? w _ hx603_2)).trans hx603_2
 replace hx603_3:=(HB.out.cell (World.block_lt_of_cell? w _ hx603_3)).trans hx603_3
 have HR603_2:=Aside0.mk hi603_2
 have HC603_2:=Aside0.mk hl603_2
 clear hi603_2 hl603_2
 have HR603_3:=Aside0.mk hi603_3
 have HC603_3:=Aside0.mk hl603_3
 clear hi603_3 hl603_3
 replace p603:=eq_true p603
 replace q603:=eq_true q603
 have p604:0<=(x5_1:Int):=oD_ z6_1
 have q604:x5_1<(l1.length:Int):=oD_ z6_1
 obtain ⟨ad604,A604_2,c604_2,A604_3,c604_3,e604,hx604_0,hx604_1,hx604_2,hx604_3,hl604_2,hi604_2,hl604_3,hi604_3⟩:=at_T30 HR1.out x5_1 p604 q604
 have hw604_3:=hx604_3
 have hw604_2:=hx604_2
 have hw604_1:=hx604_1
 have hw604_0:=hx604_0
 cases e604
 replace hx604_0:=(HB.out.cell (World.block_lt_of_cell? w _ hx604_0)).trans hx604_0
 replace hx604_1:=(HB.out.cell (World.block_lt_of_cell? w _ hx604_1)).trans hx604_1
 replace hx604_2:=(HB.out.cell (World.block_lt_of_cell? w _ hx604_2)).trans hx604_2
 replace hx604_3:=(HB.out.cell (World.block_lt_of_cell? w _ hx604_3)).trans hx604_3
 have HR604_2:=Aside0.mk hi604_2
 have HC604_2:=Aside0.mk hl604_2
 clear hi604_2 hl604_2
 have HR604_3:=Aside0.mk hi604_3
 have HC604_3:=Aside0.mk hl604_3
 clear hi604_3 hl604_3
 replace p604:=eq_true p604
 replace q604:=eq_true q604
 refine start_ (n:=10) (S:=λw'=>w'.cell? (ad603.add ((x5_1).toNat*4))=some (.int .i64 ((rd_T30 l0 x5_1).f0.f0))/\w'.cell? ⟨(ad603.add ((x5_1).toNat*4)).block,(ad603.add ((x5_1).toNat*4)).off+1,none⟩=some (.int .i64 ((rd_T30 l0 x5_1).f0.f1))/\w'.cell? ⟨(ad603.add ((x5_1).toNat*4)).block,(ad603.add ((x5_1).toNat*4)).off+2,none⟩=some (.slice A603_2 ((rd_T30 l0 x5_1).f1).length c603_2)/\w'.cell? ⟨(ad603.add ((x5_1).toNat*4)).block,(ad603.add ((x5_1).toNat*4)).off+3,none⟩=some (.slice A603_3 ((rd_T30 l0 x5_1).f2).length c603_3)/\w'.cell? (ad604.add ((x5_1).toNat*4))=some (.int .i64 ((rd_T30 l1 x5_1).f0.f0))/\w'.cell? ⟨(ad604.add ((x5_1).toNat*4)).block,(ad604.add ((x5_1).toNat*4)).off+1,none⟩=some (.int .i64 ((rd_T30 l1 x5_1).f0.f1))/\w'.cell? ⟨(ad604.add ((x5_1).toNat*4)).block,(ad604.add ((x5_1).toNat*4)).off+2,none⟩=some (.slice A604_2 ((rd_T30 l1 x5_1).f1).length c604_2)/\w'.cell? ⟨(ad604.add ((x5_1).toNat*4)).block,(ad604.add ((x5_1).toNat*4)).off+3,none⟩=some (.slice A604_3 ((rd_T30 l1 x5_1).f2).length c604_3)) (ds:=[]) #[J,J,J,J,J,J,J,J,J,J] z3_17 rfl rfl ⟨((HB.out.cell (World.block_lt_of_cell? w _ hw603_0)).trans hw603_0),((HB.out.cell (World.block_lt_of_cell? w _ hw603_1)).trans hw603_1),((HB.out.cell (World.block_lt_of_cell? w _ hw603_2)).trans hw603_2),((HB.out.cell (World.block_lt_of_cell? w _ hw603_3)).trans hw603_3),((HB.out.cell (World.block_lt_of_cell? w _ hw604_0)).trans hw604_0),((HB.out.cell (World.block_lt_of_cell? w _ hw604_1)).trans hw604_1),((HB.out.cell (World.block_lt_of_cell? w _ hw604_2)).trans hw604_2),((HB.out.cell (World.block_lt_of_cell? w _ hw604_3)).trans hw604_3)⟩ (λhHeld=>?_);refine with_tabW r05_All.tab6 r05_All.bits6 (λHT_ HW_=>?_)
 generalize wr.drew=w9 at HB HR603_2 HR603_3 HR604_2 HR604_3 hx603_0 hx603_1 hx603_2 hx603_3 hx604_0 hx604_1 hx604_2 hx604_3 hHeld ⊢
 refine pure_ (i:=0) (N:=some 17) (v:=?_) (a':=?_) #[Y,J,J,J,J,J,J,J,J,J] rfl rfl (any_of HT_.out z3_17) (λ_ _ _ h=>h) (Or.inl ⟨(by rfl),?_⟩) ?_ ?_
 rotate_left
 ·intro w'
  go_simp
  with_reducible rfl
 rotate_left
 ·exact z3_3
 refine pure_ (i:=1) (N:=some 18) (v:=?_) (a':=?_) #[Y,Y,J,J,J,J,J,J,J,J] rfl rfl (any_of HT_.out z3_17) (λ_ _ _ h=>h) (Or.inl ⟨(by rfl),?_⟩) ?_ ?_
 rotate_left
 ·intro w'
  go_simp
  with_reducible rfl
 rotate_left
 ·exact z3_3
 refine pure_ (i:=2) (N:=some 19) (v:=?_) (a':=?_) #[Y,Y,Y,J,J,J,J,J,J,J] rfl rfl (any_of HT_.out z3_17) (λ_ _ _ h=>h) (Or.inl ⟨(by rfl),?_⟩) ?_ ?_
 rotate_left
 ·intro w'
  go_simp
  with_reducible rfl
 rotate_left
 ·exact z3_3
 refine pure_ (i:=4) (N:=some 21) (v:=?_) (a':=?_) #[Y,Y,Y,J,Y,J,J,J,J,J] rfl rfl (any_of HT_.out z3_17) (λ_ _ _ h=>h) (Or.inl ⟨(by rfl),?_⟩) ?_ ?_
 rotate_left
 ·intro w'
  go_simp
  with_reducible rfl
 rotate_left
 ·exact z3_3
 refine pure_ (i:=5) (N:=some 22) (v:=?_) (a':=?_) #[Y,Y,Y,J,Y,Y,J,J,J,J] rfl rfl (any_of HT_.out z3_17) (λ_ _ _ h=>h) (Or.inl ⟨(by rfl),?_⟩) ?_ ?_
 rotate_left
 ·intro w'
  go_simp
  with_reducible rfl
 rotate_left
 ·exact z3_3
 refine pure_ (i:=6) (N:=some 23) (v:=?_) (a':=?_) #[Y,Y,Y,J,Y,Y,Y,J,J,J] rfl rfl (any_of HT_.out z3_17) (λ_ _ _ h=>h) (Or.inl ⟨(by rfl),?_⟩) ?_ ?_
 rotate_left
 ·intro w'
  go_simp
  with_reducible rfl
 rotate_left
 ·exact z3_3
 refine take_ (i:=3) (N:=some 20) (v:=?_) (a':=?_) #[Y,Y,Y,Y,Y,Y,Y,J,J,J] rfl rfl (take_ofW HT_.out HW_.out z3_17) (λ_ _ _ h=>h) (Or.inl ⟨(by rfl),?_⟩) hHeld ?_ ?_
 rotate_left
 ·rintro w' ⟨s0,s1,s2,s3,s4,s5,s6,s7⟩
  go_simp
  with_reducible rfl
 rotate_left
 ·exact z3_3
 refine take_ (i:=7) (N:=some 24) (v:=?_) (a':=?_) #[Y,Y,Y,Y,Y,Y,Y,Y,J,J] rfl rfl (take_ofW HT_.out HW_.out z3_17) (λ_ _ _ h=>h) (Or.inl ⟨(by rfl),?_⟩) hHeld ?_ ?_
 rotate_left
 ·rintro w' ⟨s0,s1,s2,s3,s4,s5,s6,s7⟩
  go_simp
  with_reducible rfl
 rotate_left
 ·exact z3_3
 refine one_ (i:=8) (N:=some 25) #[Y,Y,Y,Y,Y,Y,Y,Y,Y,J] rfl rfl (one_of HT_.out z3_17) (by decide) (λK hK=>?_)
 refine goes_ Try.func15 z3_17 rfl #[.agg #[.int .i64 ((rd_T30 l0 x5_1).f0.f0),.int .i64 ((rd_T30 l0 x5_1).f0.f1),.slice A603_2 ((rd_T30 l0 x5_1).f1).length c603_2,.slice A603_3 ((rd_T30 l0 x5_1).f2).length c603_3],.agg #[.int .i64 ((rd_T30 l1 x5_1).f0.f0),.int .i64 ((rd_T30 l1 x5_1).f0.f1),.slice A604_2 ((rd_T30 l1 x5_1).f1).length c604_2,.slice A604_3 ((rd_T30 l1 x5_1).f2).length c604_3]] (by rfl) rfl rfl z6_5 ?_
 with_reducible refine(r05_Same.calls k1 ((rd_T30 l0 x5_1).f0.f0) ((rd_T30 l0 x5_1).f0.f1) _ _ ((rd_T30 l0 x5_1).f1) _ _ ((rd_T30 l0 x5_1).f2) ((rd_T30 l1 x5_1).f0.f0) ((rd_T30 l1 x5_1).f0.f1) _ _ ((rd_T30 l1 x5_1).f1) _ _ ((rd_T30 l1 x5_1).f2) true _ ?side1 ?side2 ?side3 ?side4 ?side5 ?side6 ?side7 ?side8 A7.out).mono ?_
 (case side1=>exact z30_24)
 (case side2=>exact HC603_2.out)
 (case side3=>exact z30_25)
 (case side4=>exact HC603_3.out)
 (case side5=>exact z30_26)
 (case side6=>exact HC604_2.out)
 (case side7=>exact z30_27)
 (case side8=>exact HC604_3.out)
 rintro e w10 ⟨rfl,hb⟩
 refine ⟨_,rfl,?_⟩
 have n0_:=U (below_step z9_4 hb)
 clear HB
 have HB:=n0_
 clear n0_
 (try clear hb)
 (try clear hb2)
 (try clear hk)
 (try clear hi)
 refine hK.out _ _ ⟨((HB.out.cell (World.block_lt_of_cell? w _ hw603_0)).trans hw603_0),((HB.out.cell (World.block_lt_of_cell? w _ hw603_1)).trans hw603_1),((HB.out.cell (World.block_lt_of_cell? w _ hw603_2)).trans hw603_2),((HB.out.cell (World.block_lt_of_cell? w _ hw603_3)).trans hw603_3),((HB.out.cell (World.block_lt_of_cell? w _ hw604_0)).trans hw604_0),((HB.out.cell (World.block_lt_of_cell? w _ hw604_1)).trans hw604_1),((HB.out.cell (World.block_lt_of_cell? w _ hw604_2)).trans hw604_2),((HB.out.cell (World.block_lt_of_cell? w _ hw604_3)).trans hw604_3)⟩ (λhHeld=>?_)
 clear hK K
 refine norm_ (a':=?_) ?_ ?_
 rotate_left
 ·exact z30_30
 refine pure_ (i:=9) (N:=some 26) (v:=?_) (a':=?_) #[Y,Y,Y,Y,Y,Y,Y,Y,Y,Y] rfl rfl (any_of HT_.out z3_17) (λ_ _ _ h=>h) (Or.inl ⟨(by rfl),?_⟩) ?_ ?_
 rotate_left
 ·intro w'
  go_simp
  with_reducible rfl
 rotate_left
 ·exact z3_3
 refine done_ (done_of HT_.out z3_17) ?_
 try go_wp2
 go_roundg k1
 case measure=>have:=HK1.out;omega
 case rel=>exact ⟨(wrap64 (x5_1+1)),(by first|rfl|(simp;done)|(simp [*];done)),H',⟨(by have:=HK1.out;omega)⟩,⟨z9_4⟩⟩
def r28_Same.f (k:Nat) (l0_0:List Int) (a0_1:Bool) (l0_2:List (S30)) (l1_0:List Int) (a1_1:Bool) (l1_2:List (S30)):Option (Bool):=if (a0_1 == a1_1)=true then((r03_Same.f k l0_0 l1_0).bind λt608=>(if t608=true then((r05_All.f k l0_2 l1_2).bind λt609=>(some t609)) else(some false))) else(some false)
theorem r28_Same.calls (k:Nat) (A0_0:Option Addr) (c0_0:Nat) (l0_0:List Int) (a0_1:Bool) (A0_2:Option Addr) (c0_2:Nat) (l0_2:List (S30)) (A1_0:Option Addr) (c1_0:Nat) (l1_0:List Int) (a1_1:Bool) (A1_2:Option Addr) (c1_2:Nat) (l1_2:List (S30)) (r:Bool) (w:World) (hr0_0:Kd.C (Kd.int .i64) w A0_0 l0_0.length l0_0) (hc0_0:l0_0.length<=c0_0) (hr0_2:Kd.C k30 w A0_2 l0_2.length l0_2) (hc0_2:l0_2.length<=c0_2) (hr1_0:Kd.C (Kd.int .i64) w A1_0 l1_0.length l1_0) (hc1_0:l1_0.length<=c1_0) (hr1_2:Kd.C k30 w A1_2 l1_2.length l1_2) (hc1_2:l1_2.length<=c1_2) (h:r28_Same.f k l0_0 a0_1 l0_2 l1_0 a1_1 l1_2=some r) :
  Calls Try.prog 32 #[.agg #[.slice A0_0 l0_0.length c0_0,.bool a0_1,.slice A0_2 l0_2.length c0_2],.agg #[.slice A1_0 l1_0.length c1_0,.bool a1_1,.slice A1_2 l1_2.length c1_2]] w λe w'=>e = .returned (.bool r)/\Below w.heap.size w w':=by
 have hu53:=Try.underlying53
 have HR0_0:=Aside0.mk hr0_0
 have HC0_0:=Aside0.mk hc0_0
 clear hr0_0 hc0_0
 have HR0_2:=Aside0.mk hr0_2
 have HC0_2:=Aside0.mk hc0_2
 clear hr0_2 hc0_2
 have HR1_0:=Aside0.mk hr1_0
 have HC1_0:=Aside0.mk hc1_0
 clear hr1_0 hc1_0
 have HR1_2:=Aside0.mk hr1_2
 have HC1_2:=Aside0.mk hc1_2
 clear hr1_2 hc1_2
 have HB:=U (Below.refl w.heap.size w)
 have H:(if (a0_1 == a1_1)=true then((r03_Same.f k l0_0 l1_0).bind λt608=>(if t608=true then((r05_All.f k l0_2 l1_2).bind λt609=>(some t609)) else(some false))) else(some false))=some r:=h
 clear h
 by_cases c3:(a0_1 == a1_1)=true
 rotate_left
 ·rw [if_neg c3] at H
  have c3b0:(a0_1 == a1_1)=false:=by simpa using c3
  (try(have c3b1:decide (a0_1=a1_1)=false:=by simpa using c3))
  (try(have c3b2:(a0_1 == a1_1)=false:=by simpa using c3))
  (try(have c3b3:¬ (a0_1=a1_1):=by simpa using c3))
  clear c3
  obtain rfl:=sI_ H
  go_enter Try.func32,Try.ntmps32
  go_wp2_with (first|((with_reducible refine gate_dst (N:=2) rfl ?_);refine box_event ?hg (N:=2) ?hd (cs:=#[.slice A0_0 l0_0.length c0_0,.bool a0_1,.slice A0_2 l0_2.length c0_2]) (t:=53) ?hr ?_;(case hd=>rfl);(case hg=>rfl);(case hr=>exact z10_10);intro gb606 hg w18 hbox hb;have BK606:=U (hbox);have GW606:=U ((by rw [hg];exact(below_size z9_4):w.heap.size<=gb606));have GE606:=U ((by rw [hg];exact(below_size z9_4):w.heap.size<=gb606));replace HB:=U (below_step z9_4 hb);clear hb hbox hg)|((with_reducible refine gate_dst (N:=3) rfl ?_);refine box_event ?hg (N:=3) ?hd (cs:=#[.slice A1_0 l1_0.length c1_0,.bool a1_1,.slice A1_2 l1_2.length c1_2]) (t:=53) ?hr ?_;(case hd=>rfl);(case hg=>rfl);(case hr=>exact z10_10);intro gb607 hg w19 hbox hb;have BK607:=U (hbox);have GW607:=U ((by rw [hg];exact(below_size z30_2):w.heap.size<=gb607));have GE607:=U ((by rw [hg];exact(below_size z30_2):w.heap.size<=gb607));replace HB:=U (below_step z30_2 hb);have NB606_607:=U ((by rw [hg];exact Nat.ne_of_lt (blk_lt (g:=gb606) (o:=.cells #[.slice A0_0 l0_0.length c0_0,.bool a0_1,.slice A0_2 l0_2.length c0_2] 53 (0,0)) z30_3):gb606≠gb607));have NB607_606:=U ((by rw [hg];exact Nat.ne_of_gt (blk_lt (g:=gb606) (o:=.cells #[.slice A0_0 l0_0.length c0_0,.bool a0_1,.slice A0_2 l0_2.length c0_2] 53 (0,0)) z30_3):gb607≠gb606));replace BK606:=U (blk_below (g:=gb606) (o:=.cells #[.slice A0_0 l0_0.length c0_0,.bool a0_1,.slice A0_2 l0_2.length c0_2] 53 (0,0)) z30_3 hb);clear hb hbox hg;have hnb20:=NB606_607.out;have hnc20:=NB607_606.out;obtain ⟨hcz21_0,hcz21_1,hcz21_2,hfz21_0,hfz21_1,hfz21_2⟩:=cz3_ BK606.out;obtain ⟨hcz22_0,hcz22_1,hcz22_2,hfz22_0,hfz22_1,hfz22_2⟩:=cz3_ BK607.out))
  go_ret
  exact ⟨z9_2,z30_4⟩
 rw [if_pos c3] at H
 have c3b0:(a0_1 == a1_1)=true:=c3
 (try(have c3b1:decide (a0_1=a1_1)=true:=by simpa using c3))
 (try(have c3b2:(a0_1 == a1_1)=true:=by simpa using c3))
 clear c3
 replace H:=oB_ H
 obtain ⟨t608,A40,H⟩:=H
 replace H:(if t608=true then((r05_All.f k l0_2 l1_2).bind λt609=>(some t609)) else(some false))=some r:=H
 have A4:=Aside0.mk A40
 clear A40
 by_cases c5:t608=true
 rotate_left
 ·replace c5:=Bool.eq_false_iff.mpr c5
  subst c5
  have H1:(some false)=some r:=by rw [if_neg (show ¬ (false=true) by decide)] at H;exact H
  clear H
  have H:=H1
  clear H1
  obtain rfl:=sI_ H
  go_enter Try.func32,Try.ntmps32
  go_wp2_with (first|((with_reducible refine gate_dst (N:=2) rfl ?_);refine box_event ?hg (N:=2) ?hd (cs:=#[.slice A0_0 l0_0.length c0_0,.bool a0_1,.slice A0_2 l0_2.length c0_2]) (t:=53) ?hr ?_;(case hd=>rfl);(case hg=>rfl);(case hr=>exact z10_10);intro gb606 hg w13 hbox hb;have BK606:=U (hbox);have GW606:=U ((by rw [hg];exact(below_size z9_4):w.heap.size<=gb606));have GE606:=U ((by rw [hg];exact(below_size z9_4):w.heap.size<=gb606));replace HB:=U (below_step z9_4 hb);clear hb hbox hg)|((with_reducible refine gate_dst (N:=3) rfl ?_);refine box_event ?hg (N:=3) ?hd (cs:=#[.slice A1_0 l1_0.length c1_0,.bool a1_1,.slice A1_2 l1_2.length c1_2]) (t:=53) ?hr ?_;(case hd=>rfl);(case hg=>rfl);(case hr=>exact z10_10);intro gb607 hg w14 hbox hb;have BK607:=U (hbox);have GW607:=U ((by rw [hg];exact(below_size z30_2):w.heap.size<=gb607));have GE607:=U ((by rw [hg];exact(below_size z30_2):w.heap.size<=gb607));replace HB:=U (below_step z30_2 hb);have NB606_607:=U ((by rw [hg];exact Nat.ne_of_lt (blk_lt (g:=gb606) (o:=.cells #[.slice A0_0 l0_0.length c0_0,.bool a0_1,.slice A0_2 l0_2.length c0_2] 53 (0,0)) z30_3):gb606≠gb607));have NB607_606:=U ((by rw [hg];exact Nat.ne_of_gt (blk_lt (g:=gb606) (o:=.cells #[.slice A0_0 l0_0.length c0_0,.bool a0_1,.slice A0_2 l0_2.length c0_2] 53 (0,0)) z30_3):gb607≠gb606));replace BK606:=U (blk_below (g:=gb606) (o:=.cells #[.slice A0_0 l0_0.length c0_0,.bool a0_1,.slice A0_2 l0_2.length c0_2] 53 (0,0)) z30_3 hb);clear hb hbox hg;have hnb15:=NB606_607.out;have hnc15:=NB607_606.out;obtain ⟨hcz16_0,hcz16_1,hcz16_2,hfz16_0,hfz16_1,hfz16_2⟩:=cz3_ BK606.out;obtain ⟨hcz17_0,hcz17_1,hcz17_2,hfz17_0,hfz17_1,hfz17_2⟩:=cz3_ BK607.out)|(go_at_call 56;(with_reducible refine(r03_Same.calls k _ _ l0_0 _ _ l1_0 false _ ?side1 ?side2 ?side3 ?side4 A4.out).mono ?_);(case side1=>exact z28_3);(case side2=>exact HC0_0.out);(case side3=>exact z30_29);(case side4=>exact HC1_0.out);rintro e w' ⟨rfl,⟨nd,rfl⟩⟩))
  go_ret
  exact ⟨z9_2,z30_4⟩
 subst c5
 have H1:((r05_All.f k l0_2 l1_2).bind λt609=>(some t609))=some r:=by rw [if_pos rfl] at H;exact H
 clear H
 have H:=H1
 clear H1
 replace H:=oB_ H
 obtain ⟨t609,A60,H⟩:=H
 replace H:(some t609)=some r:=H
 have A6:=Aside0.mk A60
 clear A60
 obtain rfl:=sI_ H
 go_enter Try.func32,Try.ntmps32
 go_wp2_with (first|((with_reducible refine gate_dst (N:=2) rfl ?_);refine box_event ?hg (N:=2) ?hd (cs:=#[.slice A0_0 l0_0.length c0_0,.bool a0_1,.slice A0_2 l0_2.length c0_2]) (t:=53) ?hr ?_;(case hd=>rfl);(case hg=>rfl);(case hr=>exact z10_10);intro gb606 hg w7 hbox hb;have BK606:=U (hbox);have GW606:=U ((by rw [hg];exact(below_size z9_4):w.heap.size<=gb606));have GE606:=U ((by rw [hg];exact(below_size z9_4):w.heap.size<=gb606));replace HB:=U (below_step z9_4 hb);clear hb hbox hg)|((with_reducible refine gate_dst (N:=3) rfl ?_);refine box_event ?hg (N:=3) ?hd (cs:=#[.slice A1_0 l1_0.length c1_0,.bool a1_1,.slice A1_2 l1_2.length c1_2]) (t:=53) ?hr ?_;(case hd=>rfl);(case hg=>rfl);(case hr=>exact z10_10);intro gb607 hg w8 hbox hb;have BK607:=U (hbox);have GW607:=U ((by rw [hg];exact(below_size z30_2):w.heap.size<=gb607));have GE607:=U ((by rw [hg];exact(below_size z30_2):w.heap.size<=gb607));replace HB:=U (below_step z30_2 hb);have NB606_607:=U ((by rw [hg];exact Nat.ne_of_lt (blk_lt (g:=gb606) (o:=.cells #[.slice A0_0 l0_0.length c0_0,.bool a0_1,.slice A0_2 l0_2.length c0_2] 53 (0,0)) z30_3):gb606≠gb607));have NB607_606:=U ((by rw [hg];exact Nat.ne_of_gt (blk_lt (g:=gb606) (o:=.cells #[.slice A0_0 l0_0.length c0_0,.bool a0_1,.slice A0_2 l0_2.length c0_2] 53 (0,0)) z30_3):gb607≠gb606));replace BK606:=U (blk_below (g:=gb606) (o:=.cells #[.slice A0_0 l0_0.length c0_0,.bool a0_1,.slice A0_2 l0_2.length c0_2] 53 (0,0)) z30_3 hb);clear hb hbox hg;have hnb9:=NB606_607.out;have hnc9:=NB607_606.out;obtain ⟨hcz10_0,hcz10_1,hcz10_2,hfz10_0,hfz10_1,hfz10_2⟩:=cz3_ BK606.out;obtain ⟨hcz11_0,hcz11_1,hcz11_2,hfz11_0,hfz11_1,hfz11_2⟩:=cz3_ BK607.out)|(go_at_call 56;(with_reducible refine(r03_Same.calls k _ _ l0_0 _ _ l1_0 true _ ?side1 ?side2 ?side3 ?side4 A4.out).mono ?_);(case side1=>exact z28_3);(case side2=>exact HC0_0.out);(case side3=>exact z30_29);(case side4=>exact HC1_0.out);rintro e w' ⟨rfl,⟨nd,rfl⟩⟩)|(go_at_call 42;(with_reducible refine(r05_All.calls k _ _ l0_2 _ _ l1_2 t609 _ ?side1 ?side2 ?side3 ?side4 A6.out).mono ?_);(case side1=>repeat(first|exact(Kd.C_below HR0_2.out z30_4)|(with_reducible refine Kd.C_alloc ?_ _)|(with_reducible refine Kd.C_drewN ?_ _)|(with_reducible refine Kd.C_drew ?_)));(case side2=>exact HC0_2.out);(case side3=>repeat(first|exact(Kd.C_below HR1_2.out z30_4)|(with_reducible refine Kd.C_alloc ?_ _)|(with_reducible refine Kd.C_drewN ?_ _)|(with_reducible refine Kd.C_drew ?_)));(case side4=>exact HC1_2.out);rintro e w12 ⟨rfl,hb⟩;replace BK606:=U (blk_below (g:=gb606) (o:=.cells #[.slice A0_0 l0_0.length c0_0,.bool a0_1,.slice A0_2 l0_2.length c0_2] 53 (0,0)) z30_3 hb);replace BK607:=U (blk_below (g:=gb607) (o:=.cells #[.slice A1_0 l1_0.length c1_0,.bool a1_1,.slice A1_2 l1_2.length c1_2] 53 (0,0)) (by(with_reducible repeat(first|refine blk_drewN ?_ _|refine blk_drew ?_|refine blk_alloc ?_ _));exact BK607.out) hb);replace HB:=U (below_step z30_4 hb);(try clear hb);(try clear hb2);(try clear hk);(try clear hi)))
 go_ret
 exact ⟨z9_2,z30_4⟩
def w28_GossipGets.f (k:Nat) (l0:List Int):Option (Bool):=if (l0.length:Int) > 4000 then((w28_awake.f k).bind λt610=>(some t610)) else((some (([]:List Int):List Int)).bind λy611=>(if y611.length+l0.length<140737488355328 then((gossip_Get.f k (y611++l0)).bind λbt617=>((r28_Get.f k l0).bind λbt626=>((r28_Same.f k bt617.1 bt617.2.1 bt617.2.2.1 bt626.1 bt626.2.1 bt626.2.2.1).bind λt635=>(if t635=true then(if ((bt617.2.2.2 == 0) == bt626.2.2.2)=true then(if ((bt617.2.2.2 == 2) == (!bt626.2.2.2))=true then((w28_awake.f k).bind λt636=>(some t636)) else(some false)) else(some false)) else(some false))))) else(none)))
theorem w28_GossipGets.calls (k:Nat) (A0:Option Addr) (c0:Nat) (l0:List Int) (r:Bool) (w:World) (hr0:Kd.C (Kd.int .u8) w A0 l0.length l0) (hc0:l0.length<=c0) (h:w28_GossipGets.f k l0=some r) (hrt_:r=true) :
  Calls Try.prog 7 #[.slice A0 l0.length c0] w λe w'=>e = .returned (.bool r)/\Below w.heap.size w w':=by
 have hu53:=Try.underlying53
 have HR0:=Aside0.mk hr0
 have HC0:=Aside0.mk hc0
 clear hr0 hc0
 have HB:=U (Below.refl w.heap.size w)
 have HRT_:=Aside0.mk hrt_
 clear hrt_
 have H:(if (l0.length:Int) > 4000 then((w28_awake.f k).bind λt610=>(some t610)) else((some (([]:List Int):List Int)).bind λy611=>(if y611.length+l0.length<140737488355328 then((gossip_Get.f k (y611++l0)).bind λbt617=>((r28_Get.f k l0).bind λbt626=>((r28_Same.f k bt617.1 bt617.2.1 bt617.2.2.1 bt626.1 bt626.2.1 bt626.2.2.1).bind λt635=>(if t635=true then(if ((bt617.2.2.2 == 0) == bt626.2.2.2)=true then(if ((bt617.2.2.2 == 2) == (!bt626.2.2.2))=true then((w28_awake.f k).bind λt636=>(some t636)) else(some false)) else(some false)) else(some false))))) else(none))))=some r:=h
 clear h
 by_cases c2:(l0.length:Int) > 4000
 ·rw [if_pos c2] at H
  have c2b0:decide (4000<(l0.length:Int))=true:=dT_ c2
  have c2b1:decide (4000<l0.length)=true:=dT_ (by omega)
  clear c2
  replace H:=oB_ H
  obtain ⟨t610,A30,H⟩:=H
  replace H:(some t610)=some r:=H
  have A3:=Aside0.mk A30
  clear A30
  obtain rfl:=sI_ H
  go_enter Try.func7,Try.ntmps7
  go_wp2_with (first|((with_reducible refine gate_callee (f:=29) rfl ?_);refine goesL_ (some 10) rfl rfl Try.func29 z3_17 rfl #[] rfl z6_5 ?_;(with_reducible refine(w28_awake.calls k  t610 _ A3.out).mono ?_);rintro e w4 ⟨rfl,hb⟩;refine ⟨_,rfl,?_⟩;replace HB:=U (below_step z9_4 hb);(try clear hb);(try clear hb2);(try clear hk);(try clear hi)))
  go_ret
  exact ⟨z9_2,z9_4⟩
 rw [if_neg c2] at H
 have c2b0:decide (4000<(l0.length:Int))=false:=dF_ c2
 have c2b1:decide (4000<l0.length)=false:=dF_ (by omega)
 clear c2
 obtain ⟨y611,hy611⟩:∃ y_:List Int,y_=(([]:List Int)):=⟨_,rfl⟩
 replace H:(if y611.length+l0.length<140737488355328 then((gossip_Get.f k (y611++l0)).bind λbt617=>((r28_Get.f k l0).bind λbt626=>((r28_Same.f k bt617.1 bt617.2.1 bt617.2.2.1 bt626.1 bt626.2.1 bt626.2.2.1).bind λt635=>(if t635=true then(if ((bt617.2.2.2 == 0) == bt626.2.2.2)=true then(if ((bt617.2.2.2 == 2) == (!bt626.2.2.2))=true then((w28_awake.f k).bind λt636=>(some t636)) else(some false)) else(some false)) else(some false))))) else(none))=some r:=by first|(rw [hy611];with_reducible exact H)|(have H2_:=(Option.bind_some _ _).symm.trans H;rw [hy611];with_reducible exact H2_)|(have H2_:=(Option.bind_some _ _).symm.trans H;with_reducible exact H2_)|with_reducible exact H|(rw [hy611];exact H)|exact H
 have Ny611:=Aside0.mk hy611
 clear hy611
 by_cases c5:y611.length+l0.length<140737488355328
 rotate_left
 ·rw [if_neg c5] at H
  exact absurd H (by simp)
 rw [if_pos c5] at H
 have LMc5:=Aside0.mk c5
 clear c5
 obtain ⟨y614,hy614⟩:∃ y_:List Int,y_=(y611++l0):=⟨_,rfl⟩
 replace H:((gossip_Get.f k y614).bind λbt617=>((r28_Get.f k l0).bind λbt626=>((r28_Same.f k bt617.1 bt617.2.1 bt617.2.2.1 bt626.1 bt626.2.1 bt626.2.2.1).bind λt635=>(if t635=true then(if ((bt617.2.2.2 == 0) == bt626.2.2.2)=true then(if ((bt617.2.2.2 == 2) == (!bt626.2.2.2))=true then((w28_awake.f k).bind λt636=>(some t636)) else(some false)) else(some false)) else(some false)))))=some r:=by first|(rw [hy614];with_reducible exact H)|(have H2_:=(Option.bind_some _ _).symm.trans H;rw [hy614];with_reducible exact H2_)|(have H2_:=(Option.bind_some _ _).symm.trans H;with_reducible exact H2_)|with_reducible exact H|(rw [hy614];exact H)|exact H
 have Ny614:=Aside0.mk hy614
 clear hy614
 replace H:=oB_ H
 obtain ⟨⟨t617,t620,t621,t624⟩,A60,H⟩:=H
 replace H:((r28_Get.f k l0).bind λbt626=>((r28_Same.f k t617 t620 t621 bt626.1 bt626.2.1 bt626.2.2.1).bind λt635=>(if t635=true then(if ((t624 == 0) == bt626.2.2.2)=true then(if ((t624 == 2) == (!bt626.2.2.2))=true then((w28_awake.f k).bind λt636=>(some t636)) else(some false)) else(some false)) else(some false))))=some r:=H
 have A6:=Aside0.mk A60
 clear A60
 replace H:=oB_ H
 obtain ⟨⟨t626,t629,t630,t633⟩,A70,H⟩:=H
 replace H:((r28_Same.f k t617 t620 t621 t626 t629 t630).bind λt635=>(if t635=true then(if ((t624 == 0) == t633)=true then(if ((t624 == 2) == (!t633))=true then((w28_awake.f k).bind λt636=>(some t636)) else(some false)) else(some false)) else(some false)))=some r:=H
 have A7:=Aside0.mk A70
 clear A70
 replace H:=oB_ H
 obtain ⟨t635,A80,H⟩:=H
 replace H:(if t635=true then(if ((t624 == 0) == t633)=true then(if ((t624 == 2) == (!t633))=true then((w28_awake.f k).bind λt636=>(some t636)) else(some false)) else(some false)) else(some false))=some r:=H
 have A8:=Aside0.mk A80
 clear A80
 by_cases c9:t635=true
 rotate_left
 ·replace c9:=Bool.eq_false_iff.mpr c9
  subst c9
  have H1:(some false)=some r:=by rw [if_neg (show ¬ (false=true) by decide)] at H;exact H
  exact absurd (HRT_.out.symm.trans (sI_ H1).symm) (by simp)
 subst c9
 have H1:(if ((t624 == 0) == t633)=true then(if ((t624 == 2) == (!t633))=true then((w28_awake.f k).bind λt636=>(some t636)) else(some false)) else(some false))=some r:=by rw [if_pos rfl] at H;exact H
 clear H
 have H:=H1
 clear H1
 by_cases c10:((t624 == 0) == t633)=true
 rotate_left
 ·rw [if_neg c10] at H
  exact absurd (HRT_.out.symm.trans (sI_ H).symm) (by simp)
 rw [if_pos c10] at H
 have c10b0:((t624 == 0) == t633)=true:=c10
 (try(have c10b1:decide ((t624 == 0)=t633)=true:=by simpa using c10))
 (try(have c10b2:((t624 == 0) == t633)=true:=by simpa using c10))
 clear c10
 by_cases c11:((t624 == 2) == (!t633))=true
 rotate_left
 ·rw [if_neg c11] at H
  exact absurd (HRT_.out.symm.trans (sI_ H).symm) (by simp)
 rw [if_pos c11] at H
 have c11b0:((t624 == 2) == (!t633))=true:=c11
 (try(have c11b1:decide ((t624 == 2)=(!t633))=true:=by simpa using c11))
 (try(have c11b2:((t624 == 2) == (!t633))=true:=by simpa using c11))
 clear c11
 replace H:=oB_ H
 obtain ⟨t636,A120,H⟩:=H
 replace H:(some t636)=some r:=H
 have A12:=Aside0.mk A120
 clear A120
 obtain rfl:=sI_ H
 go_enter Try.func7,Try.ntmps7
 go_wp2_with (first|((with_reducible refine gate_dst (N:=12) rfl ?_);refine Kd.R_lit (Kd.int .u8) _ 5 ?hg (N:=12) ?hd (xs:=([]:List Int)) (inner:=[]) (ok:=λ_=>True) (okp:=λ_=>True) ?hr ?hp (λ_ hk=>hk) trivial (Below.refl _ _) (Nat.le_refl _) (by simp) ?_;(case hd=>rfl);(case hg=>rfl);(case hr=>exact z10_10);(case hp=>exact(Reps.none _ _));intro v612 w13 ho14 hb hg_ hnew_;clear hg_ hnew_;(first|rw [<-Ny611.out] at ho14|(simp only [Int.reduceToNat] at ho14;rw [<-Ny611.out] at ho14));have HO613:=U (Kd.R_lower ho14 (below_size z9_4));replace HB:=U (below_step z9_4 hb);clear hb ho14)|((with_reducible refine gate_builtin (b:=.append) (xs:=#[.tmp 12,.tmp 13]) rfl ?_);at_builtin;refine Kd.R_append_rows (Kd.int .u8) (w0:=w) w.heap.size rfl (.tmp 12) (.tmp 13) 22 5 (.int .u8 0) 1 rfl Try.underlying22 info5 rfl (by decide) (by omega) v612 y611 l0 _ _ _ (λ_=>True) (λ_=>False) rfl rfl ?aO ?aR (λ_ _ h=>h) (λ_ h=>h.elim) ?aF ?aB ?aS ?aL ?_;(case aR=>repeat(first|exact(Kd.C_below HR0.out HB.out)|(with_reducible refine Kd.C_alloc ?_ _)|(with_reducible refine Kd.C_drewN ?_ _)|(with_reducible refine Kd.C_drew ?_)));(case aB=>exact z9_4);(case aF=>exact(λ_ _=>trivial));(case aO=>exact(by(with_reducible repeat(first|apply Kd.R_alloc|apply Kd.R_drewN|apply Kd.R_drew));exact HO613.out));(case aS=>exact(below_size z9_4));(case aL=>have:=LMc5.out;omega);intro v615 w15 ho hb hg hat;rw [<-Ny614.out] at ho;replace HB:=U (hb);have HO616:=U (ho);clear HO613;clear ho hb hg hat;obtain ⟨Ao16,co16,eo16⟩:=Kd.R_slice HO616.out;subst eo16)|((with_reducible refine gate_callee (f:=30) rfl ?_);refine goesL_ (some 15) rfl rfl Try.func30 z3_17 rfl #[.slice Ao16 y614.length co16] rfl z6_5 ?_;(with_reducible refine(gossip_Get.calls k _ _ y614 t617 t620 t621 t624 _ ?side1 ?side2 A6.out).mono ?_);(case side1=>repeat(first|exact(Kd.R_reads' HO616.out).2.2|(with_reducible refine Kd.C_alloc ?_ _)|(with_reducible refine Kd.C_drewN ?_ _)|(with_reducible refine Kd.C_drew ?_)));(case side2=>exact(Kd.R_reads' HO616.out).2.1);rintro e w17 ⟨v618,v622,rfl,ho0,ho1,hb⟩;refine ⟨_,rfl,?_⟩;have HO619:=U (Kd.R_lower (Kd.R_mono (ok':=λk_=>True) ho0 (λ_ hk_=>trivial)) (below_size z9_4));have HO623:=U (Kd.N_lower (Kd.N_mono (ok':=λk_=>some k_≠(v618:Value).ownBlock/\some k_≠(.slice Ao16 y614.length co16:Value).ownBlock) ho1 (λk_ hk_=>⟨hk_.2,(Kd.fresh' (Kd.R_lt z30_16) k_ hk_.1)⟩)) (below_size z9_4));replace HO616:=U (Kd.R_below z30_16 hb);replace HB:=U (below_step z9_4 hb);(try clear hb);(try clear hb2);(try clear hk);(try clear hi);(try clear ho0);(try clear ho1))|((with_reducible refine gate_dst (N:=3) rfl ?_);refine box_event ?hg (N:=3) ?hd (cs:=#[.slice none 0 0,.bool false,.slice none 0 0]) (t:=53) ?hr ?_;(case hd=>rfl);(case hg=>rfl);(case hr=>exact z10_10);intro gb625 hg w18 hbox hb;replace HO616:=U (Kd.R_below z30_16 hb);replace HO619:=U (Kd.R_below z30_21 hb);replace HO623:=U (Kd.N_below (Kd.N_elderB z30_22 gb625 (Nat.le_of_eq hg.symm)) hb);have BK625:=U (hbox);have GW625:=U ((by rw [hg];exact(below_size z9_4):w.heap.size<=gb625));have GE625:=U ((by rw [hg];exact(below_size z9_4):w.heap.size<=gb625));replace HB:=U (below_step z9_4 hb);clear hb hbox hg;obtain ⟨Ao19,co19,eo19⟩:=Kd.R_slice HO619.out;subst eo19;obtain ⟨hcz20_0,hcz20_1,hcz20_2,hfz20_0,hfz20_1,hfz20_2⟩:=cz3_ BK625.out;obtain ⟨Ao21,co21,eo21⟩:=Kd.N_slice HO623.out;subst eo21)|((with_reducible refine gate_callee (f:=31) rfl ?_);refine goesL_ (some 20) rfl rfl Try.func31 z3_17 rfl #[.slice A0 l0.length c0] rfl z6_5 ?_;(with_reducible refine(r28_Get.calls k _ _ l0 t626 t629 t630 t633 _ ?side1 ?side2 A7.out).mono ?_);(case side1=>exact Kd.C_below HR0.out z30_5);(case side2=>exact HC0.out);rintro e w22 ⟨v627,v631,rfl,ho0,ho1,hb⟩;refine ⟨_,rfl,?_⟩;have HO628:=U (Kd.R_lower (Kd.R_new' (Kd.R_mono (ok':=λk_=>True) ho0 (λ_ hk_=>trivial)) (Kd.R_lt z30_6)) (below_size z30_5));have HO632:=U (Kd.N_lower (Kd.N_mono (ok':=λk_=>some k_≠(v627:Value).ownBlock/\some k_≠(.slice Ao16 y614.length co16:Value).ownBlock/\some k_≠(.slice Ao19 t617.length co19:Value).ownBlock/\some k_≠(.slice Ao21 t621.length co21:Value).ownBlock/\k_≠gb625) ho1 (λk_ hk_=>⟨hk_.2,(Kd.fresh' (Kd.R_lt z30_13) k_ hk_.1),(Kd.fresh' (Kd.R_lt z30_6) k_ hk_.1),(Kd.fresh' (Kd.N_lt z30_10) k_ hk_.1),(Kd.freshB (g:=gb625) (o:=.cells #[.slice Ao19 t617.length co19,.bool t620,.slice Ao21 t621.length co21] 53 (0,0)) z30_7 k_ hk_.1)⟩)) (below_size z30_5));replace HO616:=U (Kd.R_below z30_13 hb);replace HO619:=U (Kd.R_elder' z30_6 (Kd.R_base ho0) hb);replace HO623:=U (Kd.N_mono (Kd.N_told (Kd.N_told (Kd.N_old z30_10 hb) (Kd.R_base ho0)) (Kd.N_base ho1)) (λ_ h_=>h_.1));replace BK625:=U (blk_below (g:=gb625) (o:=.cells #[.slice Ao19 t617.length co19,.bool t620,.slice Ao21 t621.length co21] 53 (0,0)) z30_7 hb);replace HB:=U (below_step z30_5 hb);(try clear hb);(try clear hb2);(try clear hk);(try clear hi);(try clear ho0);(try clear ho1))|((with_reducible refine gate_dst (N:=5) rfl ?_);refine box_event ?hg (N:=5) ?hd (cs:=#[.slice none 0 0,.bool false,.slice none 0 0]) (t:=53) ?hr ?_;(case hd=>rfl);(case hg=>rfl);(case hr=>exact z10_10);intro gb634 hg w23 hbox hb;replace HO616:=U (Kd.R_below z30_16 hb);replace HO619:=U (Kd.R_below z30_21 hb);replace HO623:=U (Kd.N_below (Kd.N_elderB z30_22 gb634 (Nat.le_of_eq hg.symm)) hb);replace HO628:=U (Kd.R_below (by(with_reducible repeat(first|apply Kd.R_alloc|apply Kd.R_drewN|apply Kd.R_drew));exact HO628.out) hb);replace HO632:=U (Kd.N_below (Kd.N_elderB (by(with_reducible repeat(first|apply Kd.N_alloc|apply Kd.N_drewN|apply Kd.N_drew));exact HO632.out) gb634 (Nat.le_of_eq hg.symm)) hb);have BK634:=U (hbox);have GW634:=U ((by rw [hg];exact(below_size z30_5):w.heap.size<=gb634));have GE634:=U ((by rw [hg];exact(below_size z30_5):w.heap.size<=gb634));replace HB:=U (below_step z30_5 hb);have NB625_634:=U ((by rw [hg];exact Nat.ne_of_lt (blk_lt (g:=gb625) (o:=.cells #[.slice Ao19 t617.length co19,.bool t620,.slice Ao21 t621.length co21] 53 (0,0)) z30_18):gb625≠gb634));have NB634_625:=U ((by rw [hg];exact Nat.ne_of_gt (blk_lt (g:=gb625) (o:=.cells #[.slice Ao19 t617.length co19,.bool t620,.slice Ao21 t621.length co21] 53 (0,0)) z30_18):gb634≠gb625));replace BK625:=U (blk_below (g:=gb625) (o:=.cells #[.slice Ao19 t617.length co19,.bool t620,.slice Ao21 t621.length co21] 53 (0,0)) z30_18 hb);clear hb hbox hg;obtain ⟨Ao24,co24,eo24⟩:=Kd.R_slice HO628.out;subst eo24;have hnb25:=NB634_625.out;have hnc25:=NB625_634.out;obtain ⟨hcz26_0,hcz26_1,hcz26_2,hfz26_0,hfz26_1,hfz26_2⟩:=cz3_ BK634.out;obtain ⟨Ao27,co27,eo27⟩:=Kd.N_slice HO632.out;subst eo27;obtain ⟨hcz28_0,hcz28_1,hcz28_2,hfz28_0,hfz28_1,hfz28_2⟩:=cz3_ BK625.out)|((with_reducible refine gate_callee (f:=32) rfl ?_);refine goesL_ (some 25) rfl rfl Try.func32 z3_17 rfl #[.agg #[.slice Ao19 t617.length co19,.bool t620,.slice Ao21 t621.length co21],.agg #[.slice Ao24 t626.length co24,.bool t629,.slice Ao27 t630.length co27]] rfl z6_5 ?_;(with_reducible refine(r28_Same.calls k _ _ t617 t620 _ _ t621 _ _ t626 t629 _ _ t630 true _ ?side1 ?side2 ?side3 ?side4 ?side5 ?side6 ?side7 ?side8 A8.out).mono ?_);(case side1=>refine(Kd.R_reads' (e:=3) (base:=w.heap.size) (ok:=λk_=>(True/\some k_≠(.slice Ao24 t626.length co24:Value).ownBlock)) (n:=t617.length) (c:=co19) ?_).2.2;exact z30_14);(case side2=>exact(Kd.R_reads' HO619.out).2.1);(case side3=>refine(Kd.N_reads' (e:=30) (base:=w.heap.size) (ok:=λk_=>(((((some k_≠(.slice Ao19 t617.length co19:Value).ownBlock/\some k_≠(.slice Ao16 y614.length co16:Value).ownBlock)/\k_≠gb625)/\some k_≠(.slice Ao24 t626.length co24:Value).ownBlock)/\some k_≠(.slice Ao27 t630.length co27:Value).ownBlock)/\k_≠gb634)) (n:=t621.length) (c:=co21) ?_).2.2;exact z30_11);(case side4=>exact(Kd.N_reads' HO623.out).2.1);(case side5=>refine(Kd.R_reads' (e:=3) (base:=w.heap.size) (ok:=λk_=>(True/\some k_≠(.slice Ao19 t617.length co19:Value).ownBlock)) (n:=t626.length) (c:=co24) ?_).2.2;exact z30_15);(case side6=>exact(Kd.R_reads' HO628.out).2.1);(case side7=>refine(Kd.N_reads' (e:=30) (base:=w.heap.size) (ok:=λk_=>((some k_≠(.slice Ao24 t626.length co24:Value).ownBlock/\(some k_≠(.slice Ao16 y614.length co16:Value).ownBlock/\(some k_≠(.slice Ao19 t617.length co19:Value).ownBlock/\(some k_≠(.slice Ao21 t621.length co21:Value).ownBlock/\k_≠gb625))))/\k_≠gb634)) (n:=t630.length) (c:=co27) ?_).2.2;exact z30_12);(case side8=>exact(Kd.N_reads' HO632.out).2.1);rintro e w29 ⟨rfl,hb⟩;refine ⟨_,rfl,?_⟩;replace HO616:=U (Kd.R_below (by(with_reducible repeat(first|apply Kd.R_alloc|apply Kd.R_drewN|apply Kd.R_drew));exact(Kd.R_mono (Kd.R_far (p:=⟨gb634,2,none⟩) (Kd.R_far (p:=⟨gb634,1,none⟩) (Kd.R_far (p:=⟨gb634,0,none⟩) (Kd.R_types HO616.out BK634.out (by decide)) (λ_ hk=>hk.2) (.slice Ao24 t626.length co24)) (λ_ hk=>hk.2) (.bool t629)) (λ_ hk=>hk.2) (.slice Ao27 t630.length co27)) (λ_ h_=>h_.1))) hb);replace HO619:=U (Kd.R_below z30_14 hb);replace HO623:=U (Kd.N_below z30_11 hb);replace HO628:=U (Kd.R_below z30_15 hb);replace HO632:=U (Kd.N_below z30_12 hb);replace BK625:=U (blk_below (g:=gb625) (o:=.cells #[.slice Ao19 t617.length co19,.bool t620,.slice Ao21 t621.length co21] 53 (0,0)) (by(with_reducible repeat(first|refine blk_drewN ?_ _|refine blk_drew ?_|refine blk_alloc ?_ _));refine blk_far ?_ NB625_634.out _;(with_reducible repeat(first|refine blk_drewN ?_ _|refine blk_drew ?_|refine blk_alloc ?_ _));refine blk_far ?_ NB625_634.out _;(with_reducible repeat(first|refine blk_drewN ?_ _|refine blk_drew ?_|refine blk_alloc ?_ _));refine blk_far ?_ NB625_634.out _;(with_reducible repeat(first|refine blk_drewN ?_ _|refine blk_drew ?_|refine blk_alloc ?_ _));exact BK625.out) hb);replace BK634:=U (blk_below (g:=gb634) (o:=.cells #[.slice Ao24 t626.length co24,.bool t629,.slice Ao27 t630.length co27] 53 (0,0)) (by(with_reducible repeat(first|refine blk_drewN ?_ _|refine blk_drew ?_|refine blk_alloc ?_ _));refine blk_put (cs:=#[.slice Ao24 t626.length co24,.bool t629,.slice none 0 0]) ?_ 2 _ rfl;(with_reducible repeat(first|refine blk_drewN ?_ _|refine blk_drew ?_|refine blk_alloc ?_ _));refine blk_put (cs:=#[.slice Ao24 t626.length co24,.bool false,.slice none 0 0]) ?_ 1 _ rfl;(with_reducible repeat(first|refine blk_drewN ?_ _|refine blk_drew ?_|refine blk_alloc ?_ _));refine blk_put (cs:=#[.slice none 0 0,.bool false,.slice none 0 0]) ?_ 0 _ rfl;(with_reducible repeat(first|refine blk_drewN ?_ _|refine blk_drew ?_|refine blk_alloc ?_ _));exact BK634.out) hb);replace HB:=U (below_step z30_17 hb);(try clear hb);(try clear hb2);(try clear hk);(try clear hi))|(go_at_call 29;(with_reducible refine(w28_awake.calls k  t636 _ A12.out).mono ?_);rintro e w30 ⟨rfl,hb⟩;replace HO616:=U (Kd.R_below z30_16 hb);replace HO619:=U (Kd.R_below z30_21 hb);replace HO623:=U (Kd.N_below z30_22 hb);replace HO628:=U (Kd.R_below (by(with_reducible repeat(first|apply Kd.R_alloc|apply Kd.R_drewN|apply Kd.R_drew));exact HO628.out) hb);replace HO632:=U (Kd.N_below (by(with_reducible repeat(first|apply Kd.N_alloc|apply Kd.N_drewN|apply Kd.N_drew));exact HO632.out) hb);replace BK625:=U (blk_below (g:=gb625) (o:=.cells #[.slice Ao19 t617.length co19,.bool t620,.slice Ao21 t621.length co21] 53 (0,0)) z30_18 hb);replace BK634:=U (blk_below (g:=gb634) (o:=.cells #[.slice Ao24 t626.length co24,.bool t629,.slice Ao27 t630.length co27] 53 (0,0)) (by(with_reducible repeat(first|refine blk_drewN ?_ _|refine blk_drew ?_|refine blk_alloc ?_ _));exact BK634.out) hb);replace HB:=U (below_step z30_17 hb);(try clear hb);(try clear hb2);(try clear hk);(try clear hi)))
 go_ret
 exact ⟨z9_2,z30_17⟩
def w28_GossipGets.Pure:Prop:=∀ (l0:List Int),l0.length<=maxLen->l0.length*1<=140737488351232->(∀ x ∈ l0,(Lit.int .u8 x).wf=true)->∃ k,w28_GossipGets.f k l0=some true
theorem w28_GossipGets.walk (P:w28_GossipGets.Pure) (a0:Option Addr) (len0 cap0:Nat) (z0:List Int) (w:World) (w0:(a0=none/\len0=0/\cap0=0/\z0=[])\/∃ x,a0=some x/\len0<=cap0/\cap0<=maxLen/\z0.length=cap0/\(∀ i,i<z0.length->w.cell? (x.add i)=some (.int .u8 (z0.getD i 0)))/\∀ n ∈ z0,(Lit.int .u8 n).wf=true) (y0:len0*1<=140737488351232) :
  Calls Try.prog 7 #[.slice a0 len0 cap0] w λe w'=>e = .returned (.bool true)/\Below w.heap.size w w':=by
 obtain ⟨l0,rfl,hr0,hm0,hw0,hc0⟩:=ReadsInt.ofRowC w0
 obtain ⟨k,h⟩:=P l0 hm0 y0 hw0
 refine(w28_GossipGets.calls k _ _ l0 true w (Kd.C_of_reads (d:=(0:Int)) (h1:=λ_=>rfl) hr0) hc0 h rfl).mono ?_
 rintro e w' ⟨rfl,hd⟩
 exact ⟨rfl,hd⟩
end Go.Proofs.Ytgocnchjpecafaa.PEv

/- a part -/
import Derived.Test.YtgocnchjpecafaaPEvx36
namespace Go.Proofs.Ytgocnchjpecafaa.PEv
open Go.RowKit Go.Proofs.YtgocnchjpecafaaW.PrintWords Go.Proofs.YtgocnchjpecafaaW.PrintLast Go.Proofs.YtgocnchjpecafaaW.PrintMore
attribute [local go_sem] max2_int min2_int max_two min_two max_three min_three max_four min_four
set_option linter.unusedVariables false
set_option linter.unusedSimpArgs false
set_option maxHeartbeats 8000000
set_option maxRecDepth 100000
theorem z37_5 {P:Prop} (h:P:=by repeat(first|exact(Kd.C_below HR775_2.out HB.out)|(with_reducible refine Kd.C_alloc ?_ _)|(with_reducible refine Kd.C_drewN ?_ _)|(with_reducible refine Kd.C_drew ?_))):P:=h
theorem z37_6 {P:Prop} (h:P:=by repeat(first|exact(Kd.C_below HR775_3.out HB.out)|(with_reducible refine Kd.C_alloc ?_ _)|(with_reducible refine Kd.C_drewN ?_ _)|(with_reducible refine Kd.C_drew ?_))):P:=h
theorem z37_7 {P:Prop} (h:P:=by repeat(first|exact(Kd.C_below HR776_2.out HB.out)|(with_reducible refine Kd.C_alloc ?_ _)|(with_reducible refine Kd.C_drewN ?_ _)|(with_reducible refine Kd.C_drew ?_))):P:=h
theorem z37_8 {P:Prop} (h:P:=by repeat(first|exact(Kd.C_below HR776_3.out HB.out)|(with_reducible refine Kd.C_alloc ?_ _)|(with_reducible refine Kd.C_drewN ?_ _)|(with_reducible refine Kd.C_drew ?_))):P:=h
theorem z37_11 {P:Prop} (h:P:=by repeat(first|exact(Kd.C_below HR778_2.out HB.out)|(with_reducible refine Kd.C_alloc ?_ _)|(with_reducible refine Kd.C_drewN ?_ _)|(with_reducible refine Kd.C_drew ?_))):P:=h
theorem z37_12 {P:Prop} (h:P:=by repeat(first|exact(Kd.C_below HR779_2.out HB.out)|(with_reducible refine Kd.C_alloc ?_ _)|(with_reducible refine Kd.C_drewN ?_ _)|(with_reducible refine Kd.C_drew ?_))):P:=h
theorem z37_15 {P:Prop} (h:P:=by show Act.put _ (some 40) _=_;simp only [Act.put,List.setIfInBounds_toArray,List.set_cons_zero,List.set_cons_succ,i64_w,i32_w];rfl):P:=h
mutual
def w08_Whole.l0:Nat->List (S30)->Int->Option (Bool)
 | 0,_,_=>none
 | k+1,x0,x3=>if x3<(x0.length:Int) then(w08_Whole.l1 k x0 x3 0) else(some true)
def w08_Whole.l1:Nat->List (S30)->Int->Int->Option (Bool)
 | 0,_,_,_=>none
 | k+1,x0,x3,x4=>if x4<(x0.length:Int) then(if 0<=x4 then(if 0<=x3 then(if x3<(x0.length:Int) then((r05_Ahead.f k ((rd_T30 x0 x4).f0.f0) ((rd_T30 x0 x4).f0.f1) ((rd_T30 x0 x4).f1) ((rd_T30 x0 x4).f2) ((rd_T30 x0 x3).f0.f0) ((rd_T30 x0 x3).f0.f1) ((rd_T30 x0 x3).f1) ((rd_T30 x0 x3).f2)).bind λt777=>(if t777=true then((r03_Within.f k ((rd_T30 x0 x4).f1) ((rd_T30 x0 x3).f1)).bind λt780=>(if t780=true then(w08_Whole.l1 k x0 x3 (wrap64 (x4+1))) else(some false))) else(w08_Whole.l1 k x0 x3 (wrap64 (x4+1))))) else(none)) else(none)) else(none)) else(w08_Whole.l0 k x0 (wrap64 (x3+1)))
end
def w08_Whole.f (k:Nat) (l0:List (S30)):Option (Bool):=(r05_Closed.f k l0).bind λt774=>(if t774=true then(w08_Whole.l0 k l0 0) else(some false))
def w08_Whole.T9:Bool×List (List Nat×List Nat):=(true,[([],[]),([],[]),([0,1],[0,1]),([2],[2]),([],[]),([],[]),([4,5],[4,5]),([6],[6]),([3,7],[3,7]),([8,8],[8]),([9],[9]),([9],[9]),([10,11,9],[9,10,11]),([12,9],[9,12]),([13,9],[9,13]),([9],[9]),([9],[9]),([15,16,9],[9,15,16]),([17,9],[9,17]),([18,9],[9,18]),([14,19,9,9],[9,14,19]),([20,9],[9,20]),([9,21],[9,21])])
def w08_Whole.B9:List Nat:=[0,0,3,7,0,0,48,112,255,511,1023,1023,4095,8191,16383,1023,1023,99327,230399,492543,1048575,2097151,4194303]
theorem w08_Whole.tab9:rtab .any (opsOf Try.f33 9)=w08_Whole.T9:=by kernel_rfl
theorem w08_Whole.bits9:waitsOk w08_Whole.T9.2 w08_Whole.B9=true:=by kernel_rfl
theorem w08_Whole.calls (k:Nat) (A0:Option Addr) (c0:Nat) (l0:List (S30)) (r:Bool) (w:World) (hr0:Kd.C k30 w A0 l0.length l0) (hc0:l0.length<=c0) (h:w08_Whole.f k l0=some r) :
  Calls Try.prog 33 #[.slice A0 l0.length c0] w λe w'=>e = .returned (.bool r)/\Below w.heap.size w w':=by
 have hu30:=Try.underlying30
 have HR0:=Aside0.mk hr0
 have HC0:=Aside0.mk hc0
 clear hr0 hc0
 have HB:=U (Below.refl w.heap.size w)
 have H:((r05_Closed.f k l0).bind λt774=>(if t774=true then(w08_Whole.l0 k l0 0) else(some false)))=some r:=h
 clear h
 replace H:=oB_ H
 obtain ⟨t774,A20,H⟩:=H
 replace H:(if t774=true then(w08_Whole.l0 k l0 0) else(some false))=some r:=H
 have A2:=Aside0.mk A20
 clear A20
 by_cases c3:t774=true
 rotate_left
 ·replace c3:=Bool.eq_false_iff.mpr c3
  subst c3
  have H1:(some false)=some r:=by rw [if_neg (show ¬ (false=true) by decide)] at H;exact H
  clear H
  have H:=H1
  clear H1
  obtain rfl:=sI_ H
  go_enter Try.func33,Try.ntmps33
  go_wp2_with (first|((with_reducible refine gate_callee (f:=37) rfl ?_);refine goesL_ (some 6) rfl rfl Try.func37 z3_17 rfl #[.slice A0 l0.length c0] rfl z6_5 ?_;(with_reducible refine(r05_Closed.calls k _ _ l0 false _ ?side1 ?side2 A2.out).mono ?_);(case side1=>exact z6_2);(case side2=>exact HC0.out);rintro e w20 ⟨rfl,hb⟩;refine ⟨_,rfl,?_⟩;replace HB:=U (below_step z9_4 hb);(try clear hb);(try clear hb2);(try clear hk);(try clear hi)))
  go_ret
  exact ⟨z9_2,z9_4⟩
 subst c3
 have H1:(w08_Whole.l0 k l0 0)=some r:=by rw [if_pos rfl] at H;exact H
 clear H
 have H:=H1
 clear H1
 have H':=Aside0.mk H
 clear H
 go_enter Try.func33,Try.ntmps33
 go_wp2_with (first|((with_reducible refine gate_callee (f:=37) rfl ?_);refine goesL_ (some 6) rfl rfl Try.func37 z3_17 rfl #[.slice A0 l0.length c0] rfl z6_5 ?_;(with_reducible refine(r05_Closed.calls k _ _ l0 true _ ?side1 ?side2 A2.out).mono ?_);(case side1=>exact z6_2);(case side2=>exact HC0.out);rintro e w4 ⟨rfl,hb⟩;refine ⟨_,rfl,?_⟩;replace HB:=U (below_step z9_4 hb);(try clear hb);(try clear hb2);(try clear hk);(try clear hi)))
 go_loopg [3] k (λkq v3 w'=>∃ (x3_1:Int),v3 = .int .i64 x3_1/\Aside0 (w08_Whole.l0 kq l0 x3_1=some r)/\Aside0 (kq<=k)/\Aside0 (Below w.heap.size w w'))
 case atStart=>exact ⟨(0),z9_3,H',⟨Nat.le_refl _⟩,⟨z9_4⟩⟩
 case round =>
 clear H'
 try clear p2
 try clear c3
 obtain ⟨x3_1,rfl,HA,HK1,HB⟩:=hrel
 cases gk with
 | zero=>exact absurd HA.out (by simp [w08_Whole.l0])
 | succ k1 =>
 have H:=HA.out
 clear HA
 simp only [w08_Whole.l0] at H
 by_cases c5:x3_1<(l0.length:Int)
 rotate_left
 ·rw [if_neg c5] at H
  have c5b0:decide (x3_1<(l0.length:Int))=false:=dF_ c5
  clear c5
  obtain rfl:=sI_ H
  go_wp2
  go_ret
  exact ⟨z9_2,z9_4⟩
 rw [if_pos c5] at H
 have c5b0:decide (x3_1<(l0.length:Int))=true:=dT_ c5
 clear c5
 have H':=Aside0.mk H
 clear H
 go_wp2
 go_loopg [4] k1 (λkq v4 w'=>∃ (x4_2:Int),v4 = .int .i64 x4_2/\Aside0 (w08_Whole.l1 kq l0 x3_1 x4_2=some r)/\Aside0 (kq<=k1)/\Aside0 (Below w.heap.size w w'))
 case atStart=>exact ⟨(0),z9_3,H',⟨Nat.le_refl _⟩,⟨z9_4⟩⟩
 case round =>
 clear H'
 try clear p2
 try clear c3
 try clear c5
 try clear c5b0
 try clear p2
 obtain ⟨x4_2,rfl,HA,HK2,HB⟩:=hrel
 cases gk with
 | zero=>exact absurd HA.out (by simp [w08_Whole.l1])
 | succ k2 =>
 have H:=HA.out
 clear HA
 simp only [w08_Whole.l1] at H
 by_cases c6:x4_2<(l0.length:Int)
 rotate_left
 ·rw [if_neg c6] at H
  have c6b0:decide (x4_2<(l0.length:Int))=false:=dF_ c6
  clear c6
  have H':=Aside0.mk H
  clear H
  go_wp2
  go_roundg k2
  case measure=>have:=HK1.out;have:=HK2.out;omega
  case rel=>exact ⟨(wrap64 (x3_1+1)),z9_3,H',⟨(by have:=HK1.out;have:=HK2.out;omega)⟩,⟨z9_4⟩⟩
 rw [if_pos c6] at H
 have c6b0:decide (x4_2<(l0.length:Int))=true:=dT_ c6
 clear c6
 by_cases c7:0<=x4_2
 rotate_left
 ·rw [if_neg c7] at H
  exact absurd H (by simp)
 rw [if_pos c7] at H
 have c7b0:decide (0<=x4_2)=true:=dT_ c7
 clear c7
 by_cases c8:0<=x3_1
 rotate_left
 ·rw [if_neg c8] at H
  exact absurd H (by simp)
 rw [if_pos c8] at H
 have c8b0:decide (0<=x3_1)=true:=dT_ c8
 clear c8
 by_cases c9:x3_1<(l0.length:Int)
 rotate_left
 ·rw [if_neg c9] at H
  exact absurd H (by simp)
 rw [if_pos c9] at H
 have c9b0:decide (x3_1<(l0.length:Int))=true:=dT_ c9
 clear c9
 replace H:=oB_ H
 obtain ⟨t777,A100,H⟩:=H
 replace H:(if t777=true then((r03_Within.f k2 ((rd_T30 l0 x4_2).f1) ((rd_T30 l0 x3_1).f1)).bind λt780=>(if t780=true then(w08_Whole.l1 k2 l0 x3_1 (wrap64 (x4_2+1))) else(some false))) else(w08_Whole.l1 k2 l0 x3_1 (wrap64 (x4_2+1))))=some r:=H
 have A10:=Aside0.mk A100
 clear A100
 by_cases c11:t777=true
 rotate_left
 ·replace c11:=Bool.eq_false_iff.mpr c11
  subst c11
  have H1:(w08_Whole.l1 k2 l0 x3_1 (wrap64 (x4_2+1)))=some r:=by rw [if_neg (show ¬ (false=true) by decide)] at H;exact H
  clear H
  have H:=H1
  clear H1
  have H':=Aside0.mk H
  clear H
  try go_wp2
  have n0_:=U (below_drew1 HB.out)
  clear HB
  have HB:=n0_
  clear n0_
  have p775:0<=(x4_2:Int):=oD_ z6_1
  have q775:x4_2<(l0.length:Int):=oD_ z6_1
  obtain ⟨ad775,A775_2,c775_2,A775_3,c775_3,e775,hx775_0,hx775_1,hx775_2,hx775_3,hl775_2,hi775_2,hl775_3,hi775_3⟩:=at_T30 HR0.out x4_2 p775 q775
  have hw775_3:=hx775_3
  have hw775_2:=hx775_2
  have hw775_1:=hx775_1
  have hw775_0:=hx775_0
  cases e775
  replace hx775_0:=(HB.out.cell (World.block_lt_of_cell? w _ hx775_0)).trans hx775_0
  replace hx775_1:=(HB.out.cell (World.block_lt_of_cell? w _ hx775_1)).trans hx775_1
  replace hx775_2:=(HB.out.cell (World.block_lt_of_cell? w _ hx775_2)).trans hx775_2
  replace hx775_3:=(HB.out.cell (World.block_lt_of_cell? w _ hx775_3)).trans hx775_3
  have HR775_2:=Aside0.mk hi775_2
  have HC775_2:=Aside0.mk hl775_2
  clear hi775_2 hl775_2
  have HR775_3:=Aside0.mk hi775_3
  have HC775_3:=Aside0.mk hl775_3
  clear hi775_3 hl775_3
  replace p775:=eq_true p775
  replace q775:=eq_true q775
  have p776:0<=(x3_1:Int):=oD_ z6_1
  have q776:x3_1<(l0.length:Int):=oD_ z6_1
  obtain ⟨ad776,A776_2,c776_2,A776_3,c776_3,e776,hx776_0,hx776_1,hx776_2,hx776_3,hl776_2,hi776_2,hl776_3,hi776_3⟩:=at_T30 HR0.out x3_1 p776 q776
  have hw776_3:=hx776_3
  have hw776_2:=hx776_2
  have hw776_1:=hx776_1
  have hw776_0:=hx776_0
  obtain rfl:ad775=ad776:=(by injection e776)
  replace hx776_0:=(HB.out.cell (World.block_lt_of_cell? w _ hx776_0)).trans hx776_0
  replace hx776_1:=(HB.out.cell (World.block_lt_of_cell? w _ hx776_1)).trans hx776_1
  replace hx776_2:=(HB.out.cell (World.block_lt_of_cell? w _ hx776_2)).trans hx776_2
  replace hx776_3:=(HB.out.cell (World.block_lt_of_cell? w _ hx776_3)).trans hx776_3
  have HR776_2:=Aside0.mk hi776_2
  have HC776_2:=Aside0.mk hl776_2
  clear hi776_2 hl776_2
  have HR776_3:=Aside0.mk hi776_3
  have HC776_3:=Aside0.mk hl776_3
  clear hi776_3 hl776_3
  replace p776:=eq_true p776
  replace q776:=eq_true q776
  refine start_ (n:=23) (S:=λw'=>w'.cell? (ad775.add ((x4_2).toNat*4))=some (.int .i64 ((rd_T30 l0 x4_2).f0.f0))/\w'.cell? ⟨(ad775.add ((x4_2).toNat*4)).block,(ad775.add ((x4_2).toNat*4)).off+1,none⟩=some (.int .i64 ((rd_T30 l0 x4_2).f0.f1))/\w'.cell? ⟨(ad775.add ((x4_2).toNat*4)).block,(ad775.add ((x4_2).toNat*4)).off+2,none⟩=some (.slice A775_2 ((rd_T30 l0 x4_2).f1).length c775_2)/\w'.cell? ⟨(ad775.add ((x4_2).toNat*4)).block,(ad775.add ((x4_2).toNat*4)).off+3,none⟩=some (.slice A775_3 ((rd_T30 l0 x4_2).f2).length c775_3)/\w'.cell? (ad775.add ((x3_1).toNat*4))=some (.int .i64 ((rd_T30 l0 x3_1).f0.f0))/\w'.cell? ⟨(ad775.add ((x3_1).toNat*4)).block,(ad775.add ((x3_1).toNat*4)).off+1,none⟩=some (.int .i64 ((rd_T30 l0 x3_1).f0.f1))/\w'.cell? ⟨(ad775.add ((x3_1).toNat*4)).block,(ad775.add ((x3_1).toNat*4)).off+2,none⟩=some (.slice A776_2 ((rd_T30 l0 x3_1).f1).length c776_2)/\w'.cell? ⟨(ad775.add ((x3_1).toNat*4)).block,(ad775.add ((x3_1).toNat*4)).off+3,none⟩=some (.slice A776_3 ((rd_T30 l0 x3_1).f2).length c776_3)) (ds:=[]) #[J,J,J,J,J,J,J,J,J,J,J,J,J,J,J,J,J,J,J,J,J,J,J] z3_17 rfl rfl ⟨((HB.out.cell (World.block_lt_of_cell? w _ hw775_0)).trans hw775_0),((HB.out.cell (World.block_lt_of_cell? w _ hw775_1)).trans hw775_1),((HB.out.cell (World.block_lt_of_cell? w _ hw775_2)).trans hw775_2),((HB.out.cell (World.block_lt_of_cell? w _ hw775_3)).trans hw775_3),((HB.out.cell (World.block_lt_of_cell? w _ hw776_0)).trans hw776_0),((HB.out.cell (World.block_lt_of_cell? w _ hw776_1)).trans hw776_1),((HB.out.cell (World.block_lt_of_cell? w _ hw776_2)).trans hw776_2),((HB.out.cell (World.block_lt_of_cell? w _ hw776_3)).trans hw776_3)⟩ (λhHeld=>?_);refine with_tabW w08_Whole.tab9 w08_Whole.bits9 (λHT_ HW_=>?_)
  generalize wr.drew=w18 at HB HR775_2 HR775_3 HR776_2 HR776_3 hx775_0 hx775_1 hx775_2 hx775_3 hx776_0 hx776_1 hx776_2 hx776_3 hHeld ⊢
  refine pure_ (i:=0) (N:=some 20) (v:=?_) (a':=?_) #[Y,J,J,J,J,J,J,J,J,J,J,J,J,J,J,J,J,J,J,J,J,J,J] rfl rfl (any_of HT_.out z3_17) (λ_ _ _ h=>h) (Or.inl ⟨(by rfl),?_⟩) ?_ ?_
  rotate_left
  ·intro w'
   go_simp
   with_reducible rfl
  rotate_left
  ·exact z3_3
  refine pure_ (i:=1) (N:=some 21) (v:=?_) (a':=?_) #[Y,Y,J,J,J,J,J,J,J,J,J,J,J,J,J,J,J,J,J,J,J,J,J] rfl rfl (any_of HT_.out z3_17) (λ_ _ _ h=>h) (Or.inl ⟨(by rfl),?_⟩) ?_ ?_
  rotate_left
  ·intro w'
   go_simp
   with_reducible rfl
  rotate_left
  ·exact z3_3
  refine pure_ (i:=2) (N:=some 22) (v:=?_) (a':=?_) #[Y,Y,Y,J,J,J,J,J,J,J,J,J,J,J,J,J,J,J,J,J,J,J,J] rfl rfl (any_of HT_.out z3_17) (λ_ _ _ h=>h) (Or.inl ⟨(by rfl),?_⟩) ?_ ?_
  rotate_left
  ·intro w'
   go_simp
   with_reducible rfl
  rotate_left
  ·exact z3_3
  refine pure_ (i:=4) (N:=some 24) (v:=?_) (a':=?_) #[Y,Y,Y,J,Y,J,J,J,J,J,J,J,J,J,J,J,J,J,J,J,J,J,J] rfl rfl (any_of HT_.out z3_17) (λ_ _ _ h=>h) (Or.inl ⟨(by rfl),?_⟩) ?_ ?_
  rotate_left
  ·intro w'
   go_simp
   with_reducible rfl
  rotate_left
  ·exact z3_3
  refine pure_ (i:=5) (N:=some 25) (v:=?_) (a':=?_) #[Y,Y,Y,J,Y,Y,J,J,J,J,J,J,J,J,J,J,J,J,J,J,J,J,J] rfl rfl (any_of HT_.out z3_17) (λ_ _ _ h=>h) (Or.inl ⟨(by rfl),?_⟩) ?_ ?_
  rotate_left
  ·intro w'
   go_simp
   with_reducible rfl
  rotate_left
  ·exact z3_3
  refine pure_ (i:=6) (N:=some 26) (v:=?_) (a':=?_) #[Y,Y,Y,J,Y,Y,Y,J,J,J,J,J,J,J,J,J,J,J,J,J,J,J,J] rfl rfl (any_of HT_.out z3_17) (λ_ _ _ h=>h) (Or.inl ⟨(by rfl),?_⟩) ?_ ?_
  rotate_left
  ·intro w'
   go_simp
   with_reducible rfl
  rotate_left
  ·exact z3_3
  refine take_ (i:=3) (N:=some 23) (v:=?_) (a':=?_) #[Y,Y,Y,Y,Y,Y,Y,J,J,J,J,J,J,J,J,J,J,J,J,J,J,J,J] rfl rfl (take_ofW HT_.out HW_.out z3_17) (λ_ _ _ h=>h) (Or.inl ⟨(by rfl),?_⟩) hHeld ?_ ?_
  rotate_left
  ·rintro w' ⟨s0,s1,s2,s3,s4,s5,s6,s7⟩
   go_simp
   with_reducible rfl
  rotate_left
  ·exact z3_3
  refine take_ (i:=7) (N:=some 27) (v:=?_) (a':=?_) #[Y,Y,Y,Y,Y,Y,Y,Y,J,J,J,J,J,J,J,J,J,J,J,J,J,J,J] rfl rfl (take_ofW HT_.out HW_.out z3_17) (λ_ _ _ h=>h) (Or.inl ⟨(by rfl),?_⟩) hHeld ?_ ?_
  rotate_left
  ·rintro w' ⟨s0,s1,s2,s3,s4,s5,s6,s7⟩
   go_simp
   with_reducible rfl
  rotate_left
  ·exact z3_3
  refine one_ (i:=8) (N:=some 28) #[Y,Y,Y,Y,Y,Y,Y,Y,Y,J,J,J,J,J,J,J,J,J,J,J,J,J,J] rfl rfl (one_of HT_.out z3_17) (by decide) (λK hK=>?_)
  refine goes_ Try.func18 z3_17 rfl #[.agg #[.int .i64 ((rd_T30 l0 x4_2).f0.f0),.int .i64 ((rd_T30 l0 x4_2).f0.f1),.slice A775_2 ((rd_T30 l0 x4_2).f1).length c775_2,.slice A775_3 ((rd_T30 l0 x4_2).f2).length c775_3],.agg #[.int .i64 ((rd_T30 l0 x3_1).f0.f0),.int .i64 ((rd_T30 l0 x3_1).f0.f1),.slice A776_2 ((rd_T30 l0 x3_1).f1).length c776_2,.slice A776_3 ((rd_T30 l0 x3_1).f2).length c776_3]] (by rfl) rfl rfl z6_5 ?_
  with_reducible refine(r05_Ahead.calls k2 ((rd_T30 l0 x4_2).f0.f0) ((rd_T30 l0 x4_2).f0.f1) _ _ ((rd_T30 l0 x4_2).f1) _ _ ((rd_T30 l0 x4_2).f2) ((rd_T30 l0 x3_1).f0.f0) ((rd_T30 l0 x3_1).f0.f1) _ _ ((rd_T30 l0 x3_1).f1) _ _ ((rd_T30 l0 x3_1).f2) false _ ?side1 ?side2 ?side3 ?side4 ?side5 ?side6 ?side7 ?side8 A10.out).mono ?_
  (case side1=>exact z37_5)
  (case side2=>exact HC775_2.out)
  (case side3=>exact z37_6)
  (case side4=>exact HC775_3.out)
  (case side5=>exact z37_7)
  (case side6=>exact HC776_2.out)
  (case side7=>exact z37_8)
  (case side8=>exact HC776_3.out)
  rintro e w19 ⟨rfl,hb⟩
  refine ⟨_,rfl,?_⟩
  have n0_:=U (below_step z9_4 hb)
  clear HB
  have HB:=n0_
  clear n0_
  (try clear hb)
  (try clear hb2)
  (try clear hk)
  (try clear hi)
  refine hK.out _ _ ⟨((HB.out.cell (World.block_lt_of_cell? w _ hw775_0)).trans hw775_0),((HB.out.cell (World.block_lt_of_cell? w _ hw775_1)).trans hw775_1),((HB.out.cell (World.block_lt_of_cell? w _ hw775_2)).trans hw775_2),((HB.out.cell (World.block_lt_of_cell? w _ hw775_3)).trans hw775_3),((HB.out.cell (World.block_lt_of_cell? w _ hw776_0)).trans hw776_0),((HB.out.cell (World.block_lt_of_cell? w _ hw776_1)).trans hw776_1),((HB.out.cell (World.block_lt_of_cell? w _ hw776_2)).trans hw776_2),((HB.out.cell (World.block_lt_of_cell? w _ hw776_3)).trans hw776_3)⟩ (λhHeld=>?_)
  clear hK K
  refine norm_ (a':=?_) ?_ ?_
  rotate_left
  ·exact z36_12
  refine pure_ (i:=9) (N:=some 29) (v:=?_) (a':=?_) #[Y,Y,Y,Y,Y,Y,Y,Y,Y,Y,J,J,J,J,J,J,J,J,J,J,J,J,J] rfl rfl (any_of HT_.out z3_17) (λ_ _ _ h=>h) (Or.inl ⟨(by rfl),?_⟩) ?_ ?_
  rotate_left
  ·intro w'
   go_simp
   with_reducible rfl
  rotate_left
  ·exact z3_3
  refine pure_ (i:=10) (N:=some 30) (v:=undef) (a':=?_) #[Y,Y,Y,Y,Y,Y,Y,Y,Y,Y,Y,J,J,J,J,J,J,J,J,J,J,J,J] rfl rfl (any_of HT_.out z3_17) (λ_ _ _ h=>h) (Or.inr ⟨(by rfl),rfl⟩) ?_ ?_
  rotate_left
  ·exact z3_3
  refine pure_ (i:=11) (N:=some 31) (v:=undef) (a':=?_) #[Y,Y,Y,Y,Y,Y,Y,Y,Y,Y,Y,Y,J,J,J,J,J,J,J,J,J,J,J] rfl rfl (any_of HT_.out z3_17) (λ_ _ _ h=>h) (Or.inr ⟨(by rfl),rfl⟩) ?_ ?_
  rotate_left
  ·exact z3_3
  refine pure_ (i:=12) (N:=some 32) (v:=undef) (a':=?_) #[Y,Y,Y,Y,Y,Y,Y,Y,Y,Y,Y,Y,Y,J,J,J,J,J,J,J,J,J,J] rfl rfl (any_of HT_.out z3_17) (λ_ _ _ h=>h) (Or.inr ⟨(by rfl),rfl⟩) ?_ ?_
  rotate_left
  ·exact z3_3
  refine pure_ (i:=13) (N:=some 33) (v:=undef) (a':=?_) #[Y,Y,Y,Y,Y,Y,Y,Y,Y,Y,Y,Y,Y,Y,J,J,J,J,J,J,J,J,J] rfl rfl (any_of HT_.out z3_17) (λ_ _ _ h=>h) (Or.inr ⟨(by rfl),rfl⟩) ?_ ?_
  rotate_left
  ·exact z3_3
  refine pure_ (i:=14) (N:=some 34) (v:=undef) (a':=?_) #[Y,Y,Y,Y,Y,Y,Y,Y,Y,Y,Y,Y,Y,Y,Y,J,J,J,J,J,J,J,J] rfl rfl (any_of HT_.out z3_17) (λ_ _ _ h=>h) (Or.inr ⟨(by rfl),rfl⟩) ?_ ?_
  rotate_left
  ·exact z3_3
  refine pure_ (i:=15) (N:=some 35) (v:=undef) (a':=?_) #[Y,Y,Y,Y,Y,Y,Y,Y,Y,Y,Y,Y,Y,Y,Y,Y,J,J,J,J,J,J,J] rfl rfl (any_of HT_.out z3_17) (λ_ _ _ h=>h) (Or.inr ⟨(by rfl),rfl⟩) ?_ ?_
  rotate_left
  ·exact z3_3
  refine pure_ (i:=16) (N:=some 36) (v:=undef) (a':=?_) #[Y,Y,Y,Y,Y,Y,Y,Y,Y,Y,Y,Y,Y,Y,Y,Y,Y,J,J,J,J,J,J] rfl rfl (any_of HT_.out z3_17) (λ_ _ _ h=>h) (Or.inr ⟨(by rfl),rfl⟩) ?_ ?_
  rotate_left
  ·exact z3_3
  refine pure_ (i:=17) (N:=some 37) (v:=undef) (a':=?_) #[Y,Y,Y,Y,Y,Y,Y,Y,Y,Y,Y,Y,Y,Y,Y,Y,Y,Y,J,J,J,J,J] rfl rfl (any_of HT_.out z3_17) (λ_ _ _ h=>h) (Or.inr ⟨(by rfl),rfl⟩) ?_ ?_
  rotate_left
  ·exact z3_3
  refine pure_ (i:=18) (N:=some 38) (v:=undef) (a':=?_) #[Y,Y,Y,Y,Y,Y,Y,Y,Y,Y,Y,Y,Y,Y,Y,Y,Y,Y,Y,J,J,J,J] rfl rfl (any_of HT_.out z3_17) (λ_ _ _ h=>h) (Or.inr ⟨(by rfl),rfl⟩) ?_ ?_
  rotate_left
  ·exact z3_3
  refine pure_ (i:=19) (N:=some 39) (v:=undef) (a':=?_) #[Y,Y,Y,Y,Y,Y,Y,Y,Y,Y,Y,Y,Y,Y,Y,Y,Y,Y,Y,Y,J,J,J] rfl rfl (any_of HT_.out z3_17) (λ_ _ _ h=>h) (Or.inr ⟨(by rfl),rfl⟩) ?_ ?_
  rotate_left
  ·exact z3_3
  refine pure_ (i:=20) (N:=some 40) (v:=undef) (a':=?_) #[Y,Y,Y,Y,Y,Y,Y,Y,Y,Y,Y,Y,Y,Y,Y,Y,Y,Y,Y,Y,Y,J,J] rfl rfl (any_of HT_.out z3_17) (λ_ _ _ h=>h) (Or.inr ⟨(by rfl),rfl⟩) ?_ ?_
  rotate_left
  ·exact z3_3
  refine pure_ (i:=21) (N:=some 41) (v:=undef) (a':=?_) #[Y,Y,Y,Y,Y,Y,Y,Y,Y,Y,Y,Y,Y,Y,Y,Y,Y,Y,Y,Y,Y,Y,J] rfl rfl (any_of HT_.out z3_17) (λ_ _ _ h=>h) (Or.inr ⟨(by rfl),rfl⟩) ?_ ?_
  rotate_left
  ·exact z3_3
  refine pure_ (i:=22) (N:=some 42) (v:=?_) (a':=?_) #[Y,Y,Y,Y,Y,Y,Y,Y,Y,Y,Y,Y,Y,Y,Y,Y,Y,Y,Y,Y,Y,Y,Y] rfl rfl (any_of HT_.out z3_17) (λ_ _ _ h=>h) (Or.inl ⟨(by rfl),?_⟩) ?_ ?_
  rotate_left
  ·intro w'
   go_simp
   with_reducible rfl
  rotate_left
  ·exact z3_3
  refine done_ (done_of HT_.out z3_17) ?_
  try go_wp2
  go_roundg k2
  case measure=>have:=HK1.out;have:=HK2.out;omega
  case rel=>exact ⟨(wrap64 (x4_2+1)),z9_3,H',⟨(by have:=HK1.out;have:=HK2.out;omega)⟩,⟨z9_4⟩⟩
 subst c11
 have H1:((r03_Within.f k2 ((rd_T30 l0 x4_2).f1) ((rd_T30 l0 x3_1).f1)).bind λt780=>(if t780=true then(w08_Whole.l1 k2 l0 x3_1 (wrap64 (x4_2+1))) else(some false)))=some r:=by rw [if_pos rfl] at H;exact H
 clear H
 have H:=H1
 clear H1
 replace H:=oB_ H
 obtain ⟨t780,A120,H⟩:=H
 replace H:(if t780=true then(w08_Whole.l1 k2 l0 x3_1 (wrap64 (x4_2+1))) else(some false))=some r:=H
 have A12:=Aside0.mk A120
 clear A120
 by_cases c13:t780=true
 rotate_left
 ·replace c13:=Bool.eq_false_iff.mpr c13
  subst c13
  have H1:(some false)=some r:=by rw [if_neg (show ¬ (false=true) by decide)] at H;exact H
  clear H
  have H:=H1
  clear H1
  obtain rfl:=sI_ H
  try go_wp2
  have n0_:=U (below_drew1 HB.out)
  clear HB
  have HB:=n0_
  clear n0_
  have p775:0<=(x4_2:Int):=oD_ z6_1
  have q775:x4_2<(l0.length:Int):=oD_ z6_1
  obtain ⟨ad775,A775_2,c775_2,A775_3,c775_3,e775,hx775_0,hx775_1,hx775_2,hx775_3,hl775_2,hi775_2,hl775_3,hi775_3⟩:=at_T30 HR0.out x4_2 p775 q775
  have hw775_3:=hx775_3
  have hw775_2:=hx775_2
  have hw775_1:=hx775_1
  have hw775_0:=hx775_0
  cases e775
  replace hx775_0:=(HB.out.cell (World.block_lt_of_cell? w _ hx775_0)).trans hx775_0
  replace hx775_1:=(HB.out.cell (World.block_lt_of_cell? w _ hx775_1)).trans hx775_1
  replace hx775_2:=(HB.out.cell (World.block_lt_of_cell? w _ hx775_2)).trans hx775_2
  replace hx775_3:=(HB.out.cell (World.block_lt_of_cell? w _ hx775_3)).trans hx775_3
  have HR775_2:=Aside0.mk hi775_2
  have HC775_2:=Aside0.mk hl775_2
  clear hi775_2 hl775_2
  have HR775_3:=Aside0.mk hi775_3
  have HC775_3:=Aside0.mk hl775_3
  clear hi775_3 hl775_3
  replace p775:=eq_true p775
  replace q775:=eq_true q775
  have p776:0<=(x3_1:Int):=oD_ z6_1
  have q776:x3_1<(l0.length:Int):=oD_ z6_1
  obtain ⟨ad776,A776_2,c776_2,A776_3,c776_3,e776,hx776_0,hx776_1,hx776_2,hx776_3,hl776_2,hi776_2,hl776_3,hi776_3⟩:=at_T30 HR0.out x3_1 p776 q776
  have hw776_3:=hx776_3
  have hw776_2:=hx776_2
  have hw776_1:=hx776_1
  have hw776_0:=hx776_0
  obtain rfl:ad775=ad776:=(by injection e776)
  replace hx776_0:=(HB.out.cell (World.block_lt_of_cell? w _ hx776_0)).trans hx776_0
  replace hx776_1:=(HB.out.cell (World.block_lt_of_cell? w _ hx776_1)).trans hx776_1
  replace hx776_2:=(HB.out.cell (World.block_lt_of_cell? w _ hx776_2)).trans hx776_2
  replace hx776_3:=(HB.out.cell (World.block_lt_of_cell? w _ hx776_3)).trans hx776_3
  have HR776_2:=Aside0.mk hi776_2
  have HC776_2:=Aside0.mk hl776_2
  clear hi776_2 hl776_2
  have HR776_3:=Aside0.mk hi776_3
  have HC776_3:=Aside0.mk hl776_3
  clear hi776_3 hl776_3
  replace p776:=eq_true p776
  replace q776:=eq_true q776
  have p778:0<=(x4_2:Int):=oD_ z6_1
  have q778:x4_2<(l0.length:Int):=oD_ z6_1
  obtain ⟨ad778,A778_2,c778_2,A778_3,c778_3,e778,hx778_0,hx778_1,hx778_2,hx778_3,hl778_2,hi778_2,hl778_3,hi778_3⟩:=at_T30 HR0.out x4_2 p778 q778
  have hw778_3:=hx778_3
  have hw778_2:=hx778_2
  have hw778_1:=hx778_1
  have hw778_0:=hx778_0
  obtain rfl:ad775=ad778:=(by injection e778)
  obtain ⟨rfl,rfl⟩:A775_2=A778_2/\c775_2=c778_2:=by have h_:=sI_ (hw775_2.symm.trans hw778_2);injection h_ with h1_ h2_ h3_;exact ⟨h1_,h3_⟩
  obtain ⟨rfl,rfl⟩:A775_3=A778_3/\c775_3=c778_3:=by have h_:=sI_ (hw775_3.symm.trans hw778_3);injection h_ with h1_ h2_ h3_;exact ⟨h1_,h3_⟩
  replace hx778_0:=(HB.out.cell (World.block_lt_of_cell? w _ hx778_0)).trans hx778_0
  replace hx778_1:=(HB.out.cell (World.block_lt_of_cell? w _ hx778_1)).trans hx778_1
  replace hx778_2:=(HB.out.cell (World.block_lt_of_cell? w _ hx778_2)).trans hx778_2
  replace hx778_3:=(HB.out.cell (World.block_lt_of_cell? w _ hx778_3)).trans hx778_3
  have HR778_2:=Aside0.mk hi778_2
  have HC778_2:=Aside0.mk hl778_2
  clear hi778_2 hl778_2
  have HR778_3:=Aside0.mk hi778_3
  have HC778_3:=Aside0.mk hl778_3
  clear hi778_3 hl778_3
  replace p778:=eq_true p778
  replace q778:=eq_true q778
  have p779:0<=(x3_1:Int):=oD_ z6_1
  have q779:x3_1<(l0.length:Int):=oD_ z6_1
  obtain ⟨ad779,A779_2,c779_2,A779_3,c779_3,e779,hx779_0,hx779_1,hx779_2,hx779_3,hl779_2,hi779_2,hl779_3,hi779_3⟩:=at_T30 HR0.out x3_1 p779 q779
  have hw779_3:=hx779_3
  have hw779_2:=hx779_2
  have hw779_1:=hx779_1
  have hw779_0:=hx779_0
  obtain rfl:ad775=ad779:=(by injection e779)
  obtain ⟨rfl,rfl⟩:A776_2=A779_2/\c776_2=c779_2:=by have h_:=sI_ (hw776_2.symm.trans hw779_2);injection h_ with h1_ h2_ h3_;exact ⟨h1_,h3_⟩
  obtain ⟨rfl,rfl⟩:A776_3=A779_3/\c776_3=c779_3:=by have h_:=sI_ (hw776_3.symm.trans hw779_3);injection h_ with h1_ h2_ h3_;exact ⟨h1_,h3_⟩
  replace hx779_0:=(HB.out.cell (World.block_lt_of_cell? w _ hx779_0)).trans hx779_0
  replace hx779_1:=(HB.out.cell (World.block_lt_of_cell? w _ hx779_1)).trans hx779_1
  replace hx779_2:=(HB.out.cell (World.block_lt_of_cell? w _ hx779_2)).trans hx779_2
  replace hx779_3:=(HB.out.cell (World.block_lt_of_cell? w _ hx779_3)).trans hx779_3
  have HR779_2:=Aside0.mk hi779_2
  have HC779_2:=Aside0.mk hl779_2
  clear hi779_2 hl779_2
  have HR779_3:=Aside0.mk hi779_3
  have HC779_3:=Aside0.mk hl779_3
  clear hi779_3 hl779_3
  replace p779:=eq_true p779
  replace q779:=eq_true q779
  refine start_ (n:=23) (S:=λw'=>w'.cell? (ad775.add ((x4_2).toNat*4))=some (.int .i64 ((rd_T30 l0 x4_2).f0.f0))/\w'.cell? ⟨(ad775.add ((x4_2).toNat*4)).block,(ad775.add ((x4_2).toNat*4)).off+1,none⟩=some (.int .i64 ((rd_T30 l0 x4_2).f0.f1))/\w'.cell? ⟨(ad775.add ((x4_2).toNat*4)).block,(ad775.add ((x4_2).toNat*4)).off+2,none⟩=some (.slice A775_2 ((rd_T30 l0 x4_2).f1).length c775_2)/\w'.cell? ⟨(ad775.add ((x4_2).toNat*4)).block,(ad775.add ((x4_2).toNat*4)).off+3,none⟩=some (.slice A775_3 ((rd_T30 l0 x4_2).f2).length c775_3)/\w'.cell? (ad775.add ((x3_1).toNat*4))=some (.int .i64 ((rd_T30 l0 x3_1).f0.f0))/\w'.cell? ⟨(ad775.add ((x3_1).toNat*4)).block,(ad775.add ((x3_1).toNat*4)).off+1,none⟩=some (.int .i64 ((rd_T30 l0 x3_1).f0.f1))/\w'.cell? ⟨(ad775.add ((x3_1).toNat*4)).block,(ad775.add ((x3_1).toNat*4)).off+2,none⟩=some (.slice A776_2 ((rd_T30 l0 x3_1).f1).length c776_2)/\w'.cell? ⟨(ad775.add ((x3_1).toNat*4)).block,(ad775.add ((x3_1).toNat*4)).off+3,none⟩=some (.slice A776_3 ((rd_T30 l0 x3_1).f2).length c776_3)/\w'.cell? (ad775.add ((x4_2).toNat*4))=some (.int .i64 ((rd_T30 l0 x4_2).f0.f0))/\w'.cell? ⟨(ad775.add ((x4_2).toNat*4)).block,(ad775.add ((x4_2).toNat*4)).off+1,none⟩=some (.int .i64 ((rd_T30 l0 x4_2).f0.f1))/\w'.cell? ⟨(ad775.add ((x4_2).toNat*4)).block,(ad775.add ((x4_2).toNat*4)).off+2,none⟩=some (.slice A775_2 ((rd_T30 l0 x4_2).f1).length c775_2)/\w'.cell? ⟨(ad775.add ((x4_2).toNat*4)).block,(ad775.add ((x4_2).toNat*4)).off+3,none⟩=some (.slice A775_3 ((rd_T30 l0 x4_2).f2).length c775_3)/\w'.cell? (ad775.add ((x3_1).toNat*4))=some (.int .i64 ((rd_T30 l0 x3_1).f0.f0))/\w'.cell? ⟨(ad775.add ((x3_1).toNat*4)).block,(ad775.add ((x3_1).toNat*4)).off+1,none⟩=some (.int .i64 ((rd_T30 l0 x3_1).f0.f1))/\w'.cell? ⟨(ad775.add ((x3_1).toNat*4)).block,(ad775.add ((x3_1).toNat*4)).off+2,none⟩=some (.slice A776_2 ((rd_T30 l0 x3_1).f1).length c776_2)/\w'.cell? ⟨(ad775.add ((x3_1).toNat*4)).block,(ad775.add ((x3_1).toNat*4)).off+3,none⟩=some (.slice A776_3 ((rd_T30 l0 x3_1).f2).length c776_3)) (ds:=[]) #[J,J,J,J,J,J,J,J,J,J,J,J,J,J,J,J,J,J,J,J,J,J,J] z3_17 rfl rfl ⟨((HB.out.cell (World.block_lt_of_cell? w _ hw775_0)).trans hw775_0),((HB.out.cell (World.block_lt_of_cell? w _ hw775_1)).trans hw775_1),((HB.out.cell (World.block_lt_of_cell? w _ hw775_2)).trans hw775_2),((HB.out.cell (World.block_lt_of_cell? w _ hw775_3)).trans hw775_3),((HB.out.cell (World.block_lt_of_cell? w _ hw776_0)).trans hw776_0),((HB.out.cell (World.block_lt_of_cell? w _ hw776_1)).trans hw776_1),((HB.out.cell (World.block_lt_of_cell? w _ hw776_2)).trans hw776_2),((HB.out.cell (World.block_lt_of_cell? w _ hw776_3)).trans hw776_3),((HB.out.cell (World.block_lt_of_cell? w _ hw778_0)).trans hw778_0),((HB.out.cell (World.block_lt_of_cell? w _ hw778_1)).trans hw778_1),((HB.out.cell (World.block_lt_of_cell? w _ hw778_2)).trans hw778_2),((HB.out.cell (World.block_lt_of_cell? w _ hw778_3)).trans hw778_3),((HB.out.cell (World.block_lt_of_cell? w _ hw779_0)).trans hw779_0),((HB.out.cell (World.block_lt_of_cell? w _ hw779_1)).trans hw779_1),((HB.out.cell (World.block_lt_of_cell? w _ hw779_2)).trans hw779_2),((HB.out.cell (World.block_lt_of_cell? w _ hw779_3)).trans hw779_3)⟩ (λhHeld=>?_);refine with_tabW w08_Whole.tab9 w08_Whole.bits9 (λHT_ HW_=>?_)
  generalize wr.drew=w16 at HB HR775_2 HR775_3 HR776_2 HR776_3 HR778_2 HR778_3 HR779_2 HR779_3 hx775_0 hx775_1 hx775_2 hx775_3 hx776_0 hx776_1 hx776_2 hx776_3 hx778_0 hx778_1 hx778_2 hx778_3 hx779_0 hx779_1 hx779_2 hx779_3 hHeld ⊢
  refine pure_ (i:=0) (N:=some 20) (v:=?_) (a':=?_) #[Y,J,J,J,J,J,J,J,J,J,J,J,J,J,J,J,J,J,J,J,J,J,J] rfl rfl (any_of HT_.out z3_17) (λ_ _ _ h=>h) (Or.inl ⟨(by rfl),?_⟩) ?_ ?_
  rotate_left
  ·intro w'
   go_simp
   with_reducible rfl
  rotate_left
  ·exact z3_3
  refine pure_ (i:=1) (N:=some 21) (v:=?_) (a':=?_) #[Y,Y,J,J,J,J,J,J,J,J,J,J,J,J,J,J,J,J,J,J,J,J,J] rfl rfl (any_of HT_.out z3_17) (λ_ _ _ h=>h) (Or.inl ⟨(by rfl),?_⟩) ?_ ?_
  rotate_left
  ·intro w'
   go_simp
   with_reducible rfl
  rotate_left
  ·exact z3_3
  refine pure_ (i:=2) (N:=some 22) (v:=?_) (a':=?_) #[Y,Y,Y,J,J,J,J,J,J,J,J,J,J,J,J,J,J,J,J,J,J,J,J] rfl rfl (any_of HT_.out z3_17) (λ_ _ _ h=>h) (Or.inl ⟨(by rfl),?_⟩) ?_ ?_
  rotate_left
  ·intro w'
   go_simp
   with_reducible rfl
  rotate_left
  ·exact z3_3
  refine pure_ (i:=4) (N:=some 24) (v:=?_) (a':=?_) #[Y,Y,Y,J,Y,J,J,J,J,J,J,J,J,J,J,J,J,J,J,J,J,J,J] rfl rfl (any_of HT_.out z3_17) (λ_ _ _ h=>h) (Or.inl ⟨(by rfl),?_⟩) ?_ ?_
  rotate_left
  ·intro w'
   go_simp
   with_reducible rfl
  rotate_left
  ·exact z3_3
  refine pure_ (i:=5) (N:=some 25) (v:=?_) (a':=?_) #[Y,Y,Y,J,Y,Y,J,J,J,J,J,J,J,J,J,J,J,J,J,J,J,J,J] rfl rfl (any_of HT_.out z3_17) (λ_ _ _ h=>h) (Or.inl ⟨(by rfl),?_⟩) ?_ ?_
  rotate_left
  ·intro w'
   go_simp
   with_reducible rfl
  rotate_left
  ·exact z3_3
  refine pure_ (i:=6) (N:=some 26) (v:=?_) (a':=?_) #[Y,Y,Y,J,Y,Y,Y,J,J,J,J,J,J,J,J,J,J,J,J,J,J,J,J] rfl rfl (any_of HT_.out z3_17) (λ_ _ _ h=>h) (Or.inl ⟨(by rfl),?_⟩) ?_ ?_
  rotate_left
  ·intro w'
   go_simp
   with_reducible rfl
  rotate_left
  ·exact z3_3
  refine take_ (i:=3) (N:=some 23) (v:=?_) (a':=?_) #[Y,Y,Y,Y,Y,Y,Y,J,J,J,J,J,J,J,J,J,J,J,J,J,J,J,J] rfl rfl (take_ofW HT_.out HW_.out z3_17) (λ_ _ _ h=>h) (Or.inl ⟨(by rfl),?_⟩) hHeld ?_ ?_
  rotate_left
  ·rintro w' ⟨s0,s1,s2,s3,s4,s5,s6,s7,s8,s9,s10,s11,s12,s13,s14,s15⟩
   go_simp
   with_reducible rfl
  rotate_left
  ·exact z3_3
  refine take_ (i:=7) (N:=some 27) (v:=?_) (a':=?_) #[Y,Y,Y,Y,Y,Y,Y,Y,J,J,J,J,J,J,J,J,J,J,J,J,J,J,J] rfl rfl (take_ofW HT_.out HW_.out z3_17) (λ_ _ _ h=>h) (Or.inl ⟨(by rfl),?_⟩) hHeld ?_ ?_
  rotate_left
  ·rintro w' ⟨s0,s1,s2,s3,s4,s5,s6,s7,s8,s9,s10,s11,s12,s13,s14,s15⟩
   go_simp
   with_reducible rfl
  rotate_left
  ·exact z3_3
  refine one_ (i:=8) (N:=some 28) #[Y,Y,Y,Y,Y,Y,Y,Y,Y,J,J,J,J,J,J,J,J,J,J,J,J,J,J] rfl rfl (one_of HT_.out z3_17) (by decide) (λK hK=>?_)
  refine goes_ Try.func18 z3_17 rfl #[.agg #[.int .i64 ((rd_T30 l0 x4_2).f0.f0),.int .i64 ((rd_T30 l0 x4_2).f0.f1),.slice A775_2 ((rd_T30 l0 x4_2).f1).length c775_2,.slice A775_3 ((rd_T30 l0 x4_2).f2).length c775_3],.agg #[.int .i64 ((rd_T30 l0 x3_1).f0.f0),.int .i64 ((rd_T30 l0 x3_1).f0.f1),.slice A776_2 ((rd_T30 l0 x3_1).f1).length c776_2,.slice A776_3 ((rd_T30 l0 x3_1).f2).length c776_3]] (by rfl) rfl rfl z6_5 ?_
  with_reducible refine(r05_Ahead.calls k2 ((rd_T30 l0 x4_2).f0.f0) ((rd_T30 l0 x4_2).f0.f1) _ _ ((rd_T30 l0 x4_2).f1) _ _ ((rd_T30 l0 x4_2).f2) ((rd_T30 l0 x3_1).f0.f0) ((rd_T30 l0 x3_1).f0.f1) _ _ ((rd_T30 l0 x3_1).f1) _ _ ((rd_T30 l0 x3_1).f2) true _ ?side1 ?side2 ?side3 ?side4 ?side5 ?side6 ?side7 ?side8 A10.out).mono ?_
  (case side1=>exact z37_5)
  (case side2=>exact HC775_2.out)
  (case side3=>exact z37_6)
  (case side4=>exact HC775_3.out)
  (case side5=>exact z37_7)
  (case side6=>exact HC776_2.out)
  (case side7=>exact z37_8)
  (case side8=>exact HC776_3.out)
  rintro e w17 ⟨rfl,hb⟩
  refine ⟨_,rfl,?_⟩
  have n0_:=U (below_step z9_4 hb)
  clear HB
  have HB:=n0_
  clear n0_
  (try clear hb)
  (try clear hb2)
  (try clear hk)
  (try clear hi)
  refine hK.out _ _ ⟨((HB.out.cell (World.block_lt_of_cell? w _ hw775_0)).trans hw775_0),((HB.out.cell (World.block_lt_of_cell? w _ hw775_1)).trans hw775_1),((HB.out.cell (World.block_lt_of_cell? w _ hw775_2)).trans hw775_2),((HB.out.cell (World.block_lt_of_cell? w _ hw775_3)).trans hw775_3),((HB.out.cell (World.block_lt_of_cell? w _ hw776_0)).trans hw776_0),((HB.out.cell (World.block_lt_of_cell? w _ hw776_1)).trans hw776_1),((HB.out.cell (World.block_lt_of_cell? w _ hw776_2)).trans hw776_2),((HB.out.cell (World.block_lt_of_cell? w _ hw776_3)).trans hw776_3),((HB.out.cell (World.block_lt_of_cell? w _ hw778_0)).trans hw778_0),((HB.out.cell (World.block_lt_of_cell? w _ hw778_1)).trans hw778_1),((HB.out.cell (World.block_lt_of_cell? w _ hw778_2)).trans hw778_2),((HB.out.cell (World.block_lt_of_cell? w _ hw778_3)).trans hw778_3),((HB.out.cell (World.block_lt_of_cell? w _ hw779_0)).trans hw779_0),((HB.out.cell (World.block_lt_of_cell? w _ hw779_1)).trans hw779_1),((HB.out.cell (World.block_lt_of_cell? w _ hw779_2)).trans hw779_2),((HB.out.cell (World.block_lt_of_cell? w _ hw779_3)).trans hw779_3)⟩ (λhHeld=>?_)
  clear hK K
  refine norm_ (a':=?_) ?_ ?_
  rotate_left
  ·exact z36_12
  refine pure_ (i:=9) (N:=some 29) (v:=?_) (a':=?_) #[Y,Y,Y,Y,Y,Y,Y,Y,Y,Y,J,J,J,J,J,J,J,J,J,J,J,J,J] rfl rfl (any_of HT_.out z3_17) (λ_ _ _ h=>h) (Or.inl ⟨(by rfl),?_⟩) ?_ ?_
  rotate_left
  ·intro w'
   go_simp
   with_reducible rfl
  rotate_left
  ·exact z3_3
  refine pure_ (i:=10) (N:=some 30) (v:=?_) (a':=?_) #[Y,Y,Y,Y,Y,Y,Y,Y,Y,Y,Y,J,J,J,J,J,J,J,J,J,J,J,J] rfl rfl (any_of HT_.out z3_17) (λ_ _ _ h=>h) (Or.inl ⟨(by rfl),?_⟩) ?_ ?_
  rotate_left
  ·intro w'
   go_simp
   with_reducible rfl
  rotate_left
  ·exact z3_3
  refine pure_ (i:=11) (N:=some 31) (v:=?_) (a':=?_) #[Y,Y,Y,Y,Y,Y,Y,Y,Y,Y,Y,Y,J,J,J,J,J,J,J,J,J,J,J] rfl rfl (any_of HT_.out z3_17) (λ_ _ _ h=>h) (Or.inl ⟨(by rfl),?_⟩) ?_ ?_
  rotate_left
  ·intro w'
   go_simp
   with_reducible rfl
  rotate_left
  ·exact z3_3
  refine pure_ (i:=12) (N:=some 32) (v:=?_) (a':=?_) #[Y,Y,Y,Y,Y,Y,Y,Y,Y,Y,Y,Y,Y,J,J,J,J,J,J,J,J,J,J] rfl rfl (any_of HT_.out z3_17) (λ_ _ _ h=>h) (Or.inl ⟨(by rfl),?_⟩) ?_ ?_
  rotate_left
  ·intro w'
   go_simp
   with_reducible rfl
  rotate_left
  ·exact z3_3
  refine pure_ (i:=13) (N:=some 33) (v:=?_) (a':=?_) #[Y,Y,Y,Y,Y,Y,Y,Y,Y,Y,Y,Y,Y,Y,J,J,J,J,J,J,J,J,J] rfl rfl (any_of HT_.out z3_17) (λ_ _ _ h=>h) (Or.inl ⟨(by rfl),?_⟩) ?_ ?_
  rotate_left
  ·intro w'
   go_simp
   with_reducible rfl
  rotate_left
  ·exact z3_3
  refine pure_ (i:=15) (N:=some 35) (v:=?_) (a':=?_) #[Y,Y,Y,Y,Y,Y,Y,Y,Y,Y,Y,Y,Y,Y,J,Y,J,J,J,J,J,J,J] rfl rfl (any_of HT_.out z3_17) (λ_ _ _ h=>h) (Or.inl ⟨(by rfl),?_⟩) ?_ ?_
  rotate_left
  ·intro w'
   go_simp
   with_reducible rfl
  rotate_left
  ·exact z3_3
  refine pure_ (i:=16) (N:=some 36) (v:=?_) (a':=?_) #[Y,Y,Y,Y,Y,Y,Y,Y,Y,Y,Y,Y,Y,Y,J,Y,Y,J,J,J,J,J,J] rfl rfl (any_of HT_.out z3_17) (λ_ _ _ h=>h) (Or.inl ⟨(by rfl),?_⟩) ?_ ?_
  rotate_left
  ·intro w'
   go_simp
   with_reducible rfl
  rotate_left
  ·exact z3_3
  refine pure_ (i:=17) (N:=some 37) (v:=?_) (a':=?_) #[Y,Y,Y,Y,Y,Y,Y,Y,Y,Y,Y,Y,Y,Y,J,Y,Y,Y,J,J,J,J,J] rfl rfl (any_of HT_.out z3_17) (λ_ _ _ h=>h) (Or.inl ⟨(by rfl),?_⟩) ?_ ?_
  rotate_left
  ·intro w'
   go_simp
   with_reducible rfl
  rotate_left
  ·exact z3_3
  refine pure_ (i:=18) (N:=some 38) (v:=?_) (a':=?_) #[Y,Y,Y,Y,Y,Y,Y,Y,Y,Y,Y,Y,Y,Y,J,Y,Y,Y,Y,J,J,J,J] rfl rfl (any_of HT_.out z3_17) (λ_ _ _ h=>h) (Or.inl ⟨(by rfl),?_⟩) ?_ ?_
  rotate_left
  ·intro w'
   go_simp
   with_reducible rfl
  rotate_left
  ·exact z3_3
  refine take_ (i:=14) (N:=some 34) (v:=?_) (a':=?_) #[Y,Y,Y,Y,Y,Y,Y,Y,Y,Y,Y,Y,Y,Y,Y,Y,Y,Y,Y,J,J,J,J] rfl rfl (take_ofW HT_.out HW_.out z3_17) (λ_ _ _ h=>h) (Or.inl ⟨(by rfl),?_⟩) hHeld ?_ ?_
  rotate_left
  ·rintro w' ⟨s0,s1,s2,s3,s4,s5,s6,s7,s8,s9,s10,s11,s12,s13,s14,s15⟩
   go_simp
   with_reducible rfl
  rotate_left
  ·exact z3_3
  refine take_ (i:=19) (N:=some 39) (v:=?_) (a':=?_) #[Y,Y,Y,Y,Y,Y,Y,Y,Y,Y,Y,Y,Y,Y,Y,Y,Y,Y,Y,Y,J,J,J] rfl rfl (take_ofW HT_.out HW_.out z3_17) (λ_ _ _ h=>h) (Or.inl ⟨(by rfl),?_⟩) hHeld ?_ ?_
  rotate_left
  ·rintro w' ⟨s0,s1,s2,s3,s4,s5,s6,s7,s8,s9,s10,s11,s12,s13,s14,s15⟩
   go_simp
   with_reducible rfl
  rotate_left
  ·exact z3_3
  refine one_ (i:=20) (N:=some 40) #[Y,Y,Y,Y,Y,Y,Y,Y,Y,Y,Y,Y,Y,Y,Y,Y,Y,Y,Y,Y,Y,J,J] rfl rfl (one_of HT_.out z3_17) (by decide) (λK hK=>?_)
  refine goes_ Try.func19 z3_17 rfl #[.slice A775_2 ((rd_T30 l0 x4_2).f1).length c775_2,.slice A776_2 ((rd_T30 l0 x3_1).f1).length c776_2] (by rfl) rfl rfl z6_5 ?_
  with_reducible refine(r03_Within.calls k2 _ _ ((rd_T30 l0 x4_2).f1) _ _ ((rd_T30 l0 x3_1).f1) false _ ?side1 ?side2 ?side3 ?side4 A12.out).mono ?_
  (case side1=>exact z37_11)
  (case side2=>exact HC778_2.out)
  (case side3=>exact z37_12)
  (case side4=>exact HC779_2.out)
  rintro e w' ⟨rfl,⟨nd,rfl⟩⟩
  refine ⟨_,rfl,?_⟩
  refine hK.out _ _ ⟨((HB.out.cell (World.block_lt_of_cell? w _ hw775_0)).trans hw775_0),((HB.out.cell (World.block_lt_of_cell? w _ hw775_1)).trans hw775_1),((HB.out.cell (World.block_lt_of_cell? w _ hw775_2)).trans hw775_2),((HB.out.cell (World.block_lt_of_cell? w _ hw775_3)).trans hw775_3),((HB.out.cell (World.block_lt_of_cell? w _ hw776_0)).trans hw776_0),((HB.out.cell (World.block_lt_of_cell? w _ hw776_1)).trans hw776_1),((HB.out.cell (World.block_lt_of_cell? w _ hw776_2)).trans hw776_2),((HB.out.cell (World.block_lt_of_cell? w _ hw776_3)).trans hw776_3),((HB.out.cell (World.block_lt_of_cell? w _ hw778_0)).trans hw778_0),((HB.out.cell (World.block_lt_of_cell? w _ hw778_1)).trans hw778_1),((HB.out.cell (World.block_lt_of_cell? w _ hw778_2)).trans hw778_2),((HB.out.cell (World.block_lt_of_cell? w _ hw778_3)).trans hw778_3),((HB.out.cell (World.block_lt_of_cell? w _ hw779_0)).trans hw779_0),((HB.out.cell (World.block_lt_of_cell? w _ hw779_1)).trans hw779_1),((HB.out.cell (World.block_lt_of_cell? w _ hw779_2)).trans hw779_2),((HB.out.cell (World.block_lt_of_cell? w _ hw779_3)).trans hw779_3)⟩ (λhHeld=>?_)
  clear hK K
  refine norm_ (a':=?_) ?_ ?_
  rotate_left
  ·exact z37_15
  refine pure_ (i:=21) (N:=some 41) (v:=?_) (a':=?_) #[Y,Y,Y,Y,Y,Y,Y,Y,Y,Y,Y,Y,Y,Y,Y,Y,Y,Y,Y,Y,Y,Y,J] rfl rfl (any_of HT_.out z3_17) (λ_ _ _ h=>h) (Or.inl ⟨(by rfl),?_⟩) ?_ ?_
  rotate_left
  ·intro w'
   go_simp
   with_reducible rfl
  rotate_left
  ·exact z3_3
  refine pure_ (i:=22) (N:=some 42) (v:=?_) (a':=?_) #[Y,Y,Y,Y,Y,Y,Y,Y,Y,Y,Y,Y,Y,Y,Y,Y,Y,Y,Y,Y,Y,Y,Y] rfl rfl (any_of HT_.out z3_17) (λ_ _ _ h=>h) (Or.inl ⟨(by rfl),?_⟩) ?_ ?_
  rotate_left
  ·intro w'
   go_simp
   with_reducible rfl
  rotate_left
  ·exact z3_3
  refine done_ (done_of HT_.out z3_17) ?_
  try go_wp2
  go_ret
  exact ⟨z9_2,z9_4⟩
 subst c13
 have H1:(w08_Whole.l1 k2 l0 x3_1 (wrap64 (x4_2+1)))=some r:=by rw [if_pos rfl] at H;exact H
 clear H
 have H:=H1
 clear H1
 have H':=Aside0.mk H
 clear H
 try go_wp2
 have n0_:=U (below_drew1 HB.out)
 clear HB
 have HB:=n0_
 clear n0_
 have p775:0<=(x4_2:Int):=oD_ z6_1
 have q775:x4_2<(l0.length:Int):=oD_ z6_1
 obtain ⟨ad775,A775_2,c775_2,A775_3,c775_3,e775,hx775_0,hx775_1,hx775_2,hx775_3,hl775_2,hi775_2,hl775_3,hi775_3⟩:=at_T30 HR0.out x4_2 p775 q775
 have hw775_3:=hx775_3
 have hw775_2:=hx775_2
 have hw775_1:=hx775_1
 have hw775_0:=hx775_0
 cases e775
 replace hx775_0:=(HB.out.cell (World.block_lt_of_cell? w _ hx775_0)).trans hx775_0
 replace hx775_1:=(HB.out.cell (World.block_lt_of_cell? w _ hx775_1)).trans hx775_1
 replace hx775_2:=(HB.out.cell (World.block_lt_of_cell? w _ hx775_2)).trans hx775_2
 replace hx775_3:=(HB.out.cell (World.block_lt_of_cell? w _ hx775_3)).trans hx775_3
 have HR775_2:=Aside0.mk hi775_2
 have HC775_2:=Aside0.mk hl775_2
 clear hi775_2 hl775_2
 have HR775_3:=Aside0.mk hi775_3
 have HC775_3:=Aside0.mk hl775_3
 clear hi775_3 hl775_3
 replace p775:=eq_true p775
 replace q775:=eq_true q775
 have p776:0<=(x3_1:Int):=oD_ z6_1
 have q776:x3_1<(l0.length:Int):=oD_ z6_1
 obtain ⟨ad776,A776_2,c776_2,A776_3,c776_3,e776,hx776_0,hx776_1,hx776_2,hx776_3,hl776_2,hi776_2,hl776_3,hi776_3⟩:=at_T30 HR0.out x3_1 p776 q776
 have hw776_3:=hx776_3
 have hw776_2:=hx776_2
 have hw776_1:=hx776_1
 have hw776_0:=hx776_0
 obtain rfl:ad775=ad776:=(by injection e776)
 replace hx776_0:=(HB.out.cell (World.block_lt_of_cell? w _ hx776_0)).trans hx776_0
 replace hx776_1:=(HB.out.cell (World.block_lt_of_cell? w _ hx776_1)).trans hx776_1
 replace hx776_2:=(HB.out.cell (World.block_lt_of_cell? w _ hx776_2)).trans hx776_2
 replace hx776_3:=(HB.out.cell (World.block_lt_of_cell? w _ hx776_3)).trans hx776_3
 have HR776_2:=Aside0.mk hi776_2
 have HC776_2:=Aside0.mk hl776_2
 clear hi776_2 hl776_2
 have HR776_3:=Aside0.mk hi776_3
 have HC776_3:=Aside0.mk hl776_3
 clear hi776_3 hl776_3
 replace p776:=eq_true p776
 replace q776:=eq_true q776
 have p778:0<=(x4_2:Int):=oD_ z6_1
 have q778:x4_2<(l0.length:Int):=oD_ z6_1
 obtain ⟨ad778,A778_2,c778_2,A778_3,c778_3,e778,hx778_0,hx778_1,hx778_2,hx778_3,hl778_2,hi778_2,hl778_3,hi778_3⟩:=at_T30 HR0.out x4_2 p778 q778
 have hw778_3:=hx778_3
 have hw778_2:=hx778_2
 have hw778_1:=hx778_1
 have hw778_0:=hx778_0
 obtain rfl:ad775=ad778:=(by injection e778)
 obtain ⟨rfl,rfl⟩:A775_2=A778_2/\c775_2=c778_2:=by have h_:=sI_ (hw775_2.symm.trans hw778_2);injection h_ with h1_ h2_ h3_;exact ⟨h1_,h3_⟩
 obtain ⟨rfl,rfl⟩:A775_3=A778_3/\c775_3=c778_3:=by have h_:=sI_ (hw775_3.symm.trans hw778_3);injection h_ with h1_ h2_ h3_;exact ⟨h1_,h3_⟩
 replace hx778_0:=(HB.out.cell (World.block_lt_of_cell? w _ hx778_0)).trans hx778_0
 replace hx778_1:=(HB.out.cell (World.block_lt_of_cell? w _ hx778_1)).trans hx778_1
 replace hx778_2:=(HB.out.cell (World.block_lt_of_cell? w _ hx778_2)).trans hx778_2
 replace hx778_3:=(HB.out.cell (World.block_lt_of_cell? w _ hx778_3)).trans hx778_3
 have HR778_2:=Aside0.mk hi778_2
 have HC778_2:=Aside0.mk hl778_2
 clear hi778_2 hl778_2
 have HR778_3:=Aside0.mk hi778_3
 have HC778_3:=Aside0.mk hl778_3
 clear hi778_3 hl778_3
 replace p778:=eq_true p778
 replace q778:=eq_true q778
 have p779:0<=(x3_1:Int):=oD_ z6_1
 have q779:x3_1<(l0.length:Int):=oD_ z6_1
 obtain ⟨ad779,A779_2,c779_2,A779_3,c779_3,e779,hx779_0,hx779_1,hx779_2,hx779_3,hl779_2,hi779_2,hl779_3,hi779_3⟩:=at_T30 HR0.out x3_1 p779 q779
 have hw779_3:=hx779_3
 have hw779_2:=hx779_2
 have hw779_1:=hx779_1
 have hw779_0:=hx779_0
 obtain rfl:ad775=ad779:=(by injection e779)
 obtain ⟨rfl,rfl⟩:A776_2=A779_2/\c776_2=c779_2:=by have h_:=sI_ (hw776_2.symm.trans hw779_2);injection h_ with h1_ h2_ h3_;exact ⟨h1_,h3_⟩
 obtain ⟨rfl,rfl⟩:A776_3=A779_3/\c776_3=c779_3:=by have h_:=sI_ (hw776_3.symm.trans hw779_3);injection h_ with h1_ h2_ h3_;exact ⟨h1_,h3_⟩
 replace hx779_0:=(HB.out.cell (World.block_lt_of_cell? w _ hx779_0)).trans hx779_0
 replace hx779_1:=(HB.out.cell (World.block_lt_of_cell? w _ hx779_1)).trans hx779_1
 replace hx779_2:=(HB.out.cell (World.block_lt_of_cell? w _ hx779_2)).trans hx779_2
 replace hx779_3:=(HB.out.cell (World.block_lt_of_cell? w _ hx779_3)).trans hx779_3
 have HR779_2:=Aside0.mk hi779_2
 have HC779_2:=Aside0.mk hl779_2
 clear hi779_2 hl779_2
 have HR779_3:=Aside0.mk hi779_3
 have HC779_3:=Aside0.mk hl779_3
 clear hi779_3 hl779_3
 replace p779:=eq_true p779
 replace q779:=eq_true q779
 refine start_ (n:=23) (S:=λw'=>w'.cell? (ad775.add ((x4_2).toNat*4))=some (.int .i64 ((rd_T30 l0 x4_2).f0.f0))/\w'.cell? ⟨(ad775.add ((x4_2).toNat*4)).block,(ad775.add ((x4_2).toNat*4)).off+1,none⟩=some (.int .i64 ((rd_T30 l0 x4_2).f0.f1))/\w'.cell? ⟨(ad775.add ((x4_2).toNat*4)).block,(ad775.add ((x4_2).toNat*4)).off+2,none⟩=some (.slice A775_2 ((rd_T30 l0 x4_2).f1).length c775_2)/\w'.cell? ⟨(ad775.add ((x4_2).toNat*4)).block,(ad775.add ((x4_2).toNat*4)).off+3,none⟩=some (.slice A775_3 ((rd_T30 l0 x4_2).f2).length c775_3)/\w'.cell? (ad775.add ((x3_1).toNat*4))=some (.int .i64 ((rd_T30 l0 x3_1).f0.f0))/\w'.cell? ⟨(ad775.add ((x3_1).toNat*4)).block,(ad775.add ((x3_1).toNat*4)).off+1,none⟩=some (.int .i64 ((rd_T30 l0 x3_1).f0.f1))/\w'.cell? ⟨(ad775.add ((x3_1).toNat*4)).block,(ad775.add ((x3_1).toNat*4)).off+2,none⟩=some (.slice A776_2 ((rd_T30 l0 x3_1).f1).length c776_2)/\w'.cell? ⟨(ad775.add ((x3_1).toNat*4)).block,(ad775.add ((x3_1).toNat*4)).off+3,none⟩=some (.slice A776_3 ((rd_T30 l0 x3_1).f2).length c776_3)/\w'.cell? (ad775.add ((x4_2).toNat*4))=some (.int .i64 ((rd_T30 l0 x4_2).f0.f0))/\w'.cell? ⟨(ad775.add ((x4_2).toNat*4)).block,(ad775.add ((x4_2).toNat*4)).off+1,none⟩=some (.int .i64 ((rd_T30 l0 x4_2).f0.f1))/\w'.cell? ⟨(ad775.add ((x4_2).toNat*4)).block,(ad775.add ((x4_2).toNat*4)).off+2,none⟩=some (.slice A775_2 ((rd_T30 l0 x4_2).f1).length c775_2)/\w'.cell? ⟨(ad775.add ((x4_2).toNat*4)).block,(ad775.add ((x4_2).toNat*4)).off+3,none⟩=some (.slice A775_3 ((rd_T30 l0 x4_2).f2).length c775_3)/\w'.cell? (ad775.add ((x3_1).toNat*4))=some (.int .i64 ((rd_T30 l0 x3_1).f0.f0))/\w'.cell? ⟨(ad775.add ((x3_1).toNat*4)).block,(ad775.add ((x3_1).toNat*4)).off+1,none⟩=some (.int .i64 ((rd_T30 l0 x3_1).f0.f1))/\w'.cell? ⟨(ad775.add ((x3_1).toNat*4)).block,(ad775.add ((x3_1).toNat*4)).off+2,none⟩=some (.slice A776_2 ((rd_T30 l0 x3_1).f1).length c776_2)/\w'.cell? ⟨(ad775.add ((x3_1).toNat*4)).block,(ad775.add ((x3_1).toNat*4)).off+3,none⟩=some (.slice A776_3 ((rd_T30 l0 x3_1).f2).length c776_3)) (ds:=[]) #[J,J,J,J,J,J,J,J,J,J,J,J,J,J,J,J,J,J,J,J,J,J,J] z3_17 rfl rfl ⟨((HB.out.cell (World.block_lt_of_cell? w _ hw775_0)).trans hw775_0),((HB.out.cell (World.block_lt_of_cell? w _ hw775_1)).trans hw775_1),((HB.out.cell (World.block_lt_of_cell? w _ hw775_2)).trans hw775_2),((HB.out.cell (World.block_lt_of_cell? w _ hw775_3)).trans hw775_3),((HB.out.cell (World.block_lt_of_cell? w _ hw776_0)).trans hw776_0),((HB.out.cell (World.block_lt_of_cell? w _ hw776_1)).trans hw776_1),((HB.out.cell (World.block_lt_of_cell? w _ hw776_2)).trans hw776_2),((HB.out.cell (World.block_lt_of_cell? w _ hw776_3)).trans hw776_3),((HB.out.cell (World.block_lt_of_cell? w _ hw778_0)).trans hw778_0),((HB.out.cell (World.block_lt_of_cell? w _ hw778_1)).trans hw778_1),((HB.out.cell (World.block_lt_of_cell? w _ hw778_2)).trans hw778_2),((HB.out.cell (World.block_lt_of_cell? w _ hw778_3)).trans hw778_3),((HB.out.cell (World.block_lt_of_cell? w _ hw779_0)).trans hw779_0),((HB.out.cell (World.block_lt_of_cell? w _ hw779_1)).trans hw779_1),((HB.out.cell (World.block_lt_of_cell? w _ hw779_2)).trans hw779_2),((HB.out.cell (World.block_lt_of_cell? w _ hw779_3)).trans hw779_3)⟩ (λhHeld=>?_);refine with_tabW w08_Whole.tab9 w08_Whole.bits9 (λHT_ HW_=>?_)
 generalize wr.drew=w14 at HB HR775_2 HR775_3 HR776_2 HR776_3 HR778_2 HR778_3 HR779_2 HR779_3 hx775_0 hx775_1 hx775_2 hx775_3 hx776_0 hx776_1 hx776_2 hx776_3 hx778_0 hx778_1 hx778_2 hx778_3 hx779_0 hx779_1 hx779_2 hx779_3 hHeld ⊢
 refine pure_ (i:=0) (N:=some 20) (v:=?_) (a':=?_) #[Y,J,J,J,J,J,J,J,J,J,J,J,J,J,J,J,J,J,J,J,J,J,J] rfl rfl (any_of HT_.out z3_17) (λ_ _ _ h=>h) (Or.inl ⟨(by rfl),?_⟩) ?_ ?_
 rotate_left
 ·intro w'
  go_simp
  with_reducible rfl
 rotate_left
 ·exact z3_3
 refine pure_ (i:=1) (N:=some 21) (v:=?_) (a':=?_) #[Y,Y,J,J,J,J,J,J,J,J,J,J,J,J,J,J,J,J,J,J,J,J,J] rfl rfl (any_of HT_.out z3_17) (λ_ _ _ h=>h) (Or.inl ⟨(by rfl),?_⟩) ?_ ?_
 rotate_left
 ·intro w'
  go_simp
  with_reducible rfl
 rotate_left
 ·exact z3_3
 refine pure_ (i:=2) (N:=some 22) (v:=?_) (a':=?_) #[Y,Y,Y,J,J,J,J,J,J,J,J,J,J,J,J,J,J,J,J,J,J,J,J] rfl rfl (any_of HT_.out z3_17) (λ_ _ _ h=>h) (Or.inl ⟨(by rfl),?_⟩) ?_ ?_
 rotate_left
 ·intro w'
  go_simp
  with_reducible rfl
 rotate_left
 ·exact z3_3
 refine pure_ (i:=4) (N:=some 24) (v:=?_) (a':=?_) #[Y,Y,Y,J,Y,J,J,J,J,J,J,J,J,J,J,J,J,J,J,J,J,J,J] rfl rfl (any_of HT_.out z3_17) (λ_ _ _ h=>h) (Or.inl ⟨(by rfl),?_⟩) ?_ ?_
 rotate_left
 ·intro w'
  go_simp
  with_reducible rfl
 rotate_left
 ·exact z3_3
 refine pure_ (i:=5) (N:=some 25) (v:=?_) (a':=?_) #[Y,Y,Y,J,Y,Y,J,J,J,J,J,J,J,J,J,J,J,J,J,J,J,J,J] rfl rfl (any_of HT_.out z3_17) (λ_ _ _ h=>h) (Or.inl ⟨(by rfl),?_⟩) ?_ ?_
 rotate_left
 ·intro w'
  go_simp
  with_reducible rfl
 rotate_left
 ·exact z3_3
 refine pure_ (i:=6) (N:=some 26) (v:=?_) (a':=?_) #[Y,Y,Y,J,Y,Y,Y,J,J,J,J,J,J,J,J,J,J,J,J,J,J,J,J] rfl rfl (any_of HT_.out z3_17) (λ_ _ _ h=>h) (Or.inl ⟨(by rfl),?_⟩) ?_ ?_
 rotate_left
 ·intro w'
  go_simp
  with_reducible rfl
 rotate_left
 ·exact z3_3
 refine take_ (i:=3) (N:=some 23) (v:=?_) (a':=?_) #[Y,Y,Y,Y,Y,Y,Y,J,J,J,J,J,J,J,J,J,J,J,J,J,J,J,J] rfl rfl (take_ofW HT_.out HW_.out z3_17) (λ_ _ _ h=>h) (Or.inl ⟨(by rfl),?_⟩) hHeld ?_ ?_
 rotate_left
 ·rintro w' ⟨s0,s1,s2,s3,s4,s5,s6,s7,s8,s9,s10,s11,s12,s13,s14,s15⟩
  go_simp
  with_reducible rfl
 rotate_left
 ·exact z3_3
 refine take_ (i:=7) (N:=some 27) (v:=?_) (a':=?_) #[Y,Y,Y,Y,Y,Y,Y,Y,J,J,J,J,J,J,J,J,J,J,J,J,J,J,J] rfl rfl (take_ofW HT_.out HW_.out z3_17) (λ_ _ _ h=>h) (Or.inl ⟨(by rfl),?_⟩) hHeld ?_ ?_
 rotate_left
 ·rintro w' ⟨s0,s1,s2,s3,s4,s5,s6,s7,s8,s9,s10,s11,s12,s13,s14,s15⟩
  go_simp
  with_reducible rfl
 rotate_left
 ·exact z3_3
 refine one_ (i:=8) (N:=some 28) #[Y,Y,Y,Y,Y,Y,Y,Y,Y,J,J,J,J,J,J,J,J,J,J,J,J,J,J] rfl rfl (one_of HT_.out z3_17) (by decide) (λK hK=>?_)
 refine goes_ Try.func18 z3_17 rfl #[.agg #[.int .i64 ((rd_T30 l0 x4_2).f0.f0),.int .i64 ((rd_T30 l0 x4_2).f0.f1),.slice A775_2 ((rd_T30 l0 x4_2).f1).length c775_2,.slice A775_3 ((rd_T30 l0 x4_2).f2).length c775_3],.agg #[.int .i64 ((rd_T30 l0 x3_1).f0.f0),.int .i64 ((rd_T30 l0 x3_1).f0.f1),.slice A776_2 ((rd_T30 l0 x3_1).f1).length c776_2,.slice A776_3 ((rd_T30 l0 x3_1).f2).length c776_3]] (by rfl) rfl rfl z6_5 ?_
 with_reducible refine(r05_Ahead.calls k2 ((rd_T30 l0 x4_2).f0.f0) ((rd_T30 l0 x4_2).f0.f1) _ _ ((rd_T30 l0 x4_2).f1) _ _ ((rd_T30 l0 x4_2).f2) ((rd_T30 l0 x3_1).f0.f0) ((rd_T30 l0 x3_1).f0.f1) _ _ ((rd_T30 l0 x3_1).f1) _ _ ((rd_T30 l0 x3_1).f2) true _ ?side1 ?side2 ?side3 ?side4 ?side5 ?side6 ?side7 ?side8 A10.out).mono ?_
 (case side1=>exact z37_5)
 (case side2=>exact HC775_2.out)
 (case side3=>exact z37_6)
 (case side4=>exact HC775_3.out)
 (case side5=>exact z37_7)
 (case side6=>exact HC776_2.out)
 (case side7=>exact z37_8)
 (case side8=>exact HC776_3.out)
 rintro e w15 ⟨rfl,hb⟩
 refine ⟨_,rfl,?_⟩
 have n0_:=U (below_step z9_4 hb)
 clear HB
 have HB:=n0_
 clear n0_
 (try clear hb)
 (try clear hb2)
 (try clear hk)
 (try clear hi)
 refine hK.out _ _ ⟨((HB.out.cell (World.block_lt_of_cell? w _ hw775_0)).trans hw775_0),((HB.out.cell (World.block_lt_of_cell? w _ hw775_1)).trans hw775_1),((HB.out.cell (World.block_lt_of_cell? w _ hw775_2)).trans hw775_2),((HB.out.cell (World.block_lt_of_cell? w _ hw775_3)).trans hw775_3),((HB.out.cell (World.block_lt_of_cell? w _ hw776_0)).trans hw776_0),((HB.out.cell (World.block_lt_of_cell? w _ hw776_1)).trans hw776_1),((HB.out.cell (World.block_lt_of_cell? w _ hw776_2)).trans hw776_2),((HB.out.cell (World.block_lt_of_cell? w _ hw776_3)).trans hw776_3),((HB.out.cell (World.block_lt_of_cell? w _ hw778_0)).trans hw778_0),((HB.out.cell (World.block_lt_of_cell? w _ hw778_1)).trans hw778_1),((HB.out.cell (World.block_lt_of_cell? w _ hw778_2)).trans hw778_2),((HB.out.cell (World.block_lt_of_cell? w _ hw778_3)).trans hw778_3),((HB.out.cell (World.block_lt_of_cell? w _ hw779_0)).trans hw779_0),((HB.out.cell (World.block_lt_of_cell? w _ hw779_1)).trans hw779_1),((HB.out.cell (World.block_lt_of_cell? w _ hw779_2)).trans hw779_2),((HB.out.cell (World.block_lt_of_cell? w _ hw779_3)).trans hw779_3)⟩ (λhHeld=>?_)
 clear hK K
 refine norm_ (a':=?_) ?_ ?_
 rotate_left
 ·exact z36_12
 refine pure_ (i:=9) (N:=some 29) (v:=?_) (a':=?_) #[Y,Y,Y,Y,Y,Y,Y,Y,Y,Y,J,J,J,J,J,J,J,J,J,J,J,J,J] rfl rfl (any_of HT_.out z3_17) (λ_ _ _ h=>h) (Or.inl ⟨(by rfl),?_⟩) ?_ ?_
 rotate_left
 ·intro w'
  go_simp
  with_reducible rfl
 rotate_left
 ·exact z3_3
 refine pure_ (i:=10) (N:=some 30) (v:=?_) (a':=?_) #[Y,Y,Y,Y,Y,Y,Y,Y,Y,Y,Y,J,J,J,J,J,J,J,J,J,J,J,J] rfl rfl (any_of HT_.out z3_17) (λ_ _ _ h=>h) (Or.inl ⟨(by rfl),?_⟩) ?_ ?_
 rotate_left
 ·intro w'
  go_simp
  with_reducible rfl
 rotate_left
 ·exact z3_3
 refine pure_ (i:=11) (N:=some 31) (v:=?_) (a':=?_) #[Y,Y,Y,Y,Y,Y,Y,Y,Y,Y,Y,Y,J,J,J,J,J,J,J,J,J,J,J] rfl rfl (any_of HT_.out z3_17) (λ_ _ _ h=>h) (Or.inl ⟨(by rfl),?_⟩) ?_ ?_
 rotate_left
 ·intro w'
  go_simp
  with_reducible rfl
 rotate_left
 ·exact z3_3
 refine pure_ (i:=12) (N:=some 32) (v:=?_) (a':=?_) #[Y,Y,Y,Y,Y,Y,Y,Y,Y,Y,Y,Y,Y,J,J,J,J,J,J,J,J,J,J] rfl rfl (any_of HT_.out z3_17) (λ_ _ _ h=>h) (Or.inl ⟨(by rfl),?_⟩) ?_ ?_
 rotate_left
 ·intro w'
  go_simp
  with_reducible rfl
 rotate_left
 ·exact z3_3
 refine pure_ (i:=13) (N:=some 33) (v:=?_) (a':=?_) #[Y,Y,Y,Y,Y,Y,Y,Y,Y,Y,Y,Y,Y,Y,J,J,J,J,J,J,J,J,J] rfl rfl (any_of HT_.out z3_17) (λ_ _ _ h=>h) (Or.inl ⟨(by rfl),?_⟩) ?_ ?_
 rotate_left
 ·intro w'
  go_simp
  with_reducible rfl
 rotate_left
 ·exact z3_3
 refine pure_ (i:=15) (N:=some 35) (v:=?_) (a':=?_) #[Y,Y,Y,Y,Y,Y,Y,Y,Y,Y,Y,Y,Y,Y,J,Y,J,J,J,J,J,J,J] rfl rfl (any_of HT_.out z3_17) (λ_ _ _ h=>h) (Or.inl ⟨(by rfl),?_⟩) ?_ ?_
 rotate_left
 ·intro w'
  go_simp
  with_reducible rfl
 rotate_left
 ·exact z3_3
 refine pure_ (i:=16) (N:=some 36) (v:=?_) (a':=?_) #[Y,Y,Y,Y,Y,Y,Y,Y,Y,Y,Y,Y,Y,Y,J,Y,Y,J,J,J,J,J,J] rfl rfl (any_of HT_.out z3_17) (λ_ _ _ h=>h) (Or.inl ⟨(by rfl),?_⟩) ?_ ?_
 rotate_left
 ·intro w'
  go_simp
  with_reducible rfl
 rotate_left
 ·exact z3_3
 refine pure_ (i:=17) (N:=some 37) (v:=?_) (a':=?_) #[Y,Y,Y,Y,Y,Y,Y,Y,Y,Y,Y,Y,Y,Y,J,Y,Y,Y,J,J,J,J,J] rfl rfl (any_of HT_.out z3_17) (λ_ _ _ h=>h) (Or.inl ⟨(by rfl),?_⟩) ?_ ?_
 rotate_left
 ·intro w'
  go_simp
  with_reducible rfl
 rotate_left
 ·exact z3_3
 refine pure_ (i:=18) (N:=some 38) (v:=?_) (a':=?_) #[Y,Y,Y,Y,Y,Y,Y,Y,Y,Y,Y,Y,Y,Y,J,Y,Y,Y,Y,J,J,J,J] rfl rfl (any_of HT_.out z3_17) (λ_ _ _ h=>h) (Or.inl ⟨(by rfl),?_⟩) ?_ ?_
 rotate_left
 ·intro w'
  go_simp
  with_reducible rfl
 rotate_left
 ·exact z3_3
 refine take_ (i:=14) (N:=some 34) (v:=?_) (a':=?_) #[Y,Y,Y,Y,Y,Y,Y,Y,Y,Y,Y,Y,Y,Y,Y,Y,Y,Y,Y,J,J,J,J] rfl rfl (take_ofW HT_.out HW_.out z3_17) (λ_ _ _ h=>h) (Or.inl ⟨(by rfl),?_⟩) hHeld ?_ ?_
 rotate_left
 ·rintro w' ⟨s0,s1,s2,s3,s4,s5,s6,s7,s8,s9,s10,s11,s12,s13,s14,s15⟩
  go_simp
  with_reducible rfl
 rotate_left
 ·exact z3_3
 refine take_ (i:=19) (N:=some 39) (v:=?_) (a':=?_) #[Y,Y,Y,Y,Y,Y,Y,Y,Y,Y,Y,Y,Y,Y,Y,Y,Y,Y,Y,Y,J,J,J] rfl rfl (take_ofW HT_.out HW_.out z3_17) (λ_ _ _ h=>h) (Or.inl ⟨(by rfl),?_⟩) hHeld ?_ ?_
 rotate_left
 ·rintro w' ⟨s0,s1,s2,s3,s4,s5,s6,s7,s8,s9,s10,s11,s12,s13,s14,s15⟩
  go_simp
  with_reducible rfl
 rotate_left
 ·exact z3_3
 refine one_ (i:=20) (N:=some 40) #[Y,Y,Y,Y,Y,Y,Y,Y,Y,Y,Y,Y,Y,Y,Y,Y,Y,Y,Y,Y,Y,J,J] rfl rfl (one_of HT_.out z3_17) (by decide) (λK hK=>?_)
 refine goes_ Try.func19 z3_17 rfl #[.slice A775_2 ((rd_T30 l0 x4_2).f1).length c775_2,.slice A776_2 ((rd_T30 l0 x3_1).f1).length c776_2] (by rfl) rfl rfl z6_5 ?_
 with_reducible refine(r03_Within.calls k2 _ _ ((rd_T30 l0 x4_2).f1) _ _ ((rd_T30 l0 x3_1).f1) true _ ?side1 ?side2 ?side3 ?side4 A12.out).mono ?_
 (case side1=>exact z37_11)
 (case side2=>exact HC778_2.out)
 (case side3=>exact z37_12)
 (case side4=>exact HC779_2.out)
 rintro e w' ⟨rfl,⟨nd,rfl⟩⟩
 refine ⟨_,rfl,?_⟩
 refine hK.out _ _ ⟨((HB.out.cell (World.block_lt_of_cell? w _ hw775_0)).trans hw775_0),((HB.out.cell (World.block_lt_of_cell? w _ hw775_1)).trans hw775_1),((HB.out.cell (World.block_lt_of_cell? w _ hw775_2)).trans hw775_2),((HB.out.cell (World.block_lt_of_cell? w _ hw775_3)).trans hw775_3),((HB.out.cell (World.block_lt_of_cell? w _ hw776_0)).trans hw776_0),((HB.out.cell (World.block_lt_of_cell? w _ hw776_1)).trans hw776_1),((HB.out.cell (World.block_lt_of_cell? w _ hw776_2)).trans hw776_2),((HB.out.cell (World.block_lt_of_cell? w _ hw776_3)).trans hw776_3),((HB.out.cell (World.block_lt_of_cell? w _ hw778_0)).trans hw778_0),((HB.out.cell (World.block_lt_of_cell? w _ hw778_1)).trans hw778_1),((HB.out.cell (World.block_lt_of_cell? w _ hw778_2)).trans hw778_2),((HB.out.cell (World.block_lt_of_cell? w _ hw778_3)).trans hw778_3),((HB.out.cell (World.block_lt_of_cell? w _ hw779_0)).trans hw779_0),((HB.out.cell (World.block_lt_of_cell? w _ hw779_1)).trans hw779_1),((HB.out.cell (World.block_lt_of_cell? w _ hw779_2)).trans hw779_2),((HB.out.cell (World.block_lt_of_cell? w _ hw779_3)).trans hw779_3)⟩ (λhHeld=>?_)
 clear hK K
 refine norm_ (a':=?_) ?_ ?_
 rotate_left
 ·exact z37_15
 refine pure_ (i:=21) (N:=some 41) (v:=?_) (a':=?_) #[Y,Y,Y,Y,Y,Y,Y,Y,Y,Y,Y,Y,Y,Y,Y,Y,Y,Y,Y,Y,Y,Y,J] rfl rfl (any_of HT_.out z3_17) (λ_ _ _ h=>h) (Or.inl ⟨(by rfl),?_⟩) ?_ ?_
 rotate_left
 ·intro w'
  go_simp
  with_reducible rfl
 rotate_left
 ·exact z3_3
 refine pure_ (i:=22) (N:=some 42) (v:=?_) (a':=?_) #[Y,Y,Y,Y,Y,Y,Y,Y,Y,Y,Y,Y,Y,Y,Y,Y,Y,Y,Y,Y,Y,Y,Y] rfl rfl (any_of HT_.out z3_17) (λ_ _ _ h=>h) (Or.inl ⟨(by rfl),?_⟩) ?_ ?_
 rotate_left
 ·intro w'
  go_simp
  with_reducible rfl
 rotate_left
 ·exact z3_3
 refine done_ (done_of HT_.out z3_17) ?_
 try go_wp2
 go_roundg k2
 case measure=>have:=HK1.out;have:=HK2.out;omega
 case rel=>exact ⟨(wrap64 (x4_2+1)),z9_3,H',⟨(by have:=HK1.out;have:=HK2.out;omega)⟩,⟨z9_4⟩⟩
end Go.Proofs.Ytgocnchjpecafaa.PEv

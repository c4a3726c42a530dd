/- a part -/
import Derived.Test.YtjpjdipdhakjnaaPStabx0
namespace Go.Proofs.Ytjpjdipdhakjnaa.PStab
open Go.RowKit Go.Proofs.YtjpjdipdhakjnaaW.PrintWords Go.Proofs.YtjpjdipdhakjnaaW.PrintLast Go.Proofs.YtjpjdipdhakjnaaW.PrintMore
attribute [local go_sem] max2_int min2_int max_two min_two max_three min_three max_four min_four
set_option linter.unusedVariables false
set_option linter.unusedSimpArgs false
set_option maxHeartbeats 8000000
set_option maxRecDepth 100000
theorem z1_0 {P:Prop} (h:P:=by first|(with_reducible assumption)|assumption):P:=h
theorem z1_1 {P:Prop} (h:P:=by repeat(first|(with_reducible first|exact HB.out|apply below_alloc|apply pw_below_drewN|apply below_drew1)|exact HB.out)):P:=h
theorem z1_2 {P:Prop} (h:P:=by repeat(first|exact Drawn0.refl _|apply Drawn0.step)):P:=h
theorem z1_3 {P:Prop} (h:P:=by first|rfl|(simp;done)|(simp [*];done)):P:=h
theorem z1_4 {P:Prop} (h:P:=by first|rfl|(simp [errW_none,errW_some]<;>rfl)|(simp [*,errW_none,errW_some]<;>rfl)):P:=h
theorem z1_5 {P:Prop} (h:P:=by first|exact Kd.S_nil _ _ _ _ _|exact Kd.N_nil _ _ _ _ _|exact Kd.V_nil _ _ _ _ _|exact Kd.Q_nil _ _ _ _ _|exact Kd.R_nil _ _ _ _ _):P:=h
def r03_Same.l0:Nat->List Int->List Int->Int->Option (Bool)
 | 0,_,_,_=>none
 | k+1,x0,x1,x5=>if x5<(x0.length:Int) then(if 0<=x5 then(if x5<(x1.length:Int) then(if (rd x0 x5)=(rd x1 x5) then(r03_Same.l0 k x0 x1 (wrap64 (x5+1))) else(some false)) else(none)) else(none)) else(some true)
def r03_Same.f (k:Nat) (l0:List Int) (l1:List Int):Option (Bool):=if (l0.length:Int)=(l1.length:Int) then(r03_Same.l0 k l0 l1 0) else(some false)
theorem r03_Same.calls (k:Nat) (A0:Option Addr) (c0:Nat) (l0:List Int) (A1:Option Addr) (c1:Nat) (l1:List Int) (r:Bool) (w:World) (hr0:Kd.C (Kd.int .i64) w A0 l0.length l0) (hc0:l0.length<=c0) (hr1:Kd.C (Kd.int .i64) w A1 l1.length l1) (hc1:l1.length<=c1) (h:r03_Same.f k l0 l1=some r) :
  Calls Try.prog 16 #[.slice A0 l0.length c0,.slice A1 l1.length c1] w λe w'=>e = .returned (.bool r)/\Drawn0 w w':=by
 have HR0:=Aside0.mk hr0
 have HC0:=Aside0.mk hc0
 clear hr0 hc0
 have HR1:=Aside0.mk hr1
 have HC1:=Aside0.mk hc1
 clear hr1 hc1
 have H:(if (l0.length:Int)=(l1.length:Int) then(r03_Same.l0 k l0 l1 0) else(some false))=some r:=h
 clear h
 by_cases c3:(l0.length:Int)=(l1.length:Int)
 rotate_left
 ·rw [if_neg c3] at H
  have c3b0:((l0.length:Int) == (l1.length:Int))=false:=beq_eq_false_iff_ne.mpr c3
  have c3b1:((l0.length:Int) != (l1.length:Int))=true:=bne_iff_ne.mpr c3
  have c3b2:(l0.length == l1.length)=false:=by first|simpa using c3|(simp at c3 ⊢;omega)
  obtain rfl:=sI_ H
  go_enter Try.func16,Try.ntmps16
  go_wp2
  repeat(go_quiet (fail);try go_wp2)
  go_ret
  exact ⟨z1_3,z1_2⟩
 rw [if_pos c3] at H
 have c3b0:((l0.length:Int) == (l1.length:Int))=true:=beq_iff_eq.mpr c3
 have c3b1:((l0.length:Int) != (l1.length:Int))=false:=bne_eq_false_iff_eq.mpr c3
 have c3b2:(l0.length == l1.length)=true:=by first|simpa using c3|(simp at c3 ⊢;omega)
 clear c3
 have H':=Aside0.mk H
 clear H
 go_enter Try.func16,Try.ntmps16
 go_wp2
 repeat(go_quiet (fail);try go_wp2)
 go_loopg [5] k (λkq v5 w'=>∃ (x5_1:Int),v5 = .int .i64 x5_1/\Aside0 (r03_Same.l0 kq l0 l1 x5_1=some r)/\Aside0 (kq<=k)/\Drawn0 w w')
 case atStart=>exact ⟨(0),z1_3,H',⟨Nat.le_refl _⟩,z1_2⟩
 case round =>
 clear H'
 try clear c1
 try clear p2
 try clear c3
 try clear c3b0
 try clear c3b1
 try clear c3b2
 obtain ⟨x5_1,rfl,HA,HK1,⟨m1,rfl⟩⟩:=hrel
 cases gk with
 | zero=>exact absurd HA.out (by simp [r03_Same.l0])
 | succ k1 =>
 have H:=HA.out
 clear HA
 simp only [r03_Same.l0] at H
 by_cases c4:x5_1<(l0.length:Int)
 rotate_left
 ·rw [if_neg c4] at H
  have c4b0:decide (x5_1<(l0.length:Int))=false:=dF_ c4
  clear c4
  obtain rfl:=sI_ H
  go_wp2
  repeat(go_quiet (fail);try go_wp2)
  go_ret
  exact ⟨z1_3,z1_2⟩
 rw [if_pos c4] at H
 have c4b0:decide (x5_1<(l0.length:Int))=true:=dT_ c4
 clear c4
 by_cases c5:0<=x5_1
 rotate_left
 ·rw [if_neg c5] at H
  exact absurd H (by simp)
 rw [if_pos c5] at H
 have c5b0:decide (0<=x5_1)=true:=dT_ c5
 clear c5
 by_cases c6:x5_1<(l1.length:Int)
 rotate_left
 ·rw [if_neg c6] at H
  exact absurd H (by simp)
 rw [if_pos c6] at H
 have c6b0:decide (x5_1<(l1.length:Int))=true:=dT_ c6
 clear c6
 by_cases c7:(rd l0 x5_1)=(rd l1 x5_1)
 rotate_left
 ·rw [if_neg c7] at H
  have c7b0:((rd l0 x5_1) == (rd l1 x5_1))=false:=beq_eq_false_iff_ne.mpr c7
  have c7b1:((rd l0 x5_1) != (rd l1 x5_1))=true:=bne_iff_ne.mpr c7
  obtain rfl:=sI_ H
  have p101:0<=(x5_1:Int):=oD_ z1_0
  have q101:x5_1<(l0.length:Int):=oD_ z1_0
  obtain ⟨ad101,e101,hx101_0⟩:=Kd.at_int HR0.out x5_1 p101 q101
  cases e101
  replace p101:=eq_true p101
  replace q101:=eq_true q101
  have p102:0<=(x5_1:Int):=oD_ z1_0
  have q102:x5_1<(l1.length:Int):=oD_ z1_0
  obtain ⟨ad102,e102,hx102_0⟩:=Kd.at_int HR1.out x5_1 p102 q102
  cases e102
  replace p102:=eq_true p102
  replace q102:=eq_true q102
  go_wp2
  repeat(go_quiet (fail);try go_wp2)
  go_ret
  exact ⟨z1_3,z1_2⟩
 rw [if_pos c7] at H
 have c7b0:((rd l0 x5_1) == (rd l1 x5_1))=true:=beq_iff_eq.mpr c7
 have c7b1:((rd l0 x5_1) != (rd l1 x5_1))=false:=bne_eq_false_iff_eq.mpr c7
 clear c7
 have H':=Aside0.mk H
 clear H
 have p101:0<=(x5_1:Int):=oD_ z1_0
 have q101:x5_1<(l0.length:Int):=oD_ z1_0
 obtain ⟨ad101,e101,hx101_0⟩:=Kd.at_int HR0.out x5_1 p101 q101
 cases e101
 replace p101:=eq_true p101
 replace q101:=eq_true q101
 have p102:0<=(x5_1:Int):=oD_ z1_0
 have q102:x5_1<(l1.length:Int):=oD_ z1_0
 obtain ⟨ad102,e102,hx102_0⟩:=Kd.at_int HR1.out x5_1 p102 q102
 cases e102
 replace p102:=eq_true p102
 replace q102:=eq_true q102
 go_wp2
 repeat(go_quiet (fail);try go_wp2)
 go_roundg k1
 case measure=>have:=HK1.out;omega
 case rel=>exact ⟨(wrap64 (x5_1+1)),z1_3,H',⟨(by have:=HK1.out;omega)⟩,z1_2⟩
def r03_May.l0:Nat->List Int->Int->Option (Bool)
 | 0,_,_=>none
 | k+1,x0,x3=>if x3<(x0.length:Int) then(if 0<=x3 then(if (rd x0 x3)<0 then(some false) else(if (rd x0 x3) > 1048576 then(some false) else(r03_May.l0 k x0 (wrap64 (x3+1))))) else(none)) else(some (decide ((x0.length:Int)<=5)))
def r03_May.f (k:Nat) (l0:List Int):Option (Bool):=r03_May.l0 k l0 0
theorem r03_May.calls (k:Nat) (A0:Option Addr) (c0:Nat) (l0:List Int) (r:Bool) (w:World) (hr0:Kd.C (Kd.int .i64) w A0 l0.length l0) (hc0:l0.length<=c0) (h:r03_May.f k l0=some r) :
  Calls Try.prog 27 #[.slice A0 l0.length c0] w λe w'=>e = .returned (.bool r)/\Drawn0 w w':=by
 have HR0:=Aside0.mk hr0
 have HC0:=Aside0.mk hc0
 clear hr0 hc0
 have H:(r03_May.l0 k l0 0)=some r:=h
 clear h
 have H':=Aside0.mk H
 clear H
 go_enter Try.func27,Try.ntmps27
 go_wp2
 go_loopg [3] k (λkq v3 w'=>∃ (x3_1:Int),v3 = .int .i64 x3_1/\Aside0 (r03_May.l0 kq l0 x3_1=some r)/\Aside0 (kq<=k)/\Drawn0 w w')
 case atStart=>exact ⟨(0),z1_3,H',⟨Nat.le_refl _⟩,z1_2⟩
 case round =>
 clear H'
 obtain ⟨x3_1,rfl,HA,HK1,⟨m1,rfl⟩⟩:=hrel
 cases gk with
 | zero=>exact absurd HA.out (by simp [r03_May.l0])
 | succ k1 =>
 have H:=HA.out
 clear HA
 simp only [r03_May.l0] at H
 by_cases c2:x3_1<(l0.length:Int)
 rotate_left
 ·rw [if_neg c2] at H
  have c2b0:decide (x3_1<(l0.length:Int))=false:=dF_ c2
  clear c2
  obtain rfl:=sI_ H
  go_wp2
  go_ret
  exact ⟨z1_3,z1_2⟩
 rw [if_pos c2] at H
 have c2b0:decide (x3_1<(l0.length:Int))=true:=dT_ c2
 clear c2
 by_cases c3:0<=x3_1
 rotate_left
 ·rw [if_neg c3] at H
  exact absurd H (by simp)
 rw [if_pos c3] at H
 have c3b0:decide (0<=x3_1)=true:=dT_ c3
 clear c3
 by_cases c4:(rd l0 x3_1)<0
 ·rw [if_pos c4] at H
  have c4b0:decide ((rd l0 x3_1)<0)=true:=dT_ c4
  clear c4
  obtain rfl:=sI_ H
  have p103:0<=(x3_1:Int):=oD_ z1_0
  have q103:x3_1<(l0.length:Int):=oD_ z1_0
  obtain ⟨ad103,e103,hx103_0⟩:=Kd.at_int HR0.out x3_1 p103 q103
  cases e103
  replace p103:=eq_true p103
  replace q103:=eq_true q103
  go_wp2
  go_ret
  exact ⟨z1_3,z1_2⟩
 rw [if_neg c4] at H
 have c4b0:decide ((rd l0 x3_1)<0)=false:=dF_ c4
 clear c4
 by_cases c5:(rd l0 x3_1) > 1048576
 ·rw [if_pos c5] at H
  have c5b0:decide (1048576<(rd l0 x3_1))=true:=dT_ c5
  clear c5
  obtain rfl:=sI_ H
  have p103:0<=(x3_1:Int):=oD_ z1_0
  have q103:x3_1<(l0.length:Int):=oD_ z1_0
  obtain ⟨ad103,e103,hx103_0⟩:=Kd.at_int HR0.out x3_1 p103 q103
  cases e103
  replace p103:=eq_true p103
  replace q103:=eq_true q103
  have p104:0<=(x3_1:Int):=oD_ z1_0
  have q104:x3_1<(l0.length:Int):=oD_ z1_0
  obtain ⟨ad104,e104,hx104_0⟩:=Kd.at_int HR0.out x3_1 p104 q104
  obtain rfl:ad103=ad104:=(by injection e104)
  replace p104:=eq_true p104
  replace q104:=eq_true q104
  go_wp2
  go_ret
  exact ⟨z1_3,z1_2⟩
 rw [if_neg c5] at H
 have c5b0:decide (1048576<(rd l0 x3_1))=false:=dF_ c5
 clear c5
 have H':=Aside0.mk H
 clear H
 have p103:0<=(x3_1:Int):=oD_ z1_0
 have q103:x3_1<(l0.length:Int):=oD_ z1_0
 obtain ⟨ad103,e103,hx103_0⟩:=Kd.at_int HR0.out x3_1 p103 q103
 cases e103
 replace p103:=eq_true p103
 replace q103:=eq_true q103
 have p104:0<=(x3_1:Int):=oD_ z1_0
 have q104:x3_1<(l0.length:Int):=oD_ z1_0
 obtain ⟨ad104,e104,hx104_0⟩:=Kd.at_int HR0.out x3_1 p104 q104
 obtain rfl:ad103=ad104:=(by injection e104)
 replace p104:=eq_true p104
 replace q104:=eq_true q104
 go_wp2
 go_roundg k1
 case measure=>have:=HK1.out;omega
 case rel=>exact ⟨(wrap64 (x3_1+1)),z1_3,H',⟨(by have:=HK1.out;omega)⟩,z1_2⟩
def stable_New.f (a0:Int):Option ((List (List Int))×Int):=if a0<1 then(some (([]:List (List Int)),1)) else(if a0 > 5 then(some (([]:List (List Int)),1)) else(if 0<=a0 then(if (a0:Int).toNat<=11728124029610 then(some ((List.replicate (a0:Int).toNat []),0)) else(none)) else(none)))
theorem stable_New.calls (a0:Int) (r1:List (List Int)) (r2:Int) (w:World) (h:stable_New.f a0=some (r1,r2)) :
  Calls Try.prog 35 #[.int .i64 a0] w λe w'=>∃ v0_:Value,e = .returned (.tuple #[v0_,.int .i64 r2])/\Kd.S (Kd.slice 3 (Kd.int .i64)) 23 w' w.heap.size (λ_=>True) v0_ r1/\Below w.heap.size w w':=by
 have HB:=U (Below.refl w.heap.size w)
 have H:(if a0<1 then(some (([]:List (List Int)),1)) else(if a0 > 5 then(some (([]:List (List Int)),1)) else(if 0<=a0 then(if (a0:Int).toNat<=11728124029610 then(some ((List.replicate (a0:Int).toNat []),0)) else(none)) else(none))))=some (r1,r2):=h
 clear h
 by_cases c2:a0<1
 ·rw [if_pos c2] at H
  have c2b0:decide (a0<1)=true:=dT_ c2
  clear c2
  simp only [Option.some.injEq,Prod.mk.injEq] at H
  obtain ⟨rfl,rfl⟩:=H
  go_enter Try.func35,Try.ntmps35
  go_wp2
  go_ret2
  exact ⟨_,z1_4,z1_5,z1_1⟩
 rw [if_neg c2] at H
 have c2b0:decide (a0<1)=false:=dF_ c2
 clear c2
 by_cases c3:a0 > 5
 ·rw [if_pos c3] at H
  have c3b0:decide (5<a0)=true:=dT_ c3
  clear c3
  simp only [Option.some.injEq,Prod.mk.injEq] at H
  obtain ⟨rfl,rfl⟩:=H
  go_enter Try.func35,Try.ntmps35
  go_wp2
  go_ret2
  exact ⟨_,z1_4,z1_5,z1_1⟩
 rw [if_neg c3] at H
 have c3b0:decide (5<a0)=false:=dF_ c3
 clear c3
 by_cases c4:0<=a0
 rotate_left
 ·rw [if_neg c4] at H
  exact absurd H (by simp)
 rw [if_pos c4] at H
 have c4b0:=eq_true c4
 have c4b1:decide (0<=a0)=true:=dT_ c4
 clear c4
 by_cases c5:(a0:Int).toNat<=11728124029610
 rotate_left
 ·rw [if_neg c5] at H
  exact absurd H (by simp)
 rw [if_pos c5] at H
 have c5b0:=eq_true c5
 have c5b1:decide ((a0:Int).toNat<=11728124029610)=true:=dT_ c5
 clear c5
 obtain ⟨y106,hy106⟩:∃ y_:List (List Int),y_=(List.replicate (a0:Int).toNat []):=⟨_,rfl⟩
 replace H:(some (y106,0))=some (r1,r2):=by first|(rw [hy106];with_reducible exact H)|(have H2_:=(Option.bind_some _ _).symm.trans H;rw [hy106];with_reducible exact H2_)|(have H2_:=(Option.bind_some _ _).symm.trans H;with_reducible exact H2_)|with_reducible exact H|(rw [hy106];exact H)|exact H
 have Ny106:=Aside0.mk hy106
 clear hy106
 simp only [Option.some.injEq,Prod.mk.injEq] at H
 obtain ⟨rfl,rfl⟩:=H
 go_enter Try.func35,Try.ntmps35
 go_wp2_with (first|((with_reducible refine gate_dst (N:=11) rfl ?_);refine Kd.S_make (Kd.slice 3 (Kd.int .i64)) _ 23 rfl (N:=11) rfl 41 _ _ rfl a0 rfl rfl Try.underlying41 (.slice none 0 0) 24 info23 rfl (by decide) (by omega) [] (ok:=λ_=>True) (okp:=λ_=>True) ⟨_,rfl,Kd.R_nil _ _ _ _ _⟩ (λ_ hk=>hk) trivial (oD_ z1_0) (Nat.le_trans (Nat.mul_le_mul_right _ (oD_ z1_0:a0.toNat<=11728124029610)) (by omega)) (Below.refl _ _) (Nat.le_refl _) ?_;intro v107 w6 ho7 hb hg_ hnew_;clear hg_ hnew_;(first|rw [<-Ny106.out] at ho7|(simp only [Int.reduceToNat] at ho7;rw [<-Ny106.out] at ho7));have HO108:=U (Kd.S_lower ho7 (below_size z1_1));replace HB:=U (below_step z1_1 hb);clear hb ho7))
 go_ret2
 exact ⟨_,z1_4,(by(with_reducible repeat(first|apply Kd.S_alloc|apply Kd.S_drewN|apply Kd.S_drew));exact HO108.out),z1_1⟩
def clock_Check.f (l0:List Int):Option (Int):=some (if ClockBase.okC l0=true then 0 else 1)
theorem clock_Check.calls (A0:Option Addr) (c0:Nat) (l0:List Int) (r:Int) (w:World) (hr0:Kd.C (Kd.int .i64) w A0 l0.length l0) (hc0:l0.length<=c0) (h:clock_Check.f l0=some r) :
  Calls Try.prog 26 #[.slice A0 l0.length c0] w λe w'=>e = .returned (.int .i64 r)/\Drawn0 w w':=by
 obtain rfl:=sI_ h
 exact(ClockBase.check_calls A0 c0 l0 w hr0).mono λe w' hh=>⟨hh.1,⟨hh.2⟩⟩
def clock_Join.f (l0:List (List Int)):Option (List Int):=some (ClockBase.trim (ClockBase.joinS l0))
theorem clock_Join.calls (A0:Option Addr) (c0:Nat) (l0:List (List Int)) (r:List Int) (w:World) (hr0:Kd.C (Kd.slice 3 (Kd.int .i64)) w A0 l0.length l0) (hc0:l0.length<=c0) (h:clock_Join.f l0=some r) :
  Calls Try.prog 13 #[.slice A0 l0.length c0] w λe w'=>∃ v0_:Value,e = .returned (v0_)/\Kd.R (Kd.int .i64) 3 w' w.heap.size (λ_=>True) v0_ r/\Below w.heap.size w w':=by
 obtain rfl:=sI_ h
 exact ClockBase.Join_calls A0 c0 _ l0 w hr0
def clock_Plain.f (l0:List Int):Option (List Int):=some (ClockBase.trim (ClockBase.ofL l0))
theorem clock_Plain.calls (A0:Option Addr) (c0:Nat) (l0:List Int) (r:List Int) (w:World) (hr0:Kd.C (Kd.int .i64) w A0 l0.length l0) (hc0:l0.length<=c0) (h:clock_Plain.f l0=some r) :
  Calls Try.prog 22 #[.slice A0 l0.length c0] w λe w'=>∃ v0_:Value,e = .returned (v0_)/\Kd.R (Kd.int .i64) 3 w' w.heap.size (λ_=>True) v0_ r/\Below w.heap.size w w':=by
 obtain rfl:=sI_ h
 exact ClockBase.Plain_calls A0 c0 l0 w hr0
def clock_Get.f (l0:List Int) (a1:Int):Option (Int):=some (ClockBase.getS l0 a1)
theorem clock_Get.calls (A0:Option Addr) (c0:Nat) (l0:List Int) (a1:Int) (r:Int) (w:World) (hr0:Kd.C (Kd.int .i64) w A0 l0.length l0) (hc0:l0.length<=c0) (h:clock_Get.f l0 a1=some r) :
  Calls Try.prog 29 #[.slice A0 l0.length c0,.int .i64 a1] w λe w'=>e = .returned (.int .i64 r)/\Below w.heap.size w w':=by
 obtain rfl:=sI_ h
 exact ClockBase.Get_calls A0 c0 l0 a1 w hr0
def stable_may.f (l0:List (List Int)) (l1:List Int):Option (Bool):=some (ClockBase.mayS l0 l1)
theorem stable_may.calls (A0:Option Addr) (c0:Nat) (l0:List (List Int)) (A1:Option Addr) (c1:Nat) (l1:List Int) (r:Bool) (w:World) (hr0:Kd.C (Kd.slice 3 (Kd.int .i64)) w A0 l0.length l0) (hc0:l0.length<=c0) (hr1:Kd.C (Kd.int .i64) w A1 l1.length l1) (hc1:l1.length<=c1) (h:stable_may.f l0 l1=some r) :
  Calls Try.prog 52 #[.slice A0 l0.length c0,.slice A1 l1.length c1] w λe w'=>e = .returned (.bool r)/\Drawn0 w w':=by
 obtain rfl:=sI_ h
 exact(ClockBase.may_calls A0 A1 c0 c1 _ l0 l1 w hr0 hr1).mono λe w' hh=>⟨hh.1,⟨hh.2⟩⟩
end Go.Proofs.Ytjpjdipdhakjnaa.PStab

import Derived.Test.YtgocnchjpecafaaPEvx19
import Derived.Test.YtgocnchjpecafaaPEvx27
import Derived.Test.YtgocnchjpecafaaPEvx29
import Derived.Test.YtgocnchjpecafaaPEvx25
import Derived.Test.YtgocnchjpecafaaPEvx11
/- a part -/
namespace Go.Proofs.Ytgocnchjpecafaa.PEv
open Go.RowKit Go.Proofs.YtgocnchjpecafaaW.PrintWords Go.Proofs.YtgocnchjpecafaaW.PrintLast Go.Proofs.YtgocnchjpecafaaW.PrintMore
attribute [local go_sem] max2_int min2_int max_two min_two max_three min_three max_four min_four
set_option linter.unusedVariables false
set_option linter.unusedSimpArgs false
end Go.Proofs.Ytgocnchjpecafaa.PEv
/- a part -/
namespace Go.Proofs.Ytgocnchjpecafaa.PEv
open Go.RowKit Go.Proofs.YtgocnchjpecafaaW.PrintWords Go.Proofs.YtgocnchjpecafaaW.PrintLast Go.Proofs.YtgocnchjpecafaaW.PrintMore
attribute [local go_sem] max2_int min2_int max_two min_two max_three min_three max_four min_four
set_option linter.unusedVariables false
set_option linter.unusedSimpArgs false
set_option maxHeartbeats 8000000
set_option maxRecDepth 100000
def r03_Sum.l0:Nat->List Int->Int->Int->Option (Int)
 | 0,_,_,_=>none
 | k+1,x0,x3,x4=>if x4<=5 then((r03_Get.f k x0 x4).bind λt703=>(r03_Sum.l0 k x0 (wrap64 (x3+t703)) (wrap64 (x4+1)))) else(some x3)
def r03_Sum.f (k:Nat) (l0:List Int):Option (Int):=r03_Sum.l0 k l0 0 1
theorem r03_Sum.calls (k:Nat) (A0:Option Addr) (c0:Nat) (l0:List Int) (r:Int) (w:World) (hr0:Kd.C (Kd.int .i64) w A0 l0.length l0) (hc0:l0.length<=c0) (h:r03_Sum.f k l0=some r) :
  Calls Try.prog 82 #[.slice A0 l0.length c0] w λe w'=>e = .returned (.int .i64 r)/\Drawn0 w w':=by
 have HR0:=Aside0.mk hr0
 have HC0:=Aside0.mk hc0
 clear hr0 hc0
 have H:(r03_Sum.l0 k l0 0 1)=some r:=h
 clear h
 have H':=Aside0.mk H
 clear H
 go_enter Try.func82,Try.ntmps82
 go_wp2
 go_loopg [3,4] k (λkq v3 v4 w'=>∃ (x3_1:Int) (x4_1:Int),v3 = .int .i64 x3_1/\v4 = .int .i64 x4_1/\Aside0 (r03_Sum.l0 kq l0 x3_1 x4_1=some r)/\Aside0 (kq<=k)/\Drawn0 w w')
 case atStart=>exact ⟨(0),(1),z20_3,z20_3,H',⟨Nat.le_refl _⟩,(by repeat(first|exact Drawn0.refl _|apply Drawn0.step))⟩
 case round =>
 clear H'
 obtain ⟨x3_1,x4_1,rfl,rfl,HA,HK1,⟨m1,rfl⟩⟩:=hrel
 cases gk with
 | zero=>exact absurd HA.out (by simp [r03_Sum.l0])
 | succ k1 =>
 have H:=HA.out
 clear HA
 simp only [r03_Sum.l0] at H
 by_cases c2:x4_1<=5
 rotate_left
 ·rw [if_neg c2] at H
  have c2b0:decide (x4_1<=5)=false:=dF_ c2
  clear c2
  obtain rfl:=sI_ H
  go_wp2
  go_ret
  exact ⟨z20_3,(by repeat(first|exact Drawn0.refl _|apply Drawn0.step))⟩
 rw [if_pos c2] at H
 have c2b0:decide (x4_1<=5)=true:=dT_ c2
 clear c2
 replace H:=oB_ H
 obtain ⟨t703,A30,H⟩:=H
 replace H:(r03_Sum.l0 k1 l0 (wrap64 (x3_1+t703)) (wrap64 (x4_1+1)))=some r:=H
 have A3:=Aside0.mk A30
 clear A30
 have H':=Aside0.mk H
 clear H
 go_wp2_with (first|((with_reducible refine gate_callee (f:=58) rfl ?_);refine goesL_ (some 12) rfl rfl Try.func58 (by kernel_rfl) rfl #[.slice A0 l0.length c0,.int .i64 x4_1] rfl (by(try simp only [List.map_toArray,List.map_cons,List.map_nil]);first|done|rfl|(simp only [List.length_drop,List.length_take];rfl)) ?_;(with_reducible refine(r03_Get.calls k1 _ _ l0 x4_1 t703 _ ?side1 ?side2 A3.out).mono ?_);(case side1=>repeat(first|exact HR0.out|(with_reducible refine Kd.C_alloc ?_ _)|(with_reducible refine Kd.C_drewN ?_ _)|(with_reducible refine Kd.C_drew ?_)));(case side2=>exact HC0.out);rintro e w' ⟨rfl,⟨nd,rfl⟩⟩;refine ⟨_,rfl,?_⟩))
 go_roundg k1
 case measure=>have:=HK1.out;omega
 case rel=>exact ⟨(wrap64 (x3_1+t703)),(wrap64 (x4_1+1)),z20_3,z20_3,H',⟨(by have:=HK1.out;omega)⟩,(by repeat(first|exact Drawn0.refl _|apply Drawn0.step))⟩
end Go.Proofs.Ytgocnchjpecafaa.PEv

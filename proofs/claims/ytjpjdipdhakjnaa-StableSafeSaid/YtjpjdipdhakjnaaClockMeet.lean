/- a part -/
import Derived.Test.YtjpjdipdhakjnaaClockMore
import Derived.RegionTactic
namespace Go.Proofs.Ytjpjdipdhakjnaa.ClockBase
open Go.RowKit Go.Lib Go.Proofs.YtjpjdipdhakjnaaW.PrintWords Go.Proofs.YtjpjdipdhakjnaaW.PrintLast Go.Proofs.YtjpjdipdhakjnaaW.PrintMore
set_option linter.unusedVariables false
set_option linter.unusedSimpArgs false
def lesser (x y:Int):Int:=if y<x then y else x
theorem min2_name (k k':IntKind) (x y:Int):Builtin.min2 (.int k x) (.int k' y)=pure (.int k (lesser x y)):=min2_int k k' x y
attribute [local go_sem] min2_name min_two
def meetS (a b:List Int):List Int:=List.zipWith lesser (ofL a) (ofL b)
set_option maxRecDepth 100000 in
set_option maxHeartbeats 4000000 in
theorem Meet_calls (A B:Option Addr) (c d:Nat) (a b:List Int) (w:World) (ha:Kd.C (Kd.int .i64) w A a.length a) (hb:Kd.C (Kd.int .i64) w B b.length b) :
  Calls Try.prog 14 #[.slice A a.length c,.slice B b.length d] w λe w'=>∃ v,e = .returned v/\Kd.R (Kd.int .i64) 3 w' w.heap.size (λ_=>True) v (trim (meetS a b))/\Below w.heap.size w w':=by
 obtain ⟨x0,x1,x2,x3,x4,ex,hx⟩:=of_five (c:=c) ha
 obtain ⟨y0,y1,y2,y3,y4,ey,hy⟩:=of_five (c:=d) hb
 have hx:=hx w (Below.refl _ _)
 unfold meetS
 rw [ex,ey]
 clear ex ey ha hb
 go_enter Try.func14,Try.ntmps14
 go_wp2_with (first|(go_at_call 47;(with_reducible refine hx.mono ?_);rintro e w1 ⟨rfl,hB1⟩)|(go_at_call 47;(with_reducible refine(hy _ hB1).mono ?_);rintro e w2 ⟨rfl,hB2⟩))
 refine wp_loop_rounds 6 ?_
 repeat any_goals (first|(rw [rounds_succ];go_wp2_with (go_at_call 48;(with_reducible refine(plain_calls _ _ _ _ _ _).mono ?_);rintro e w3 ⟨v,rfl,hv,hB3⟩))|(go_region;go_wp2_with (go_at_call 48;(with_reducible refine(plain_calls _ _ _ _ _ _).mono ?_);rintro e w3 ⟨v,rfl,hv,hB3⟩)))
 all_goals go_ret
 all_goals refine ⟨v,rfl,?_,?_⟩
 any_goals refine below_step ?_ hB3
 any_goals (repeat' (first|(with_reducible exact below_step hB1 hB2)|(with_reducible refine below_drew ?_)|(with_reducible refine pw_below_drewN ?_ _)|(with_reducible refine below_alloc ?_ _)))
 all_goals
  have h1:=below_size hB1
  have h2:=below_size hB2
  have h3:=Kd.R_lower (base':=w.heap.size) hv (by simp;omega)
  exact h3
end Go.Proofs.Ytjpjdipdhakjnaa.ClockBase

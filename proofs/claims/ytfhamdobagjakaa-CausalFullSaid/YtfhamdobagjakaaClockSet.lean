/- a part -/
import Derived.Test.YtfhamdobagjakaaClockMeet
namespace Go.Proofs.Ytfhamdobagjakaa.ClockBase
open Go.RowKit Go.Lib Go.Proofs.YtfhamdobagjakaaW.PrintWords Go.Proofs.YtfhamdobagjakaaW.PrintLast Go.Proofs.YtfhamdobagjakaaW.PrintMore
set_option linter.unusedVariables false
set_option linter.unusedSimpArgs false
def setOk (rep n:Int):Bool:=decide (1<=rep/\rep<=5) && decide (0<=n/\n<=1048576)
def setS (l:List Int) (rep n:Int):List Int:=trim ((ofL l).set (rep - 1).toNat n)
set_option maxRecDepth 100000 in
set_option maxHeartbeats 4000000 in
theorem Set_ok (A:Option Addr) (c:Nat) (l:List Int) (rep n:Int) (w:World) (hr:Kd.C (Kd.int .i64) w A l.length l) (h1:1<=rep) (h5:rep<=5) (hn0:0<=n) (hn1:n<=1048576) :
  Calls Try.prog 95 #[.slice A l.length c,.int .i64 rep,.int .i64 n] w λe w'=>∃ v,e = .returned (.tuple #[v,.int .i64 0])/\Kd.R (Kd.int .i64) 3 w' w.heap.size (λ_=>True) v (setS l rep n)/\Below w.heap.size w w':=by
 obtain ⟨y0,y1,y2,y3,y4,e,hof⟩:=of_five (c:=c) hr
 have hof:=hof w (Below.refl _ _)
 unfold setS
 rw [e]
 clear e hr
 have h:rep=1\/rep=2\/rep=3\/rep=4\/rep=5:=by omega
 clear h1 h5
 rcases h with rfl|rfl|rfl|rfl|rfl
 all_goals
  go_enter Try.func95,Try.ntmps95
  go_wp2_with (first|(go_at_call 86;(with_reducible refine hof.mono ?_);rintro e w1 ⟨rfl,hB1⟩)|(go_at_call 116;(with_reducible refine(there_in _ _ (by omega) (by omega)).mono ?_);rintro e w' ⟨rfl,rfl⟩)|(go_at_call 87;(with_reducible refine(plain_calls _ _ _ _ _ _).mono ?_);rintro e w3 ⟨v,rfl,hv,hB3⟩))
  go_returns
  refine ⟨v,rfl,?_,?_⟩
  ·have h1:=below_size hB1
   exact Kd.R_lower hv (by simp;omega)
  ·refine below_step ?_ hB3
   repeat' (first|(with_reducible exact hB1)|(with_reducible refine Below.setCell ?_ ?_ _)|(with_reducible refine below_alloc ?_ _)|(with_reducible exact below_size hB1))
set_option maxRecDepth 100000 in
theorem Set_bad (A:Option Addr) (c:Nat) (l:List Int) (rep n:Int) (w:World) (h:rep<1\/5<rep\/n<0\/1048576<n) :
  Calls Try.prog 95 #[.slice A l.length c,.int .i64 rep,.int .i64 n] w λe w'=>e = .returned (.tuple #[.slice none 0 0,.int .i64 1])/\w'=w:=by
 by_cases h1:rep<1
 ·go_enter Try.func95,Try.ntmps95
  go_wp2
  all_goals (first|(go_returns;exact ⟨rfl,rfl⟩)|(exfalso;omega))
 ·by_cases h5:5<rep
  ·go_enter Try.func95,Try.ntmps95
   go_wp2
   all_goals (first|(go_returns;exact ⟨rfl,rfl⟩)|(exfalso;omega))
  ·by_cases h0:n<0
   ·go_enter Try.func95,Try.ntmps95
    go_wp2
    all_goals (first|(go_returns;exact ⟨rfl,rfl⟩)|(exfalso;omega))
   ·have hn:1048576<n:=by omega
    go_enter Try.func95,Try.ntmps95
    go_wp2
    all_goals (first|(go_returns;exact ⟨rfl,rfl⟩)|(exfalso;omega))
end Go.Proofs.Ytfhamdobagjakaa.ClockBase

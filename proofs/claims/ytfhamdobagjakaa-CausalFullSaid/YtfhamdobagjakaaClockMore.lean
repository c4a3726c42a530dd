/- a part -/
import Derived.Test.YtfhamdobagjakaaClockFns
namespace Go.Proofs.Ytfhamdobagjakaa.ClockBase
open Go.RowKit Go.Lib Go.Proofs.YtfhamdobagjakaaW.PrintWords Go.Proofs.YtfhamdobagjakaaW.PrintLast Go.Proofs.YtfhamdobagjakaaW.PrintMore
set_option linter.unusedVariables false
set_option linter.unusedSimpArgs false
def sumS (l:List Int):Int:=(ofL l).foldl (λa n=>wrap64 (a+n)) 0
set_option maxRecDepth 100000 in
set_option maxHeartbeats 4000000 in
theorem Sum_calls (A:Option Addr) (c:Nat) (l:List Int) (w:World) (hr:Kd.C (Kd.int .i64) w A l.length l) :
  Calls Try.prog 100 #[.slice A l.length c] w λe w'=>e = .returned (.int .i64 (sumS l))/\Below w.heap.size w w':=by
 obtain ⟨y0,y1,y2,y3,y4,e,hof⟩:=of_five (c:=c) hr
 have hof:=hof w (Below.refl _ _)
 unfold sumS
 rw [e]
 clear e hr
 have hi0:∀ W:World,(Instr.index 132 (.agg #[.int .i64 y0,.int .i64 y1,.int .i64 y2,.int .i64 y3,.int .i64 y4]) (.int .i64 0)).run Try.prog W = .ok (.int .i64 y0) W:=λ_=>by kernel_rfl
 have hi1:∀ W:World,(Instr.index 132 (.agg #[.int .i64 y0,.int .i64 y1,.int .i64 y2,.int .i64 y3,.int .i64 y4]) (.int .i64 1)).run Try.prog W = .ok (.int .i64 y1) W:=λ_=>by kernel_rfl
 have hi2:∀ W:World,(Instr.index 132 (.agg #[.int .i64 y0,.int .i64 y1,.int .i64 y2,.int .i64 y3,.int .i64 y4]) (.int .i64 2)).run Try.prog W = .ok (.int .i64 y2) W:=λ_=>by kernel_rfl
 have hi3:∀ W:World,(Instr.index 132 (.agg #[.int .i64 y0,.int .i64 y1,.int .i64 y2,.int .i64 y3,.int .i64 y4]) (.int .i64 3)).run Try.prog W = .ok (.int .i64 y3) W:=λ_=>by kernel_rfl
 have hi4:∀ W:World,(Instr.index 132 (.agg #[.int .i64 y0,.int .i64 y1,.int .i64 y2,.int .i64 y3,.int .i64 y4]) (.int .i64 4)).run Try.prog W = .ok (.int .i64 y4) W:=λ_=>by kernel_rfl
 go_enter Try.func100,Try.ntmps100
 go_wp2_with (go_at_call 86;refine hof.mono ?_;rintro e w1 ⟨rfl,hB1⟩)
 refine wp_loop_rounds 6 ?_
 repeat any_goals (rw [rounds_succ];go_wp2)
 go_ret
 refine ⟨?_,hB1⟩
 simp only [List.foldl,Int.zero_add]
 rfl
def withinS (a b:List Int):Bool:=(List.range 5).all λi=>decide ((ofL a).getD i 0<=(ofL b).getD i 0)
set_option maxRecDepth 100000 in
set_option maxHeartbeats 4000000 in
theorem Within_calls (A B:Option Addr) (c d:Nat) (a b:List Int) (w:World) (ha:Kd.C (Kd.int .i64) w A a.length a) (hb:Kd.C (Kd.int .i64) w B b.length b) :
  Calls Try.prog 93 #[.slice A a.length c,.slice B b.length d] w λe w'=>e = .returned (.bool (withinS a b))/\Below w.heap.size w w':=by
 obtain ⟨x0,x1,x2,x3,x4,ex,hx⟩:=of_five (c:=c) ha
 obtain ⟨y0,y1,y2,y3,y4,ey,hy⟩:=of_five (c:=d) hb
 have hx:=hx w (Below.refl _ _)
 unfold withinS
 rw [ex,ey]
 clear ex ey ha hb
 by_cases h0:y0<x0
 ·skip
  have e:((List.range 5).all λi=>decide (([x0,x1,x2,x3,x4]:List Int).getD i 0<=([y0,y1,y2,y3,y4]:List Int).getD i 0))=false:=by
   simp [List.range,List.range.loop]
   omega
  rw [e]
  clear e
  go_enter Try.func93,Try.ntmps93
  go_wp2_with (first|(go_at_call 86;(with_reducible refine hx.mono ?_);rintro e w1 ⟨rfl,hB1⟩)|(go_at_call 86;(with_reducible refine(hy _ hB1).mono ?_);rintro e w2 ⟨rfl,hB2⟩))
  refine wp_loop_rounds 6 ?_
  repeat any_goals (first|(rw [rounds_succ];go_wp2)|(go_quiet (fail);go_wp2))
  all_goals go_ret
  all_goals refine ⟨rfl,?_⟩
  all_goals repeat' (first|(with_reducible exact below_step hB1 hB2)|(with_reducible exact Nat.le_refl _)|(with_reducible refine Below.setCell ?_ ?_ _)|(with_reducible refine pw_below_drewN ?_ _)|(with_reducible refine below_alloc ?_ _)|(have:=below_size hB1;have:=below_size hB2;simp;omega))
 ·skip
  by_cases h1:y1<x1
  ·skip
   have e:((List.range 5).all λi=>decide (([x0,x1,x2,x3,x4]:List Int).getD i 0<=([y0,y1,y2,y3,y4]:List Int).getD i 0))=false:=by
    simp [List.range,List.range.loop]
    omega
   rw [e]
   clear e
   go_enter Try.func93,Try.ntmps93
   go_wp2_with (first|(go_at_call 86;(with_reducible refine hx.mono ?_);rintro e w1 ⟨rfl,hB1⟩)|(go_at_call 86;(with_reducible refine(hy _ hB1).mono ?_);rintro e w2 ⟨rfl,hB2⟩))
   refine wp_loop_rounds 6 ?_
   repeat any_goals (first|(rw [rounds_succ];go_wp2)|(go_quiet (fail);go_wp2))
   all_goals go_ret
   all_goals refine ⟨rfl,?_⟩
   all_goals repeat' (first|(with_reducible exact below_step hB1 hB2)|(with_reducible exact Nat.le_refl _)|(with_reducible refine Below.setCell ?_ ?_ _)|(with_reducible refine pw_below_drewN ?_ _)|(with_reducible refine below_alloc ?_ _)|(have:=below_size hB1;have:=below_size hB2;simp;omega))
  ·skip
   by_cases h2:y2<x2
   ·skip
    have e:((List.range 5).all λi=>decide (([x0,x1,x2,x3,x4]:List Int).getD i 0<=([y0,y1,y2,y3,y4]:List Int).getD i 0))=false:=by
     simp [List.range,List.range.loop]
     omega
    rw [e]
    clear e
    go_enter Try.func93,Try.ntmps93
    go_wp2_with (first|(go_at_call 86;(with_reducible refine hx.mono ?_);rintro e w1 ⟨rfl,hB1⟩)|(go_at_call 86;(with_reducible refine(hy _ hB1).mono ?_);rintro e w2 ⟨rfl,hB2⟩))
    refine wp_loop_rounds 6 ?_
    repeat any_goals (first|(rw [rounds_succ];go_wp2)|(go_quiet (fail);go_wp2))
    all_goals go_ret
    all_goals refine ⟨rfl,?_⟩
    all_goals repeat' (first|(with_reducible exact below_step hB1 hB2)|(with_reducible exact Nat.le_refl _)|(with_reducible refine Below.setCell ?_ ?_ _)|(with_reducible refine pw_below_drewN ?_ _)|(with_reducible refine below_alloc ?_ _)|(have:=below_size hB1;have:=below_size hB2;simp;omega))
   ·skip
    by_cases h3:y3<x3
    ·skip
     have e:((List.range 5).all λi=>decide (([x0,x1,x2,x3,x4]:List Int).getD i 0<=([y0,y1,y2,y3,y4]:List Int).getD i 0))=false:=by
      simp [List.range,List.range.loop]
      omega
     rw [e]
     clear e
     go_enter Try.func93,Try.ntmps93
     go_wp2_with (first|(go_at_call 86;(with_reducible refine hx.mono ?_);rintro e w1 ⟨rfl,hB1⟩)|(go_at_call 86;(with_reducible refine(hy _ hB1).mono ?_);rintro e w2 ⟨rfl,hB2⟩))
     refine wp_loop_rounds 6 ?_
     repeat any_goals (first|(rw [rounds_succ];go_wp2)|(go_quiet (fail);go_wp2))
     all_goals go_ret
     all_goals refine ⟨rfl,?_⟩
     all_goals repeat' (first|(with_reducible exact below_step hB1 hB2)|(with_reducible exact Nat.le_refl _)|(with_reducible refine Below.setCell ?_ ?_ _)|(with_reducible refine pw_below_drewN ?_ _)|(with_reducible refine below_alloc ?_ _)|(have:=below_size hB1;have:=below_size hB2;simp;omega))
    ·skip
     by_cases h4:y4<x4
     ·skip
      have e:((List.range 5).all λi=>decide (([x0,x1,x2,x3,x4]:List Int).getD i 0<=([y0,y1,y2,y3,y4]:List Int).getD i 0))=false:=by
       simp [List.range,List.range.loop]
       omega
      rw [e]
      clear e
      go_enter Try.func93,Try.ntmps93
      go_wp2_with (first|(go_at_call 86;(with_reducible refine hx.mono ?_);rintro e w1 ⟨rfl,hB1⟩)|(go_at_call 86;(with_reducible refine(hy _ hB1).mono ?_);rintro e w2 ⟨rfl,hB2⟩))
      refine wp_loop_rounds 6 ?_
      repeat any_goals (first|(rw [rounds_succ];go_wp2)|(go_quiet (fail);go_wp2))
      all_goals go_ret
      all_goals refine ⟨rfl,?_⟩
      all_goals repeat' (first|(with_reducible exact below_step hB1 hB2)|(with_reducible exact Nat.le_refl _)|(with_reducible refine Below.setCell ?_ ?_ _)|(with_reducible refine pw_below_drewN ?_ _)|(with_reducible refine below_alloc ?_ _)|(have:=below_size hB1;have:=below_size hB2;simp;omega))
     ·skip
      have e:((List.range 5).all λi=>decide (([x0,x1,x2,x3,x4]:List Int).getD i 0<=([y0,y1,y2,y3,y4]:List Int).getD i 0))=true:=by
       simp [List.range,List.range.loop]
       omega
      rw [e]
      clear e
      go_enter Try.func93,Try.ntmps93
      go_wp2_with (first|(go_at_call 86;(with_reducible refine hx.mono ?_);rintro e w1 ⟨rfl,hB1⟩)|(go_at_call 86;(with_reducible refine(hy _ hB1).mono ?_);rintro e w2 ⟨rfl,hB2⟩))
      refine wp_loop_rounds 6 ?_
      repeat any_goals (first|(rw [rounds_succ];go_wp2)|(go_quiet (fail);go_wp2))
      all_goals go_ret
      all_goals refine ⟨rfl,?_⟩
      all_goals repeat' (first|(with_reducible exact below_step hB1 hB2)|(with_reducible exact Nat.le_refl _)|(with_reducible refine Below.setCell ?_ ?_ _)|(with_reducible refine pw_below_drewN ?_ _)|(with_reducible refine below_alloc ?_ _)|(have:=below_size hB1;have:=below_size hB2;simp;omega))
end Go.Proofs.Ytfhamdobagjakaa.ClockBase

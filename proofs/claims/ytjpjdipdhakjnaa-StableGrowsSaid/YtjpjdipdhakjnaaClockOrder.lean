/- Clocks: Order: by hand. -/
import Derived.Test.YtjpjdipdhakjnaaClockMore
namespace Go.Proofs.Ytjpjdipdhakjnaa.ClockBase
open Go.RowKit Go.Lib Go.Proofs.YtjpjdipdhakjnaaW.PrintWords Go.Proofs.YtjpjdipdhakjnaaW.PrintLast Go.Proofs.YtjpjdipdhakjnaaW.PrintMore
set_option linter.unusedVariables false
set_option linter.unusedSimpArgs false

/-- Are five numbers five others? -/
def eqB (x0 x1 x2 x3 x4 y0 y1 y2 y3 y4 : Int) : Bool := x0 == y0 && (x1 == y1 && (x2 == y2 && (x3 == y3 && x4 == y4)))
set_option maxRecDepth 100000 in
set_option maxHeartbeats 4000000 in
theorem eq_run (x0 x1 x2 x3 x4 y0 y1 y2 y3 y4 : Int) (W : World) : (Op.equalIn 10000 73 (.agg #[.int .i64 x0, .int .i64 x1, .int .i64 x2, .int .i64 x3, .int .i64 x4]) (.agg #[.int .i64 y0, .int .i64 y1, .int .i64 y2, .int .i64 y3, .int .i64 y4])).run Try.prog W = .ok (eqB x0 x1 x2 x3 x4 y0 y1 y2 y3 y4) W := by
  have u3 := Try.underlying3
  have a3 := Try.isAgg3
  have z3 := Try.sizeOf3
  rw [show (10000 : Nat) = 9999 + 1 from rfl, Op.equalIn]
  simp only [Sem.run_bind, run_underlying Try.underlying73, Result.andThen_ok]
  simp only [Std.Legacy.Range.forIn_eq_forIn_range', Std.Legacy.Range.size, Nat.sub_zero, Nat.add_sub_cancel, Nat.div_one, List.range'_succ, List.range'_zero, List.forIn_cons, List.forIn_nil]
  go_simp
  unfold eqB
  by_cases h0 : x0 = y0 <;> by_cases h1 : x1 = y1 <;> by_cases h2 : x2 = y2 <;> by_cases h3 : x3 = y3 <;> by_cases h4 : x4 = y4 <;> simp [h0, h1, h2, h3, h4]
def orderS (a b : List Int) : Int := if ofL a = ofL b then 0 else if withinS a b = true then -1 else if withinS b a = true then 1 else 2
set_option maxRecDepth 100000 in
set_option maxHeartbeats 4000000 in
theorem Order_calls (A B : Option Addr) (c d : Nat) (a b : List Int) (w : World) (ha : Kd.C (Kd.int .i64) w A a.length a) (hb : Kd.C (Kd.int .i64) w B b.length b) :
    Calls Try.prog 20 #[.slice A a.length c, .slice B b.length d] w fun e w' => e = .returned (.int .i64 (orderS a b)) ∧ Below w.heap.size w w' := by
  obtain ⟨x0, x1, x2, x3, x4, ex, hx⟩ := of_five (c := c) ha
  obtain ⟨y0, y1, y2, y3, y4, ey, hy⟩ := of_five (c := d) hb
  have hx := hx w (Below.refl _ _)
  have hab := fun W (hB : Below w.heap.size w W) => Within_calls A B c d a b W (Kd.C_below ha hB) (Kd.C_below hb hB)
  have hba := fun W (hB : Below w.heap.size w W) => Within_calls B A d c b a W (Kd.C_below hb hB) (Kd.C_below ha hB)
  have heq := fun W => eq_run x0 x1 x2 x3 x4 y0 y1 y2 y3 y4 W
  have hd : eqB x0 x1 x2 x3 x4 y0 y1 y2 y3 y4 = decide (ofL a = ofL b) := by
    rw [ex, ey, Bool.eq_iff_iff]
    simp [eqB]
  unfold orderS
  rw [hd] at heq
  clear ex ey ha hb hd
  by_cases hE : ofL a = ofL b
  · rw [decide_eq_true hE] at heq
    rw [if_pos hE]
    go_enter Try.func20, Try.ntmps20
    go_wp2_with (first | (go_at_call 47; (with_reducible refine hx.mono ?_); rintro e w1 ⟨rfl, hB1⟩) | (go_at_call 47; (with_reducible refine (hy _ hB1).mono ?_); rintro e w2 ⟨rfl, hB2⟩))
    go_ret
    exact ⟨rfl, below_step hB1 hB2⟩
  · rw [decide_eq_false hE] at heq
    rw [if_neg hE]
    generalize withinS a b = p at hab ⊢
    generalize withinS b a = q at hba ⊢
    cases p
    · cases q
      all_goals
        go_enter Try.func20, Try.ntmps20
        go_wp2_with (first | (go_at_call 47; (with_reducible refine hx.mono ?_); rintro e w1 ⟨rfl, hB1⟩) | (go_at_call 47; (with_reducible refine (hy _ hB1).mono ?_); rintro e w2 ⟨rfl, hB2⟩) | (go_at_call 15; (with_reducible refine (hab _ (below_step hB1 hB2)).mono ?_); rintro e w3 ⟨rfl, hB3⟩) | (go_at_call 15; (with_reducible refine (hba _ (below_step (below_step hB1 hB2) hB3)).mono ?_); rintro e w4 ⟨rfl, hB4⟩))
        go_ret
        exact ⟨rfl, below_step (below_step (below_step hB1 hB2) hB3) hB4⟩
    · go_enter Try.func20, Try.ntmps20
      go_wp2_with (first | (go_at_call 47; (with_reducible refine hx.mono ?_); rintro e w1 ⟨rfl, hB1⟩) | (go_at_call 47; (with_reducible refine (hy _ hB1).mono ?_); rintro e w2 ⟨rfl, hB2⟩) | (go_at_call 15; (with_reducible refine (hab _ (below_step hB1 hB2)).mono ?_); rintro e w3 ⟨rfl, hB3⟩))
      go_ret
      exact ⟨rfl, below_step (below_step hB1 hB2) hB3⟩
end Go.Proofs.Ytjpjdipdhakjnaa.ClockBase

/- StableGrows: the row: whatever is handed is opened, walked by its contract, and reads as before. -/
import Derived.Test.YtjpjdipdhakjnaaRows
import Derived.Test.YtjpjdipdhakjnaaOpen
import Derived.Test.YtjpjdipdhakjnaaPureStableGrows
import Derived.Test.YtjpjdipdhakjnaaPStabx7
import Derived.WalkKit
import Derived.ProofKit
import Derived.OpenShut
import Derived.ShutString
import Derived.ChangeOld
import Derived.Below
import Derived.SizedLaws
namespace Go.Proofs.Ytjpjdipdhakjnaa.stableGrows
open Go.ChangeShapes Go.WideShapes Go.ChangeAt Go.RowKit Go.Proofs.YtjpjdipdhakjnaaW.PrintWords Go.Proofs.Ytjpjdipdhakjnaa.Open
set_option linter.unusedVariables false
theorem own : ownKnob Try.prog.godebug = none := by kernel_rfl
theorem laidOut : laidOutB Try.prog = true := by kernel_rfl
set_option maxRecDepth 100000 in
theorem lifted (os : Os) (started : os.Started) (H : Type) (enc : TypeId × Value → H) :
    ReturnsInHanded {} Try.checked os 9 .any (Rows.stableGrowsSpec.pre6 enc Try.prog Try.f9 Rows.stableGrowsRow.domain false) (Rows.stableGrowsSpec.post enc Try.prog Try.f9 false true false false) := by
  refine returnsInHanded_of_change_sized (C := Try.checked) own started (by kernel_rfl) Try.func9
    (ChangeSpec.witness6 (enc := enc) (C := Try.checked) false ⟨#[], #[.slice none 0 0, .agg #[.slice none 0 0, .int .i64 0, .slice none 0 0]], []⟩ 8 (by kernel_rfl) (by kernel_rfl) (by kernel_rfl) (by kernel_rfl)) ?_
  intro W base args ds gs before hval0 hW hcnd hsz0 _
  have hval : ∀ (j : Nat) t v, Try.f9.params[j]? = some t → args[j]? = some v → Value.okWide Try.prog W .any base t v := hval0
  have hW' := hW
  obtain ⟨p, q, hA0, hV, rfl, hfz, hnd⟩ := hW
  have hA : DataW.TrodAll enc Try.prog W 0 (fun _ => true) true Try.f9.params.toList args.toList ds p := hA0
  have hsz : (DataW.weightsEach Try.prog (Try.f9.params.toList ++ Rows.stableGrowsSpec.plain.varTypes Try.prog) (ds ++ gs)).all (· ≤ reachBytes) = true := hsz0
  rw [Try.params9] at hA hval hsz
  obtain ⟨v0, vs0, d0, ds0, p0, q0, hargs, rfl, rfl, h0, r0⟩ := trodAll_cons hA
  obtain ⟨v1, vs1, d1, ds1, p1, q1, rfl, rfl, rfl, h1, r1⟩ := trodAll_cons r0
  obtain ⟨rfl, rfl, rfl⟩ := trodAll_nil r1
  obtain rfl : args = #[v0, v1] := by cases args; simp_all
  obtain ⟨rfl, rfl⟩ := trodVars_none hV
  obtain ⟨A0, len0, c0, rfl⟩ := okWide_slice Try.underlying41 (hval 0 41 v0 rfl rfl)
  have k0 := h0
  have lt0 : ∀ x ∈ p0, x.block < W.heap.size := by obtain ⟨m, hm⟩ := k0; exact DataW.trod_lt m _ _ _ hm
  obtain ⟨l0, rfl, hl0, hr0, hg0⟩ := opens_row (opens_slice (d := Kd.slice 3 (Kd.int .i64)) (q := 0) Try.underlying41 (by kernel_rfl) (B := 24) (by kernel_rfl) (opens_slice (d := Kd.int .i64) (q := 3) Try.underlying23 (by kernel_rfl) (B := 8) (by kernel_rfl) (opens_int Try.underlying3))) h0 (fun n hn => by simpa using List.all_eq_true.1 hsz _ (DataW.weights_mem_each (j := 0) (t := 41) rfl rfl n hn))
  have k1 := h1
  have lt1 : ∀ x ∈ p1, x.block < W.heap.size := by obtain ⟨m, hm⟩ := k1; exact DataW.trod_lt m _ _ _ hm
  obtain ⟨cs1, y1, rfl, K1, g1⟩ := opens_agg Try.underlying43 (hval 1 43 v1 rfl rfl) (opens_struct (d := (Kd.pair (Kd.slice 3 (Kd.int .i64)) (Kd.pair (Kd.int .i64) (Kd.slice 3 (Kd.int .i64))))) Try.underlying43 (by kernel_rfl) (opensAt_cons (by decide) (by kernel_rfl) (by rfl) (by decide) (opens_slice (d := Kd.int .i64) (q := 3) Try.underlying23 (by kernel_rfl) (B := 8) (by kernel_rfl) (opens_int Try.underlying3)) (opensAt_cons (by decide) (by kernel_rfl) (by rfl) (by decide) (opens_int Try.underlying3) (opensAt_last (by decide) (by kernel_rfl) (opens_slice (d := Kd.int .i64) (q := 3) Try.underlying23 (by kernel_rfl) (B := 8) (by kernel_rfl) (opens_int Try.underlying3)))))) h1 (fun n hn => by simpa using List.all_eq_true.1 hsz _ (DataW.weights_mem_each (j := 1) (t := 43) rfl rfl n hn))
  obtain ⟨l1_0, a1_1, l1_2⟩ := y1
  obtain ⟨_, _, e1_, ⟨A1_0, c1_0, rfl, hl1_0, hr1_0⟩, ⟨_, _, rfl, rfl, ⟨A1_2, c1_2, rfl, hl1_2, hr1_2⟩⟩⟩ := K1
  obtain rfl : cs1 = #[.slice A1_0 l1_0.length c1_0, .int .i64 a1_1, .slice A1_2 l1_2.length c1_2] := by apply Array.ext'; exact e1_
  clear hA0 hval0 hsz0 hsz
  obtain ⟨k, hk⟩ := Pure.StableGrows l0 l1_0 a1_1 l1_2 (by have := hg0.1; omega) (fun x hx => by have := (hg0.2 x hx).1; omega) (by have h_ : l1_0.length * 8 ≤ 140737488351232 := g1.1.1; omega) (by have h_ : l1_2.length * 8 ≤ 140737488351232 := g1.2.2.1; omega)
  refine (PStab.hucksterlaw29_StableGrows.calls k A0 c0 l0 (fun k_ => k_ < W.heap.size) A1_0 c1_0 l1_0 a1_1 (fun k_ => k_ < W.heap.size) A1_2 c1_2 l1_2 true W hr0 hl0 (Kd.V_mk hl1_0 (Kd.C_F (Kd.heap_int .i64) hr1_0)) (Kd.V_mk hl1_2 (Kd.C_F (Kd.heap_int .i64) hr1_2)) hk).mono fun e W' ⟨he, bel⟩ => ?_
  subst he
  exact ⟨_, rfl, _, _, _, [], _, [], hW', trodAll_mk1 (shut_bool Try.underlying4 _), (trodAll_cons_mk (Below.trod laidOut (by kernel_rfl) (of_decide_eq_true (by kernel_rfl)) k0 bel lt0) (trodAll_cons_mk (Below.trod laidOut (by kernel_rfl) (of_decide_eq_true (by kernel_rfl)) k1 bel lt1) trodAll_mk0)), rfl, bel.frame _, fun h => by cases h⟩
theorem over : Rows.stableGrowsRow.holds Try.pinned (OpenSpec.ofChange Rows.stableGrowsSpec) :=
  OpenClaim.holds_of_wide 9 Try.f9 rfl rfl rfl rfl rfl rfl rfl ⟨rfl, rfl, rfl, rfl, rfl⟩ rfl rfl rfl rfl rfl (by kernel_rfl) Try.func9 (by kernel_rfl)
    (of_decide_eq_true (by kernel_rfl)) (by unfold Func.isWrapper; first | (rw [if_pos (by decide +kernel)]; kernel_rfl) | (rw [if_neg (by decide +kernel)]; exact ⟨rfl, rfl⟩))
    (fun os started H enc _ => lifted os started H enc)
theorem proved : Rows.StableGrowsSaid := over
#print axioms proved
end Go.Proofs.Ytjpjdipdhakjnaa.stableGrows
namespace Go.Proofs.Ytjpjdipdhakjnaa
/-- The row, under a short name, for the claim. -/
theorem stableGrows_holds : Rows.StableGrowsSaid := stableGrows.proved
end Go.Proofs.Ytjpjdipdhakjnaa

/- SumParts: how bytes are parted does not matter to their sum. -/
import Derived.Test.YtpahdlgpiecdkaaSumAid
import Derived.Test.YtpahdlgpiecdkaaPSumx2
namespace Go.Proofs.Ytpahdlgpiecdkaa.Pure
open Go.RowKit Go.Proofs.Ytpahdlgpiecdkaa.PSum Go.Proofs.YtpahdlgpiecdkaaW.PrintWords Go.Proofs.YtpahdlgpiecdkaaW.PrintLast Go.Proofs.Ytpahdlgpiecdkaa.Crc
set_option linter.unusedVariables false

theorem SumParts : hucksterlaw01_SumParts.Pure := by
  intro l0 a1 a2 hm hr hw h1 h2
  refine Ev.rounds (g := fun k => hucksterlaw01_SumParts.f k l0 a1 a2) ?_
  unfold hucksterlaw01_SumParts.f
  have hb := bytes_of hw
  have u1 := u16_of h1
  have u2 := u16_of h2
  by_cases hl : (l0.length : Int) > 1500
  · exact ev_if hl (Ev.bind awake_ev (Ev.now _))
  · refine ev_else hl ?_
    have e1 : wrap64 ((l0.length : Int) + 1) = (l0.length : Int) + 1 := by unfold wrap64; omega
    have e2 : wrap64 a1 = a1 := by unfold wrap64; omega
    have e3 : wrap64 a2 = a2 := by unfold wrap64; omega
    rw [e1, e2, e3]
    obtain ⟨i, hi, hi0, hi1⟩ : ∃ i : Nat, Int.tmod a1 ((l0.length : Int) + 1) = (i : Int) ∧ 0 ≤ i ∧ i ≤ l0.length := by
      have h0 := Int.tmod_nonneg ((l0.length : Int) + 1) u1.1
      have h1 := Int.tmod_lt_of_pos a1 (show (0 : Int) < (l0.length : Int) + 1 by omega)
      exact ⟨(Int.tmod a1 ((l0.length : Int) + 1)).toNat, by omega, by omega, by omega⟩
    rw [hi]
    have e4 : wrap64 ((l0.length : Int) + 1 - (i : Int)) = (l0.length : Int) + 1 - (i : Int) := by unfold wrap64; omega
    rw [e4]
    obtain ⟨j, hj, hj1⟩ : ∃ j : Nat, Int.tmod a2 ((l0.length : Int) + 1 - (i : Int)) = (j : Int) ∧ i + j ≤ l0.length := by
      have h0 := Int.tmod_nonneg ((l0.length : Int) + 1 - (i : Int)) u2.1
      have h1 := Int.tmod_lt_of_pos a2 (show (0 : Int) < (l0.length : Int) + 1 - (i : Int) by omega)
      exact ⟨(Int.tmod a2 ((l0.length : Int) + 1 - (i : Int))).toNat, by omega, by omega⟩
    rw [hj]
    have e5 : wrap64 ((i : Int) + (j : Int)) = ((i + j : Nat) : Int) := by unfold wrap64; omega
    rw [e5]
    simp only [Int.toNat_natCast]
    clear hi hj e1 e2 e3 e4 e5 hm
    have n1 : ¬ ((l0.length : Int) + 1 = 0) := by omega
    have n2 : ¬ ((l0.length : Int) + 1 - (i : Int) = 0) := by omega
    have n3 : (0 : Int) ≤ (i : Int) := by omega
    have n4 : (i : Int) ≤ (l0.length : Int) := by omega
    have n5 : (i : Int) ≤ ((i + j : Nat) : Int) := by omega
    have n6 : ((i + j : Nat) : Int) ≤ (l0.length : Int) := by omega
    have n7 : (0 : Int) ≤ ((i + j : Nat) : Int) := by omega
    refine ev_else n1 ?_
    refine ev_else n2 ?_
    refine ev_if n3 ?_
    refine ev_if n4 ?_
    refine ev_if n5 ?_
    refine ev_if n6 ?_
    refine ev_if n7 ?_
    have hp : [l0.take i, (l0.take (i + j)).drop i, l0.drop (i + j)].flatten = l0 := by
      simp only [List.flatten_cons, List.flatten_nil, List.append_nil]
      rw [← List.append_assoc]
      have : l0.take i ++ (l0.take (i + j)).drop i = l0.take (i + j) := by
        have := List.take_append_drop i (l0.take (i + j))
        rwa [List.take_take, Nat.min_eq_left (by omega)] at this
      rw [this, List.take_append_drop]
    have hs := of_ev [l0.take i, (l0.take (i + j)).drop i, l0.drop (i + j)] (fun p hp => by
      simp only [List.mem_cons, List.mem_nil_iff, or_false] at hp
      rcases hp with rfl | rfl | rfl
      · exact ⟨hb.take _, by simp; omega⟩
      · exact ⟨(hb.take _).drop _, by simp; omega⟩
      · exact ⟨hb.drop _, by simp; omega⟩) (by simp)
    rw [hp] at hs
    refine Ev.bind hs ?_
    refine Ev.bind (of_one l0 hb (by omega)) ?_
    refine ev_if rfl ?_
    refine Ev.bind (of_one (l0.take (i + j)) (hb.take _) (by simp; omega)) ?_
    refine Ev.bind (on_ev _ (l0.drop (i + j)) (hb.drop _) (by simp; omega)) ?_
    refine ev_if (by rw [on_append, List.take_append_drop]) ?_
    have h0 : Ev (fun k => sum_Of.f k []) (0 : Int) := by
      have := of_ev [] (by simp) (by simp)
      rwa [List.flatten_nil, on_nil] at this
    refine Ev.bind h0 ?_
    exact ev_if rfl (Ev.bind awake_ev (Ev.now _))
end Go.Proofs.Ytpahdlgpiecdkaa.Pure

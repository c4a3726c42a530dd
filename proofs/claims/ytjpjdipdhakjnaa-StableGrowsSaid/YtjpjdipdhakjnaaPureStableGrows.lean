/- StableGrows: what is stable is within all that is known; learned more, no less is stable. -/
import Derived.Test.YtjpjdipdhakjnaaStableRef
import Derived.Test.YtjpjdipdhakjnaaPStabx7
namespace Go.Proofs.Ytjpjdipdhakjnaa.Pure
open Go.RowKit Go.Proofs.Ytjpjdipdhakjnaa.PStab Go.Proofs.YtjpjdipdhakjnaaW.PrintWords Go.Proofs.YtjpjdipdhakjnaaW.PrintLast Go.Proofs.Ytjpjdipdhakjnaa.ClockBase
set_option linter.unusedVariables false
set_option linter.unusedSimpArgs false

theorem stable_le_own (ls : List (List Int)) (own : List Int) : withinS (stableS ls own) own = true := by
  rw [withinS_iff]
  intro i hi
  rw [stable_at ls own i hi]
  exact (leastF_le i ls _).1
theorem stable_le_each (ls : List (List Int)) (own x : List Int) (hx : x ∈ ls) : withinS (stableS ls own) x = true := by
  rw [withinS_iff]
  intro i hi
  rw [stable_at ls own i hi]
  exact (leastF_le i ls _).2 x hx
/-- A clock that is learned is no less. -/
theorem learn_grows (ls : List (List Int)) (own : List Int) (rep : Int) (c : List Int) (h1 : 1 ≤ rep) (i : Nat) (hi : i < ls.length) : withinS (ls.getD i []) ((learnS ls own rep c).getD i []) = true := by
  rw [learn_at ls own rep c h1 i hi, withinS_iff]
  split
  · rw [good_trim (good_join _), join_two, ofL_pl]
    intro j hj
    rw [zip5 (ofL_length _) (ofL_length _) j hj]
    unfold greater
    split <;> omega
  · rw [ofL_pl]
    exact le5_refl _
theorem stable_grows (ls : List (List Int)) (own : List Int) (rep : Int) (c : List Int) (h1 : 1 ≤ rep) : withinS (stableS ls own) (stableS (learnS ls own rep c) own) = true := by
  rw [withinS_iff]
  intro i hi
  rw [stable_at ls own i hi, stable_at (learnS ls own rep c) own i hi]
  rcases leastF_mem i (learnS ls own rep c) ((ofL own).getD i 0) with h | ⟨x, hx, h⟩
  · rw [h]
    exact (leastF_le i ls _).1
  · rw [h]
    obtain ⟨j, hj, rfl⟩ := List.mem_iff_getElem.1 hx
    have hj' : j < ls.length := by rwa [learn_length] at hj
    have h2 := learn_grows ls own rep c h1 j hj'
    rw [withinS_iff] at h2
    have h3 := h2 i hi
    rw [List.getD_eq_getElem?_getD (l := learnS ls own rep c), List.getElem?_eq_getElem hj] at h3
    have h4 := (leastF_le i ls ((ofL own).getD i 0)).2 (ls.getD j []) (by
      rw [List.getD_eq_getElem?_getD, List.getElem?_eq_getElem hj']
      exact List.getElem_mem hj')
    exact Int.le_trans h4 h3
theorem learn_short (ls : List (List Int)) (own : List Int) (rep : Int) (c : List Int) : Short (learnS ls own rep c) := by
  have h1 : Short (ls.map pl) := fun x hx => by
    obtain ⟨y, _, rfl⟩ := List.mem_map.1 hx
    exact Nat.le_trans (pl_len y) (by decide)
  unfold learnS
  split
  · intro x hx
    rcases List.mem_or_eq_of_mem_set hx with hx | hx
    · exact h1 x hx
    · subst hx
      exact trim_five (good_join _)
  · exact h1
theorem learn_may {ls : List (List Int)} {own : List Int} {rep : Int} {c : List Int} (h : mayS ls own = true) : mayS (learnS ls own rep c) own = true := by
  obtain ⟨h1, h2, h3⟩ := mayS_iff.1 h
  refine mayS_iff.2 ⟨by rw [learn_length]; exact h1, h2, ?_⟩
  have hp : ∀ x ∈ ls.map pl, okC x = true := fun x hx => by
    obtain ⟨y, _, rfl⟩ := List.mem_map.1 hx
    exact okC_take (good_of y) _
  unfold learnS
  split
  · intro x hx
    rcases List.mem_or_eq_of_mem_set hx with hx | hx
    · exact hp x hx
    · subst hx
      exact okC_take (good_join _) _
  · exact hp
theorem grows_loop (ls : List (List Int)) (own : List Int) (rep : Int) (c : List Int) (hl : ls.length ≤ 5) (hs : Short ls) (ho : own.length ≤ 140737488355328) (h1 : 1 ≤ rep) (d : Nat) : ∀ i : Nat, i + d = ls.length → Ev (fun k => hucksterlaw29_StableGrows.l0 k ls (learnS ls own rep c) (stableS ls own) (stableS (learnS ls own rep c) own) (i : Int) own rep c) true := by
  have hL := learn_length ls own rep c
  have hlen : ∀ ls : List (List Int), (stableS ls own).length ≤ 140737488355328 := fun ls => by
    rw [← stable_plain]
    exact Nat.le_trans (pl_len _) (by decide)
  induction d with
  | zero =>
    intro i hi
    refine Ev.step (f := fun k => (hucksterref03_Within.f k (stableS ls own) (stableS (learnS ls own rep c) own)).bind fun t => if t = true then (hucksterref03_Within.f k (stableS (learnS ls own rep c) own) own).bind fun t => if t = true then (hucksterlaw29_awake.f k).bind fun t => some t else some false else some false) (fun k => ?_) ?_
    · simp only [hucksterlaw29_StableGrows.l0]
      rw [if_neg (by omega)]
    · refine Ev.bind (within_ev _ _ (hlen _) (hlen _)) (ck_if (stable_grows ls own rep c h1) ?_)
      exact Ev.bind (within_ev _ _ (hlen _) ho) (ck_if (stable_le_own _ _) (Ev.bind awake_ev (Ev.now _)))
  | succ d ih =>
    intro i hi
    have hlt : i < ls.length := by omega
    have hlt' : i < (learnS ls own rep c).length := by omega
    refine Ev.step (f := fun k => (hucksterref03_Within.f k (stableS (learnS ls own rep c) own) (learnS ls own rep c)[i]).bind fun t => if t = true then (hucksterref03_Within.f k ls[i] (learnS ls own rep c)[i]).bind fun t => if t = true then hucksterlaw29_StableGrows.l0 k ls (learnS ls own rep c) (stableS ls own) (stableS (learnS ls own rep c) own) ((i + 1 : Nat) : Int) own rep c else some false else some false) (fun k => ?_) ?_
    · simp only [hucksterlaw29_StableGrows.l0]
      rw [if_pos (by omega), if_pos (by omega), if_pos (by omega), st_rd hlt, st_rd hlt', ck_w (by omega)]
    · have hm := List.getElem_mem hlt'
      refine Ev.bind (within_ev _ _ (hlen _) (learn_short _ _ _ _ _ hm)) (ck_if (stable_le_each _ _ _ hm) ?_)
      have hg := learn_grows ls own rep c h1 i hlt
      rw [List.getD_eq_getElem?_getD, List.getElem?_eq_getElem hlt, List.getD_eq_getElem?_getD, List.getElem?_eq_getElem hlt'] at hg
      exact Ev.bind (within_ev _ _ (hs _ (List.getElem_mem hlt)) (learn_short _ _ _ _ _ hm)) (ck_if hg (ih (i + 1) (by omega)))
theorem StableGrows (ls : List (List Int)) (own : List Int) (rep : Int) (c : List Int) (hn : ls.length ≤ 140737488355328) (hs : Short ls) (ho : own.length ≤ 140737488355328) (hc : c.length ≤ 140737488355328) : ∃ k, hucksterlaw29_StableGrows.f k ls own rep c = some true := by
  refine Ev.rounds (g := fun k => hucksterlaw29_StableGrows.f k ls own rep c) ?_
  have haw : Ev (fun k => (hucksterlaw29_awake.f k).bind fun t => some t) true := Ev.bind awake_ev (Ev.now _)
  have hbad : Ev (fun k => hucksterlaw29_StableGrows.j0 k ls true own rep c) true := Ev.step (f := fun k => (hucksterlaw29_awake.f k).bind fun t => some t) (fun k => by simp only [hucksterlaw29_StableGrows.j0]; rfl) haw
  unfold hucksterlaw29_StableGrows.f
  obtain ⟨b1, hb1, h20⟩ := light_ev ls hn
  obtain ⟨b2, hb2, _⟩ := light_ev [own, c] (by simp)
  refine Ev.bind hb1 ?_
  cases b1 with
  | false => exact ck_else (by simp) hbad
  | true =>
    refine ck_if rfl (Ev.bind hb2 ?_)
    cases b2 with
    | false => exact hbad
    | true =>
      refine Ev.step (f := fun k => (stable_Learn.f k ls own rep c).bind fun bt286 => (if bt286.2 = 0 then ((stable_Stable.f k ls own).bind fun t291 => ((stable_Stable.f k bt286.1 own).bind fun t294 => (hucksterlaw29_StableGrows.l0 k ls bt286.1 t291 t294 0 own rep c))) else ((hucksterlaw29_awake.f k).bind fun t290 => (some t290)))) (fun k => by simp only [hucksterlaw29_StableGrows.j0]; rfl) ?_
      refine Ev.bind (pLearn_ev ls own rep c) ?_
      by_cases h : mayS ls own = true ∧ okC c = true ∧ 1 ≤ rep ∧ rep ≤ ls.length
      · have e : learnP ls own rep c = (learnS ls own rep c, 0) := by
          unfold learnP
          rw [if_pos h]
        rw [e]
        refine ck_if rfl ?_
        have p1 := pStable_ev ls own
        have p2 := pStable_ev (learnS ls own rep c) own
        unfold stableP at p1 p2
        rw [if_pos h.1] at p1
        rw [if_pos (learn_may h.1)] at p2
        exact Ev.bind p1 (Ev.bind p2 (grows_loop ls own rep c (mayS_iff.1 h.1).1.2 hs ho h.2.2.1 ls.length 0 (by omega)))
      · have e : learnP ls own rep c = ([], 1) := by
          unfold learnP
          rw [if_neg h]
        rw [e]
        exact ck_else (by simp) haw
end Go.Proofs.Ytjpjdipdhakjnaa.Pure

/- StableLearns: what is known behind any clock that is learned, and what is stable. -/
import Derived.Test.YtjpjdipdhakjnaaStableRef
import Derived.Test.YtjpjdipdhakjnaaPStabx5
namespace Go.Proofs.Ytjpjdipdhakjnaa.Pure
open Go.RowKit Go.Proofs.Ytjpjdipdhakjnaa.PStab Go.Proofs.YtjpjdipdhakjnaaW.PrintWords Go.Proofs.YtjpjdipdhakjnaaW.PrintLast Go.Proofs.Ytjpjdipdhakjnaa.ClockBase
set_option linter.unusedVariables false
set_option linter.unusedSimpArgs false

theorem new_eq (n : Int) : stable_New.f n = some (if 1 ≤ n ∧ n ≤ 5 then (List.replicate n.toNat [], 0) else ([], 1)) := by
  unfold stable_New.f
  by_cases h1 : n < 1
  · rw [if_pos h1, if_neg (by omega)]
  · rw [if_neg h1]
    by_cases h5 : n > 5
    · rw [if_pos h5, if_neg (by omega)]
    · rw [if_neg h5, if_pos (by omega), if_pos (by omega), if_pos (by omega)]
theorem learn_short (ls : List (List Int)) (own : List Int) (rep : Int) (c : List Int) : Short (learnS ls own rep c) := by
  have h1 : Short (ls.map pl) := fun x hx => by
    obtain ⟨y, _, rfl⟩ := List.mem_map.1 hx
    exact Nat.le_trans (pl_len y) (by decide)
  unfold learnS
  split
  · intro x hx
    rcases List.mem_or_eq_of_mem_set hx with hx | hx
    · exact h1 x hx
    · subst hx
      exact trim_five (good_join _)
  · exact h1
theorem StableLearns (ls : List (List Int)) (own : List Int) (rep : Int) (c : List Int) (hn : ls.length ≤ 140737488355328) (hs : Short ls) (ho : own.length ≤ 140737488355328) (hc : c.length ≤ 140737488355328) : ∃ k, hucksterlaw29_StableLearns.f k ls own rep c = some true := by
  refine Ev.rounds (g := fun k => hucksterlaw29_StableLearns.f k ls own rep c) ?_
  have haw : Ev (fun k => (hucksterlaw29_awake.f k).bind fun t => some t) true := Ev.bind awake_ev (Ev.now _)
  have hbad : Ev (fun k => hucksterlaw29_StableLearns.j0 k ls true own rep c) true := Ev.step (f := fun k => (hucksterlaw29_awake.f k).bind fun t => some t) (fun k => by simp only [hucksterlaw29_StableLearns.j0]; rfl) haw
  unfold hucksterlaw29_StableLearns.f
  obtain ⟨b1, hb1, h20⟩ := light_ev ls hn
  obtain ⟨b2, hb2, _⟩ := light_ev [own, c] (by simp)
  refine Ev.bind hb1 ?_
  cases b1 with
  | false => exact ck_else (by simp) hbad
  | true =>
    refine ck_if rfl (Ev.bind hb2 ?_)
    cases b2 with
    | false => exact hbad
    | true =>
      have h2 : ∀ b, b = decide (rep < 1 ∨ rep > (ls.length : Int)) → mayS ls own = true → okC c = true → Ev (fun k => hucksterlaw29_StableLearns.j2 k ls (learnP ls own rep c).1 (learnP ls own rep c).2 b own rep c) true := by
        rintro b rfl hm hk
        by_cases hr : rep < 1 ∨ rep > (ls.length : Int)
        · rw [decide_eq_true hr]
          have e : learnP ls own rep c = ([], 1) := by
            unfold learnP
            rw [if_neg (by omega)]
          rw [e]
          refine Ev.step (f := fun k => (hucksterlaw29_awake.f k).bind fun t => some t) (fun k => ?_) haw
          simp only [hucksterlaw29_StableLearns.j2]
          rfl
        · rw [decide_eq_false hr]
          have e : learnP ls own rep c = (learnS ls own rep c, 0) := by
            unfold learnP
            rw [if_pos ⟨hm, hk, by omega, by omega⟩]
          rw [e]
          refine Ev.step (f := fun k => (hucksterref29_Learn.f k ls own rep c).bind fun t => (hucksterref29_Same.f k (learnS ls own rep c) t).bind fun q => if q = true then (hucksterlaw29_awake.f k).bind fun t => some t else some false) (fun k => ?_) ?_
          · simp only [hucksterlaw29_StableLearns.j2]
            rfl
          · have h5 := (mayS_iff.1 hm).1.2
            refine Ev.bind (rLearn_ev ls own rep c h5 (by omega) hs ho hc) (Ev.bind (rSame_yes _ (by rw [learn_length]; exact hn) (learn_short _ _ _ _)) (ck_if rfl haw))
      have hbad2 : mayS ls own = true → ¬ okC c = true → Ev (fun k => hucksterlaw29_StableLearns.j2 k ls (learnP ls own rep c).1 (learnP ls own rep c).2 true own rep c) true := by
        intro hm hk
        have e : learnP ls own rep c = ([], 1) := by
          unfold learnP
          rw [if_neg (fun h => hk h.2.1)]
        rw [e]
        refine Ev.step (f := fun k => (hucksterlaw29_awake.f k).bind fun t => some t) (fun k => ?_) haw
        simp only [hucksterlaw29_StableLearns.j2]
        rfl
      have h1 : Ev (fun k => hucksterlaw29_StableLearns.j1 k ls (learnP ls own rep c).1 (learnP ls own rep c).2 (stableP ls own) false own rep c) true := by
        by_cases hm : mayS ls own = true
        · refine Ev.step (f := fun k => (hucksterref29_May.f k ls own).bind fun t => if t = true then (hucksterref29_Stable.f k ls own).bind fun t => (hucksterref03_Same.f k (stableP ls own) t).bind fun t => if t = true then (hucksterref03_May.f k c).bind fun t => if t = true then (if rep < 1 then hucksterlaw29_StableLearns.j2 k ls (learnP ls own rep c).1 (learnP ls own rep c).2 true own rep c else hucksterlaw29_StableLearns.j2 k ls (learnP ls own rep c).1 (learnP ls own rep c).2 (decide (rep > (ls.length : Int))) own rep c) else hucksterlaw29_StableLearns.j2 k ls (learnP ls own rep c).1 (learnP ls own rep c).2 true own rep c else some false else some true) (fun k => ?_) ?_
          · simp only [hucksterlaw29_StableLearns.j1]
            rw [if_neg (by simp)]
            cases hmay : hucksterref29_May.f k ls own with
            | none => rfl
            | some t =>
              simp only [Option.bind_some]
              cases t with
              | true => rfl
              | false =>
                exfalso
                have h := Ev.of (g := fun k => hucksterref29_May.f k ls own) (fun k => hucksterref29_May.mono _ _ _) hmay
                obtain ⟨K1, hK1⟩ := h
                obtain ⟨K2, hK2⟩ := rMay_ev ls own hn hs ho
                have e1 := hK1 (K1 + K2) (by omega)
                have e2 := hK2 (K1 + K2) (by omega)
                rw [e1] at e2
                rw [hm] at e2
                cases e2
          · refine Ev.bind (rMay_ev ls own hn hs ho) (ck_if hm (Ev.bind (rStable_ev ls own hn hs ho) ?_))
            have e : stableP ls own = stableS ls own := by unfold stableP; rw [if_pos hm]
            rw [e]
            have hlen : (stableS ls own).length ≤ 140737488355328 := by
              rw [← stable_plain]
              exact Nat.le_trans (pl_len _) (by decide)
            refine Ev.bind (same_yes _ hlen) (ck_if rfl (Ev.bind (may_ev c hc) ?_))
            by_cases hk : okC c = true
            · refine ck_if hk ?_
              by_cases hr : rep < 1
              · exact ck_if hr (h2 _ (by rw [decide_eq_true (Or.inl hr)]) hm hk)
              · refine ck_else hr (h2 _ ?_ hm hk)
                exact decide_eq_decide.2 ⟨Or.inr, fun h => h.resolve_left hr⟩
            · exact ck_else hk (hbad2 hm hk)
        · have e : learnP ls own rep c = ([], 1) := by
            unfold learnP
            rw [if_neg (fun h => hm h.1)]
          have e' : stableP ls own = [] := by unfold stableP; rw [if_neg hm]
          rw [e, e']
          refine Ev.step (f := fun k => (hucksterref29_May.f k ls own).bind fun t => if t = true then some true else (hucksterlaw29_awake.f k).bind fun t => some t) (fun k => ?_) ?_
          · simp only [hucksterlaw29_StableLearns.j1]
            rw [if_neg (by simp)]
            cases hmay : hucksterref29_May.f k ls own with
            | none => rfl
            | some t =>
              simp only [Option.bind_some]
              cases t with
              | false => rfl
              | true =>
                exfalso
                have h := Ev.of (g := fun k => hucksterref29_May.f k ls own) (fun k => hucksterref29_May.mono _ _ _) hmay
                obtain ⟨K1, hK1⟩ := h
                obtain ⟨K2, hK2⟩ := rMay_ev ls own hn hs ho
                have e1 := hK1 (K1 + K2) (by omega)
                have e2 := hK2 (K1 + K2) (by omega)
                rw [e1] at e2
                exact hm (Option.some.inj e2).symm
          · exact Ev.bind (rMay_ev ls own hn hs ho) (ck_else hm haw)
      refine Ev.step (f := fun k => (stable_Learn.f k ls own rep c).bind fun bt => (stable_Stable.f k ls own).bind fun t => hucksterlaw29_StableLearns.j1 k ls bt.1 bt.2 t false own rep c) (fun k => ?_) (Ev.bind (pLearn_ev ls own rep c) (Ev.bind (pStable_ev ls own) h1))
      simp only [hucksterlaw29_StableLearns.j0, new_eq, Option.bind_some]
      rw [if_neg (by simp)]
      congr 1
      funext bt
      congr 1
      funext t
      by_cases hr : 1 ≤ rep ∧ rep ≤ 5
      · have e1 : rep ≥ 1 := hr.1
        have e5 : rep ≤ 5 := hr.2
        have hl : ((List.replicate rep.toNat ([] : List Int)).length : Int) = rep := by rw [List.length_replicate]; omega
        rw [if_pos hr]
        simp only [if_pos e1, decide_eq_true e5, if_pos hl]
        rfl
      · by_cases e1 : rep ≥ 1
        · have e5 : ¬ rep ≤ 5 := fun h => hr ⟨e1, h⟩
          simp [hr, e1, e5]
        · simp [hr, e1]
end Go.Proofs.Ytjpjdipdhakjnaa.Pure

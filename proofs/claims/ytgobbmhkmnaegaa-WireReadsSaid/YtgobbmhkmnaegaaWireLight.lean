/- Texts that are few and light. -/
import Derived.Test.YtgobbmhkmnaegaaWireAid
import Derived.Test.YtgobbmhkmnaegaaPWirex1
namespace Go.Proofs.Ytgobbmhkmnaegaa.PWire
open Go.RowKit Go.Proofs.YtgobbmhkmnaegaaW.PrintWords Go.Proofs.YtgobbmhkmnaegaaW.PrintLast Go.Proofs.Ytgobbmhkmnaegaa.Wr
set_option linter.unusedVariables false
set_option linter.unusedSimpArgs false

theorem texts_length : ∀ (l : List (List Int)), (∀ t ∈ l, t.length ≤ 4000) → (texts l).length ≤ l.length * 4009
  | [], _ => by simp [texts]
  | t :: ts, h => by
    have h1 := texts_length ts (fun x hx => h x (List.mem_cons_of_mem _ hx))
    have h2 := h t (by simp)
    have h3 := text_length t (by omega)
    rw [texts_cons, List.length_append, List.length_cons]
    omega
theorem pack_length (l : List (List Int)) (hn : l.length ≤ 60) (hl : ∀ t ∈ l, t.length ≤ 4000) : (pack l).length ≤ 300000 := by
  have h1 := texts_length l hl
  have h2 := num_length l.length
  have h3 := be_len8 (show l.length < 18446744073709551616 by omega)
  unfold pack
  rw [List.length_append]
  omega
theorem light_loop (l : List (List Int)) (hg : ∀ t ∈ l, t.length ≤ 140737488351232) (d : Nat) : ∀ (i s : Nat), i + d = l.length → i ≤ 61 → s ≤ 4000 + 140737488351232 → (∀ j (h : j < l.length), j < i → l[j].length ≤ s) → ∃ b, Ev (fun k => hucksterlaw02_Light.l0 k l (s : Int) (i : Int)) b ∧ (b = true → l.length ≤ 60 ∧ ∀ t ∈ l, t.length ≤ 4000) := by
  induction d with
  | zero =>
    intro i s hi hi61 hs hj
    by_cases h1 : (l.length : Int) ≤ 60
    · refine ⟨decide ((s : Int) ≤ 4000), ?_, ?_⟩
      · refine Ev.step (f := fun _ => some (decide ((s : Int) ≤ 4000))) (fun k => ?_) (Ev.now _)
        simp only [hucksterlaw02_Light.l0]
        rw [if_neg (by omega), if_pos h1]
      · intro h
        have h := of_decide_eq_true h
        refine ⟨by omega, fun t ht => ?_⟩
        obtain ⟨j, hj1, rfl⟩ := List.mem_iff_getElem.1 ht
        have := hj j hj1 (by omega)
        omega
    · refine ⟨false, ?_, fun h => by cases h⟩
      refine Ev.step (f := fun _ => some false) (fun k => ?_) (Ev.now _)
      simp only [hucksterlaw02_Light.l0]
      rw [if_neg (by omega), if_neg h1]
  | succ d ih =>
    intro i s hi hi61 hs hj
    have hil : i < l.length := by omega
    by_cases h60 : i ≤ 60
    · by_cases h4 : s ≤ 4000
      · have ht := hg l[i] (List.getElem_mem hil)
        have hw : wrap64 ((i : Int) + 1) = ((i + 1 : Nat) : Int) := by unfold wrap64; omega
        have hw2 : wrap64 ((s : Int) + (l[i].length : Int)) = ((s + l[i].length : Nat) : Int) := by rw [wl_w64 (by omega) (by omega)]; omega
        obtain ⟨b, hb, hb2⟩ := ih (i + 1) (s + l[i].length) (by omega) (by omega) (by omega) (fun j hj1 hj2 => by
          by_cases hji : j = i
          · subst hji
            omega
          · have := hj j hj1 (by omega)
            omega)
        refine ⟨b, ?_, hb2⟩
        refine Ev.step (fun k => ?_) hb
        simp only [hucksterlaw02_Light.l0]
        rw [if_pos (by omega), if_pos (by omega), if_pos (by omega), if_pos (by omega), wl_rdL hil, hw, hw2]
      · refine ⟨false, ?_, fun h => by cases h⟩
        refine Ev.step (f := fun _ => some false) (fun k => ?_) (Ev.now _)
        simp only [hucksterlaw02_Light.l0]
        rw [if_pos (by omega), if_pos (by omega), if_neg (by omega)]
        by_cases h1 : (l.length : Int) ≤ 60
        · rw [if_pos h1, decide_eq_false (by omega)]
        · rw [if_neg h1]
    · refine ⟨false, ?_, fun h => by cases h⟩
      refine Ev.step (f := fun _ => some false) (fun k => ?_) (Ev.now _)
      simp only [hucksterlaw02_Light.l0]
      rw [if_pos (by omega), if_neg (by omega), if_neg (by omega)]
theorem light_ev (l : List (List Int)) (hg : ∀ t ∈ l, t.length ≤ 140737488351232) : ∃ b, Ev (fun k => hucksterlaw02_Light.f k l) b ∧ (b = true → l.length ≤ 60 ∧ ∀ t ∈ l, t.length ≤ 4000) := by
  unfold hucksterlaw02_Light.f
  exact light_loop l hg l.length 0 0 (by omega) (by omega) (by omega) (fun j _ hj => by omega)
end Go.Proofs.Ytgobbmhkmnaegaa.PWire

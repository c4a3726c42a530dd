/- WireGets: which number, text and pack any bytes begin with is the reference's word. -/
import Derived.Test.YtgobbmhkmnaegaaWireAid
import Derived.Test.YtgobbmhkmnaegaaPWirex7
namespace Go.Proofs.Ytgobbmhkmnaegaa.Pure
open Go.RowKit Go.Proofs.Ytgobbmhkmnaegaa.PWire Go.Proofs.YtgobbmhkmnaegaaW.PrintWords Go.Proofs.YtgobbmhkmnaegaaW.PrintLast Go.Proofs.Ytgobbmhkmnaegaa.Wr
set_option linter.unusedVariables false
set_option linter.unusedSimpArgs false

theorem WireGets : hucksterlaw02_WireGets.Pure := by
  intro l0 a1 hm hr hw h1
  refine Ev.rounds (g := fun k => hucksterlaw02_WireGets.f k l0 a1) ?_
  unfold hucksterlaw02_WireGets.f
  have hb : Wr.Bytes l0 := bytes_of hw
  clear hm hw
  by_cases hl : (l0.length : Int) > 3000
  · exact wl_if hl (Ev.bind awake_ev (Ev.now _))
  · have hn : l0.length ≤ 140737488351232 := by omega
    have hn3 : l0.length ≤ 3000 := by omega
    refine wl_else hl ?_
    refine Ev.bind (getNum_ev l0 hb hn) ?_
    refine Ev.bind (refGetNum_ev l0 hb hn) ?_
    refine Ev.bind (getText_ev l0 hb hn) ?_
    refine Ev.bind (refGetText_ev l0 hb hn) ?_
    have hj2 : ∀ x : Bool, x = (if a1 < 0 then true else decide (a1 > 1000)) → Ev (fun k => (wire_Unpack.f k l0 a1).bind fun bt => hucksterlaw02_WireGets.j2 k l0 a1 bt.1 bt.2.1 bt.2.2 x) true := by
      intro x hx
      by_cases hbad : a1 < 0 ∨ 1000 < a1
      · have hx1 : x = true := by
          rw [hx]
          by_cases h0 : a1 < 0
          · rw [if_pos h0]
          · rw [if_neg h0]
            exact decide_eq_true (by omega)
        subst hx1
        refine Ev.bind (unpack_arg l0 a1 hbad) ?_
        refine Ev.step (f := fun k => (hucksterlaw02_awake.f k).bind fun t => some t) (fun k => ?_) (Ev.bind awake_ev (Ev.now _))
        simp only [hucksterlaw02_WireGets.j2]
        rfl
      · have hx1 : x = false := by
          rw [hx, if_neg (by omega)]
          exact decide_eq_false (by omega)
        subst hx1
        obtain ⟨m, hm1, hm2⟩ : ∃ m : Nat, a1 = (m : Int) ∧ m ≤ 1000 := ⟨a1.toNat, by omega, by omega⟩
        subst hm1
        refine Ev.bind (unpack_ev l0 hb hn m hm2) ?_
        refine Ev.step (f := fun k => (hucksterref02_Unpack.f k l0 (m : Int)).bind fun bt => (hucksterref02_Packs.f k (packR l0 m).1 bt.1).bind fun t => if t = true then (if (packR l0 m).2.1 = bt.2 then (if (((packR l0 m).2.2 == 0) == (decide (bt.2 > 0))) = true then (if (((packR l0 m).2.2 == 2) == (bt.2 == 0)) = true then ((hucksterlaw02_awake.f k).bind fun t => some t) else some false) else some false) else some false) else some false) (fun k => ?_) ?_
        · simp only [hucksterlaw02_WireGets.j2]
          rw [if_neg (by simp)]
        · refine Ev.bind (refUnpack_ev l0 hb hn m hm2) ?_
          have hpr : (packR l0 m).1 = (packR2 l0 m).1 ∧ (packR l0 m).2.1 = (packR2 l0 m).2 ∧ (((packR l0 m).2.2 == 0) == (decide ((packR2 l0 m).2 > 0))) = true ∧ (((packR l0 m).2.2 == 2) == ((packR2 l0 m).2 == 0)) = true ∧ (packR l0 m).1.length ≤ 1000000000000 ∧ ∀ t ∈ (packR l0 m).1, t.length ≤ 140737488355328 := by
            unfold packR packR2
            cases hu : unpack l0 m with
            | none => exact ⟨rfl, rfl, rfl, rfl, by simp, fun t ht => by cases ht⟩
            | some p =>
              obtain ⟨ts, n⟩ := p
              obtain ⟨b1, b2, b3, b4, b5, b6⟩ := unpack_some hb hu
              clear b1 b3
              have hd : decide ((n : Int) > 0) = true := decide_eq_true (by omega)
              have hz : ((n : Int) == 0) = false := beq_eq_false_iff_ne.2 (by omega)
              refine ⟨rfl, rfl, ?_, ?_, ?_, ?_⟩
              · simp only [hd]
                rfl
              · simp only [hz]
                rfl
              · simp only
                omega
              · intro t ht
                have := (b6 t ht).1
                omega
          obtain ⟨p1, p2, p3, p4, p5, p6⟩ := hpr
          refine Ev.bind (packs_ev (packR l0 m).1 (packR2 l0 m).1 p5 p6) ?_
          refine wl_if (decide_eq_true p1) ?_
          refine wl_if p2 ?_
          refine wl_if p3 ?_
          refine wl_if p4 ?_
          exact Ev.bind awake_ev (Ev.now _)
    have hj1 : Ev (fun k => hucksterlaw02_WireGets.j1 k l0 a1 false) true := by
      refine Ev.step (f := fun k => (wire_Unpack.f k l0 a1).bind fun bt => hucksterlaw02_WireGets.j2 k l0 a1 bt.1 bt.2.1 bt.2.2 (if a1 < 0 then true else decide (a1 > 1000))) (fun k => ?_) (hj2 _ rfl)
      simp only [hucksterlaw02_WireGets.j1]
      rw [if_neg (by simp)]
      congr 1
      funext bt
      by_cases h0 : a1 < 0
      · rw [if_pos h0, if_pos h0]
      · rw [if_neg h0, if_neg h0]
    have ht : (textR l0).1 = (textR2 l0).1 ∧ (textR l0).2.1 = (textR2 l0).2 ∧ (((textR l0).2.2 == 0) != (decide ((textR2 l0).2 > 0))) = false ∧ (((textR l0).2.2 == 2) != ((textR2 l0).2 == 0)) = false ∧ (textR l0).1.length ≤ 140737488355328 := by
      unfold textR textR2
      cases hu : getText l0 with
      | none => exact ⟨rfl, rfl, rfl, rfl, by simp⟩
      | some p =>
        obtain ⟨t, n⟩ := p
        have hp := text_pos hb hu
        have b2 := (getText_some hb hu).2.1
        have hd : decide ((n : Int) > 0) = true := decide_eq_true (by omega)
        have hz : ((n : Int) == 0) = false := beq_eq_false_iff_ne.2 (by omega)
        refine ⟨rfl, rfl, ?_, ?_, ?_⟩
        · simp only [hd]
          rfl
        · simp only [hz]
          rfl
        · simp only
          omega
    have hj0 : Ev (fun k => hucksterlaw02_WireGets.j0 k l0 a1 (textR l0).1 (textR l0).2.1 (textR l0).2.2 (textR2 l0).1 (textR2 l0).2 false) true := by
      obtain ⟨p1, p2, p3, p4, p5⟩ := ht
      refine Ev.step (f := fun k => (hucksterref02_Bytes.f k (textR l0).1 (textR2 l0).1).bind fun t => if t = true then hucksterlaw02_WireGets.j1 k l0 a1 false else hucksterlaw02_WireGets.j1 k l0 a1 true) (fun k => ?_) ?_
      · simp only [hucksterlaw02_WireGets.j0]
        rw [if_neg (by simp)]
        congr 1
        funext t
        rw [if_pos p2, p3, p4, if_neg (show ¬ (false = true) by simp)]
      · refine Ev.bind (eq_ev _ _ p5) ?_
        exact wl_if (decide_eq_true p1) hj1
    have hq : (numR l0).1 = (numR2 l0).1 ∧ (numR l0).2.1 = (numR2 l0).2 ∧ (((numR l0).2.2 == 0) != (decide ((numR2 l0).2 > 0))) = false ∧ (((numR l0).2.2 == 2) != ((numR2 l0).2 == 0)) = false := by
      unfold numR numR2
      cases hu : getNum l0 with
      | none => exact ⟨rfl, rfl, rfl, rfl⟩
      | some p =>
        obtain ⟨u, n⟩ := p
        have hp := num_pos hb hu
        have hd : decide ((n : Int) > 0) = true := decide_eq_true (by omega)
        have hz : ((n : Int) == 0) = false := beq_eq_false_iff_ne.2 (by omega)
        refine ⟨rfl, rfl, ?_, ?_⟩
        · simp only [hd]
          rfl
        · simp only [hz]
          rfl
    obtain ⟨q1, q2, q3, q4⟩ := hq
    refine wl_if q1 ?_
    refine wl_if q2 ?_
    rw [q3, q4]
    exact wl_else (by simp) hj0
end Go.Proofs.Ytgobbmhkmnaegaa.Pure

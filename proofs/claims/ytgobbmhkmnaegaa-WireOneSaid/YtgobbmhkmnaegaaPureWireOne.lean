/- WireOne: what bytes begin with, put again, is just these bytes. -/
import Derived.Test.YtgobbmhkmnaegaaWireAid
import Derived.Test.YtgobbmhkmnaegaaPWirex9
namespace Go.Proofs.Ytgobbmhkmnaegaa.Pure
open Go.RowKit Go.Proofs.Ytgobbmhkmnaegaa.PWire Go.Proofs.YtgobbmhkmnaegaaW.PrintWords Go.Proofs.YtgobbmhkmnaegaaW.PrintLast Go.Proofs.Ytgobbmhkmnaegaa.Wr
set_option linter.unusedVariables false
set_option linter.unusedSimpArgs false

theorem WireOne : hucksterlaw02_WireOne.Pure := by
  intro l0 hm hr hw
  refine Ev.rounds (g := fun k => hucksterlaw02_WireOne.f k l0) ?_
  unfold hucksterlaw02_WireOne.f
  have hb : Wr.Bytes l0 := bytes_of hw
  clear hm hw
  by_cases hl : (l0.length : Int) > 3000
  · exact wl_if hl (Ev.bind awake_ev (Ev.now _))
  · have hn : l0.length ≤ 140737488351232 := by omega
    have hn3 : l0.length ≤ 3000 := by omega
    refine wl_else hl ?_
    refine Ev.bind (getNum_ev l0 hb hn) ?_
    refine Ev.bind (getText_ev l0 hb hn) ?_
    refine Ev.bind (unpack_ev l0 hb hn 1000 (by omega)) ?_
    have hj1 : Ev (fun k => hucksterlaw02_WireOne.j1 k l0 (packR l0 1000).1 (packR l0 1000).2.1 (packR l0 1000).2.2 false) true := by
      unfold packR
      cases hu : unpack l0 1000 with
      | none =>
        refine Ev.step (f := fun k => (hucksterlaw02_awake.f k).bind fun t => some t) (fun k => ?_) (Ev.bind awake_ev (Ev.now _))
        simp only [hucksterlaw02_WireOne.j1] <;> rfl
      | some p =>
        obtain ⟨ts, n⟩ := p
        obtain ⟨b1, b2, b3, b4, b5, b6⟩ := unpack_some hb hu
        clear b3
        refine Ev.step (f := fun k => (wire_Pack.f k ts).bind fun t => (hucksterref02_Bytes.f k t (l0.take n)).bind fun q => if q = true then ((hucksterlaw02_awake.f k).bind fun t => some t) else some false) (fun k => ?_) ?_
        · simp only [hucksterlaw02_WireOne.j1]
          have n1 : (n : Int) ≤ (l0.length : Int) := by omega
          have n2 : (n : Int) ≥ 1 := by omega
          have n3 : (0 : Int) ≤ (n : Int) := by omega
          rw [if_neg (by simp), if_pos trivial, if_pos n1, if_pos n2]
          simp only [if_pos n3, Int.toNat_natCast]
        · refine Ev.bind (pack_ev ts (by omega) (fun t ht => by have := (b6 t ht).1; omega)) ?_
          rw [← b1]
          refine Ev.bind (eq_ev _ _ (by rw [List.length_take]; omega)) ?_
          exact wl_if (decide_eq_true rfl) (Ev.bind awake_ev (Ev.now _))
    have hj0 : Ev (fun k => hucksterlaw02_WireOne.j0 k l0 (textR l0).1 (textR l0).2.1 (textR l0).2.2 (packR l0 1000).1 (packR l0 1000).2.1 (packR l0 1000).2.2 false) true := by
      unfold textR
      cases hu : getText l0 with
      | none =>
        refine Ev.step (fun k => ?_) hj1
        simp only [hucksterlaw02_WireOne.j0] <;> rfl
      | some p =>
        obtain ⟨t, n⟩ := p
        have hp := text_pos hb hu
        obtain ⟨b1, b2, b3, b4, b5⟩ := getText_some hb hu
        clear b3
        refine Ev.step (f := fun k => (wire_Text.f k t).bind fun q => (hucksterref02_Bytes.f k q (l0.take n)).bind fun x => hucksterlaw02_WireOne.j1 k l0 (packR l0 1000).1 (packR l0 1000).2.1 (packR l0 1000).2.2 (!x)) (fun k => ?_) ?_
        · simp only [hucksterlaw02_WireOne.j0]
          have n1 : ¬ ((n : Int) > (l0.length : Int)) := by omega
          have n2 : ¬ ((n : Int) < 1) := by omega
          have n3 : (0 : Int) ≤ (n : Int) := by omega
          have n4 : (n : Int) ≤ (l0.length : Int) := by omega
          rw [if_neg (by simp), if_pos trivial, if_neg n1, if_neg n2]
          congr 1
          funext q
          rw [if_pos n3, if_pos n4, Int.toNat_natCast]
        · refine Ev.bind (text_ev t (by omega)) ?_
          rw [← b1]
          refine Ev.bind (eq_ev _ _ (by rw [List.length_take]; omega)) ?_
          rw [decide_eq_true rfl]
          exact hj1
    unfold numR
    cases hu : getNum l0 with
    | none => exact wl_else (by decide) hj0
    | some p =>
      obtain ⟨u, n⟩ := p
      have hp := num_pos hb hu
      obtain ⟨b1, b2, b3, b4⟩ := getNum_some hb hu
      clear b3
      simp only
      have n1 : ¬ ((n : Int) > (l0.length : Int)) := by omega
      have n2 : ¬ ((n : Int) < 1) := by omega
      have n3 : (0 : Int) ≤ (n : Int) := by omega
      have n4 : (n : Int) ≤ (l0.length : Int) := by omega
      refine wl_if trivial ?_
      refine wl_else n1 ?_
      refine wl_else n2 ?_
      refine Ev.bind (num_ev u b2) ?_
      refine wl_if n3 ?_
      refine wl_if n4 ?_
      rw [Int.toNat_natCast, b1]
      have h8 := be_len8 b2
      have hnl := num_length u
      refine Ev.bind (eq_ev _ _ (by omega)) ?_
      rw [decide_eq_true rfl]
      exact hj0
end Go.Proofs.Ytgobbmhkmnaegaa.Pure

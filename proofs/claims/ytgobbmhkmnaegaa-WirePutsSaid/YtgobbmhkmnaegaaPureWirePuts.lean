/- WirePuts: the bytes of any number and texts are the reference's. -/
import Derived.Test.YtgobbmhkmnaegaaWireLight
import Derived.Test.YtgobbmhkmnaegaaPWirex1
import Derived.Test.YtgobbmhkmnaegaaPWirex3
namespace Go.Proofs.Ytgobbmhkmnaegaa.Pure
open Go.RowKit Go.Proofs.Ytgobbmhkmnaegaa.PWire Go.Proofs.YtgobbmhkmnaegaaW.PrintWords Go.Proofs.YtgobbmhkmnaegaaW.PrintLast Go.Proofs.Ytgobbmhkmnaegaa.Wr
set_option linter.unusedVariables false
set_option linter.unusedSimpArgs false

theorem puts_loop (u : Nat) (hu : u < 18446744073709551616) (l : List (List Int)) (hn : l.length ≤ 60) (hl : ∀ t ∈ l, t.length ≤ 4000) (d : Nat) : ∀ (i : Nat), i + d = l.length → Ev (fun k => hucksterlaw02_WirePuts.l0 k (u : Int) l (i : Int)) true := by
  have hpl := pack_length l hn hl
  induction d with
  | zero =>
    intro i hi
    refine Ev.step (f := fun k => (wire_Num.f k (u : Int)).bind fun t190 => ((hucksterref02_Num.f k (u : Int)).bind fun t193 => ((hucksterref02_Bytes.f k t190 t193).bind fun t196 => (if t196 = true then ((wire_Pack.f k l).bind fun t197 => ((hucksterref02_Pack.f k l).bind fun t200 => ((hucksterref02_Bytes.f k t197 t200).bind fun t203 => (if t203 = true then ((hucksterlaw02_awake.f k).bind fun t204 => (some t204)) else (some false))))) else (some false))))) (fun k => ?_) ?_
    · simp only [hucksterlaw02_WirePuts.l0]
      rw [if_neg (by omega)]
    · have hnl := num_length u
      have h8 := be_len8 hu
      refine Ev.bind (num_ev u hu) (Ev.bind (refNum_ev u hu) (Ev.bind (eq_ev _ _ (by omega)) ?_))
      refine wl_if (decide_eq_true rfl) ?_
      refine Ev.bind (pack_ev l (by omega) (fun t ht => by have := hl t ht; omega)) ?_
      refine Ev.bind (refPack_ev l (by omega) (fun t ht => by have := hl t ht; omega)) ?_
      refine Ev.bind (eq_ev _ _ (by omega)) ?_
      exact wl_if (decide_eq_true rfl) (Ev.bind awake_ev (Ev.now _))
  | succ d ih =>
    intro i hi
    have hil : i < l.length := by omega
    have hw : wrap64 ((i : Int) + 1) = ((i + 1 : Nat) : Int) := by unfold wrap64; omega
    have ht := hl l[i] (List.getElem_mem hil)
    have htl := text_length l[i] (by omega)
    refine Ev.step (f := fun k => (wire_Text.f k l[i]).bind fun t182 => ((hucksterref02_Text.f k l[i]).bind fun t186 => ((hucksterref02_Bytes.f k t182 t186).bind fun t189 => (if t189 = true then (hucksterlaw02_WirePuts.l0 k (u : Int) l ((i + 1 : Nat) : Int)) else (some false))))) (fun k => ?_) ?_
    · simp only [hucksterlaw02_WirePuts.l0]
      rw [if_pos (by omega), if_pos (by omega), wl_rdL hil, hw]
    · refine Ev.bind (text_ev _ (by omega)) (Ev.bind (refText_ev _ (by omega)) (Ev.bind (eq_ev _ _ (by omega)) ?_))
      exact wl_if (decide_eq_true rfl) (ih (i + 1) (by omega))
theorem WirePuts (a0 : Int) (h0 : (Lit.int .u64 a0).wf = true) (l1 : List (List Int)) (hm : l1.length * 24 ≤ 140737488351232) (hg : ∀ t ∈ l1, t.length * 1 ≤ 140737488351232 ∧ ∀ x ∈ t, (Lit.int .u8 x).wf = true) : ∃ k, hucksterlaw02_WirePuts.f k a0 l1 = some true := by
  refine Ev.rounds (g := fun k => hucksterlaw02_WirePuts.f k a0 l1) ?_
  unfold hucksterlaw02_WirePuts.f
  obtain ⟨b, hb, hlight⟩ := light_ev l1 (fun t ht => by have := (hg t ht).1; omega)
  refine Ev.bind hb ?_
  cases b with
  | false => exact wl_else (by simp) (Ev.bind awake_ev (Ev.now _))
  | true =>
    obtain ⟨hn, hl⟩ := hlight rfl
    refine wl_if rfl ?_
    have hu := bounds_u64 h0
    obtain ⟨u, rfl⟩ : ∃ u : Nat, a0 = (u : Int) := ⟨a0.toNat, by omega⟩
    exact puts_loop u (by omega) l1 hn hl l1.length 0 (by omega)
end Go.Proofs.Ytgobbmhkmnaegaa.Pure

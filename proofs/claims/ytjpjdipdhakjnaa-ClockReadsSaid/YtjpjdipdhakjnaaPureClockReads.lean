/- ClockReads: any clock's bytes, that they are read, and which clock any bytes begin with. -/
import Derived.OpenShut
import Derived.Test.YtjpjdipdhakjnaaClockBytesEv
import Derived.Test.YtjpjdipdhakjnaaClockAid
import Derived.Test.YtjpjdipdhakjnaaPReadx8
namespace Go.Proofs.Ytjpjdipdhakjnaa.Pure
open Go.RowKit Go.Proofs.Ytjpjdipdhakjnaa.PRead Go.Proofs.YtjpjdipdhakjnaaW.PrintWords Go.Proofs.YtjpjdipdhakjnaaW.PrintLast Go.Proofs.Ytjpjdipdhakjnaa.ClockBase Go.Proofs.Ytjpjdipdhakjnaa.Wr
set_option linter.unusedVariables false
set_option linter.unusedSimpArgs false

theorem ClockReads : hucksterlaw03_ClockReads.Pure := by
  intro c b hm0 hb0 hw0 hm1 hb1 hw1
  refine Ev.rounds (g := fun k => hucksterlaw03_ClockReads.f k c b) ?_
  have hbb : Wr.Bytes b := fun x hx => by
    have := bounds_u8 (hw1 x hx)
    omega
  have hc : c.length ≤ 140737488355328 := by omega
  have haw : Ev (fun k => (hucksterlaw03_awake.f k).bind fun t => some t) true := Ev.bind awake_ev (Ev.now _)
  have hbad : Ev (fun k => hucksterlaw03_ClockReads.j0 k c b true) true := Ev.step (f := fun k => (hucksterlaw03_awake.f k).bind fun t => some t) (fun k => by simp only [hucksterlaw03_ClockReads.j0]; rfl) haw
  unfold hucksterlaw03_ClockReads.f
  simp only [light_eq, Option.bind_some]
  by_cases hlen : c.length ≤ 50 ∧ ([] : List Int).length ≤ 50
  · refine ck_if (decide_eq_true hlen) ?_
    by_cases hl : (b.length : Int) > 1000
    · rw [decide_eq_true hl]
      exact hbad
    · rw [decide_eq_false hl]
      have hp := putB_len c
      have hx : Wr.Bytes (putB c ++ b) := fun x hx => by
        rcases List.mem_append.1 hx with hx | hx
        · exact putB_bytes c x hx
        · exact hbb x hx
      have i1 : ([] : List Int).length + (putB c).length < 140737488355328 := by rw [List.length_nil]; omega
      have hrp : readP (putB c ++ b) = (trim (ofL c), ((putB c).length : Int), 0) := by unfold readP; rw [read_put]
      have hj1 : Ev (fun k => hucksterlaw03_ClockReads.j1 k (readP b).1 (readP b).2.1 (readP b).2.2 (readQ b).1 (readQ b).2 false) true := by
        have e : (readP b).1 = (readQ b).1 ∧ (readP b).2.1 = (readQ b).2 ∧ (((readP b).2.2 == 0) == decide ((readQ b).2 > 0)) = true ∧ (((readP b).2.2 == 2) == ((readQ b).2 == 0)) = true ∧ (readQ b).1.length ≤ 140737488355328 := by
          unfold readP readQ
          cases hr : readB b with
          | none => exact ⟨rfl, rfl, rfl, rfl, by simp⟩
          | some p =>
            obtain ⟨d, n⟩ := p
            obtain ⟨_, e2, _, _, e5, e6⟩ := read_some hbb hr
            have h5 := (okC_iff.1 e6).1
            refine ⟨rfl, rfl, ?_, ?_, by simp only; omega⟩
            · simp only
              rw [decide_eq_true (by omega)]
              rfl
            · simp only
              have : (((n : Nat) : Int) == 0) = false := by rw [beq_eq_false_iff_ne]; omega
              rw [this]
              rfl
        obtain ⟨e1, e2, e3, e4, e5⟩ := e
        refine Ev.step (f := fun k => (hucksterref03_Same.f k (readQ b).1 (readQ b).1).bind fun t => if t = true then (hucksterlaw03_awake.f k).bind fun t => some t else some false) (fun k => ?_) (Ev.bind (same_yes _ e5) (ck_if rfl haw))
        simp only [hucksterlaw03_ClockReads.j1]
        rw [if_neg (by simp), e1, if_pos e2, if_pos e3, if_pos e4]
      refine Ev.step (f := fun k => (clock_Put.f k c).bind fun t518 => ((some (([] : List Int) : List Int)).bind fun y521 => (if y521.length + t518.length < 140737488355328 then ((some (y521 ++ t518 : List Int)).bind fun y524 => (if y524.length + b.length < 140737488355328 then ((clock_Read.f k (y524 ++ b)).bind fun bt530 => ((clock_Read.f k b).bind fun bt535 => ((hucksterref03_Read.f k b).bind fun bt540 => ((hucksterref03_Put.f k c).bind fun t544 => ((hucksterref02_Bytes.f k t518 t544).bind fun t547 => (if t547 = true then (if bt530.2.2 = 0 then (if bt530.2.1 = (t518.length : Int) then ((hucksterref03_Plain.f k c).bind fun t548 => ((hucksterref03_Same.f k bt530.1 t548).bind fun t551 => (hucksterlaw03_ClockReads.j1 k bt535.1 bt535.2.1 bt535.2.2 bt540.1 bt540.2 (!t551)))) else (hucksterlaw03_ClockReads.j1 k bt535.1 bt535.2.1 bt535.2.2 bt540.1 bt540.2 true)) else (hucksterlaw03_ClockReads.j1 k bt535.1 bt535.2.1 bt535.2.2 bt540.1 bt540.2 true)) else (hucksterlaw03_ClockReads.j1 k bt535.1 bt535.2.1 bt535.2.2 bt540.1 bt540.2 true))))))) else (none))) else (none)))) (fun k => ?_) ?_
      · simp only [hucksterlaw03_ClockReads.j0]
        rfl
      · refine Ev.bind (put_ev c) ?_
        simp only [Option.bind_some, if_pos i1, List.nil_append]
        refine ck_if (by omega) ?_
        refine Ev.bind (read_ev _ hx (by rw [List.length_append]; omega)) ?_
        refine Ev.bind (read_ev b hbb (by omega)) ?_
        refine Ev.bind (refRead_ev b hbb (by omega)) ?_
        refine Ev.bind (refPut_ev c hc) ?_
        refine Ev.bind (eq_ev _ _ (by omega)) ?_
        rw [hrp]
        refine ck_if (decide_eq_true rfl) (ck_if rfl (ck_if rfl ?_))
        refine Ev.bind (plain_ev c hc) ?_
        exact Ev.bind (same_yes _ (trim_five (good_of c))) hj1
  · exact ck_else (by simpa using hlen) hbad
end Go.Proofs.Ytjpjdipdhakjnaa.Pure

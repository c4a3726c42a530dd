/- WireCuts: a record is got, whatever stands behind; any beginning of it ends within. -/
import Derived.Test.YtgobbmhkmnaegaaWireGetRec
import Derived.Test.YtgobbmhkmnaegaaPWirex15
namespace Go.Proofs.Ytgobbmhkmnaegaa.Pure
open Go.RowKit Go.Proofs.Ytgobbmhkmnaegaa.PWire Go.Proofs.YtgobbmhkmnaegaaW.PrintWords Go.Proofs.YtgobbmhkmnaegaaW.PrintLast Go.Proofs.Ytgobbmhkmnaegaa.Wr Go.Proofs.Ytgobbmhkmnaegaa.Crc
set_option linter.unusedVariables false
set_option linter.unusedSimpArgs false

theorem short_whole (u : Nat) (r : List Int) : short (num u ++ r) = false := by
  show short (((be u).length : Int) :: (be u ++ r)) = false
  unfold short
  refine decide_eq_false (fun h => ?_)
  have := h.2.1
  rw [List.length_append] at this
  omega
theorem dig_prefix (l : List Int) (hl : Wr.Bytes l) (h0 : ∀ c t, l = c :: t → 0 < c) (m i : Nat) (hi : i < l.length) : dig (l.take m) i ≤ dig l i := by
  have hd := dig_byte hl i
  by_cases h : i < (l.take m).length
  · unfold dig
    rw [if_pos h, if_pos hi]
    have h' : i < m := by rw [List.length_take] at h; omega
    rw [List.getD_eq_getElem?_getD, List.getD_eq_getElem?_getD, List.getElem?_take, if_pos h']
    exact Int.le_refl _
  · have e : dig (l.take m) i = if i = 0 then 1 else 0 := by unfold dig; rw [if_neg h]
    rw [e]
    by_cases hi0 : i = 0
    · subst hi0
      rw [if_pos rfl]
      cases l with
      | nil => simp at hi
      | cons c t =>
        have := h0 c t rfl
        show 1 ≤ c
        omega
    · rw [if_neg hi0]
      exact hd.1
theorem fl_prefix (l : List Int) (hl : Wr.Bytes l) (h0 : ∀ c t, l = c :: t → 0 < c) (m : Nat) : ∀ i, i ≤ l.length → fl (l.take m) i ≤ fl l i
  | 0, _ => by simp [fl]
  | i + 1, h => by
    have ih := fl_prefix l hl h0 m i (by omega)
    have h1 := dig_prefix l hl h0 m i (by omega)
    rw [fl, fl]
    omega
theorem fl_be (u : Nat) : fl (be u) (be u).length = u := by
  have h := digs_take (be u) (be u).length (Nat.le_refl _)
  rw [List.take_of_length_le (by rw [digs_length]; omega)] at h
  rw [← val_digs, h, val_be]
theorem be_first (u : Nat) : ∀ c t, be u = c :: t → 0 < c := by
  intro c t h
  rcases Nat.eq_zero_or_pos u with h0 | h0
  · subst h0
    rw [be_zero] at h
    cases h
  · obtain ⟨c', t', e, hc⟩ := be_head u h0
    rw [h] at e
    have := (List.cons.inj e).1
    omega
theorem short_cut (u : Nat) (hu : u ≤ 65536) (m : Nat) (hm : m < (num u).length) : short ((num u).take m) = true := by
  cases m with
  | zero => rfl
  | succ m =>
    have e : (num u).take (m + 1) = ((be u).length : Int) :: (be u).take m := rfl
    rw [e]
    have h8 := be_len8 (show u < 18446744073709551616 by omega)
    rw [num_length] at hm
    unfold short
    refine decide_eq_true ⟨by omega, by rw [List.length_take]; omega, ?_, ?_⟩
    · cases m with
      | zero =>
        have : dig ((be u).take 0) 0 = 1 := rfl
        omega
      | succ m =>
        have hf := be_first u
        have hp : 0 < (be u).length := by omega
        clear e h8 hu
        generalize be u = l at hf hp
        cases l with
        | nil => simp at hp
        | cons c t =>
          have h1 := hf c t rfl
          have h2 : dig ((c :: t).take (m + 1)) 0 = c := by
            unfold dig
            rw [if_pos (by simp)]
            rfl
          omega
    · rw [Int.toNat_natCast]
      have h := fl_prefix (be u) (be_bytes u) (be_first u) m (be u).length (Nat.le_refl _)
      rw [fl_be] at h
      omega
theorem recB_length (kind : Int) (body : List Int) : (recB kind body).length = 1 + (num body.length).length + body.length := by
  unfold recB text
  rw [List.length_cons, List.length_append]
  omega
theorem sum4_length (s : Int) : (sum4 s).length = 4 := rfl
theorem record_length (kind : Int) (body : List Int) : (record kind body).length = 1 + (num body.length).length + body.length + 4 := by
  unfold record
  rw [List.length_append, sum4_length, recB_length]
theorem rec_whole (kind : Int) (body more : List Int) (hk : 1 ≤ kind ∧ kind ≤ 200) (hl : body.length ≤ 65536) : recR (record kind body ++ more) = (kind, body, ((record kind body).length : Int), 0) := by
  have e0 : record kind body ++ more = kind :: (num body.length ++ (body ++ (sum4 (rg (crcOn 0#32 (recB kind body))) ++ more))) := by
    unfold record recB text
    simp [List.append_assoc]
  have t1 : (record kind body ++ more).take (1 + (num body.length).length + body.length) = recB kind body := by
    unfold record
    rw [List.append_assoc]
    exact List.take_left' (recB_length kind body)
  have t2 : (record kind body ++ more).take (1 + (num body.length).length + body.length + 4) = record kind body := List.take_left' (record_length kind body)
  have d1 : (record kind body).drop (1 + (num body.length).length + body.length) = sum4 (rg (crcOn 0#32 (recB kind body))) := by
    unfold record
    exact List.drop_left' (recB_length kind body)
  have d2 : (recB kind body).drop (1 + (num body.length).length) = body := by
    unfold recB text
    rw [show 1 + (num body.length).length = (num body.length).length + 1 by omega, List.drop_succ_cons]
    exact List.drop_left
  have hlen : (record kind body ++ more).length = 1 + (num body.length).length + body.length + 4 + more.length := by rw [List.length_append, record_length]
  have hs : short (num body.length ++ (body ++ (sum4 (rg (crcOn 0#32 (recB kind body))) ++ more))) = false := short_whole _ _
  have hg := getNum_num body.length (by omega) (body ++ (sum4 (rg (crcOn 0#32 (recB kind body))) ++ more))
  rw [e0] at t1 t2 hlen ⊢
  simp only [recR]
  rw [if_neg (by omega), hs, if_neg (by simp), hg]
  simp only
  rw [if_neg (by omega), hlen, if_neg (by omega), t2, t1, d1, if_pos rfl, d2, record_length]
theorem rec_cut (kind : Int) (body : List Int) (hk : 1 ≤ kind ∧ kind ≤ 200) (hl : body.length ≤ 65536) (at_ : Nat) (ha : at_ < (record kind body).length) : recR ((record kind body).take at_) = (0, [], 0, 3) := by
  cases at_ with
  | zero => rfl
  | succ m =>
    rw [record_length] at ha
    have e0 : record kind body = kind :: (num body.length ++ (body ++ sum4 (rg (crcOn 0#32 (recB kind body))))) := by
      unfold record recB text
      simp [List.append_assoc]
    rw [e0, List.take_succ_cons]
    generalize sum4 (rg (crcOn 0#32 (recB kind body))) = s
    simp only [recR]
    rw [if_neg (by omega)]
    by_cases hm : m < (num body.length).length
    · have e1 : (num body.length ++ (body ++ s)).take m = (num body.length).take m := List.take_append_of_le_length (by omega)
      rw [e1, if_pos (short_cut _ hl m hm)]
    · have e1 : (num body.length ++ (body ++ s)).take m = num body.length ++ (body ++ s).take (m - (num body.length).length) := by
        rw [List.take_append, List.take_of_length_le (by omega)]
      have hlen : (kind :: (num body.length ++ (body ++ s)).take m).length ≤ m + 1 := by rw [List.length_cons, List.length_take]; omega
      rw [e1] at hlen ⊢
      rw [short_whole, if_neg (by simp), getNum_num _ (by omega)]
      simp only
      rw [if_neg (by omega), if_pos (by omega)]
theorem cuts_loop (kind : Int) (body : List Int) (hk : 1 ≤ kind ∧ kind ≤ 200) (hb : Wr.Bytes body) (hl : body.length ≤ 2000) (d : Nat) : ∀ (i : Nat), i + d = 60 → Ev (fun k => hucksterlaw02_WireCuts.l0 k (record kind body) (i : Int)) true := by
  have hrl : (record kind body).length ≤ 2100 := by
    have h1 := num_length body.length
    have h2 := be_len8 (show body.length < 18446744073709551616 by omega)
    rw [record_length]
    omega
  have hrb : Wr.Bytes (record kind body) := fun x hx => by
    unfold record at hx
    rcases List.mem_append.1 hx with hx | hx
    · exact recB_bytes kind body hk hb (by omega) x hx
    · exact sum4_bytes _ x hx
  have hcut := rec_cut kind body hk (by omega)
  generalize record kind body = l at *
  clear hb hl hk
  have hend : ∀ i : Int, Ev (fun k => hucksterlaw02_WireCuts.j3 k l i false) true := by
    intro i
    refine Ev.step (f := fun k => (hucksterlaw02_awake.f k).bind fun t => some t) (fun k => ?_) (Ev.bind awake_ev (Ev.now _))
    simp only [hucksterlaw02_WireCuts.j3]
    rfl
  induction d with
  | zero =>
    intro i hi
    refine Ev.step (f := fun k => if (i : Int) < (l.length : Int) then (hucksterlaw02_WireCuts.j3 k l i (decide ((i : Int) < 60))) else (hucksterlaw02_WireCuts.j3 k l i false)) (fun k => ?_) ?_
    · simp only [hucksterlaw02_WireCuts.l0]
    · by_cases h : (i : Int) < (l.length : Int)
      · refine wl_if h ?_
        rw [decide_eq_false (by omega)]
        exact hend _
      · exact wl_else h (hend _)
  | succ d ih =>
    intro i hi
    refine Ev.step (f := fun k => if (i : Int) < (l.length : Int) then (hucksterlaw02_WireCuts.j3 k l i (decide ((i : Int) < 60))) else (hucksterlaw02_WireCuts.j3 k l i false)) (fun k => ?_) ?_
    · simp only [hucksterlaw02_WireCuts.l0]
    · by_cases h : (i : Int) < (l.length : Int)
      · refine wl_if h ?_
        rw [decide_eq_true (show (i : Int) < 60 by omega)]
        have hw : wrap64 ((i : Int) + 1) = ((i + 1 : Nat) : Int) := by unfold wrap64; omega
        have hj4 : ∀ a : Int, a < (l.length : Int) → Ev (fun k => hucksterlaw02_WireCuts.j4 k l i a) true := by
          intro a ha
          by_cases h0 : a < 0
          · refine Ev.step (f := fun k => hucksterlaw02_WireCuts.l0 k l ((i + 1 : Nat) : Int)) (fun k => ?_) (ih (i + 1) (by omega))
            simp only [hucksterlaw02_WireCuts.j4]
            rw [if_pos h0, hw]
          · have h1 : 0 ≤ a := by omega
            have h2 : a ≤ (l.length : Int) := by omega
            refine Ev.step (f := fun k => (wire_GetRecord.f k (l.take a.toNat)).bind fun bt535 => (if bt535.2.2.2 = 3 then (if bt535.2.2.1 = 0 then (hucksterlaw02_WireCuts.l0 k l ((i + 1 : Nat) : Int)) else (some false)) else (some false))) (fun k => ?_) ?_
            · simp only [hucksterlaw02_WireCuts.j4]
              rw [if_neg h0, if_pos h1, if_pos h2, hw]
            · refine Ev.bind (getRecord_ev (l.take a.toNat) (take_bytes hrb _) (by rw [List.length_take]; omega)) ?_
              rw [hcut a.toNat (by omega)]
              exact wl_if rfl (wl_if rfl (ih (i + 1) (by omega)))
        by_cases h30 : (i : Int) ≥ 30
        · have e1 : wrap64 ((l.length : Int) - 1) = (l.length : Int) - 1 := wl_w64 (by omega) (by omega)
          have e2 : wrap64 ((i : Int) - 30) = (i : Int) - 30 := wl_w64 (by omega) (by omega)
          have e3 : wrap64 ((l.length : Int) - 1 - ((i : Int) - 30)) = (l.length : Int) - 1 - ((i : Int) - 30) := wl_w64 (by omega) (by omega)
          refine Ev.step (fun k => ?_) (hj4 ((l.length : Int) - 1 - ((i : Int) - 30)) (by omega))
          simp only [hucksterlaw02_WireCuts.j3]
          rw [if_pos trivial, if_pos h30, e1, e2, e3]
        · refine Ev.step (fun k => ?_) (hj4 i h)
          simp only [hucksterlaw02_WireCuts.j3]
          rw [if_pos trivial, if_neg h30]
      · exact wl_else h (hend _)
theorem WireCuts : hucksterlaw02_WireCuts.Pure := by
  intro a0 l1 l2 h0 hm1 hr1 hw1 hm2 hr2 hw2
  refine Ev.rounds (g := fun k => hucksterlaw02_WireCuts.f k a0 l1 l2) ?_
  unfold hucksterlaw02_WireCuts.f
  have hb1 : Wr.Bytes l1 := bytes_of hw1
  have hb2 : Wr.Bytes l2 := bytes_of hw2
  clear hm1 hw1 hm2 hw2
  have hbad : Ev (fun k => hucksterlaw02_WireCuts.j0 k a0 l1 l2 true) true := by
    refine Ev.step (f := fun k => (hucksterlaw02_awake.f k).bind fun t => some t) (fun k => ?_) (Ev.bind awake_ev (Ev.now _))
    simp only [hucksterlaw02_WireCuts.j0]
    rfl
  by_cases hl : (l1.length : Int) > 2000
  · exact wl_if hl hbad
  · refine wl_else hl ?_
    by_cases hl2 : (l2.length : Int) > 500
    · exact wl_if hl2 hbad
    · refine wl_else hl2 ?_
      by_cases hk : 1 ≤ a0 ∧ a0 ≤ 200 ∧ l1.length ≤ 65536
      · refine Ev.congr (f := fun k => hucksterlaw02_WireCuts.j0 k a0 l1 l2 false) (fun k => ?_) ?_
        · rw [may_eq, decide_eq_true hk]
          rfl
        · have hk2 : 1 ≤ a0 ∧ a0 ≤ 200 := ⟨hk.1, hk.2.1⟩
          have h1 := num_length l1.length
          have h2 := be_len8 (show l1.length < 18446744073709551616 by omega)
          have hrl := record_length a0 l1
          have i1 : ([] : List Int).length + (record a0 l1).length < 140737488355328 := by rw [List.length_nil]; omega
          have i2 : ([] ++ record a0 l1 : List Int).length + l2.length < 140737488355328 := by rw [List.nil_append]; omega
          refine Ev.step (f := fun k => (wire_Record.f k a0 l1).bind fun bt510 => ((some (([] : List Int) : List Int)).bind fun y514 => (if y514.length + bt510.1.length < 140737488355328 then ((some (y514 ++ bt510.1 : List Int)).bind fun y517 => (if y517.length + l2.length < 140737488355328 then ((wire_GetRecord.f k (y517 ++ l2)).bind fun bt523 => (if bt510.2 = 0 then (if bt523.2.2.2 = 0 then (if bt523.1 = a0 then (if bt523.2.2.1 = (bt510.1.length : Int) then ((hucksterref02_Bytes.f k bt523.2.1 l1).bind fun t529 => (hucksterlaw02_WireCuts.j1 k bt510.1 (!t529))) else (hucksterlaw02_WireCuts.j1 k bt510.1 true)) else (hucksterlaw02_WireCuts.j1 k bt510.1 true)) else (hucksterlaw02_WireCuts.j1 k bt510.1 true)) else (hucksterlaw02_WireCuts.j1 k bt510.1 true))) else (none))) else (none)))) (fun k => ?_) ?_
          · simp only [hucksterlaw02_WireCuts.j0]
            rfl
          · refine Ev.bind (record_ev a0 l1 hk2 hb1 hk.2.2) ?_
            refine Ev.bind (Ev.now _) (wl_if i1 (Ev.bind (Ev.now _) (wl_if i2 ?_)))
            rw [List.nil_append]
            have hrb : Wr.Bytes (record a0 l1 ++ l2) := fun x hx => by
              rcases List.mem_append.1 hx with hx | hx
              · unfold record at hx
                rcases List.mem_append.1 hx with hx | hx
                · exact recB_bytes a0 l1 hk2 hb1 hk.2.2 x hx
                · exact sum4_bytes _ x hx
              · exact hb2 x hx
            refine Ev.bind (getRecord_ev (record a0 l1 ++ l2) hrb (by rw [List.length_append]; omega)) ?_
            rw [rec_whole a0 l1 l2 hk2 hk.2.2]
            refine wl_if rfl (wl_if rfl (wl_if rfl (wl_if rfl ?_)))
            refine Ev.bind (eq_ev l1 l1 (by omega)) ?_
            rw [decide_eq_true rfl]
            refine Ev.step (fun k => ?_) (cuts_loop a0 l1 hk2 hb1 (by omega) 60 0 rfl)
            simp only [hucksterlaw02_WireCuts.j1]
            rfl
      · refine Ev.congr (fun k => ?_) hbad
        rw [may_eq, decide_eq_false hk]
        rfl
end Go.Proofs.Ytgobbmhkmnaegaa.Pure

/- Clocks as bytes: what the program's and the reference's functions come to. -/
import Derived.Test.YtjpjdipdhakjnaaClockBytes
import Derived.Test.YtjpjdipdhakjnaaClockRef
import Derived.Test.YtjpjdipdhakjnaaWireRef
import Derived.Test.YtjpjdipdhakjnaaPReadx2
import Derived.Test.YtjpjdipdhakjnaaPReadx4
import Derived.Test.YtjpjdipdhakjnaaPReadx5
import Derived.Test.YtjpjdipdhakjnaaPReadx7
namespace Go.Proofs.Ytjpjdipdhakjnaa.PRead
open Go.RowKit Go.Proofs.YtjpjdipdhakjnaaW.PrintWords Go.Proofs.YtjpjdipdhakjnaaW.PrintLast Go.Proofs.Ytjpjdipdhakjnaa.ClockBase Go.Proofs.Ytjpjdipdhakjnaa.Wr
set_option linter.unusedVariables false
set_option linter.unusedSimpArgs false

theorem small_u64 {n : Int} (h0 : 0 ≤ n) (h1 : n ≤ 1048576) : IntKind.u64.wrap n = ((n.toNat : Nat) : Int) := by
  rw [wl_u64 h0 (by omega)]
  omega
theorem put_loop (l : List Int) (hl : l.length ≤ 5) (hs : ∀ n ∈ l, 0 ≤ n ∧ n ≤ 1048576) (r : List Int) (hr : pack (numsB l) = r) (d : Nat) : ∀ (i : Nat), i + d = l.length → Ev (fun k => clock_Put.l0 k ((numsB l).take i) l (l.length : Int) (i : Int)) r := by
  have hn : (numsB l).length = l.length := by unfold numsB; rw [List.length_map]
  induction d with
  | zero =>
    intro i hi
    obtain rfl : i = l.length := by omega
    have e : (numsB l).take l.length = numsB l := by rw [← hn, List.take_length]
    rw [e]
    refine Ev.step (f := fun k => (wire_Pack.f k (numsB l)).bind fun t => some t) (fun k => ?_) ?_
    · simp only [clock_Put.l0]
      rw [if_neg (by omega)]
    · subst hr
      exact Ev.bind (pack_ev _ (by omega) (fun t ht => by have := numsB_small hs t ht; omega)) (Ev.now _)
  | succ d ih =>
    intro i hi
    have hlt : i < l.length := by omega
    have hg := hs _ (List.getElem_mem hlt)
    have hlen : ((numsB l).take i).length < 5864062014805 := by rw [List.length_take]; omega
    have ht : (numsB l).take (i + 1) = (numsB l).take i ++ [num (l[i]).toNat] := by
      rw [List.take_add_one, List.getElem?_eq_getElem (by omega)]
      simp [numsB]
    refine Ev.step (f := fun k => (wire_Num.f k (((l[i]).toNat : Nat) : Int)).bind fun t => clock_Put.l0 k ((numsB l).take i ++ [t]) l (l.length : Int) ((i + 1 : Nat) : Int)) (fun k => ?_) ?_
    · simp only [clock_Put.l0]
      rw [if_pos (by omega), if_pos (by omega), if_pos (by omega), ck_rd hlt, small_u64 hg.1 hg.2, ck_w (by omega)]
      simp only [if_pos hlen]
    · refine Ev.bind (num_ev _ (by omega)) ?_
      rw [← ht]
      exact ih (i + 1) (by omega)
theorem put_ev (c : List Int) : Ev (fun k => clock_Put.f k c) (putB c) := by
  unfold clock_Put.f
  simp only [clock_Plain.f, Option.bind_some]
  have := put_loop (trim (ofL c)) (plain_len c) (plain_small c) _ rfl (trim (ofL c)).length 0 (by omega)
  rw [List.take_zero] at this
  exact this
theorem refPut_loop (l : List Int) (hl : l.length ≤ 5) (hs : ∀ n ∈ l, 0 ≤ n ∧ n ≤ 1048576) (r : List Int) (hr : pack (numsB l) = r) (d : Nat) : ∀ (i : Nat), i + d = l.length → Ev (fun k => hucksterref03_Put.l0 k l ((numsB l).take i) (i : Int)) r := by
  have hn : (numsB l).length = l.length := by unfold numsB; rw [List.length_map]
  induction d with
  | zero =>
    intro i hi
    obtain rfl : i = l.length := by omega
    have e : (numsB l).take l.length = numsB l := by rw [← hn, List.take_length]
    rw [e]
    refine Ev.step (f := fun k => (hucksterref02_Pack.f k (numsB l)).bind fun t => some t) (fun k => ?_) ?_
    · simp only [hucksterref03_Put.l0]
      rw [if_neg (by omega)]
    · subst hr
      exact Ev.bind (refPack_ev _ (by omega) (fun t ht => by have := numsB_small hs t ht; omega)) (Ev.now _)
  | succ d ih =>
    intro i hi
    have hlt : i < l.length := by omega
    have hg := hs _ (List.getElem_mem hlt)
    have hlen : ((numsB l).take i).length < 5864062014805 := by rw [List.length_take]; omega
    have ht : (numsB l).take (i + 1) = (numsB l).take i ++ [num (l[i]).toNat] := by
      rw [List.take_add_one, List.getElem?_eq_getElem (by omega)]
      simp [numsB]
    refine Ev.step (f := fun k => (hucksterref02_Num.f k (((l[i]).toNat : Nat) : Int)).bind fun t => hucksterref03_Put.l0 k l ((numsB l).take i ++ [t]) ((i + 1 : Nat) : Int)) (fun k => ?_) ?_
    · simp only [hucksterref03_Put.l0]
      rw [if_pos (by omega), if_pos (by omega), ck_rd hlt, small_u64 hg.1 hg.2, ck_w (by omega)]
      simp only [if_pos hlen]
    · refine Ev.bind (refNum_ev _ (by omega)) ?_
      rw [← ht]
      exact ih (i + 1) (by omega)
theorem refPut_ev (c : List Int) (hc : c.length ≤ 140737488355328) : Ev (fun k => hucksterref03_Put.f k c) (putB c) := by
  unfold hucksterref03_Put.f
  refine Ev.bind (plain_ev c hc) ?_
  have := refPut_loop (trim (ofL c)) (plain_len c) (plain_small c) _ rfl (trim (ofL c)).length 0 (by omega)
  rw [List.take_zero] at this
  exact this
/-! ### reading -/
def readV (n : Nat) (c : Option (List Int)) : List Int × Int × Int := match c with
  | none => ([], 0, 2)
  | some c => if (trim (ofL c)).length = c.length then (c, (n : Int), 0) else ([], 0, 2)
theorem read_loop (ts : List (List Int)) (hts : ts.length ≤ 5) (hb : ∀ t ∈ ts, t.length ≤ 65536 ∧ Wr.Bytes t) (n : Nat) (d : Nat) : ∀ (i : Nat) (out : List Int), i + d = ts.length → out.length = i → Ev (fun k => clock_Read.l0 k (n : Int) out ts (ts.length : Int) (i : Int)) (readV n ((wholes (ts.drop i)).map (out ++ ·))) := by
  induction d with
  | zero =>
    intro i out hi ho
    rw [List.drop_eq_nil_of_le (by omega)]
    have e : (wholes []).map (out ++ ·) = some out := by simp [wholes]
    rw [e]
    refine Ev.step (f := fun _ => some (readV n (some out))) (fun k => ?_) (Ev.now _)
    simp only [clock_Read.l0, clock_Plain.f, Option.bind_some, readV]
    rw [if_neg (by omega)]
    by_cases h : (trim (ofL out)).length = out.length
    · rw [if_pos h, if_pos (by omega)]
    · rw [if_neg h, if_neg (by omega)]
  | succ d ih =>
    intro i out hi ho
    have hlt : i < ts.length := by omega
    have ht := hb _ (List.getElem_mem hlt)
    rw [List.drop_eq_getElem_cons hlt]
    refine Ev.step (f := fun k => (wire_GetNum.f k ts[i]).bind fun bt => (if bt.2.2 = 0 then (if bt.2.1 = ((ts[i]).length : Int) then (if bt.1 > 1048576 then (some (([] : List Int), 0, 2)) else (clock_Read.l0 k (n : Int) (out ++ [wrap64 (bt.1)]) ts (ts.length : Int) ((i + 1 : Nat) : Int))) else (some (([] : List Int), 0, 2))) else (some (([] : List Int), 0, 2)))) (fun k => ?_) ?_
    · simp only [clock_Read.l0]
      rw [if_pos (by omega), if_pos (by omega), if_pos (by omega), wl_rdL hlt, ck_w (by omega)]
      simp only [if_pos (show out.length < 17592186044416 by omega)]
    · refine Ev.bind (getNum_ev _ ht.2 (by omega)) ?_
      unfold numR wholes whole1
      cases hg : getNum ts[i] with
      | none =>
        refine ck_else (by simp) ?_
        simpa [readV] using Ev.now _
      | some p =>
        obtain ⟨u, m⟩ := p
        refine ck_if (by rfl) ?_
        by_cases hm : m = (ts[i]).length
        · refine ck_if (by simp only; omega) ?_
          by_cases hu : u ≤ 1048576
          · refine ck_else (by simp only; omega) ?_
            simp only [if_pos (And.intro hm hu)]
            rw [wl_w64 (by omega) (by omega)]
            have h1 := ih (i + 1) (out ++ [(u : Int)]) (by omega) (by rw [List.length_append, List.length_singleton]; omega)
            cases hw : wholes (ts.drop (i + 1)) with
            | none =>
              rw [hw] at h1
              exact h1
            | some l =>
              rw [hw] at h1
              simpa using h1
          · refine ck_if (by simp only; omega) ?_
            simp only [if_neg (fun h : m = (ts[i]).length ∧ u ≤ 1048576 => hu h.2)]
            simpa [readV] using Ev.now _
        · refine ck_else (by simp only; omega) ?_
          simp only [if_neg (fun h : m = (ts[i]).length ∧ u ≤ 1048576 => hm h.1)]
          simpa [readV] using Ev.now _
/-- What the program's Read tells. -/
def readP (b : List Int) : List Int × Int × Int := match readB b with
  | none => ([], 0, 2)
  | some (c, n) => (c, (n : Int), 0)
theorem read_ev (b : List Int) (hb : Wr.Bytes b) (hn : b.length ≤ 140737488351232) : Ev (fun k => clock_Read.f k b) (readP b) := by
  unfold clock_Read.f
  refine Ev.bind (unpack_ev b hb hn 5 (by decide)) ?_
  unfold packR readP readB
  cases hu : unpack b 5 with
  | none => exact ck_else (by simp) (Ev.now _)
  | some p =>
    obtain ⟨ts, n⟩ := p
    obtain ⟨u1, u2, u3, u4, u5, u6⟩ := unpack_some hb hu
    refine ck_if rfl ?_
    have h := read_loop ts u2 u6 n ts.length 0 [] (by omega) rfl
    rw [List.drop_zero] at h
    have e : readV n ((wholes ts).map (([] : List Int) ++ ·)) = (match (match wholes ts with | none => none | some c => if (trim (ofL c)).length = c.length then some (c, n) else none) with | none => (([] : List Int), (0 : Int), (2 : Int)) | some (c, n) => (c, (n : Int), 0)) := by
      cases wholes ts with
      | none => rfl
      | some c =>
        simp only [Option.map_some, List.nil_append, readV]
        split <;> rfl
    rw [e] at h
    exact h
def refV (b : List Int) (n : Nat) (c : Option (List Int)) : List Int × Int := match c with
  | none => ([], 0)
  | some c => if putB c = b.take n then (c, (n : Int)) else ([], 0)
theorem refRead_loop (b : List Int) (ts : List (List Int)) (hts : ts.length ≤ 5) (hb : ∀ t ∈ ts, t.length ≤ 65536 ∧ Wr.Bytes t) (n : Nat) (hn0 : 0 < n) (hn : n ≤ b.length) (d : Nat) : ∀ (i : Nat) (out : List Int), i + d = ts.length → out.length = i → (∀ x ∈ out, 0 ≤ x ∧ x ≤ 1048576) → Ev (fun k => hucksterref03_Read.l0 k b ts (n : Int) out (i : Int)) (refV b n ((begins (ts.drop i)).map (out ++ ·))) := by
  induction d with
  | zero =>
    intro i out hi ho hs
    rw [List.drop_eq_nil_of_le (by omega)]
    have e : (begins []).map (out ++ ·) = some out := by simp [begins]
    rw [e]
    refine Ev.step (f := fun k => (hucksterref03_Put.f k out).bind fun t => (hucksterref02_Bytes.f k t (b.take n)).bind fun q => if q = true then some (out, (n : Int)) else some ([], 0)) (fun k => ?_) ?_
    · simp only [hucksterref03_Read.l0]
      rw [if_neg (by omega), if_neg (by omega)]
      simp only [if_pos (show (0 : Int) ≤ (n : Int) by omega), if_pos (show (n : Int) ≤ (b.length : Int) by omega), Int.toNat_natCast]
    · refine Ev.bind (refPut_ev out (by omega)) ?_
      have := putB_len out
      refine Ev.bind (eq_ev _ _ (by omega)) ?_
      unfold refV
      by_cases h : putB out = b.take n
      · simp only [if_pos h]
        exact ck_if (decide_eq_true h) (Ev.now _)
      · simp only [if_neg h]
        exact ck_else (by simpa using h) (Ev.now _)
  | succ d ih =>
    intro i out hi ho hs
    have hlt : i < ts.length := by omega
    have ht := hb _ (List.getElem_mem hlt)
    rw [List.drop_eq_getElem_cons hlt]
    refine Ev.step (f := fun k => (hucksterref02_GetNum.f k ts[i]).bind fun bt => (if bt.2 = 0 then (some (([] : List Int), 0)) else (if bt.1 > 1048576 then (some (([] : List Int), 0)) else hucksterref03_Read.l0 k b ts (n : Int) (out ++ [wrap64 (bt.1)]) ((i + 1 : Nat) : Int)))) (fun k => ?_) ?_
    · simp only [hucksterref03_Read.l0]
      rw [if_pos (by omega), if_pos (by omega), wl_rdL hlt, ck_w (by omega)]
      simp only [if_pos (show out.length < 17592186044416 by omega)]
    · refine Ev.bind (refGetNum_ev _ ht.2 (by omega)) ?_
      unfold numR2 begins
      cases hg : getNum ts[i] with
      | none =>
        refine ck_if rfl ?_
        simpa [refV] using Ev.now _
      | some p =>
        obtain ⟨u, m⟩ := p
        have hm := getNum_some ht.2 hg
        have hm0 : 0 < m := by
          rw [hm.2.2.1, num_length]
          omega
        refine ck_else (by simp only; omega) ?_
        by_cases hu : u ≤ 1048576
        · refine ck_else (by simp only; omega) ?_
          simp only [if_pos hu]
          rw [wl_w64 (by omega) (by omega)]
          have h1 := ih (i + 1) (out ++ [(u : Int)]) (by omega) (by rw [List.length_append, List.length_singleton]; omega) (fun x hx => by
            rcases List.mem_append.1 hx with hx | hx
            · exact hs x hx
            · rw [List.mem_singleton.1 hx]
              omega)
          cases hw : begins (ts.drop (i + 1)) with
          | none =>
            rw [hw] at h1
            exact h1
          | some l =>
            rw [hw] at h1
            simpa using h1
        · refine ck_if (by simp only; omega) ?_
          simp only [if_neg hu]
          simpa [refV] using Ev.now _
def readQ (b : List Int) : List Int × Int := match readB b with
  | none => ([], 0)
  | some (c, n) => (c, (n : Int))
theorem refRead_ev (b : List Int) (hb : Wr.Bytes b) (hn : b.length ≤ 140737488351232) : Ev (fun k => hucksterref03_Read.f k b) (readQ b) := by
  unfold hucksterref03_Read.f
  refine Ev.bind (refUnpack_ev b hb hn 5 (by decide)) ?_
  unfold readQ
  rw [← readR_eq hb]
  unfold packR2 readR
  cases hu : unpack b 5 with
  | none =>
    refine Ev.step (f := fun _ => some ([], 0)) (fun k => ?_) (Ev.now _)
    simp only [hucksterref03_Read.l0]
    rfl
  | some p =>
    obtain ⟨ts, n⟩ := p
    obtain ⟨u1, u2, u3, u4, u5, u6⟩ := unpack_some hb hu
    have h := refRead_loop b ts u2 u6 n u5 u4 ts.length 0 [] (by omega) rfl (fun x hx => by cases hx)
    rw [List.drop_zero] at h
    have e : refV b n ((begins ts).map (([] : List Int) ++ ·)) = (match (match begins ts with | none => none | some c => if putB c = b.take n then some (c, n) else none) with | none => (([] : List Int), (0 : Int)) | some (c, n) => (c, (n : Int))) := by
      cases begins ts with
      | none => rfl
      | some c =>
        simp only [Option.map_some, List.nil_append, refV]
        split <;> rfl
    rw [e] at h
    exact h
end Go.Proofs.Ytjpjdipdhakjnaa.PRead

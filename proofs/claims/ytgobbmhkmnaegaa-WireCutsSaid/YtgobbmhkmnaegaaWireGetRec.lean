/- A record that bytes begin with: what the program's and the reference's functions come to, in plain words. -/
import Derived.Lib.Bytes
import Derived.Test.YtgobbmhkmnaegaaWireAid
import Derived.Test.YtgobbmhkmnaegaaCrcRef
import Derived.Test.YtgobbmhkmnaegaaPWirex10
import Derived.Test.YtgobbmhkmnaegaaPWirex11
import Derived.Test.YtgobbmhkmnaegaaPWirex12
import Derived.Test.YtgobbmhkmnaegaaPWirex13
namespace Go.Proofs.Ytgobbmhkmnaegaa.PWire
open Go.RowKit Go.Proofs.YtgobbmhkmnaegaaW.PrintWords Go.Proofs.YtgobbmhkmnaegaaW.PrintLast Go.Proofs.Ytgobbmhkmnaegaa.Wr Go.Proofs.Ytgobbmhkmnaegaa.Crc
set_option linter.unusedVariables false
set_option linter.unusedSimpArgs false

theorem bytesOf_inj : ∀ (a b : List Int), Wr.Bytes a → Wr.Bytes b → Go.Lib.bytesOf a = Go.Lib.bytesOf b → a = b
  | [], [], _, _, _ => rfl
  | [], _ :: _, _, _, h => by simp [Go.Lib.bytesOf] at h
  | _ :: _, [], _, _, h => by simp [Go.Lib.bytesOf] at h
  | x :: xs, y :: ys, ha, hb, h => by
    simp only [Go.Lib.bytesOf, List.map_cons, List.cons.injEq] at h
    have hx := ha x (by simp)
    have hy := hb y (by simp)
    have e := congrArg UInt8.toNat h.1
    have e1 : (UInt8.ofNat x.toNat).toNat = x.toNat % 256 := by simp
    have e2 : (UInt8.ofNat y.toNat).toNat = y.toNat % 256 := by simp
    rw [e1, e2] at e
    rw [bytesOf_inj xs ys (fun z hz => ha z (List.mem_cons_of_mem _ hz)) (fun z hz => hb z (List.mem_cons_of_mem _ hz)) h.2]
    have : x = y := by omega
    rw [this]
theorem equal_ev (a b : List Int) (ha : Wr.Bytes a) (hb : Wr.Bytes b) : Ev (fun (_ : Nat) => bytes_Equal.f a b) (decide (a = b)) := by
  refine Ev.congr (f := fun _ => some (decide (a = b))) (fun k => ?_) (Ev.now _)
  unfold bytes_Equal.f
  rw [Go.Lib.strOfNums_toList, Go.Lib.strOfNums_toList]
  congr 1
  by_cases h : a = b
  · subst h
    simp
  · rw [decide_eq_false h]
    exact beq_eq_false_iff_ne.2 (fun e => h (bytesOf_inj a b ha hb e))

/-! ### Bytes that end within a number -/
def dig (r : List Int) (i : Nat) : Int := if i < r.length then r.getD i 0 else if i = 0 then 1 else 0
def fl (r : List Int) : Nat → Nat
  | 0 => 0
  | i + 1 => fl r i * 256 + (dig r i).toNat
theorem dig_byte {r : List Int} (hr : Wr.Bytes r) (i : Nat) : 0 ≤ dig r i ∧ dig r i < 256 := by
  unfold dig
  by_cases h : i < r.length
  · rw [if_pos h, List.getD_eq_getElem?_getD, List.getElem?_eq_getElem h]
    exact hr _ (List.getElem_mem h)
  · rw [if_neg h]
    by_cases h0 : i = 0
    · rw [if_pos h0]; omega
    · rw [if_neg h0]; omega
theorem fl_lt {r : List Int} (hr : Wr.Bytes r) : ∀ i, fl r i < 256 ^ i
  | 0 => by simp [fl]
  | i + 1 => by
    have h := fl_lt hr i
    have hd := dig_byte hr i
    have e : 256 ^ (i + 1) = 256 ^ i * 256 := Nat.pow_succ 256 i
    rw [e]
    simp only [fl]
    omega
theorem fl_lt0 {r : List Int} (hr : Wr.Bytes r) (h0 : dig r 0 = 0) : ∀ i, fl r (i + 1) < 256 ^ i
  | 0 => by simp [fl, h0]
  | i + 1 => by
    have h := fl_lt0 hr h0 i
    have hd := dig_byte hr (i + 1)
    have e : 256 ^ (i + 1) = 256 ^ i * 256 := Nat.pow_succ 256 i
    rw [e]
    rw [fl]
    omega
def digs (r : List Int) (n : Nat) : List Int := (List.range n).map (dig r)
theorem digs_succ (r : List Int) (n : Nat) : digs r (n + 1) = digs r n ++ [dig r n] := by simp [digs, List.range_succ]
theorem digs_length (r : List Int) (n : Nat) : (digs r n).length = n := by simp [digs]
theorem val_digs (r : List Int) : ∀ n, val (digs r n) = fl r n
  | 0 => rfl
  | n + 1 => by rw [digs_succ, val_snoc, val_digs r n, fl]
theorem digs_bytes {r : List Int} (hr : Wr.Bytes r) (n : Nat) : Wr.Bytes (digs r n) := by
  intro x hx
  simp only [digs, List.mem_map] at hx
  obtain ⟨i, _, rfl⟩ := hx
  exact dig_byte hr i
theorem digs_take (r : List Int) (n : Nat) (h : r.length ≤ n) : (digs r n).take r.length = r := by
  refine List.ext_getElem (by rw [List.length_take, digs_length]; omega) fun i h1 h2 => ?_
  rw [List.getElem_take]
  simp only [digs, List.getElem_map, List.getElem_range, dig]
  rw [if_pos h2, List.getD_eq_getElem?_getD, List.getElem?_eq_getElem h2]
  rfl
def short (l : List Int) : Bool := match l with | [] => true | c :: r => decide (c ≤ 8 ∧ (r.length : Int) < c ∧ dig r 0 ≠ 0 ∧ fl r c.toNat ≤ 65536)
theorem p56 {r : List Int} (hr : Wr.Bytes r) {i : Nat} (hi : i ≤ 7) : fl r i < 72057594037927936 := by
  have h1 := fl_lt hr i
  have h2 : 256 ^ i ≤ 256 ^ 7 := Nat.pow_le_pow_right (by omega) hi
  have h3 : (256 : Nat) ^ 7 = 72057594037927936 := by decide
  omega
theorem fl_step (r : List Int) (hr : Wr.Bytes r) (i : Nat) : ((fl r (i + 1) : Nat) : Int) = (fl r i : Int) * 256 + dig r i := by
  have := dig_byte hr i
  rw [fl]
  omega
theorem rd_tail {c : Int} {r : List Int} {i : Nat} (h : i < r.length) : rd (c :: r) ((i + 1 : Nat) : Int) = dig r i := by
  rw [wl_rd (by rw [List.length_cons]; omega)]
  unfold dig
  rw [if_pos h, List.getD_eq_getElem?_getD, List.getElem?_eq_getElem h]
  rfl
theorem short_loop (c : Int) (r : List Int) (hr : Wr.Bytes r) (h8 : c ≤ 8) (h0 : 0 ≤ c) (d : Nat) : ∀ (i : Nat), i + d = c.toNat → Ev (fun k => wire_short.l0 k (c :: r) 65536 (fl r i : Int) ((i + 1 : Nat) : Int)) (decide (fl r c.toNat ≤ 65536)) := by
  have hc0 : wrap64 (rd (c :: r) 0) = c := wl_w64 (by show -9223372036854775808 ≤ c; omega) (by show c < _; omega)
  have hl : (0 : Int) < ((c :: r).length : Int) := by rw [List.length_cons]; omega
  induction d with
  | zero =>
    intro i hi
    have e : i = c.toNat := by omega
    refine Ev.step (f := fun _ => some (decide (fl r c.toNat ≤ 65536))) (fun k => ?_) (Ev.now _)
    simp only [wire_short.l0]
    rw [if_pos hl, hc0, if_neg (by omega), e]
    congr 1
    rw [decide_eq_decide]
    omega
  | succ d ih =>
    intro i hi
    have h56 := p56 hr (show i ≤ 7 by omega)
    have hd := dig_byte hr i
    have hw : wrap64 (((i + 1 : Nat) : Int) + 1) = ((i + 1 + 1 : Nat) : Int) := by unfold wrap64; omega
    have hm : IntKind.u64.wrap ((fl r i : Int) * 256) = ((fl r i * 256 : Nat) : Int) := by
      rw [wl_u64 (by omega) (by omega)]
      omega
    have e2 : Go.bits .or .u64 ((fl r i * 256 : Nat) : Int) (dig r i) = ((fl r (i + 1) : Nat) : Int) := by
      have := or_digit (fl r i) (dig r i).toNat h56 (by omega)
      rw [show (((dig r i).toNat : Nat) : Int) = dig r i by omega] at this
      exact this
    refine Ev.step (f := fun k => wire_short.l0 k (c :: r) 65536 (fl r (i + 1) : Int) ((i + 1 + 1 : Nat) : Int)) (fun k => ?_) (ih (i + 1) (by omega))
    simp only [wire_short.l0]
    rw [if_pos hl, hc0, if_pos (by omega), hm]
    by_cases hi2 : i < r.length
    · rw [if_pos (by rw [List.length_cons]; omega), if_pos (by omega), rd_tail hi2, wl_u64 (x := dig r i) (by omega) (by omega), e2, hw]
    · rw [if_neg (by rw [List.length_cons]; omega)]
      by_cases hi0 : i = 0
      · have hd1 : dig r i = 1 := by unfold dig; rw [if_neg hi2, if_pos hi0]
        rw [hd1] at e2
        rw [if_pos (by omega), e2, hw]
      · have hd1 : dig r i = 0 := by unfold dig; rw [if_neg hi2, if_neg hi0]
        rw [hd1] at e2
        rw [if_neg (by omega), e2, hw]
theorem short_ev (l : List Int) (hl : Wr.Bytes l) (hn : l.length ≤ 140737488351232) : Ev (fun k => wire_short.f k l 65536) (short l) := by
  unfold wire_short.f
  cases l with
  | nil => exact wl_if rfl (Ev.now _)
  | cons c r =>
    have hc := hl c (by simp)
    have hr : Wr.Bytes r := fun x hx => hl x (List.mem_cons_of_mem _ hx)
    have hc0 : wrap64 (rd (c :: r) 0) = c := wl_w64 (by show -9223372036854775808 ≤ c; omega) (by show c < _; omega)
    rw [List.length_cons] at hn
    refine wl_else (by rw [List.length_cons]; omega) ?_
    refine wl_if (by rw [List.length_cons]; omega) ?_
    have hj : ∀ b : Bool, (b = false → c ≤ 8 ∧ (r.length : Int) < c ∧ dig r 0 ≠ 0) → (b = true → ¬ (c ≤ 8 ∧ (r.length : Int) < c ∧ dig r 0 ≠ 0)) → Ev (fun k => wire_short.j0 k (c :: r) 65536 b) (short (c :: r)) := by
      intro b hf ht
      cases b with
      | true =>
        have e : short (c :: r) = false := decide_eq_false (fun h => ht rfl ⟨h.1, h.2.1, h.2.2.1⟩)
        rw [e]
        refine Ev.step (f := fun _ => some false) (fun k => ?_) (Ev.now _)
        simp only [wire_short.j0]
        rfl
      | false =>
        have hh := hf rfl
        have e : short (c :: r) = decide (fl r c.toNat ≤ 65536) := by
          unfold short
          rw [decide_eq_decide]
          exact ⟨fun h => h.2.2.2, fun h => ⟨hh.1, hh.2.1, hh.2.2, h⟩⟩
        rw [e]
        refine Ev.step (fun k => ?_) (short_loop c r hr hh.1 hc.1 c.toNat 0 (by omega))
        simp only [wire_short.j0]
        rfl
    by_cases h8 : c > 8
    · exact wl_if h8 (hj true (fun h => by cases h) (fun _ h => by omega))
    · refine wl_else h8 ?_
      rw [hc0]
      by_cases hlen : ((c :: r).length : Int) > c
      · refine wl_if hlen (hj true (fun h => by cases h) (fun _ h => ?_))
        rw [List.length_cons] at hlen
        omega
      · refine wl_else hlen ?_
        rw [List.length_cons] at hlen
        by_cases h1 : ((c :: r).length : Int) > 1
        · refine wl_if h1 (wl_if h1 ?_)
          rw [List.length_cons] at h1
          have e1 : rd (c :: r) 1 = dig r 0 := rd_tail (i := 0) (by omega)
          rw [e1]
          refine hj _ (fun h => ?_) (fun h => ?_)
          · exact ⟨by omega, by omega, beq_eq_false_iff_ne.1 h⟩
          · exact fun hh => hh.2.2 (eq_of_beq h)
        · refine wl_else h1 ?_
          rw [List.length_cons] at h1
          have e1 : dig r 0 = 1 := by unfold dig; rw [if_neg (by omega), if_pos rfl]
          exact hj false (fun _ => ⟨by omega, by omega, by omega⟩) (fun h => by cases h)
theorem within_loop (c : Int) (r : List Int) (hr : Wr.Bytes r) (h8 : c ≤ 8) (h0 : 0 ≤ c) (hrl : (r.length : Int) < c) (d : Nat) : ∀ (i : Nat), i + d = c.toNat → Ev (fun k => hucksterref02_within.l0 k (c :: r) (fl r i : Int) ((i + 1 : Nat) : Int)) (short (c :: r)) := by
  have hc0 : wrap64 (rd (c :: r) 0) = c := wl_w64 (by show -9223372036854775808 ≤ c; omega) (by show c < _; omega)
  have hl : (0 : Int) < ((c :: r).length : Int) := by rw [List.length_cons]; omega
  induction d with
  | zero =>
    intro i hi
    have e : i = c.toNat := by omega
    subst e
    have hlt := fl_lt hr c.toNat
    have h64 : fl r c.toNat < 18446744073709551616 := by
      have h2 : 256 ^ c.toNat ≤ 256 ^ 8 := Nat.pow_le_pow_right (by omega) (by omega)
      have h3 : (256 : Nat) ^ 8 = 18446744073709551616 := by decide
      omega
    refine Ev.step (f := fun k => (hucksterref02_Num.f k (fl r c.toNat : Int)).bind fun t448 => (if (fl r c.toNat : Int) ≤ 65536 then (if (t448.length : Int) ≥ ((c :: r).length : Int) then (if 0 ≤ ((c :: r).length : Int) then (if ((c :: r).length : Int) ≤ (t448.length : Int) then ((hucksterref02_Bytes.f k (t448.take (((c :: r).length : Int) : Int).toNat) (c :: r)).bind fun t455 => (some t455)) else (none)) else (none)) else (some false)) else (some false))) (fun k => ?_) ?_
    · simp only [hucksterref02_within.l0]
      rw [if_pos hl, hc0, if_neg (by omega)]
    · refine Ev.bind (refNum_ev (fl r c.toNat) h64) ?_
      by_cases hm : fl r c.toNat ≤ 65536
      · refine wl_if (by omega) ?_
        have hnl := num_length (fl r c.toNat)
        by_cases hz : dig r 0 = 0
        · have es : short (c :: r) = false := decide_eq_false (fun h => h.2.2.1 hz)
          rw [es]
          have hbl : (be (fl r c.toNat)).length ≤ c.toNat - 1 := by
            refine be_len_le _ _ ?_
            have := fl_lt0 hr hz (c.toNat - 1)
            rw [show c.toNat - 1 + 1 = c.toNat by omega] at this
            exact this
          by_cases hlen : ((num (fl r c.toNat)).length : Int) ≥ ((c :: r).length : Int)
          · refine wl_if hlen (wl_if (by omega) (wl_if hlen ?_))
            have hne : ¬ ((num (fl r c.toNat)).take ((((c :: r).length : Int) : Int)).toNat = c :: r) := by
              intro h
              rw [Int.toNat_natCast, List.length_cons] at h
              unfold num at h
              rw [List.take_succ_cons] at h
              have := (List.cons.inj h).1
              omega
            refine Ev.bind (eq_ev _ _ (by rw [List.length_take]; omega)) ?_
            rw [decide_eq_false hne]
            exact Ev.now _
          · exact wl_else hlen (Ev.now _)
        · have es : short (c :: r) = true := decide_eq_true ⟨h8, hrl, hz, hm⟩
          rw [es]
          have hbe : be (fl r c.toNat) = digs r c.toNat := by
            rw [← val_digs]
            refine be_val _ (digs_bytes hr _) (fun x t hx => ?_)
            have hd := dig_byte hr 0
            have : x = dig r 0 := by
              obtain ⟨n, hn⟩ : ∃ n, c.toNat = n + 1 := ⟨c.toNat - 1, by omega⟩
              rw [hn] at hx
              unfold digs at hx
              rw [List.range_succ_eq_map, List.map_cons] at hx
              exact (List.cons.inj hx).1.symm
            omega
          have hnum : num (fl r c.toNat) = c :: digs r c.toNat := by
            unfold num
            rw [hbe, digs_length]
            congr 1
            omega
          have hlen : ((num (fl r c.toNat)).length : Int) ≥ ((c :: r).length : Int) := by
            rw [hnum, List.length_cons, List.length_cons, digs_length]
            omega
          refine wl_if hlen (wl_if (by omega) (wl_if hlen ?_))
          have he : (num (fl r c.toNat)).take ((((c :: r).length : Int) : Int)).toNat = c :: r := by
            rw [Int.toNat_natCast, List.length_cons, hnum, List.take_succ_cons, digs_take r _ (by omega)]
          refine Ev.bind (eq_ev _ _ (by rw [he, List.length_cons]; omega)) ?_
          rw [decide_eq_true he]
          exact Ev.now _
      · have es : short (c :: r) = false := decide_eq_false (fun h => hm h.2.2.2)
        rw [es]
        exact wl_else (by omega) (Ev.now _)
  | succ d ih =>
    intro i hi
    have h56 := p56 hr (show i ≤ 7 by omega)
    have hd := dig_byte hr i
    have hw : wrap64 (((i + 1 : Nat) : Int) + 1) = ((i + 1 + 1 : Nat) : Int) := by unfold wrap64; omega
    have hm : IntKind.u64.wrap ((fl r i : Int) * 256) = (fl r i : Int) * 256 := wl_u64 (by omega) (by omega)
    have hs := fl_step r hr i
    have e2 : IntKind.u64.wrap ((fl r i : Int) * 256 + dig r i) = ((fl r (i + 1) : Nat) : Int) := by
      rw [hs]
      exact wl_u64 (by omega) (by omega)
    refine Ev.step (f := fun k => hucksterref02_within.l0 k (c :: r) (fl r (i + 1) : Int) ((i + 1 + 1 : Nat) : Int)) (fun k => ?_) (ih (i + 1) (by omega))
    simp only [hucksterref02_within.l0]
    rw [if_pos hl, hc0, if_pos (by omega), hm]
    by_cases hi2 : i < r.length
    · rw [if_pos (by rw [List.length_cons]; omega), if_pos (by omega), rd_tail hi2, wl_u64 (x := dig r i) (by omega) (by omega), e2, hw]
    · rw [if_neg (by rw [List.length_cons]; omega)]
      by_cases hi0 : i = 0
      · have hd1 : dig r i = 1 := by unfold dig; rw [if_neg hi2, if_pos hi0]
        rw [hd1] at e2
        rw [if_pos (by omega), e2, hw]
      · have hd1 : dig r i = 0 := by unfold dig; rw [if_neg hi2, if_neg hi0]
        rw [hd1] at e2
        rw [if_neg (by omega), e2, hw]
theorem within_ev (l : List Int) (hl : Wr.Bytes l) (hn : l.length ≤ 140737488351232) : Ev (fun k => hucksterref02_within.f k l) (short l) := by
  unfold hucksterref02_within.f
  cases l with
  | nil => exact wl_if rfl (Ev.now _)
  | cons c r =>
    have hc := hl c (by simp)
    have hr : Wr.Bytes r := fun x hx => hl x (List.mem_cons_of_mem _ hx)
    have hc0 : wrap64 (rd (c :: r) 0) = c := wl_w64 (by show -9223372036854775808 ≤ c; omega) (by show c < _; omega)
    rw [List.length_cons] at hn
    refine wl_else (by rw [List.length_cons]; omega) ?_
    refine wl_if (by rw [List.length_cons]; omega) ?_
    have hj : ∀ b : Bool, b = decide (¬ (c ≤ 8 ∧ (r.length : Int) < c)) → Ev (fun k => hucksterref02_within.j0 k (c :: r) b) (short (c :: r)) := by
      intro b hb
      by_cases h : c ≤ 8 ∧ (r.length : Int) < c
      · rw [decide_eq_false (by simpa using h)] at hb
        subst hb
        refine Ev.step (fun k => ?_) (within_loop c r hr h.1 hc.1 h.2 c.toNat 0 (by omega))
        simp only [hucksterref02_within.j0]
        rfl
      · rw [decide_eq_true h] at hb
        subst hb
        have e : short (c :: r) = false := decide_eq_false (fun hh => h ⟨hh.1, hh.2.1⟩)
        rw [e]
        refine Ev.step (f := fun _ => some false) (fun k => ?_) (Ev.now _)
        simp only [hucksterref02_within.j0]
        rfl
    by_cases h8 : c > 8
    · exact wl_if h8 (hj true (decide_eq_true (by omega)).symm)
    · refine wl_else h8 ?_
      rw [hc0]
      refine hj _ ?_
      rw [decide_eq_decide, List.length_cons]
      omega

/-! ### A record -/
theorem refRecord_ev (kind : Int) (body : List Int) (hk : 1 ≤ kind ∧ kind ≤ 200) (hb : Wr.Bytes body) (hl : body.length ≤ 65536) : Ev (fun k => hucksterref02_Record.f k kind body) (record kind body) := by
  unfold hucksterref02_Record.f
  have hm : kind % 256 = kind := by omega
  have hlen := text_length body (by omega)
  refine Ev.bind (Ev.now _) ?_
  refine Ev.bind (refText_ev body (by omega)) ?_
  rw [hm]
  have n1 : ([kind] : List Int).length + (text body).length < 140737488355328 := by rw [List.length_singleton]; omega
  have n2 : (recB kind body).length + 4 < 140737488355328 := by unfold recB; rw [List.length_cons]; omega
  refine wl_if n1 (Ev.bind (Ev.now _) ?_)
  have h1 := refOf_ev (recB kind body) (recB_bytes kind body hk hb hl) (by unfold recB; rw [List.length_cons]; omega)
  refine Ev.bind h1 (Ev.bind (Ev.now _) ?_)
  refine wl_if n2 ?_
  have hs := rg_lt (crcOn 0#32 (recB kind body))
  unfold record
  generalize rg (crcOn 0#32 (recB kind body)) = s at hs
  clear n1 n2 h1 hlen hb hl hm
  rw [Int.tdiv_eq_ediv_of_nonneg hs.1, Int.tdiv_eq_ediv_of_nonneg hs.1, Int.tdiv_eq_ediv_of_nonneg hs.1, Int.tmod_eq_emod_of_nonneg hs.1]
  have e1 : s / 16777216 % 4294967296 % 256 = s / 16777216 % 256 := by omega
  have e2 : s / 65536 % 4294967296 % 256 = s / 65536 % 256 := by omega
  have e3 : s / 256 % 4294967296 % 256 = s / 256 % 256 := by omega
  have e4 : s % 256 % 256 = s % 256 := by omega
  rw [e1, e2, e3, e4]
  exact Ev.now _
theorem record_bad (kind : Int) (body : List Int) (h : ¬ (1 ≤ kind ∧ kind ≤ 200 ∧ body.length ≤ 65536)) : Ev (fun k => wire_Record.f k kind body) ([], 1) := by
  unfold wire_Record.f
  by_cases h1 : kind < 1
  · exact wl_if h1 (Ev.now _)
  · refine wl_else h1 ?_
    by_cases h2 : kind > 200
    · exact wl_if h2 (Ev.now _)
    · refine wl_else h2 ?_
      have h3 : (body.length : Int) > 65536 := by omega
      exact wl_if h3 (Ev.now _)
theorem may_eq (kind : Int) (body : List Int) : hucksterref02_May.f kind body = some (decide (1 ≤ kind ∧ kind ≤ 200 ∧ body.length ≤ 65536)) := by
  unfold hucksterref02_May.f
  by_cases h1 : kind ≥ 1
  · rw [if_pos h1]
    by_cases h2 : kind ≤ 200
    · rw [if_pos h2]
      congr 1
      rw [decide_eq_decide]
      omega
    · rw [if_neg h2, decide_eq_false (fun h => h2 h.2.1)]
  · rw [if_neg h1, decide_eq_false (fun h => h1 h.1)]
def recR (l : List Int) : Int × List Int × Int × Int := match l with
  | [] => (0, [], 0, 3)
  | c :: r => if c < 1 ∨ 200 < c then (0, [], 0, 2) else if short r = true then (0, [], 0, 3) else match getNum r with
    | none => (0, [], 0, 2)
    | some (u, n) => if 65536 < u then (0, [], 0, 2) else if (c :: r).length < 1 + n + u + 4 then (0, [], 0, 3) else
      if ((c :: r).take (1 + n + u + 4)).drop (1 + n + u) = sum4 (rg (crcOn 0#32 ((c :: r).take (1 + n + u)))) then (c, ((c :: r).take (1 + n + u)).drop (1 + n), ((1 + n + u + 4 : Nat) : Int), 0) else (0, [], 0, 2)
theorem take_bytes {l : List Int} (h : Wr.Bytes l) (n : Nat) : Wr.Bytes (l.take n) := fun x hx => h x (List.mem_of_mem_take hx)
theorem drop_bytes {l : List Int} (h : Wr.Bytes l) (n : Nat) : Wr.Bytes (l.drop n) := fun x hx => h x (List.mem_of_mem_drop hx)
theorem getRecord_end (c : Int) (r : List Int) (hl : Wr.Bytes (c :: r)) (hn : (c :: r).length ≤ 140737488351232) (u n : Nat) (hu : u ≤ 65536) (hn9 : n ≤ 9) :
    Ev (fun k => wire_GetRecord.j1 k (c :: r) (u : Int) (n : Int) false) (if (c :: r).length < 1 + n + u + 4 then (0, [], 0, 3) else
      if ((c :: r).take (1 + n + u + 4)).drop (1 + n + u) = sum4 (rg (crcOn 0#32 ((c :: r).take (1 + n + u)))) then (c, ((c :: r).take (1 + n + u)).drop (1 + n), ((1 + n + u + 4 : Nat) : Int), 0) else (0, [], 0, 2)) := by
  have hc := hl c (by simp)
  have hc0 : wrap64 (rd (c :: r) 0) = c := wl_w64 (by show -9223372036854775808 ≤ c; omega) (by show c < _; omega)
  have w1 : wrap64 (1 + (n : Int)) = ((1 + n : Nat) : Int) := by rw [wl_w64 (by omega) (by omega)]; omega
  have w2 : wrap64 (u : Int) = (u : Int) := wl_w64 (by omega) (by omega)
  have w3 : wrap64 (((1 + n : Nat) : Int) + (u : Int)) = ((1 + n + u : Nat) : Int) := by rw [wl_w64 (by omega) (by omega)]; omega
  have w4 : wrap64 (((1 + n + u : Nat) : Int) + 4) = ((1 + n + u + 4 : Nat) : Int) := by rw [wl_w64 (by omega) (by omega)]; omega
  generalize hL : c :: r = l at *
  have hd : rd l 0 = rd (c :: r) 0 := by rw [hL]
  by_cases hlen : l.length < 1 + n + u + 4
  · rw [if_pos hlen]
    refine Ev.step (f := fun _ => some (0, ([] : List Int), 0, 3)) (fun k => ?_) (Ev.now _)
    simp only [wire_GetRecord.j1]
    rw [if_neg (by simp), w1, w2, w3, w4, if_pos (by omega)]
  · rw [if_neg hlen]
    refine Ev.step (f := fun k => (sum_Of.f k [l.take (1 + n + u)]).bind fun t426 => (bytes_Equal.f ((l.take (1 + n + u + 4)).drop (1 + n + u)) (sum4 t426)).bind fun t435 => if t435 = true then ((bytes_Clone.f ((l.take (1 + n + u)).drop (1 + n))).bind fun t442 => (some (c, t442, ((1 + n + u + 4 : Nat) : Int), 0))) else (some (0, ([] : List Int), 0, 2))) (fun k => ?_) ?_
    · have i1 : ¬ ((l.length : Int) < ((1 + n + u + 4 : Nat) : Int)) := by omega
      have i2 : (0 : Int) ≤ ((1 + n + u : Nat) : Int) := by omega
      have i3 : ((1 + n + u : Nat) : Int) ≤ (l.length : Int) := by omega
      have i4 : ((1 + n + u : Nat) : Int) ≤ ((1 + n + u + 4 : Nat) : Int) := by omega
      have i5 : ((1 + n + u + 4 : Nat) : Int) ≤ (l.length : Int) := by omega
      have i6 : (0 : Int) < (l.length : Int) := by omega
      have i7 : (0 : Int) ≤ ((1 + n : Nat) : Int) := by omega
      have i8 : ((1 + n : Nat) : Int) ≤ ((1 + n + u : Nat) : Int) := by omega
      simp only [wire_GetRecord.j1]
      rw [if_neg (by simp), w1, w2, w3, w4, if_neg i1, if_pos i2, if_pos i3]
      simp only [if_pos i4, if_pos i5, if_pos i6, if_pos i7, if_pos i8, Int.toNat_natCast, hc0]
      rfl
    · refine Ev.bind (of_one _ (take_bytes hl _) (by rw [List.length_take]; omega)) ?_
      refine Ev.bind (equal_ev _ _ (drop_bytes (take_bytes hl _) _) (sum4_bytes _)) ?_
      by_cases he : (l.take (1 + n + u + 4)).drop (1 + n + u) = sum4 (rg (crcOn 0#32 (l.take (1 + n + u))))
      · rw [if_pos he]
        refine wl_if (decide_eq_true he) ?_
        exact Ev.bind (clone_ev _ (by rw [List.length_drop, List.length_take]; omega)) (Ev.now _)
      · rw [if_neg he]
        exact wl_else (by simpa using he) (Ev.now _)
theorem getNum_len {l : List Int} (hl : Wr.Bytes l) {u n : Nat} (h : getNum l = some (u, n)) : n ≤ 9 := by
  obtain ⟨b1, b2, b3, b4⟩ := getNum_some hl h
  clear b1
  have h1 := num_length u
  have h2 := be_len8 b2
  omega
theorem getRecord_ev (l : List Int) (hl : Wr.Bytes l) (hn : l.length ≤ 140737488351232) : Ev (fun k => wire_GetRecord.f k l) (recR l) := by
  unfold wire_GetRecord.f
  cases l with
  | nil => exact wl_if rfl (Ev.now _)
  | cons c r =>
    have hc := hl c (by simp)
    have hr : Wr.Bytes r := fun x hx => hl x (List.mem_cons_of_mem _ hx)
    have hrn : r.length ≤ 140737488351232 := by rw [List.length_cons] at hn; omega
    refine wl_else (by rw [List.length_cons]; omega) ?_
    refine wl_if (by rw [List.length_cons]; omega) ?_
    have hj : ∀ b : Bool, b = decide (c < 1 ∨ 200 < c) → Ev (fun k => wire_GetRecord.j0 k (c :: r) b) (recR (c :: r)) := by
      intro b hb
      by_cases h : c < 1 ∨ 200 < c
      · rw [decide_eq_true h] at hb
        subst hb
        simp only [recR]
        rw [if_pos h]
        refine Ev.step (f := fun _ => some (0, ([] : List Int), 0, 2)) (fun k => ?_) (Ev.now _)
        simp only [wire_GetRecord.j0]
        rfl
      · rw [decide_eq_false h] at hb
        subst hb
        simp only [recR]
        rw [if_neg h]
        refine Ev.step (f := fun k => (wire_short.f k r 65536).bind fun t409 => (if t409 = true then (some (0, ([] : List Int), 0, 3)) else ((wire_GetNum.f k r).bind fun bt415 => (if bt415.2.2 = 0 then (wire_GetRecord.j1 k (c :: r) bt415.1 bt415.2.1 (decide (bt415.1 > 65536))) else (wire_GetRecord.j1 k (c :: r) bt415.1 bt415.2.1 true))))) (fun k => ?_) ?_
        · have i1 : (1 : Int) ≤ ((c :: r).length : Int) := by rw [List.length_cons]; omega
          simp only [wire_GetRecord.j0]
          rw [if_neg (by simp), if_pos i1]
          rfl
        · refine Ev.bind (short_ev r hr hrn) ?_
          by_cases hs : short r = true
          · rw [if_pos hs]
            exact wl_if hs (Ev.now _)
          · rw [if_neg hs]
            refine wl_else hs ?_
            refine Ev.bind (getNum_ev r hr hrn) ?_
            unfold numR
            cases hg : getNum r with
            | none =>
              refine wl_else (by simp) ?_
              refine Ev.step (f := fun _ => some (0, ([] : List Int), 0, 2)) (fun k => ?_) (Ev.now _)
              simp only [wire_GetRecord.j1]
              rfl
            | some p =>
              obtain ⟨u, n⟩ := p
              have hn9 := getNum_len hr hg
              refine wl_if rfl ?_
              simp only
              by_cases hu : 65536 < u
              · have hu' : (u : Int) > 65536 := by omega
                rw [if_pos hu, decide_eq_true hu']
                refine Ev.step (f := fun _ => some (0, ([] : List Int), 0, 2)) (fun k => ?_) (Ev.now _)
                simp only [wire_GetRecord.j1]
                rfl
              · have hu' : ¬ ((u : Int) > 65536) := by omega
                rw [if_neg hu, decide_eq_false hu']
                exact getRecord_end c r hl hn u n (by omega) hn9
    have hd : rd (c :: r) 0 = c := rfl
    rw [hd]
    by_cases h1 : c < 1
    · exact wl_if h1 (hj true (decide_eq_true (Or.inl h1)).symm)
    · refine wl_else h1 (hj _ ?_)
      rw [decide_eq_decide]
      omega
theorem rec_take {c : Int} {r : List Int} {u n : Nat} (hn : r.take n = num u) (hnl : n = (num u).length) (hl : 1 + n + u ≤ (c :: r).length) : (((c :: r).take (1 + n + u)).drop (1 + n)).length = u ∧ recB c (((c :: r).take (1 + n + u)).drop (1 + n)) = (c :: r).take (1 + n + u) := by
  rw [List.length_cons] at hl
  have e : ((c :: r).take (1 + n + u)) = c :: r.take (n + u) := by
    rw [show 1 + n + u = (n + u) + 1 by omega, List.take_succ_cons]
  have e2 : ((c :: r).take (1 + n + u)).drop (1 + n) = (r.take (n + u)).drop n := by
    rw [e, show 1 + n = n + 1 by omega, List.drop_succ_cons]
  have e3 : ((r.take (n + u)).drop n).length = u := by
    rw [List.length_drop, List.length_take]
    omega
  refine ⟨by rw [e2, e3], ?_⟩
  rw [e2, e]
  unfold recB text
  rw [e3, ← hn]
  congr 1
  have e4 : r.take n = (r.take (n + u)).take n := by rw [List.take_take, Nat.min_eq_left (by omega)]
  rw [e4, List.take_append_drop]
theorem refGetRecord_end (c : Int) (r : List Int) (hl : Wr.Bytes (c :: r)) (hk : 1 ≤ c ∧ c ≤ 200) (hn : (c :: r).length ≤ 140737488351232) (u n : Nat) (hu : u ≤ 65536) (hn9 : n ≤ 9) (hnu : r.take n = num u) (hnl : n = (num u).length) :
    Ev (fun k => hucksterref02_GetRecord.j1 k (c :: r) (u : Int) (n : Int) false) (if (c :: r).length < 1 + n + u + 4 then (0, [], 0, 3) else
      if ((c :: r).take (1 + n + u + 4)).drop (1 + n + u) = sum4 (rg (crcOn 0#32 ((c :: r).take (1 + n + u)))) then (c, ((c :: r).take (1 + n + u)).drop (1 + n), ((1 + n + u + 4 : Nat) : Int), 0) else (0, [], 0, 2)) := by
  have hc := hl c (by simp)
  have hc0 : wrap64 (rd (c :: r) 0) = c := wl_w64 (by show -9223372036854775808 ≤ c; omega) (by show c < _; omega)
  have w1 : wrap64 (1 + (n : Int)) = ((1 + n : Nat) : Int) := by rw [wl_w64 (by omega) (by omega)]; omega
  have w2 : wrap64 (u : Int) = (u : Int) := wl_w64 (by omega) (by omega)
  have w3 : wrap64 (((1 + n : Nat) : Int) + (u : Int)) = ((1 + n + u : Nat) : Int) := by rw [wl_w64 (by omega) (by omega)]; omega
  have w4 : wrap64 (((1 + n + u : Nat) : Int) + 4) = ((1 + n + u + 4 : Nat) : Int) := by rw [wl_w64 (by omega) (by omega)]; omega
  have w5 : wrap64 (((1 + n + u + 4 : Nat) : Int) - 4) = ((1 + n + u : Nat) : Int) := by rw [wl_w64 (by omega) (by omega)]; omega
  have hrt := fun h => rec_take (c := c) hnu hnl h
  clear hnu hnl
  generalize hL : c :: r = l at *
  by_cases hlen : l.length < 1 + n + u + 4
  · rw [if_pos hlen]
    refine Ev.step (f := fun _ => some (0, ([] : List Int), 0, 3)) (fun k => ?_) (Ev.now _)
    simp only [hucksterref02_GetRecord.j1]
    rw [if_neg (by simp), w1, w2, w3, w4, if_pos (by omega)]
  · rw [if_neg hlen]
    obtain ⟨r1, r2⟩ := hrt (by omega)
    refine Ev.step (f := fun k => (hucksterref02_Record.f k c ((l.take (1 + n + u)).drop (1 + n))).bind fun t472 => (hucksterref02_Bytes.f k t472 (l.take (1 + n + u + 4))).bind fun t476 => if t476 = true then (some (c, (l.take (1 + n + u)).drop (1 + n), ((1 + n + u + 4 : Nat) : Int), 0)) else (some (0, ([] : List Int), 0, 2))) (fun k => ?_) ?_
    · have i1 : ¬ ((l.length : Int) < ((1 + n + u + 4 : Nat) : Int)) := by omega
      have i3 : ((1 + n + u : Nat) : Int) ≤ (l.length : Int) := by omega
      have i4 : (0 : Int) ≤ ((1 + n + u + 4 : Nat) : Int) := by omega
      have i5 : ((1 + n + u + 4 : Nat) : Int) ≤ (l.length : Int) := by omega
      have i6 : (0 : Int) < (l.length : Int) := by omega
      have i7 : (0 : Int) ≤ ((1 + n : Nat) : Int) := by omega
      have i8 : ((1 + n : Nat) : Int) ≤ ((1 + n + u : Nat) : Int) := by omega
      have i9 : ([] : List Int).length + ((l.take (1 + n + u)).drop (1 + n)).length < 140737488355328 := by rw [r1, List.length_nil]; omega
      simp only [hucksterref02_GetRecord.j1]
      rw [if_neg (by simp), w1, w2, w3, w4, w5, if_neg i1]
      simp only [Option.bind_some, if_pos i7, if_pos i8, if_pos i3, Int.toNat_natCast, if_pos i9, if_pos i6, if_pos i4, if_pos i5, hc0, List.nil_append]
    · refine Ev.bind (refRecord_ev c _ hk (drop_bytes (take_bytes hl _) _) (by omega)) ?_
      have hrec : record c ((l.take (1 + n + u)).drop (1 + n)) = l.take (1 + n + u) ++ sum4 (rg (crcOn 0#32 (l.take (1 + n + u)))) := by
        unfold record
        rw [r2]
      have hspl : l.take (1 + n + u + 4) = l.take (1 + n + u) ++ (l.take (1 + n + u + 4)).drop (1 + n + u) := by
        have e4 : l.take (1 + n + u) = (l.take (1 + n + u + 4)).take (1 + n + u) := by rw [List.take_take, Nat.min_eq_left (by omega)]
        rw [e4, List.take_append_drop]
      rw [hrec]
      refine Ev.bind (eq_ev _ _ (by rw [List.length_append, List.length_take]; simp only [sum4, List.length_cons, List.length_nil]; omega)) ?_
      by_cases he : (l.take (1 + n + u + 4)).drop (1 + n + u) = sum4 (rg (crcOn 0#32 (l.take (1 + n + u))))
      · rw [if_pos he]
        refine wl_if (decide_eq_true ?_) (Ev.now _)
        rw [← he]
        exact hspl.symm
      · rw [if_neg he]
        refine wl_else ?_ (Ev.now _)
        intro h
        have h := of_decide_eq_true h
        rw [hspl] at h
        exact he (List.append_cancel_left h).symm
theorem refGetRecord_ev (l : List Int) (hl : Wr.Bytes l) (hn : l.length ≤ 140737488351232) : Ev (fun k => hucksterref02_GetRecord.f k l) (recR l) := by
  unfold hucksterref02_GetRecord.f
  cases l with
  | nil => exact wl_if rfl (Ev.now _)
  | cons c r =>
    have hc := hl c (by simp)
    have hr : Wr.Bytes r := fun x hx => hl x (List.mem_cons_of_mem _ hx)
    have hrn : r.length ≤ 140737488351232 := by rw [List.length_cons] at hn; omega
    refine wl_else (by rw [List.length_cons]; omega) ?_
    refine wl_if (by rw [List.length_cons]; omega) ?_
    have hj : ∀ b : Bool, b = decide (c < 1 ∨ 200 < c) → Ev (fun k => hucksterref02_GetRecord.j0 k (c :: r) b) (recR (c :: r)) := by
      intro b hb
      by_cases h : c < 1 ∨ 200 < c
      · rw [decide_eq_true h] at hb
        subst hb
        simp only [recR]
        rw [if_pos h]
        refine Ev.step (f := fun _ => some (0, ([] : List Int), 0, 2)) (fun k => ?_) (Ev.now _)
        simp only [hucksterref02_GetRecord.j0]
        rfl
      · rw [decide_eq_false h] at hb
        subst hb
        simp only [recR]
        rw [if_neg h]
        refine Ev.step (f := fun k => (hucksterref02_within.f k r).bind fun t460 => (if t460 = true then (some (0, ([] : List Int), 0, 3)) else ((hucksterref02_GetNum.f k r).bind fun bt462 => (if bt462.2 = 0 then (hucksterref02_GetRecord.j1 k (c :: r) bt462.1 bt462.2 true) else (hucksterref02_GetRecord.j1 k (c :: r) bt462.1 bt462.2 (decide (bt462.1 > 65536))))))) (fun k => ?_) ?_
        · have i1 : (1 : Int) ≤ ((c :: r).length : Int) := by rw [List.length_cons]; omega
          simp only [hucksterref02_GetRecord.j0]
          rw [if_neg (by simp), if_pos i1]
          rfl
        · refine Ev.bind (within_ev r hr hrn) ?_
          by_cases hs : short r = true
          · rw [if_pos hs]
            exact wl_if hs (Ev.now _)
          · rw [if_neg hs]
            refine wl_else hs ?_
            refine Ev.bind (refGetNum_ev r hr hrn) ?_
            unfold numR2
            cases hg : getNum r with
            | none =>
              refine wl_if rfl ?_
              refine Ev.step (f := fun _ => some (0, ([] : List Int), 0, 2)) (fun k => ?_) (Ev.now _)
              simp only [hucksterref02_GetRecord.j1]
              rfl
            | some p =>
              obtain ⟨u, n⟩ := p
              have hn9 := getNum_len hr hg
              have hn0 := num_pos hr hg
              obtain ⟨b1, b2, b3, b4⟩ := getNum_some hr hg
              have hz : ¬ ((n : Int) = 0) := by clear b1 b3; omega
              refine wl_else hz ?_
              simp only
              by_cases hu : 65536 < u
              · have hu' : (u : Int) > 65536 := by clear b1 b3; omega
                rw [if_pos hu, decide_eq_true hu']
                refine Ev.step (f := fun _ => some (0, ([] : List Int), 0, 2)) (fun k => ?_) (Ev.now _)
                simp only [hucksterref02_GetRecord.j1]
                rfl
              · have hu' : ¬ ((u : Int) > 65536) := by clear b1 b3; omega
                have hu2 : u ≤ 65536 := by clear b1 b3; omega
                have hk : 1 ≤ c ∧ c ≤ 200 := by clear b1 b3; omega
                rw [if_neg hu, decide_eq_false hu']
                exact refGetRecord_end c r hl hk hn u n hu2 hn9 b1 b3
    have hd : rd (c :: r) 0 = c := rfl
    rw [hd]
    by_cases h1 : c < 1
    · exact wl_if h1 (hj true (decide_eq_true (Or.inl h1)).symm)
    · refine wl_else h1 (hj _ ?_)
      rw [decide_eq_decide]
      omega
theorem recR_body (l : List Int) : (recR l).2.1.length ≤ l.length := by
  unfold recR
  cases l with
  | nil => simp
  | cons c r =>
    simp only
    split
    · simp
    · split
      · simp
      · split
        · simp
        · split
          · simp
          · split
            · simp
            · split
              · simp only [List.length_drop, List.length_take]
                omega
              · simp
end Go.Proofs.Ytgobbmhkmnaegaa.PWire

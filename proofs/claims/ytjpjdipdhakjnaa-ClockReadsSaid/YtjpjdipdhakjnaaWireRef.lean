/- Numbers, texts and packs: what the reference's functions come to, in plain words. -/
import Derived.Test.YtjpjdipdhakjnaaWireLink
import Derived.Test.YtjpjdipdhakjnaaPReadx4
import Derived.Test.YtjpjdipdhakjnaaPReadx5
import Derived.Test.YtjpjdipdhakjnaaPReadx6
namespace Go.Proofs.Ytjpjdipdhakjnaa.PRead
open Go.RowKit Go.Proofs.YtjpjdipdhakjnaaW.PrintWords Go.Proofs.YtjpjdipdhakjnaaW.PrintLast Go.Proofs.Ytjpjdipdhakjnaa.Wr
set_option linter.unusedVariables false
set_option linter.unusedSimpArgs false

theorem cons_dec {α : Type} [DecidableEq α] (x y : α) (xs ys : List α) : decide (x :: xs = y :: ys) = (decide (x = y) && decide (xs = ys)) := by
  rw [Bool.eq_iff_iff]
  simp
theorem eq_loop (a b : List Int) (hab : a.length = b.length) (hn : a.length ≤ 140737488355328) (d : Nat) : ∀ (i : Nat), i + d = a.length → Ev (fun k => hucksterref02_Bytes.l0 k a b (i : Int)) (decide (a.drop i = b.drop i)) := by
  induction d with
  | zero =>
    intro i hi
    have e1 : a.drop i = [] := List.drop_eq_nil_of_le (by omega)
    have e2 : b.drop i = [] := List.drop_eq_nil_of_le (by omega)
    rw [e1, e2]
    refine Ev.step (f := fun _ => some true) (fun k => ?_) (Ev.now _)
    simp only [hucksterref02_Bytes.l0]
    rw [if_neg (by omega)]
  | succ d ih =>
    intro i hi
    have ha : i < a.length := by omega
    have hb : i < b.length := by omega
    have hw : wrap64 ((i : Int) + 1) = ((i + 1 : Nat) : Int) := by unfold wrap64; omega
    have e : decide (a.drop i = b.drop i) = (decide (a[i] = b[i]) && decide (a.drop (i + 1) = b.drop (i + 1))) := by
      rw [List.drop_eq_getElem_cons ha, List.drop_eq_getElem_cons hb]
      exact cons_dec _ _ _ _
    rw [e]
    by_cases h : a[i] = b[i]
    · rw [decide_eq_true h, Bool.true_and]
      refine Ev.step (f := fun k => hucksterref02_Bytes.l0 k a b ((i + 1 : Nat) : Int)) (fun k => ?_) (ih (i + 1) (by omega))
      simp only [hucksterref02_Bytes.l0]
      rw [if_pos (by omega), if_pos (by omega), if_pos (by omega), wl_rd ha, wl_rd hb, if_pos h, hw]
    · rw [decide_eq_false h, Bool.false_and]
      refine Ev.step (f := fun _ => some false) (fun k => ?_) (Ev.now _)
      simp only [hucksterref02_Bytes.l0]
      rw [if_pos (by omega), if_pos (by omega), if_pos (by omega), wl_rd ha, wl_rd hb, if_neg h]
theorem eq_ev (a b : List Int) (hn : a.length ≤ 140737488355328) : Ev (fun k => hucksterref02_Bytes.f k a b) (decide (a = b)) := by
  unfold hucksterref02_Bytes.f
  by_cases h : a.length = b.length
  · have h' : (a.length : Int) = (b.length : Int) := by omega
    exact wl_if h' (eq_loop a b h hn a.length 0 (by omega))
  · have h' : ¬ ((a.length : Int) = (b.length : Int)) := by omega
    have e : decide (a = b) = false := decide_eq_false (fun e => h (by rw [e]))
    rw [e]
    exact wl_else h' (Ev.now _)
theorem refNum_loop (u : Nat) : ∀ (out : List Int), u < 18446744073709551616 → (be u).length + out.length ≤ 8 → Ev (fun k => hucksterref02_Num.l0 k (u : Int) out) ((((be u ++ out).length : Nat) : Int) :: (be u ++ out)) := by
  induction u using Nat.strongRecOn with
  | _ u ih =>
    intro out hu hl
    rcases Nat.eq_zero_or_pos u with h0 | h0
    · subst h0
      rw [be_zero] at hl ⊢
      simp only [List.length_nil, Nat.zero_add] at hl
      refine Ev.step (f := fun _ => some (((out.length : Nat) : Int) :: out)) (fun k => ?_) (Ev.now _)
      simp only [hucksterref02_Num.l0]
      rw [if_neg (by omega)]
      simp only [Option.bind_some]
      have e : ((out.length : Nat) : Int) % 256 = ((out.length : Nat) : Int) := by omega
      rw [e, if_pos (by rw [List.length_singleton]; omega)]
      rfl
    · have e1 : Int.tmod (u : Int) 256 % 256 = ((u % 256 : Nat) : Int) := by
        rw [show Int.tmod (u : Int) 256 = ((u % 256 : Nat) : Int) from rfl]
        omega
      have e2 : IntKind.u64.wrap (Int.tdiv (u : Int) 256) = ((u / 256 : Nat) : Int) := by
        rw [show Int.tdiv (u : Int) 256 = ((u / 256 : Nat) : Int) from rfl]
        exact wl_u64 (by omega) (by omega)
      have hb := be_pos h0
      rw [hb] at hl ⊢
      rw [List.length_append, List.length_singleton] at hl
      refine Ev.step (f := fun k => hucksterref02_Num.l0 k ((u / 256 : Nat) : Int) (((u % 256 : Nat) : Int) :: out)) (fun k => ?_) ?_
      · simp only [hucksterref02_Num.l0]
        rw [if_pos (by omega)]
        simp only [Option.bind_some]
        rw [e1, e2, if_pos (by rw [List.length_singleton]; omega)]
        rfl
      · have := ih (u / 256) (by omega) (((u % 256 : Nat) : Int) :: out) (by omega) (by rw [List.length_cons]; omega)
        rw [List.append_assoc]
        exact this
theorem refNum_ev (u : Nat) (hu : u < 18446744073709551616) : Ev (fun k => hucksterref02_Num.f k (u : Int)) (num u) := by
  have := refNum_loop u [] hu (by have := be_len8 hu; simpa using this)
  rw [List.append_nil] at this
  exact this
theorem refText_ev (t : List Int) (ht : t.length < 140737488350000) : Ev (fun k => hucksterref02_Text.f k t) (text t) := by
  unfold hucksterref02_Text.f
  rw [wl_u64 (by omega) (by omega)]
  refine Ev.bind (refNum_ev t.length (by omega)) ?_
  have h := num_length t.length
  have h8 := be_len8 (u := t.length) (by omega)
  refine wl_if (by omega) ?_
  exact Ev.now _
theorem refPack_loop (l : List (List Int)) (hn : l.length ≤ 1000000) (hl : ∀ t ∈ l, t.length ≤ 1000000) (d : Nat) : ∀ (out : List Int) (i : Nat), i + d = l.length → out.length ≤ 9 + i * 1000009 → Ev (fun k => hucksterref02_Pack.l0 k l out (i : Int)) (out ++ texts (l.drop i)) := by
  induction d with
  | zero =>
    intro out i hi ho
    have e : l.drop i = [] := List.drop_eq_nil_of_le (by omega)
    rw [e]
    refine Ev.step (f := fun _ => some out) (fun k => ?_) (by simpa [texts] using Ev.now out)
    simp only [hucksterref02_Pack.l0]
    rw [if_neg (by omega)]
  | succ d ih =>
    intro out i hi ho
    have hlt : i < l.length := by omega
    have hw : wrap64 ((i : Int) + 1) = ((i + 1 : Nat) : Int) := by unfold wrap64; omega
    have hm := hl _ (List.getElem_mem hlt)
    have hnum := num_length l[i].length
    have h8 := be_len8 (u := l[i].length) (by omega)
    have hlen : (text l[i]).length ≤ 1000009 := by unfold text; rw [List.length_append]; omega
    have hmul : i * 1000009 ≤ 1000000 * 1000009 := Nat.mul_le_mul_right _ (by omega)
    refine Ev.step (f := fun k => (hucksterref02_Text.f k l[i]).bind fun t => if out.length + t.length < 140737488355328 then hucksterref02_Pack.l0 k l (out ++ t) ((i + 1 : Nat) : Int) else none) (fun k => ?_) ?_
    · simp only [hucksterref02_Pack.l0]
      rw [if_pos (by omega), if_pos (by omega), hw, wl_rdL hlt]
    · refine Ev.bind (refText_ev _ (by omega)) ?_
      refine wl_if (by omega) ?_
      have := ih (out ++ text l[i]) (i + 1) (by omega) (by rw [List.length_append]; omega)
      rw [List.drop_eq_getElem_cons hlt, texts_cons, ← List.append_assoc]
      exact this
theorem refPack_ev (l : List (List Int)) (hn : l.length ≤ 1000000) (hl : ∀ t ∈ l, t.length ≤ 1000000) : Ev (fun k => hucksterref02_Pack.f k l) (pack l) := by
  unfold hucksterref02_Pack.f
  rw [wl_u64 (by omega) (by omega)]
  refine Ev.bind (refNum_ev l.length (by omega)) ?_
  have h := num_length l.length
  have h8 := be_len8 (u := l.length) (by omega)
  exact refPack_loop l hn hl l.length _ 0 (by omega) (by omega)

/-! ### what bytes begin with -/
def numR2 (l : List Int) : Int × Int := match getNum l with | none => (0, 0) | some (u, n) => ((u : Int), (n : Int))
theorem refGetNum_loop (c : Int) (r : List Int) (hl : Bytes (c :: r)) (h8 : c.toNat ≤ 8) (hr : c.toNat ≤ r.length) (hn : r.length ≤ 140737488351231) (d : Nat) : ∀ (i : Nat), i + d = c.toNat → Ev (fun k => hucksterref02_GetNum.l0 k (c :: r) (c + 1) ((val (r.take i) : Nat) : Int) ((i + 1 : Nat) : Int)) (numR2 (c :: r)) := by
  have hc := hl c List.mem_cons_self
  induction d with
  | zero =>
    intro i hi
    have hi' : i = c.toNat := by omega
    subst hi'
    have hb : Bytes (r.take c.toNat) := fun x hx => hl x (List.mem_cons_of_mem _ (List.mem_of_mem_take hx))
    have hv : val (r.take c.toNat) < 18446744073709551616 := val_cons_le _ hb 8 (by rw [List.length_take]; omega)
    refine Ev.step (f := fun k => (hucksterref02_Num.f k ((val (r.take c.toNat) : Nat) : Int)).bind fun t => (hucksterref02_Bytes.f k t ((c :: r).take (c.toNat + 1))).bind fun q => if q = true then some (((val (r.take c.toNat) : Nat) : Int), c + 1) else some (0, 0)) (fun k => ?_) ?_
    · simp only [hucksterref02_GetNum.l0]
      have n1 : ¬ (((c.toNat + 1 : Nat) : Int) < c + 1) := by omega
      have n2 : (0 : Int) ≤ c + 1 := by omega
      have n3 : c + 1 ≤ (((c :: r).length : Nat) : Int) := by rw [List.length_cons]; omega
      have n4 : (c + 1).toNat = c.toNat + 1 := by omega
      rw [if_neg n1]
      congr 1
      funext t
      rw [if_pos n2, if_pos n3, n4]
    · refine Ev.bind (refNum_ev _ hv) ?_
      have hlen : (num (val (r.take c.toNat))).length ≤ 140737488355328 := by
        have := num_length (val (r.take c.toNat))
        have := be_len8 hv
        omega
      refine Ev.bind (eq_ev _ _ hlen) ?_
      have hq := num_take hl h8 hr
      by_cases h : num (val (r.take c.toNat)) = (c :: r).take (c.toNat + 1)
      · have e : numR2 (c :: r) = (((val (r.take c.toNat) : Nat) : Int), c + 1) := by
          unfold numR2 getNum
          simp only
          rw [if_pos ⟨h8, hr, hq.1 h⟩]
          simp only
          congr 1
          omega
        rw [e]
        exact wl_if (decide_eq_true h) (Ev.now _)
      · have e : numR2 (c :: r) = (0, 0) := by
          unfold numR2 getNum
          simp only
          rw [if_neg (fun hh => h (hq.2 hh.2.2))]
        rw [e]
        exact wl_else (by rw [decide_eq_false h]; decide) (Ev.now _)
  | succ d ih =>
    intro i hi
    have hlt : i < r.length := by omega
    have hw : wrap64 (((i + 1 : Nat) : Int) + 1) = ((i + 1 + 1 : Nat) : Int) := by unfold wrap64; omega
    have hx := hl _ (List.mem_cons_of_mem c (List.getElem_mem hlt))
    have hv : val (r.take i) < 256 ^ 7 := val_cons_le _ (fun x hx => hl x (List.mem_cons_of_mem _ (List.mem_of_mem_take hx))) 7 (by rw [List.length_take]; omega)
    have hv' : val (r.take i) < 72057594037927936 := hv
    have e1 : val (r.take (i + 1)) = val (r.take i) * 256 + r[i].toNat := by
      rw [← val_snoc]
      congr 1
      exact List.take_succ_eq_append_getElem hlt
    have hrd : rd (c :: r) ((i + 1 : Nat) : Int) = r[i] := wl_rd (l := c :: r) (i := i + 1) (by rw [List.length_cons]; omega)
    refine Ev.step (f := fun k => hucksterref02_GetNum.l0 k (c :: r) (c + 1) ((val (r.take (i + 1)) : Nat) : Int) ((i + 1 + 1 : Nat) : Int)) (fun k => ?_) (ih (i + 1) (by omega))
    simp only [hucksterref02_GetNum.l0]
    have n1 : ((i + 1 : Nat) : Int) < c + 1 := by omega
    have n2 : (0 : Int) ≤ ((i + 1 : Nat) : Int) := by omega
    have n3 : ((i + 1 : Nat) : Int) < (((c :: r).length : Nat) : Int) := by rw [List.length_cons]; omega
    rw [if_pos n1, if_pos n2, if_pos n3, hw, hrd, wl_u64 (x := r[i]) (by omega) (by omega)]
    rw [show ((val (r.take i) : Nat) : Int) * 256 = ((val (r.take i) * 256 : Nat) : Int) from by omega, wl_u64 (x := ((val (r.take i) * 256 : Nat) : Int)) (by omega) (by omega)]
    have e2 : ((val (r.take i) * 256 : Nat) : Int) + r[i] = ((val (r.take (i + 1)) : Nat) : Int) := by rw [e1]; omega
    rw [e2, wl_u64 (by omega) (by rw [e1]; omega)]
theorem refGetNum_ev (l : List Int) (hl : Bytes l) (hn : l.length ≤ 140737488351232) : Ev (fun k => hucksterref02_GetNum.f k l) (numR2 l) := by
  have bad : Ev (fun k => hucksterref02_GetNum.j0 k l true) (0, 0) := by
    refine Ev.step (f := fun _ => some (0, 0)) (fun k => ?_) (Ev.now _)
    simp only [hucksterref02_GetNum.j0]
    rw [if_pos trivial]
  unfold hucksterref02_GetNum.f
  cases l with
  | nil => exact wl_if rfl bad
  | cons c r =>
    have hc := hl c List.mem_cons_self
    have hr0 : rd (c :: r) 0 = c := rfl
    have hlen : (((c :: r).length : Nat) : Int) = (r.length : Int) + 1 := by simp
    rw [List.length_cons] at hn
    have wc : wrap64 c = c := wl_w64 (by omega) (by omega)
    have w2 : wrap64 (c + 1) = c + 1 := wl_w64 (by omega) (by omega)
    have n1 : ¬ ((((c :: r).length : Nat) : Int) = 0) := by omega
    have n2 : (0 : Int) < (((c :: r).length : Nat) : Int) := by omega
    refine wl_else n1 ?_
    refine wl_if n2 ?_
    rw [hr0, wc, w2]
    by_cases h8 : c > 8
    · have e : numR2 (c :: r) = (0, 0) := by
        unfold numR2 getNum
        simp only
        rw [if_neg (fun h => by omega)]
      rw [e]
      exact wl_if h8 bad
    · refine wl_else h8 ?_
      by_cases hle : (((c :: r).length : Nat) : Int) < c + 1
      · have e : numR2 (c :: r) = (0, 0) := by
          unfold numR2 getNum
          simp only
          rw [if_neg (fun h => by omega)]
        rw [e, decide_eq_true hle]
        exact bad
      · rw [decide_eq_false hle]
        refine Ev.step (f := fun k => hucksterref02_GetNum.l0 k (c :: r) (c + 1) ((val (r.take 0) : Nat) : Int) ((0 + 1 : Nat) : Int)) (fun k => ?_) (refGetNum_loop c r hl (by omega) (by omega) (by omega) c.toNat 0 (by omega))
        simp only [hucksterref02_GetNum.j0]
        rw [if_neg (by simp), if_pos n2, hr0, wc, w2]
        rfl
def textR2 (l : List Int) : List Int × Int := match getText l with | none => ([], 0) | some (t, n) => (t, (n : Int))
theorem num_pos {l : List Int} (hl : Bytes l) {u n : Nat} (h : getNum l = some (u, n)) : 0 < n := by
  have h3 := (getNum_some hl h).2.2.1
  have := num_length u
  omega
theorem refGetText_ev (l : List Int) (hl : Bytes l) (hn : l.length ≤ 140737488351232) : Ev (fun k => hucksterref02_GetText.f k l) (textR2 l) := by
  unfold hucksterref02_GetText.f
  refine Ev.bind (refGetNum_ev l hl hn) ?_
  unfold textR2 numR2
  cases hg : getNum l with
  | none =>
    have e : getText l = none := by
      unfold getText
      rw [hg]
    rw [e]
    simp only
    exact wl_if trivial (Ev.now _)
  | some p =>
    obtain ⟨u, n⟩ := p
    simp only
    have hp := num_pos hl hg
    have hu := (getNum_some hl hg).2.1
    have hnl := (getNum_some hl hg).2.2.2
    have n0 : ¬ ((n : Int) = 0) := by omega
    refine wl_else n0 ?_
    by_cases h1 : u ≤ 65536
    · have n1 : ¬ ((u : Int) > 65536) := by omega
      refine wl_else n1 ?_
      have w1 : wrap64 (u : Int) = (u : Int) := wl_w64 (by omega) (by omega)
      have w3 : wrap64 ((n : Int) + (u : Int)) = ((n + u : Nat) : Int) := by unfold wrap64; omega
      rw [w1, w3]
      by_cases h2 : n + u ≤ l.length
      · have e : getText l = some ((l.take (n + u)).drop n, n + u) := by
          unfold getText
          rw [hg]
          exact if_pos ⟨h1, h2⟩
        rw [e]
        have n2 : ¬ (((n + u : Nat) : Int) > (l.length : Int)) := by omega
        have n3 : (0 : Int) ≤ (n : Int) := by omega
        have n4 : (n : Int) ≤ ((n + u : Nat) : Int) := by omega
        have n5 : ((n + u : Nat) : Int) ≤ (l.length : Int) := by omega
        have n6 : ([] : List Int).length + ((l.take (n + u)).drop n).length < 140737488355328 := by rw [List.length_drop, List.length_take, List.length_nil]; omega
        refine wl_else n2 ?_
        refine Ev.congr (fun k => Option.bind_some _ _) ?_
        refine wl_if n3 ?_
        refine wl_if n4 ?_
        refine wl_if n5 ?_
        simp only [Int.toNat_natCast, List.nil_append]
        exact wl_if n6 (Ev.now _)
      · have e : getText l = none := by
          unfold getText
          rw [hg]
          exact if_neg (fun h => h2 h.2)
        rw [e]
        have n2 : ((n + u : Nat) : Int) > (l.length : Int) := by omega
        exact wl_if n2 (Ev.now _)
    · have e : getText l = none := by
        unfold getText
        rw [hg]
        exact if_neg (fun h => h1 h.1)
      rw [e]
      have n1 : (u : Int) > 65536 := by omega
      exact wl_if n1 (Ev.now _)
theorem text_pos {l : List Int} (hl : Bytes l) {t : List Int} {n : Nat} (h : getText l = some (t, n)) : 0 < n := by
  have h3 := (getText_some hl h).2.2.1
  have := num_length t.length
  unfold text at h3
  rw [List.length_append] at h3
  omega
def packR2 (l : List Int) (most : Nat) : List (List Int) × Int := match unpack l most with | none => ([], 0) | some (ts, n) => (ts, (n : Int))
def textsR2 (out : List (List Int)) (at_ : Nat) (r : Option (List (List Int) × Nat)) : List (List Int) × Int := match r with | none => ([], 0) | some (ts, n) => (out ++ ts, ((at_ + n : Nat) : Int))
theorem refUnpack_loop (l : List Int) (hl : Bytes l) (hn : l.length ≤ 140737488351232) (m : Nat) (hm : m ≤ 1000) (d : Nat) : ∀ (out : List (List Int)) (i at_ : Nat), i + d = m → at_ ≤ l.length → out.length = i → Ev (fun k => hucksterref02_Unpack.l0 k l (m : Int) (at_ : Int) out (i : Int)) (textsR2 out at_ (getTexts d (l.drop at_))) := by
  have wm : wrap64 (m : Int) = (m : Int) := wl_w64 (by omega) (by omega)
  induction d with
  | zero =>
    intro out i at_ hi hat ho
    have e : textsR2 out at_ (getTexts 0 (l.drop at_)) = (out, (at_ : Int)) := by
      unfold textsR2 getTexts
      simp
    rw [e]
    refine Ev.step (f := fun _ => some (out, (at_ : Int))) (fun k => ?_) (Ev.now _)
    simp only [hucksterref02_Unpack.l0]
    rw [wm, if_neg (by omega)]
  | succ d ih =>
    intro out i at_ hi hat ho
    have hb : Bytes (l.drop at_) := fun x hx => hl x (List.mem_of_mem_drop hx)
    have hw : wrap64 ((i : Int) + 1) = ((i + 1 : Nat) : Int) := by unfold wrap64; omega
    refine Ev.step (f := fun k => (hucksterref02_GetText.f k (l.drop at_)).bind fun bt => if bt.2 = 0 then some ([], 0) else (if out.length < 5864062014805 then hucksterref02_Unpack.l0 k l (m : Int) (wrap64 ((at_ : Int) + bt.2)) (out ++ [bt.1]) ((i + 1 : Nat) : Int) else none)) (fun k => ?_) ?_
    · simp only [hucksterref02_Unpack.l0]
      rw [wm, if_pos (by omega), if_pos (by omega), if_pos (by omega), hw, Int.toNat_natCast]
    · refine Ev.bind (refGetText_ev _ hb (by rw [List.length_drop]; omega)) ?_
      unfold textR2
      conv => rhs; unfold getTexts
      cases hg : getText (l.drop at_) with
      | none =>
        simp only
        exact wl_if trivial (Ev.now _)
      | some p =>
        obtain ⟨t, n⟩ := p
        simp only
        have hp := text_pos hb hg
        obtain ⟨a1, a2, a3, a4, a5⟩ := getText_some hb hg
        clear a1 a2 a3 a5
        rw [List.length_drop] at a4
        have hi' : i + 1 + d = m := by omega
        have hat' : at_ + n ≤ l.length := by omega
        have n0 : ¬ ((n : Int) = 0) := by omega
        refine wl_else n0 ?_
        refine wl_if (by omega) ?_
        have w1 : wrap64 ((at_ : Int) + (n : Int)) = ((at_ + n : Nat) : Int) := by unfold wrap64; omega
        rw [w1]
        have ho' : (out ++ [t]).length = i + 1 := by rw [List.length_append, ho]; rfl
        have := ih (out ++ [t]) (i + 1) (at_ + n) hi' hat' ho'
        rw [List.drop_drop]
        cases hg2 : getTexts d (l.drop (at_ + n)) with
        | none =>
          rw [hg2] at this
          exact this
        | some q =>
          obtain ⟨ts, n'⟩ := q
          rw [hg2] at this
          unfold textsR2 at this ⊢
          simp only at this ⊢
          rw [List.append_assoc, Nat.add_assoc] at this
          exact this
theorem refUnpack_ev (l : List Int) (hl : Bytes l) (hn : l.length ≤ 140737488351232) (most : Nat) (hm : most ≤ 1000) : Ev (fun k => hucksterref02_Unpack.f k l (most : Int)) (packR2 l most) := by
  unfold hucksterref02_Unpack.f
  refine Ev.bind (refGetNum_ev l hl hn) ?_
  have wm : IntKind.u64.wrap (most : Int) = (most : Int) := wl_u64 (by omega) (by omega)
  have bad : ∀ x y : Int, Ev (fun k => hucksterref02_Unpack.j0 k l x y true) ([], 0) := fun x y => by
    refine Ev.step (f := fun _ => some ([], 0)) (fun k => ?_) (Ev.now _)
    simp only [hucksterref02_Unpack.j0]
    rw [if_pos trivial]
  unfold packR2 unpack numR2
  cases hg : getNum l with
  | none =>
    simp only
    exact wl_if trivial (bad _ _)
  | some p =>
    obtain ⟨u, n⟩ := p
    simp only
    have hp := num_pos hl hg
    have hnl := (getNum_some hl hg).2.2.2
    have n0 : ¬ ((n : Int) = 0) := by omega
    refine wl_else n0 ?_
    rw [wm]
    by_cases h1 : u ≤ most
    · have n2 : ¬ ((u : Int) > (most : Int)) := by omega
      rw [decide_eq_false n2, if_pos h1]
      refine Ev.step (f := fun k => hucksterref02_Unpack.l0 k l (u : Int) (n : Int) [] 0) (fun k => ?_) ?_
      · simp only [hucksterref02_Unpack.j0]
        rw [if_neg (by simp)]
      · have := refUnpack_loop l hl hn u (by omega) u [] 0 n (by omega) hnl rfl
        cases hg2 : getTexts u (l.drop n) with
        | none =>
          rw [hg2] at this
          exact this
        | some q =>
          obtain ⟨ts, n'⟩ := q
          rw [hg2] at this
          exact this
    · have n2 : (u : Int) > (most : Int) := by omega
      rw [decide_eq_true n2, if_neg h1]
      exact bad _ _
end Go.Proofs.Ytjpjdipdhakjnaa.PRead

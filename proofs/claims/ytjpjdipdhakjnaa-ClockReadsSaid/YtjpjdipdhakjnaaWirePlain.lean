/- Numbers, texts and packs as bytes, in plain words: what is put is got, and only what is put is got. -/
import Derived.WalkKit
namespace Go.Proofs.Ytjpjdipdhakjnaa.Wr
set_option linter.unusedVariables false
set_option linter.unusedSimpArgs false

def Bytes (l : List Int) : Prop := ∀ x ∈ l, 0 ≤ x ∧ x < 256
theorem rev_ind {P : List Int → Prop} (nil : P []) (snoc : ∀ l c, P l → P (l ++ [c])) (l : List Int) : P l := by
  rw [← List.reverse_reverse l]
  induction l.reverse with
  | nil => exact nil
  | cons c l ih =>
    rw [List.reverse_cons]
    exact snoc _ _ ih
/-- A number's digits to the base 256, the highest one first. -/
def be (u : Nat) : List Int := if h : u = 0 then [] else be (u / 256) ++ [((u % 256 : Nat) : Int)]
termination_by u
decreasing_by omega
theorem be_zero : be 0 = [] := by rw [be]; simp
theorem be_pos {u : Nat} (h : 0 < u) : be u = be (u / 256) ++ [((u % 256 : Nat) : Int)] := by rw [be]; simp [Nat.ne_of_gt h]
def num (u : Nat) : List Int := ((be u).length : Int) :: be u
def val (l : List Int) : Nat := l.foldl (fun a c => a * 256 + c.toNat) 0
theorem val_nil : val [] = 0 := rfl
theorem val_snoc (l : List Int) (c : Int) : val (l ++ [c]) = val l * 256 + c.toNat := by simp [val]
theorem be_bytes (u : Nat) : Bytes (be u) := by
  induction u using Nat.strongRecOn with
  | _ u ih =>
    rcases Nat.eq_zero_or_pos u with h | h
    · subst h
      rw [be_zero]
      intro x hx
      cases hx
    · rw [be_pos h]
      intro x hx
      rcases List.mem_append.1 hx with hx | hx
      · exact ih _ (by omega) x hx
      · rw [List.mem_singleton.1 hx]
        omega
theorem val_be (u : Nat) : val (be u) = u := by
  induction u using Nat.strongRecOn with
  | _ u ih =>
    rcases Nat.eq_zero_or_pos u with h | h
    · subst h
      rw [be_zero]
      rfl
    · rw [be_pos h, val_snoc, ih _ (by omega)]
      omega
theorem be_head (u : Nat) (h : 0 < u) : ∃ c l, be u = c :: l ∧ 0 < c := by
  induction u using Nat.strongRecOn with
  | _ u ih =>
    rw [be_pos h]
    rcases Nat.eq_zero_or_pos (u / 256) with h0 | h0
    · rw [h0, be_zero]
      exact ⟨_, [], rfl, by omega⟩
    · obtain ⟨c, l, e, hc⟩ := ih (u / 256) (by omega) h0
      rw [e]
      exact ⟨c, l ++ [((u % 256 : Nat) : Int)], rfl, hc⟩
theorem be_len_le (n : Nat) : ∀ u, u < 256 ^ n → (be u).length ≤ n := by
  induction n with
  | zero =>
    intro u h
    have : u = 0 := by simpa using h
    subst this
    rw [be_zero]
    simp
  | succ n ih =>
    intro u h
    rcases Nat.eq_zero_or_pos u with h0 | h0
    · subst h0
      rw [be_zero]
      simp
    · rw [be_pos h0, List.length_append]
      have h1 : u / 256 < 256 ^ n := by
        rw [Nat.div_lt_iff_lt_mul (by omega)]
        rwa [Nat.pow_succ] at h
      have := ih _ h1
      simp
      omega
theorem be_len_ge (n : Nat) : ∀ u, 256 ^ n ≤ u → n < (be u).length := by
  induction n with
  | zero =>
    intro u h
    have h0 : 0 < u := by simp at h; omega
    rw [be_pos h0]
    simp
  | succ n ih =>
    intro u h
    have h0 : 0 < u := Nat.lt_of_lt_of_le (Nat.pow_pos (by omega)) h
    rw [be_pos h0, List.length_append]
    have h1 : 256 ^ n ≤ u / 256 := by
      rw [Nat.le_div_iff_mul_le (by omega)]
      rwa [Nat.pow_succ] at h
    have := ih _ h1
    simp
    omega
theorem be_len8 {u : Nat} (h : u < 18446744073709551616) : (be u).length ≤ 8 := be_len_le 8 u h
theorem val_lt (l : List Int) (hl : Bytes l) : val l < 256 ^ l.length := by
  induction l using rev_ind with
  | nil => simp [val]
  | snoc l c ih =>
    have h1 := ih (fun x hx => hl x (List.mem_append_left _ hx))
    have h2 := hl c (List.mem_append_right _ (List.mem_singleton.2 rfl))
    rw [val_snoc, List.length_append, List.length_singleton, Nat.pow_succ]
    have : c.toNat < 256 := by omega
    have h3 : (val l + 1) * 256 ≤ 256 ^ l.length * 256 := Nat.mul_le_mul_right _ h1
    omega
/-- Digits that do not begin with nought are a number's. -/
theorem be_val (l : List Int) (hl : Bytes l) (h : ∀ c r, l = c :: r → 0 < c) : be (val l) = l := by
  induction l using rev_ind with
  | nil => rw [val_nil, be_zero]
  | snoc l c ih =>
    have h2 := hl c (List.mem_append_right _ (List.mem_singleton.2 rfl))
    have hb : Bytes l := fun x hx => hl x (List.mem_append_left _ hx)
    rw [val_snoc]
    cases l with
    | nil =>
      have hc := h c [] rfl
      rw [val_nil, be_pos (by omega)]
      have e1 : (0 * 256 + c.toNat) / 256 = 0 := by omega
      have e2 : (((0 * 256 + c.toNat) % 256 : Nat) : Int) = c := by omega
      rw [e1, e2, be_zero]
    | cons d l =>
      have hd := h d (l ++ [c]) rfl
      have ih' := ih hb (fun c' r' e => by
        injection e with e1 e2
        rw [← e1]
        exact hd)
      have hp : 0 < val (d :: l) := by
        rcases Nat.eq_zero_or_pos (val (d :: l)) with h0 | h0
        · rw [h0, be_zero] at ih'
          cases ih'
        · exact h0
      rw [be_pos (by omega)]
      have e1 : (val (d :: l) * 256 + c.toNat) / 256 = val (d :: l) := by omega
      have e2 : (((val (d :: l) * 256 + c.toNat) % 256 : Nat) : Int) = c := by omega
      rw [e1, e2, ih']

/-- The number that bytes begin with, and how many bytes it has. -/
def getNum (l : List Int) : Option (Nat × Nat) :=
  match l with
  | [] => none
  | c :: r => if c.toNat ≤ 8 ∧ c.toNat ≤ r.length ∧ (0 < c.toNat → r.getD 0 0 ≠ 0) then some (val (r.take c.toNat), c.toNat + 1) else none
theorem num_length (u : Nat) : (num u).length = (be u).length + 1 := by simp [num]
theorem num_bytes {u : Nat} (h : u < 18446744073709551616) : Bytes (num u) := by
  intro x hx
  rcases List.mem_cons.1 hx with rfl | hx
  · have := be_len8 h
    omega
  · exact be_bytes u x hx
theorem getNum_num (u : Nat) (hu : u < 18446744073709551616) (r : List Int) : getNum (num u ++ r) = some (u, (num u).length) := by
  have h8 := be_len8 hu
  show getNum (((be u).length : Int) :: (be u ++ r)) = _
  unfold getNum
  simp only [Int.toNat_natCast]
  rw [if_pos]
  · rw [List.take_left, val_be, num_length]
  · refine ⟨h8, by simp, fun h0 => ?_⟩
    have hp : 0 < u := by
      rcases Nat.eq_zero_or_pos u with h | h
      · subst h
        rw [be_zero] at h0
        simp at h0
      · exact h
    obtain ⟨c, l, e, hc⟩ := be_head u hp
    rw [e]
    simp
    omega
theorem getNum_some {l : List Int} (hl : Bytes l) {u n : Nat} (h : getNum l = some (u, n)) : l.take n = num u ∧ u < 18446744073709551616 ∧ n = (num u).length ∧ n ≤ l.length := by
  cases l with
  | nil => cases h
  | cons c r =>
    unfold getNum at h
    simp only at h
    split at h
    · rename_i hc
      obtain ⟨h8, hr, h0⟩ := hc
      simp only [Option.some.injEq, Prod.mk.injEq] at h
      obtain ⟨rfl, rfl⟩ := h
      have hb : Bytes (r.take c.toNat) := fun x hx => hl x (List.mem_cons_of_mem _ (List.mem_of_mem_take hx))
      have hlen : (r.take c.toNat).length = c.toNat := by rw [List.length_take]; omega
      have hv : be (val (r.take c.toNat)) = r.take c.toNat := be_val _ hb (fun d q e => by
        have hpos : 0 < c.toNat := by
          rcases Nat.eq_zero_or_pos c.toNat with hz | hz
          · rw [hz] at e
            cases e
          · exact hz
        have h1 := h0 hpos
        have h2 : r.getD 0 0 = d := by
          cases r with
          | nil => simp at e
          | cons r0 r' =>
            obtain ⟨m, hm⟩ : ∃ m, c.toNat = m + 1 := ⟨c.toNat - 1, by omega⟩
            rw [hm, List.take_succ_cons] at e
            injection e with e1
        rw [h2] at h1
        have h3 := hb d (by rw [e]; exact List.mem_cons_self)
        omega)
      have hc0 := hl c List.mem_cons_self
      have e : num (val (r.take c.toNat)) = c :: r.take c.toNat := by
        unfold num
        rw [hv, hlen]
        congr 1
        omega
      refine ⟨?_, ?_, ?_, ?_⟩
      · rw [e, List.take_succ_cons]
      · have h1 := val_lt _ hb
        rw [hlen] at h1
        have h2 : 256 ^ c.toNat ≤ 256 ^ 8 := Nat.pow_le_pow_right (by omega) h8
        exact Nat.lt_of_lt_of_le h1 h2
      · rw [e, List.length_cons, hlen]
      · simp
        omega
    · cases h
/-- Whether digits are a number's own. -/
theorem num_take {c : Int} {r : List Int} (hl : Bytes (c :: r)) (h8 : c.toNat ≤ 8) (hr : c.toNat ≤ r.length) : num (val (r.take c.toNat)) = (c :: r).take (c.toNat + 1) ↔ (0 < c.toNat → r.getD 0 0 ≠ 0) := by
  have hb : Bytes (r.take c.toNat) := fun x hx => hl x (List.mem_cons_of_mem _ (List.mem_of_mem_take hx))
  constructor
  · intro h hc h0
    rw [List.take_succ_cons] at h
    unfold num at h
    injection h with h1 h2
    obtain ⟨m, hm⟩ : ∃ m, c.toNat = m + 1 := ⟨c.toNat - 1, by omega⟩
    cases r with
    | nil => simp at hr; omega
    | cons d r =>
      have hd : d = 0 := by simpa using h0
      subst hd
      rw [hm, List.take_succ_cons] at h2
      rcases Nat.eq_zero_or_pos (val (0 :: r.take m)) with hz | hz
      · rw [hz, be_zero] at h2
        cases h2
      · obtain ⟨c', l', e', hc'⟩ := be_head _ hz
        rw [e'] at h2
        injection h2 with h3
        omega
  · intro h
    have : getNum (c :: r) = some (val (r.take c.toNat), c.toNat + 1) := by
      unfold getNum
      simp only
      rw [if_pos ⟨h8, hr, h⟩]
    exact (getNum_some hl this).1.symm

def text (t : List Int) : List Int := num t.length ++ t
def getText (l : List Int) : Option (List Int × Nat) :=
  match getNum l with
  | none => none
  | some (u, n) => if u ≤ 65536 ∧ n + u ≤ l.length then some ((l.take (n + u)).drop n, n + u) else none
theorem getText_text (t : List Int) (ht : t.length ≤ 65536) (r : List Int) : getText (text t ++ r) = some (t, (text t).length) := by
  unfold getText text
  rw [List.append_assoc, getNum_num _ (by omega)]
  simp only
  rw [if_pos ⟨ht, by simp⟩]
  have : List.take ((num t.length).length + t.length) (num t.length ++ (t ++ r)) = num t.length ++ t := by
    rw [← List.append_assoc, show (num t.length).length + t.length = (num t.length ++ t).length by simp, List.take_left]
  rw [this, List.drop_left, List.length_append]
theorem getText_some {l : List Int} (hl : Bytes l) {t : List Int} {n : Nat} (h : getText l = some (t, n)) : l.take n = text t ∧ t.length ≤ 65536 ∧ n = (text t).length ∧ n ≤ l.length ∧ Bytes t := by
  unfold getText at h
  cases hg : getNum l with
  | none => rw [hg] at h; cases h
  | some p =>
    obtain ⟨u, m⟩ := p
    rw [hg] at h
    simp only at h
    split at h
    · rename_i hc
      simp only [Option.some.injEq, Prod.mk.injEq] at h
      obtain ⟨rfl, rfl⟩ := h
      obtain ⟨h1, h2, h3, h4⟩ := getNum_some hl hg
      have hlen : ((l.take (m + u)).drop m).length = u := by rw [List.length_drop, List.length_take]; omega
      have e : l.take (m + u) = num u ++ (l.take (m + u)).drop m := by
        have := List.take_append_drop m (l.take (m + u))
        rw [List.take_take, Nat.min_eq_left (by omega), h1] at this
        exact this.symm
      refine ⟨?_, by omega, ?_, by omega, fun x hx => hl x (List.mem_of_mem_take (List.mem_of_mem_drop hx))⟩
      · unfold text
        rw [hlen]
        exact e
      · unfold text
        rw [hlen, List.length_append, hlen, h3]
    · cases h
def texts (l : List (List Int)) : List Int := (l.map text).flatten
def pack (l : List (List Int)) : List Int := num l.length ++ texts l
def getTexts : Nat → List Int → Option (List (List Int) × Nat)
  | 0, _ => some ([], 0)
  | m + 1, l =>
    match getText l with
    | none => none
    | some (t, n) =>
      match getTexts m (l.drop n) with
      | none => none
      | some (ts, n') => some (t :: ts, n + n')
theorem texts_cons (t : List Int) (ts : List (List Int)) : texts (t :: ts) = text t ++ texts ts := by simp [texts]
theorem getTexts_texts : ∀ (ts : List (List Int)), (∀ t ∈ ts, t.length ≤ 65536) → ∀ r, getTexts ts.length (texts ts ++ r) = some (ts, (texts ts).length)
  | [], _, r => rfl
  | t :: ts, h, r => by
    rw [texts_cons, List.append_assoc]
    show getTexts (ts.length + 1) _ = _
    unfold getTexts
    rw [getText_text t (h t List.mem_cons_self)]
    simp only
    rw [List.drop_left, getTexts_texts ts (fun t ht => h t (List.mem_cons_of_mem _ ht))]
    simp
theorem getTexts_some : ∀ (m : Nat) {l : List Int} (hl : Bytes l) {ts : List (List Int)} {n : Nat}, getTexts m l = some (ts, n) → l.take n = texts ts ∧ ts.length = m ∧ n = (texts ts).length ∧ n ≤ l.length ∧ ∀ t ∈ ts, t.length ≤ 65536 ∧ Bytes t
  | 0, l, hl, ts, n, h => by
    unfold getTexts at h
    simp only [Option.some.injEq, Prod.mk.injEq] at h
    obtain ⟨rfl, rfl⟩ := h
    exact ⟨by simp [texts], rfl, by simp [texts], by omega, fun t ht => by cases ht⟩
  | m + 1, l, hl, ts, n, h => by
    unfold getTexts at h
    cases h1 : getText l with
    | none => rw [h1] at h; cases h
    | some p =>
      obtain ⟨t, n1⟩ := p
      rw [h1] at h
      simp only at h
      cases h2 : getTexts m (l.drop n1) with
      | none => rw [h2] at h; cases h
      | some q =>
        obtain ⟨ts', n2⟩ := q
        rw [h2] at h
        simp only [Option.some.injEq, Prod.mk.injEq] at h
        obtain ⟨rfl, rfl⟩ := h
        obtain ⟨a1, a2, a3, a4, a5⟩ := getText_some hl h1
        obtain ⟨b1, b2, b3, b4, b5⟩ := getTexts_some m (fun x hx => hl x (List.mem_of_mem_drop hx)) h2
        rw [List.length_drop] at b4
        refine ⟨?_, by simp [b2], ?_, by omega, ?_⟩
        · rw [texts_cons, ← a1, ← b1, List.take_add]
        · rw [texts_cons, List.length_append]
          omega
        · intro x hx
          rcases List.mem_cons.1 hx with rfl | hx
          · exact ⟨a2, a5⟩
          · exact b5 x hx
def unpack (l : List Int) (most : Nat) : Option (List (List Int) × Nat) :=
  match getNum l with
  | none => none
  | some (u, n) =>
    if u ≤ most then
      match getTexts u (l.drop n) with
      | none => none
      | some (ts, n') => some (ts, n + n')
    else none
theorem unpack_pack (ts : List (List Int)) (h : ∀ t ∈ ts, t.length ≤ 65536) (hn : ts.length < 18446744073709551616) (most : Nat) (hm : ts.length ≤ most) (r : List Int) : unpack (pack ts ++ r) most = some (ts, (pack ts).length) := by
  unfold unpack pack
  rw [List.append_assoc, getNum_num _ hn]
  simp only
  rw [if_pos hm, List.drop_left, getTexts_texts ts h]
  simp
theorem unpack_some {l : List Int} (hl : Bytes l) {most : Nat} {ts : List (List Int)} {n : Nat} (h : unpack l most = some (ts, n)) : l.take n = pack ts ∧ ts.length ≤ most ∧ n = (pack ts).length ∧ n ≤ l.length ∧ 0 < n ∧ ∀ t ∈ ts, t.length ≤ 65536 ∧ Bytes t := by
  unfold unpack at h
  cases h1 : getNum l with
  | none => rw [h1] at h; cases h
  | some p =>
    obtain ⟨u, n1⟩ := p
    rw [h1] at h
    simp only at h
    split at h
    · rename_i hu
      cases h2 : getTexts u (l.drop n1) with
      | none => rw [h2] at h; cases h
      | some q =>
        obtain ⟨ts', n2⟩ := q
        rw [h2] at h
        simp only [Option.some.injEq, Prod.mk.injEq] at h
        obtain ⟨rfl, rfl⟩ := h
        obtain ⟨a1, a2, a3, a4⟩ := getNum_some hl h1
        obtain ⟨b1, b2, b3, b4, b5⟩ := getTexts_some u (fun x hx => hl x (List.mem_of_mem_drop hx)) h2
        rw [List.length_drop] at b4
        have hp := num_length u
        refine ⟨?_, by omega, ?_, by omega, by omega, b5⟩
        · unfold pack
          rw [b2, ← a1, ← b1, List.take_add]
        · unfold pack
          rw [b2, List.length_append]
          omega
    · cases h
/-- A pack of bytes is bytes. -/
theorem texts_bytes (ts : List (List Int)) (h : ∀ t ∈ ts, Bytes t ∧ t.length < 18446744073709551616) : Bytes (texts ts) := by
  intro x hx
  unfold texts at hx
  obtain ⟨l, hl, hx⟩ := List.mem_flatten.1 hx
  obtain ⟨t, ht, rfl⟩ := List.mem_map.1 hl
  rcases List.mem_append.1 hx with hx | hx
  · exact num_bytes (h t ht).2 x hx
  · exact (h t ht).1 x hx
theorem pack_bytes (ts : List (List Int)) (hn : ts.length < 18446744073709551616) (h : ∀ t ∈ ts, Bytes t ∧ t.length < 18446744073709551616) : Bytes (pack ts) := by
  intro x hx
  rcases List.mem_append.1 hx with hx | hx
  · exact num_bytes hn x hx
  · exact texts_bytes ts h x hx
end Go.Proofs.Ytjpjdipdhakjnaa.Wr

/- Clocks as bytes, in plain words: what is put is read, and only what is put is read. -/
import Derived.Test.YtjpjdipdhakjnaaClockWords
import Derived.Test.YtjpjdipdhakjnaaWirePlain
namespace Go.Proofs.Ytjpjdipdhakjnaa.ClockBase
open Go.Proofs.Ytjpjdipdhakjnaa.Wr
set_option linter.unusedVariables false
set_option linter.unusedSimpArgs false

/-- Numbers as texts. -/
def numsB (l : List Int) : List (List Int) := l.map fun n => num n.toNat
/-- A clock's bytes. -/
def putB (c : List Int) : List Int := pack (numsB (trim (ofL c)))
/-- The number that a whole text is, if none is too great. -/
def whole1 (t : List Int) : Option Int := match getNum t with | none => none | some (u, k) => if k = t.length ∧ u ≤ 1048576 then some (u : Int) else none
def wholes : List (List Int) → Option (List Int)
  | [] => some []
  | t :: ts => match whole1 t with | none => none | some n => match wholes ts with | none => none | some l => some (n :: l)
/-- The clock that bytes begin with. -/
def readB (b : List Int) : Option (List Int × Nat) := match unpack b 5 with
  | none => none
  | some (ts, n) => match wholes ts with
    | none => none
    | some c => if (trim (ofL c)).length = c.length then some (c, n) else none
theorem whole1_num {n : Int} (h0 : 0 ≤ n) (h1 : n ≤ 1048576) : whole1 (num n.toNat) = some n := by
  have h := getNum_num n.toNat (by omega) []
  rw [List.append_nil] at h
  unfold whole1
  rw [h]
  simp only
  rw [if_pos ⟨trivial, by omega⟩]
  congr 1
  omega
theorem whole1_some {t : List Int} (ht : Bytes t) {n : Int} (h : whole1 t = some n) : t = num n.toNat ∧ 0 ≤ n ∧ n ≤ 1048576 := by
  unfold whole1 at h
  cases hg : getNum t with
  | none =>
    rw [hg] at h
    cases h
  | some p =>
    obtain ⟨u, k⟩ := p
    rw [hg] at h
    simp only at h
    split at h
    · rename_i hk
      obtain rfl := Option.some.inj h
      have := (getNum_some ht hg).1
      rw [hk.1, List.take_length] at this
      exact ⟨by simpa using this, by omega, by omega⟩
    · cases h
theorem wholes_nums : ∀ {l : List Int}, (∀ n ∈ l, 0 ≤ n ∧ n ≤ 1048576) → wholes (numsB l) = some l
  | [], _ => rfl
  | n :: l, h => by
    have h1 := h n List.mem_cons_self
    show wholes (num n.toNat :: numsB l) = _
    unfold wholes
    rw [whole1_num h1.1 h1.2, wholes_nums (fun m hm => h m (List.mem_cons_of_mem _ hm))]
theorem wholes_some : ∀ {ts : List (List Int)}, (∀ t ∈ ts, Bytes t) → ∀ {l : List Int}, wholes ts = some l → ts = numsB l ∧ ∀ n ∈ l, 0 ≤ n ∧ n ≤ 1048576
  | [], _, l, h => by
    obtain rfl := Option.some.inj h
    exact ⟨rfl, fun n hn => by cases hn⟩
  | t :: ts, ht, l, h => by
    unfold wholes at h
    cases h1 : whole1 t with
    | none =>
      rw [h1] at h
      cases h
    | some n =>
      rw [h1] at h
      simp only at h
      cases h2 : wholes ts with
      | none =>
        rw [h2] at h
        cases h
      | some l' =>
        rw [h2] at h
        obtain rfl := Option.some.inj h
        obtain ⟨e1, k1⟩ := whole1_some (ht t List.mem_cons_self) h1
        obtain ⟨e2, k2⟩ := wholes_some (fun t' ht' => ht t' (List.mem_cons_of_mem _ ht')) h2
        refine ⟨?_, fun m hm => ?_⟩
        · rw [e2]
          show t :: numsB l' = num n.toNat :: numsB l'
          rw [← e1]
        · rcases List.mem_cons.1 hm with rfl | hm
          · exact k1
          · exact k2 m hm
theorem numsB_small {l : List Int} (h : ∀ n ∈ l, 0 ≤ n ∧ n ≤ 1048576) : ∀ t ∈ numsB l, t.length ≤ 9 := by
  intro t ht
  obtain ⟨n, hn, rfl⟩ := List.mem_map.1 ht
  rw [num_length]
  have := be_len8 (u := n.toNat) (by have := h n hn; omega)
  omega
theorem trim_mem {f : List Int} {n : Int} (h : n ∈ trim f) : n ∈ f := List.mem_of_mem_take h
theorem plain_small (c : List Int) : ∀ n ∈ trim (ofL c), 0 ≤ n ∧ n ≤ 1048576 := fun n hn => (good_of c).2 n (trim_mem hn)
theorem plain_len (c : List Int) : (trim (ofL c)).length ≤ 5 := by
  have := trim_le (ofL c)
  rwa [ofL_length] at this
theorem trim_full {f : List Int} (h : (trim f).length = f.length) : trim f = f := by
  have := trim_pad f
  rwa [h, Nat.sub_self, List.replicate_zero, List.append_nil] at this
/-- One without noughts at its end is plain. -/
theorem plain_self {c : List Int} (hk : okC c = true) (h : (trim (ofL c)).length = c.length) : trim (ofL c) = c := by
  have hp : trim (ofL c) = (ofL c).take c.length := by
    have : trim (ofL c) = (ofL c).take (trim (ofL c)).length := by
      unfold trim
      rw [List.length_take, Nat.min_eq_left (upto0_le _ _)]
    rw [this, h]
  rw [hp]
  unfold ofL
  rw [if_pos hk, List.take_left']
  rfl
theorem read_put (c r : List Int) : readB (putB c ++ r) = some (trim (ofL c), (putB c).length) := by
  have hs := plain_small c
  have hl := plain_len c
  unfold readB putB
  rw [unpack_pack _ (fun t ht => by have := numsB_small hs t ht; omega) (by unfold numsB; rw [List.length_map]; omega) 5 (by unfold numsB; rw [List.length_map]; omega) r]
  simp only
  rw [wholes_nums hs]
  simp only
  rw [ofL_plain, if_pos rfl]
theorem read_some {b : List Int} (hb : Bytes b) {c : List Int} {n : Nat} (h : readB b = some (c, n)) : b.take n = putB c ∧ trim (ofL c) = c ∧ n = (putB c).length ∧ n ≤ b.length ∧ 0 < n ∧ okC c = true := by
  unfold readB at h
  cases hu : unpack b 5 with
  | none =>
    rw [hu] at h
    cases h
  | some p =>
    obtain ⟨ts, n'⟩ := p
    rw [hu] at h
    simp only at h
    cases hw : wholes ts with
    | none =>
      rw [hw] at h
      cases h
    | some c' =>
      rw [hw] at h
      simp only at h
      split at h
      · rename_i he
        simp only [Option.some.injEq, Prod.mk.injEq] at h
        obtain ⟨rfl, rfl⟩ := h
        obtain ⟨u1, u2, u3, u4, u5, u6⟩ := unpack_some hb hu
        obtain ⟨e, k⟩ := wholes_some (fun t ht => (u6 t ht).2) hw
        have hlen : ts.length = c'.length := by rw [e]; unfold numsB; rw [List.length_map]
        have hok : okC c' = true := okC_iff.2 ⟨by omega, k⟩
        have hp := plain_self hok he
        have hpb : putB c' = pack ts := by unfold putB; rw [hp, e]
        exact ⟨by rw [u1, hpb], hp, by rw [hpb]; exact u3, u4, u5, hok⟩
      · cases h
/-- A pack tells which texts it has. -/
theorem pack_inj {a b : List (List Int)} (ha : ∀ t ∈ a, t.length ≤ 65536) (hb : ∀ t ∈ b, t.length ≤ 65536) (hna : a.length < 18446744073709551616) (hnb : b.length < 18446744073709551616) (h : pack a = pack b) : a = b := by
  have h1 := unpack_pack a ha hna (a.length + b.length) (by omega) []
  have h2 := unpack_pack b hb hnb (a.length + b.length) (by omega) []
  rw [h, h2] at h1
  simp only [Option.some.injEq, Prod.mk.injEq] at h1
  exact h1.1.symm
/-- Numbers that texts begin with. -/
def begins : List (List Int) → Option (List Int)
  | [] => some []
  | t :: ts => match getNum t with | none => none | some (u, _) => if u ≤ 1048576 then match begins ts with | none => none | some l => some ((u : Int) :: l) else none
theorem begins_wholes : ∀ {ts : List (List Int)} {l : List Int}, wholes ts = some l → begins ts = some l
  | [], l, h => h
  | t :: ts, l, h => by
    unfold wholes at h
    unfold begins
    cases h1 : whole1 t with
    | none =>
      rw [h1] at h
      cases h
    | some n =>
      rw [h1] at h
      simp only at h
      cases h2 : wholes ts with
      | none =>
        rw [h2] at h
        cases h
      | some l' =>
        rw [h2] at h
        obtain rfl := Option.some.inj h
        unfold whole1 at h1
        cases hg : getNum t with
        | none =>
          rw [hg] at h1
          cases h1
        | some p =>
          obtain ⟨u, k⟩ := p
          rw [hg] at h1
          simp only at h1
          split at h1
          · rename_i hk
            obtain rfl := Option.some.inj h1
            simp only
            rw [if_pos hk.2, begins_wholes h2]
          · cases h1
theorem begins_small : ∀ {ts : List (List Int)} {l : List Int}, begins ts = some l → l.length = ts.length ∧ ∀ n ∈ l, 0 ≤ n ∧ n ≤ 1048576
  | [], l, h => by
    obtain rfl := Option.some.inj h
    exact ⟨rfl, fun n hn => by cases hn⟩
  | t :: ts, l, h => by
    unfold begins at h
    cases hg : getNum t with
    | none =>
      rw [hg] at h
      cases h
    | some p =>
      obtain ⟨u, k⟩ := p
      rw [hg] at h
      simp only at h
      split at h
      · rename_i hu
        cases h2 : begins ts with
        | none =>
          rw [h2] at h
          cases h
        | some l' =>
          rw [h2] at h
          obtain rfl := Option.some.inj h
          obtain ⟨k1, k2⟩ := begins_small h2
          refine ⟨by simp [k1], fun m hm => ?_⟩
          rcases List.mem_cons.1 hm with rfl | hm
          · omega
          · exact k2 m hm
      · cases h
/-- The reference's way: read what stands there, put it again, and compare. -/
def readR (b : List Int) : Option (List Int × Nat) := match unpack b 5 with
  | none => none
  | some (ts, n) => match begins ts with
    | none => none
    | some c => if putB c = b.take n then some (c, n) else none
theorem readR_eq {b : List Int} (hb : Bytes b) : readR b = readB b := by
  unfold readR readB
  cases hu : unpack b 5 with
  | none => rfl
  | some p =>
    obtain ⟨ts, n⟩ := p
    simp only
    obtain ⟨u1, u2, u3, u4, u5, u6⟩ := unpack_some hb hu
    cases hw : wholes ts with
    | some c =>
      rw [begins_wholes hw]
      simp only
      obtain ⟨e, k⟩ := wholes_some (fun t ht => (u6 t ht).2) hw
      have hlen : ts.length = c.length := by rw [e]; unfold numsB; rw [List.length_map]
      have hok : okC c = true := okC_iff.2 ⟨by omega, k⟩
      have hl : c.length ≤ 5 := by omega
      by_cases h : (trim (ofL c)).length = c.length
      · have hp := plain_self hok h
        rw [if_pos h, if_pos (by unfold putB; rw [hp, ← e, u1])]
      · rw [if_neg h, if_neg]
        intro hq
        rw [u1] at hq
        unfold putB at hq
        have hi := pack_inj (fun t ht => by have := numsB_small (plain_small c) t ht; omega) (fun t ht => (u6 t ht).1) (by unfold numsB; rw [List.length_map]; have := plain_len c; omega) (by omega) hq
        have := congrArg List.length hi
        unfold numsB at this
        rw [List.length_map] at this
        omega
    | none =>
      simp only
      cases hg : begins ts with
      | none => rfl
      | some c =>
        simp only
        rw [if_neg]
        intro hq
        rw [u1] at hq
        unfold putB at hq
        have hi := pack_inj (fun t ht => by have := numsB_small (plain_small c) t ht; omega) (fun t ht => (u6 t ht).1) (by unfold numsB; rw [List.length_map]; have := plain_len c; omega) (by omega) hq
        rw [← hi, wholes_nums (plain_small c)] at hw
        cases hw
theorem putB_bytes (c : List Int) : Bytes (putB c) := by
  unfold putB
  refine pack_bytes _ (by unfold numsB; rw [List.length_map]; have := plain_len c; omega) (fun t ht => ?_)
  have h9 := numsB_small (plain_small c) t ht
  obtain ⟨n, hn, rfl⟩ := List.mem_map.1 ht
  exact ⟨num_bytes (by have := plain_small c n hn; omega), by omega⟩
theorem texts_len : ∀ (l : List (List Int)), (∀ t ∈ l, t.length ≤ 9) → (texts l).length ≤ l.length * 18
  | [], _ => by simp [texts]
  | t :: l, h => by
    rw [texts_cons, List.length_append, List.length_cons]
    have h1 := texts_len l (fun t' ht' => h t' (List.mem_cons_of_mem _ ht'))
    have h2 := h t List.mem_cons_self
    have h3 : (text t).length ≤ 18 := by
      unfold text
      rw [List.length_append, num_length]
      have := be_len8 (u := t.length) (by omega)
      omega
    omega
theorem putB_len (c : List Int) : (putB c).length ≤ 99 := by
  have hl := plain_len c
  have h1 := texts_len _ (numsB_small (plain_small c))
  have h2 : (numsB (trim (ofL c))).length ≤ 5 := by unfold numsB; rw [List.length_map]; exact hl
  unfold putB pack
  rw [List.length_append, num_length]
  have := be_len8 (u := (numsB (trim (ofL c))).length) (by omega)
  omega
end Go.Proofs.Ytjpjdipdhakjnaa.ClockBase

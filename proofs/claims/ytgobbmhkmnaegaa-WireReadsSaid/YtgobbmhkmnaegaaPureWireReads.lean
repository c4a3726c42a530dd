/- WireReads: what was put is read again; the order of numbers is the order of their bytes. -/
import Derived.Lib.Bytes
import Derived.Test.YtgobbmhkmnaegaaWireLight
import Derived.Test.YtgobbmhkmnaegaaPWirex1
import Derived.Test.YtgobbmhkmnaegaaPWirex8
namespace Go.Proofs.Ytgobbmhkmnaegaa.Pure
open Go.RowKit Go.Proofs.Ytgobbmhkmnaegaa.PWire Go.Proofs.YtgobbmhkmnaegaaW.PrintWords Go.Proofs.YtgobbmhkmnaegaaW.PrintLast Go.Proofs.Ytgobbmhkmnaegaa.Wr
set_option linter.unusedVariables false
set_option linter.unusedSimpArgs false

def lessI : List Int → List Int → Bool
  | _, [] => false
  | [], _ :: _ => true
  | a :: x, b :: y => decide (a < b) || (decide (a = b) && lessI x y)
theorem less_bytes : ∀ (a b : List Int), Wr.Bytes a → Wr.Bytes b → Go.Op.bytesLess (Go.Lib.bytesOf a) (Go.Lib.bytesOf b) = lessI a b
  | [], [], _, _ => rfl
  | _ :: _, [], _, _ => rfl
  | [], _ :: _, _, _ => rfl
  | x :: xs, y :: ys, ha, hb => by
    have hx := ha x (by simp)
    have hy := hb y (by simp)
    have ih := less_bytes xs ys (fun z hz => ha z (List.mem_cons_of_mem _ hz)) (fun z hz => hb z (List.mem_cons_of_mem _ hz))
    have e1 : (UInt8.ofNat x.toNat).toNat = x.toNat % 256 := by simp
    have e2 : (UInt8.ofNat y.toNat).toNat = y.toNat % 256 := by simp
    have l1 : decide (UInt8.ofNat x.toNat < UInt8.ofNat y.toNat) = decide (x < y) := by
      rw [decide_eq_decide, UInt8.lt_iff_toNat_lt, e1, e2]
      omega
    have l2 : (UInt8.ofNat x.toNat == UInt8.ofNat y.toNat) = decide (x = y) := by
      rw [Bool.eq_iff_iff, beq_iff_eq, decide_eq_true_iff, ← UInt8.toNat_inj, e1, e2]
      omega
    show (decide (UInt8.ofNat x.toNat < UInt8.ofNat y.toNat) || (UInt8.ofNat x.toNat == UInt8.ofNat y.toNat && Go.Op.bytesLess (Go.Lib.bytesOf xs) (Go.Lib.bytesOf ys))) = _
    rw [l1, l2, ih]
    rfl
theorem val_cons (c : Int) (l : List Int) : val (c :: l) = c.toNat * 256 ^ l.length + val l := by
  induction l using rev_ind with
  | nil => simp [val]
  | snoc l d ih =>
    rw [← List.cons_append, val_snoc, val_snoc, ih, List.length_append, List.length_singleton, Nat.pow_succ, Nat.add_mul, Nat.mul_assoc, Nat.add_assoc]
theorem less_val : ∀ (a b : List Int), Wr.Bytes a → Wr.Bytes b → a.length = b.length → lessI a b = decide (val a < val b)
  | [], [], _, _, _ => rfl
  | _ :: _, [], _, _, h => by simp at h
  | [], _ :: _, _, _, h => by simp at h
  | x :: xs, y :: ys, ha, hb, h => by
    have hx := ha x (by simp)
    have hy := hb y (by simp)
    have hxs : Wr.Bytes xs := fun z hz => ha z (List.mem_cons_of_mem _ hz)
    have hys : Wr.Bytes ys := fun z hz => hb z (List.mem_cons_of_mem _ hz)
    have hlen : xs.length = ys.length := by simpa using h
    have ih := less_val xs ys hxs hys hlen
    have v1 := val_lt xs hxs
    have v2 := val_lt ys hys
    rw [val_cons, val_cons, ← hlen]
    rw [← hlen] at v2
    simp only [lessI]
    rw [ih]
    by_cases h1 : x < y
    · rw [decide_eq_true h1, Bool.true_or]
      have h2 : (x.toNat + 1) * 256 ^ xs.length ≤ y.toNat * 256 ^ xs.length := Nat.mul_le_mul_right _ (by omega)
      rw [Nat.add_mul, Nat.one_mul] at h2
      exact (decide_eq_true (by omega)).symm
    · by_cases h2 : x = y
      · rw [decide_eq_false h1, decide_eq_true h2, h2, Bool.false_or, Bool.true_and, decide_eq_decide]
        omega
      · rw [decide_eq_false h1, decide_eq_false h2, Bool.false_or, Bool.false_and]
        have h3 : (y.toNat + 1) * 256 ^ xs.length ≤ x.toNat * 256 ^ xs.length := Nat.mul_le_mul_right _ (by omega)
        rw [Nat.add_mul, Nat.one_mul] at h3
        exact (decide_eq_false (by omega)).symm
theorem less_num (u v : Nat) (hu : u < 18446744073709551616) (hv : v < 18446744073709551616) : Go.Op.bytesLess ((strOfNums (num u)).toList) ((strOfNums (num v)).toList) = decide (u < v) := by
  rw [Go.Lib.strOfNums_toList, Go.Lib.strOfNums_toList, less_bytes _ _ (num_bytes hu) (num_bytes hv)]
  unfold num
  simp only [lessI]
  have key : ∀ a b : Nat, (be a).length < (be b).length → a < b := by
    intro a b h
    have h1 := val_lt (be a) (be_bytes a)
    rw [val_be] at h1
    by_cases h2 : b < 256 ^ (be a).length
    · have := be_len_le (be a).length b h2
      omega
    · omega
  by_cases h1 : (be u).length < (be v).length
  · have h1' : ((be u).length : Int) < ((be v).length : Int) := by omega
    rw [decide_eq_true h1', decide_eq_true (key u v h1), Bool.true_or]
  · by_cases h2 : (be u).length = (be v).length
    · have h2' : ((be u).length : Int) = ((be v).length : Int) := by omega
      have h1' : ¬ ((be u).length : Int) < ((be v).length : Int) := by omega
      rw [decide_eq_false h1', decide_eq_true h2', Bool.false_or, Bool.true_and, less_val _ _ (be_bytes u) (be_bytes v) h2, val_be, val_be]
    · have h2' : ¬ ((be u).length : Int) = ((be v).length : Int) := by omega
      have h1' : ¬ ((be u).length : Int) < ((be v).length : Int) := by omega
      have h3 := key v u (by omega)
      rw [decide_eq_false h1', decide_eq_false h2', Bool.false_or, Bool.false_and, decide_eq_false (by omega)]
theorem WireReads (a0 : Int) (h0 : (Lit.int .u64 a0).wf = true) (a1 : Int) (h1 : (Lit.int .u64 a1).wf = true) (l2 : List (List Int)) (hm : l2.length * 24 ≤ 140737488351232) (hg : ∀ t ∈ l2, t.length * 1 ≤ 140737488351232 ∧ ∀ x ∈ t, (Lit.int .u8 x).wf = true) : ∃ k, hucksterlaw02_WireReads.f k a0 a1 l2 = some true := by
  refine Ev.rounds (g := fun k => hucksterlaw02_WireReads.f k a0 a1 l2) ?_
  unfold hucksterlaw02_WireReads.f
  obtain ⟨b, hb, hlight⟩ := light_ev l2 (fun t ht => by have := (hg t ht).1; omega)
  refine Ev.bind hb ?_
  cases b with
  | false => exact wl_else (by simp) (Ev.bind awake_ev (Ev.now _))
  | true =>
    obtain ⟨hn, hl⟩ := hlight rfl
    refine wl_if rfl ?_
    have hu := bounds_u64 h0
    have hv := bounds_u64 h1
    obtain ⟨u, rfl⟩ : ∃ u : Nat, a0 = (u : Int) := ⟨a0.toNat, by omega⟩
    obtain ⟨v, rfl⟩ : ∃ v : Nat, a1 = (v : Int) := ⟨a1.toNat, by omega⟩
    have hu' : u < 18446744073709551616 := by omega
    have hv' : v < 18446744073709551616 := by omega
    have hbt : ∀ t ∈ l2, Wr.Bytes t := fun t ht => bytes_of (hg t ht).2
    clear h0 h1 hm hg hu hv
    have hpl := pack_length l2 hn hl
    have u1 := num_length u
    have u2 := be_len8 hu'
    have v1 := num_length v
    have v2 := be_len8 hv'
    have nb := num_bytes hu'
    have mb := num_bytes hv'
    have pb : Wr.Bytes (pack l2) := pack_bytes l2 (by omega) (fun t ht => ⟨hbt t ht, by have := hl t ht; omega⟩)
    have i1 : ([] : List Int).length + (num u).length < 140737488355328 := by rw [List.length_nil]; omega
    have i2 : ([] ++ num u : List Int).length + (num v).length < 140737488355328 := by rw [List.nil_append]; omega
    have i3 : ([] : List Int).length + (pack l2).length < 140737488355328 := by rw [List.length_nil]; omega
    have i4 : ([] ++ pack l2 : List Int).length + (num u).length < 140737488355328 := by rw [List.nil_append]; omega
    refine Ev.bind (num_ev u hu') (Ev.bind (num_ev v hv') ?_)
    refine Ev.bind (Ev.now _) (wl_if i1 (Ev.bind (Ev.now _) (wl_if i2 ?_)))
    rw [List.nil_append]
    have nvb : Wr.Bytes (num u ++ num v) := fun x hx => by
      rcases List.mem_append.1 hx with hx | hx
      · exact nb x hx
      · exact mb x hx
    have pub : Wr.Bytes (pack l2 ++ num u) := fun x hx => by
      rcases List.mem_append.1 hx with hx | hx
      · exact pb x hx
      · exact nb x hx
    refine Ev.bind (getNum_ev (num u ++ num v) nvb (by rw [List.length_append]; omega)) ?_
    refine Ev.bind (pack_ev l2 (by omega) (fun t ht => by have := hl t ht; omega)) ?_
    refine Ev.bind (Ev.now _) (wl_if i3 (Ev.bind (Ev.now _) (wl_if i4 ?_)))
    rw [List.nil_append]
    refine Ev.bind (unpack_ev (pack l2 ++ num u) pub (by rw [List.length_append]; omega) l2.length (by omega)) ?_
    have e1 : numR (num u ++ num v) = ((u : Int), ((num u).length : Int), 0) := by unfold numR; rw [getNum_num u hu']
    have e2 : packR (pack l2 ++ num u) l2.length = (l2, ((pack l2).length : Int), 0) := by unfold packR; rw [unpack_pack l2 (fun t ht => by have := hl t ht; omega) (by omega) l2.length (Nat.le_refl _)]
    rw [e1, e2]
    refine wl_if rfl (wl_if rfl (wl_if rfl (wl_if rfl (wl_if rfl ?_))))
    refine Ev.bind (packs_ev l2 l2 (by omega) (fun t ht => by have := hl t ht; omega)) ?_
    refine wl_if (decide_eq_true rfl) ?_
    refine wl_if ?_ (Ev.bind awake_ev (Ev.now _))
    rw [less_num u v hu' hv', beq_iff_eq, decide_eq_decide]
    omega
end Go.Proofs.Ytgobbmhkmnaegaa.Pure

/- The sum of bytes in plain words: a register of 32 bits, turned bit by bit; that it is linear; that no bit is lost. -/
import Derived.WalkKit
namespace Go.Proofs.Ytpahdlgpiecdkaa.Crc
set_option linter.unusedVariables false
set_option linter.unusedSimpArgs false

def P : BitVec 32 := 79764919#32
def hi : BitVec 32 := 2147483648#32
def ones : BitVec 32 := 4294967295#32
/-- One bit. -/
def F (v : BitVec 32) : BitVec 32 := if v.msb = true then (v <<< 1) ^^^ P else v <<< 1
def Fit : Nat → BitVec 32 → BitVec 32
  | 0, v => v
  | n + 1, v => Fit n (F v)
def A (v : BitVec 32) (b : Bool) : BitVec 32 := F (v ^^^ if b = true then hi else 0#32)
def run (v : BitVec 32) (bs : List Bool) : BitVec 32 := bs.foldl A v
/-- Bits as the first ones of a register. -/
def pack : List Bool → BitVec 32
  | [] => 0#32
  | b :: bs => (if b = true then hi else 0#32) ^^^ (pack bs >>> 1)
def bitsB (c : Nat) : List Bool := [c.testBit 7, c.testBit 6, c.testBit 5, c.testBit 4, c.testBit 3, c.testBit 2, c.testBit 1, c.testBit 0]
def bitsL (l : List Nat) : List Bool := l.flatMap bitsB

theorem xor_twice (x y p : BitVec 32) : (x ^^^ p) ^^^ (y ^^^ p) = x ^^^ y := by
  have : (x ^^^ p) ^^^ (y ^^^ p) = (x ^^^ y) ^^^ (p ^^^ p) := by ac_rfl
  rw [this, BitVec.xor_self, BitVec.xor_zero]
theorem F_xor (a b : BitVec 32) : F (a ^^^ b) = F a ^^^ F b := by
  unfold F
  rw [BitVec.msb_xor, BitVec.shiftLeft_xor_distrib]
  cases a.msb <;> cases b.msb
  · rfl
  · simp only [bne_iff_ne, ne_eq, Bool.false_eq_true, not_false_eq_true, if_true, if_false, Bool.xor_true, Bool.not_false]
    ac_rfl
  · simp only [Bool.xor_false, if_true, Bool.false_eq_true, if_false]
    ac_rfl
  · simp only [Bool.xor_self, Bool.false_eq_true, if_false, if_true]
    exact (xor_twice _ _ _).symm
theorem F_zero : F 0#32 = 0#32 := by decide
theorem Fit_xor (n : Nat) : ∀ a b, Fit n (a ^^^ b) = Fit n a ^^^ Fit n b := by
  induction n with
  | zero => intro a b; rfl
  | succ n ih => intro a b; simp only [Fit]; rw [F_xor, ih]
theorem Fit_zero (n : Nat) : Fit n 0#32 = 0#32 := by
  induction n with
  | zero => rfl
  | succ n ih => simp only [Fit]; rw [F_zero, ih]
theorem F_null (v : BitVec 32) (h : F v = 0#32) : v = 0#32 := by
  unfold F at h
  split at h
  · exfalso
    have h0 : ((v <<< 1) ^^^ P).getLsbD 0 = false := by rw [h]; rfl
    rw [BitVec.getLsbD_xor, BitVec.getLsbD_shiftLeft] at h0
    have hP : P.getLsbD 0 = true := by decide
    rw [hP] at h0
    simp at h0
  · rename_i hm
    have hm' : v.msb = false := by simpa using hm
    ext i hi
    rw [BitVec.getElem_zero]
    by_cases h31 : i = 31
    · subst h31
      rw [BitVec.msb_eq_getLsbD_last] at hm'
      simpa [BitVec.getLsbD_eq_getElem] using hm'
    · have h1 : (v <<< 1).getLsbD (i + 1) = false := by rw [h]; simp
      rw [BitVec.getLsbD_shiftLeft] at h1
      have h2 : i + 1 < 32 := by omega
      simpa [h2, BitVec.getLsbD_eq_getElem hi] using h1
theorem Fit_null (n : Nat) : ∀ v, Fit n v = 0#32 → v = 0#32 := by
  induction n with
  | zero => intro v h; exact h
  | succ n ih => intro v h; exact F_null v (ih _ h)
theorem A_false (v : BitVec 32) : A v false = F v := by simp [A]
theorem A_xor (a b : BitVec 32) (x y : Bool) : A a x ^^^ A b y = A (a ^^^ b) (x != y) := by
  unfold A
  rw [← F_xor]
  congr 1
  cases x <;> cases y
  · simp
  · simp only [show (false != true) = true from rfl, Bool.false_eq_true, if_false, if_true, BitVec.xor_zero]
    ac_rfl
  · simp only [show (true != false) = true from rfl, Bool.false_eq_true, if_false, if_true, BitVec.xor_zero]
    ac_rfl
  · simp only [show (true != true) = false from rfl, Bool.false_eq_true, if_false, if_true, BitVec.xor_zero]
    exact xor_twice _ _ _
theorem run_nil (v : BitVec 32) : run v [] = v := rfl
theorem run_cons (v : BitVec 32) (b : Bool) (bs : List Bool) : run v (b :: bs) = run (A v b) bs := rfl
theorem run_append (v : BitVec 32) (xs ys : List Bool) : run v (xs ++ ys) = run (run v xs) ys := List.foldl_append
/-- The difference of two is the run of the difference. -/
theorem run_xor : ∀ (xs ys : List Bool) (a b : BitVec 32), xs.length = ys.length → run a xs ^^^ run b ys = run (a ^^^ b) (List.zipWith (fun x y => x != y) xs ys)
  | [], [], a, b, _ => rfl
  | x :: xs, y :: ys, a, b, h => by
    rw [run_cons, run_cons, run_xor xs ys _ _ (by simpa using h), A_xor]
    rfl
theorem run_zeros (n : Nat) : ∀ v, run v (List.replicate n false) = Fit n v := by
  induction n with
  | zero => intro v; rfl
  | succ n ih => intro v; rw [List.replicate_succ, run_cons, A_false, ih]; rfl
theorem pack_low : ∀ (bs : List Bool) (i : Nat), i + bs.length < 32 → (pack bs).getLsbD i = false
  | [], i, h => by simp [pack]
  | b :: bs, i, h => by
    simp only [List.length_cons] at h
    have h2 : (pack bs).getLsbD (1 + i) = false := pack_low bs (1 + i) (by omega)
    have hh : (if b = true then hi else 0#32).getLsbD i = false := by
      have hi31 : i < 31 := by omega
      cases b
      · simp
      · have : ∀ i : Fin 31, hi.getLsbD i.val = false := by decide
        simpa using this ⟨i, hi31⟩
    rw [pack, BitVec.getLsbD_xor, BitVec.getLsbD_ushiftRight, h2, hh]
    rfl
theorem F_back (bs : List Bool) (h : bs.length < 32) : F (pack bs >>> 1) = pack bs := by
  have hm : (pack bs >>> 1).msb = false := by
    rw [BitVec.msb_eq_getLsbD_last, BitVec.getLsbD_ushiftRight]
    simp
  unfold F
  rw [hm]
  simp only [Bool.false_eq_true, if_false]
  ext i hi'
  rw [BitVec.getElem_shiftLeft]
  by_cases h0 : i < 1
  · have : i = 0 := by omega
    subst this
    have := pack_low bs 0 (by omega)
    simp [BitVec.getLsbD_eq_getElem] at this
    simp [this]
  · have e : 1 + (i - 1) = i := by omega
    simp [h0, e, BitVec.getLsbD_eq_getElem hi']
/-- Up to 32 bits at once. -/
theorem run_pack : ∀ (bs : List Bool) (v : BitVec 32), bs.length ≤ 32 → run v bs = Fit bs.length (v ^^^ pack bs)
  | [], v, _ => by simp [run_nil, pack, Fit]
  | b :: bs, v, h => by
    simp only [List.length_cons] at h
    rw [run_cons, run_pack bs _ (by omega)]
    simp only [List.length_cons, Fit]
    congr 1
    unfold A
    rw [← F_back bs (by omega), ← F_xor]
    congr 1
    rw [pack, BitVec.xor_assoc]
theorem pack_null : ∀ (bs : List Bool), bs.length ≤ 32 → pack bs = 0#32 → ∀ b ∈ bs, b = false
  | [], _, _ => by simp
  | b :: bs, hl, h => by
    simp only [List.length_cons] at hl
    have hb : b = false := by
      have h31 : (pack (b :: bs)).getLsbD 31 = false := by rw [h]; rfl
      rw [pack, BitVec.getLsbD_xor, BitVec.getLsbD_ushiftRight] at h31
      have : (pack bs).getLsbD (1 + 31) = false := BitVec.getLsbD_of_ge _ _ (by omega)
      rw [this] at h31
      cases b
      · rfl
      · exact absurd h31 (by decide)
    subst hb
    have h1 : pack bs >>> 1 = 0#32 := by simpa [pack] using h
    have h2 : pack bs = 0#32 := by
      have := F_back bs (by omega)
      rw [h1, F_zero] at this
      exact this.symm
    intro x hx
    rcases List.mem_cons.1 hx with rfl | hx
    · rfl
    · exact pack_null bs (by omega) h2 x hx
/-- Bits that are turned within 32 in a row are told. -/
theorem run_turned (m n : Nat) (d : List Bool) (hd : d.length ≤ 32) : run 0#32 (List.replicate m false ++ d ++ List.replicate n false) = 0#32 ↔ ∀ b ∈ d, b = false := by
  rw [run_append, run_append, run_zeros, run_zeros, Fit_zero, run_pack d _ hd, BitVec.zero_xor]
  constructor
  · intro h
    exact pack_null d hd (Fit_null _ _ (Fit_null _ _ h))
  · intro h
    have : pack d = 0#32 := by
      have : d = List.replicate d.length false := List.eq_replicate_iff.2 ⟨rfl, h⟩
      rw [this]
      generalize d.length = n
      induction n with
      | zero => rfl
      | succ n ih => rw [List.replicate_succ, pack, ih]; simp
    rw [this, Fit_zero, Fit_zero]
theorem pack_byte : ∀ c : Fin 256, pack (bitsB c.val) = BitVec.ofNat 32 c.val <<< 24 := by decide +kernel
/-- A byte. -/
theorem run_byte (v : BitVec 32) (c : Nat) (hc : c < 256) : Fit 8 (v ^^^ (BitVec.ofNat 32 c <<< 24)) = run v (bitsB c) := by
  rw [run_pack (bitsB c) v (by simp [bitsB]), ← pack_byte ⟨c, hc⟩]
  rfl
end Go.Proofs.Ytpahdlgpiecdkaa.Crc

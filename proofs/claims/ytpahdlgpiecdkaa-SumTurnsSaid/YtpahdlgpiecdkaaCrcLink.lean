/- The sum of bytes: what the program's and the reference's functions come to, in plain words. -/
import Derived.Laws.BitsAllLaws
import Derived.Test.YtpahdlgpiecdkaaCrcBits
import Derived.Test.YtpahdlgpiecdkaaPSumx1
namespace Go.Proofs.Ytpahdlgpiecdkaa.PSum
open Go.RowKit Go.Proofs.YtpahdlgpiecdkaaW.PrintWords Go.Proofs.YtpahdlgpiecdkaaW.PrintLast Go.Proofs.Ytpahdlgpiecdkaa.Crc
set_option linter.unusedVariables false
set_option linter.unusedSimpArgs false

def rg (v : BitVec 32) : Int := (v.toNat : Int)
theorem rg_lt (v : BitVec 32) : 0 ≤ rg v ∧ rg v < 4294967296 := ⟨by unfold rg; omega, by have := v.isLt; unfold rg; omega⟩
theorem rg_of (x : Int) (h0 : 0 ≤ x) (h1 : x < 4294967296) : rg (BitVec.ofNat 32 x.toNat) = x := by
  unfold rg
  rw [BitVec.toNat_ofNat, Nat.mod_eq_of_lt (by omega)]
  omega
theorem rg_inj {u v : BitVec 32} (h : rg u = rg v) : u = v := by
  apply BitVec.eq_of_toNat_eq
  unfold rg at h
  omega
theorem rg_xor (u v : BitVec 32) : Go.bits .xor .u32 (rg u) (rg v) = rg (u ^^^ v) := by
  unfold rg
  rw [u32_xor_nat _ _ u.isLt v.isLt, BitVec.toNat_xor]
theorem rg_shl (v : BitVec 32) : (rg v * (2 : Int)) % (4294967296 : Int) = rg (v <<< 1) := by
  unfold rg
  rw [BitVec.toNat_shiftLeft, Nat.shiftLeft_eq]
  omega
theorem rg_msb (v : BitVec 32) : v.msb = decide (2147483648 ≤ rg v) := by
  rw [BitVec.msb_eq_decide]
  unfold rg
  congr 1
  simp
  omega
theorem rg_and (v : BitVec 32) : Go.bits .and .u32 (rg v) 2147483648 = 0 ↔ v.msb = false := by
  have h1 : Go.bits .and .u32 (rg v) 2147483648 = rg (v &&& hi) := by
    have := u32_and_nat v.toNat 2147483648 v.isLt (by omega)
    unfold rg
    rw [BitVec.toNat_and]
    exact this
  rw [h1]
  constructor
  · intro h
    have h0 : v &&& hi = 0#32 := rg_inj (by rw [h]; rfl)
    have h31 : (v &&& hi).getLsbD 31 = false := by rw [h0]; rfl
    rw [BitVec.getLsbD_and, show hi.getLsbD 31 = true from by decide, Bool.and_true] at h31
    rw [BitVec.msb_eq_getLsbD_last]
    exact h31
  · intro h
    have h0 : v &&& hi = 0#32 := by
      ext i hi'
      rw [BitVec.msb_eq_getLsbD_last] at h
      have hh : ∀ j : Fin 31, hi.getLsbD j.val = false := by decide
      by_cases h31 : i = 31
      · subst h31
        simp [BitVec.getLsbD_eq_getElem] at h
        simp [h]
      · have := hh ⟨i, by omega⟩
        simp [BitVec.getLsbD_eq_getElem hi'] at this
        simp [this]
    rw [h0]
    rfl
theorem rg_P : (79764919 : Int) = rg P := by decide
theorem rg_ones : (4294967295 : Int) = rg ones := by decide

/-! ### a byte -/
theorem step_loop (d : Nat) : ∀ (v : BitVec 32) (i : Int), 0 ≤ i → i = 8 - (d : Int) → Ev (fun k => sum_step.l0 k (rg v) i) (rg (Fit d v)) := by
  induction d with
  | zero =>
    intro v i h0 hi
    exact Ev.step (f := fun _ => some (rg v)) (fun k => by simp only [sum_step.l0]; rw [if_neg (by omega)]) (Ev.now _)
  | succ d ih =>
    intro v i h0 hi
    have hw : wrap64 (i + 1) = i + 1 := by unfold wrap64; omega
    cases hm : v.msb with
    | false =>
      refine Ev.step (f := fun k => sum_step.l0 k (rg (v <<< 1)) (i + 1)) (fun k => ?_) ?_
      · simp only [sum_step.l0]
        rw [if_pos (by omega), if_pos ((rg_and v).2 hm), rg_shl, hw]
      · have := ih (v <<< 1) (i + 1) (by omega) (by omega)
        simp only [Fit]
        unfold F
        rw [hm]
        simpa using this
    | true =>
      refine Ev.step (f := fun k => sum_step.l0 k (rg ((v <<< 1) ^^^ P)) (i + 1)) (fun k => ?_) ?_
      · simp only [sum_step.l0]
        rw [if_pos (by omega), if_neg (fun h => by rw [(rg_and v).1 h] at hm; cases hm), rg_shl, rg_P, rg_xor, hw]
      · have := ih ((v <<< 1) ^^^ P) (i + 1) (by omega) (by omega)
        simp only [Fit]
        unfold F
        rw [hm]
        simpa using this
theorem step_ev (v : BitVec 32) (c : Int) (h0 : 0 ≤ c) (h1 : c < 256) : Ev (fun k => sum_step.f k (rg v) c) (rg (run v (bitsB c.toNat))) := by
  have e : ((c % (4294967296 : Int)) * (16777216 : Int)) % (4294967296 : Int) = rg (BitVec.ofNat 32 c.toNat <<< 24) := by
    unfold rg
    rw [BitVec.toNat_shiftLeft, BitVec.toNat_ofNat, Nat.shiftLeft_eq]
    omega
  unfold sum_step.f
  rw [e, rg_xor, ← run_byte v c.toNat (by omega)]
  exact step_loop 8 _ 0 (by omega) (by omega)
def Bytes (l : List Int) : Prop := ∀ x ∈ l, 0 ≤ x ∧ x < 256
def bitsI (l : List Int) : List Bool := bitsL (l.map Int.toNat)
theorem bitsI_append (xs ys : List Int) : bitsI (xs ++ ys) = bitsI xs ++ bitsI ys := by simp [bitsI, bitsL]
theorem rd_mem {l : List Int} {i : Int} (h0 : 0 ≤ i) (h1 : i < (l.length : Int)) : rd l i ∈ l := by
  unfold rd
  rw [List.getD_eq_getElem?_getD, List.getElem?_eq_getElem (by omega), Option.getD_some]
  exact List.getElem_mem _
theorem drop_rd {l : List Int} {i : Nat} (h1 : i < l.length) : l.drop i = rd l (i : Int) :: l.drop (i + 1) := by
  have e : rd l (i : Int) = l[i] := by
    unfold rd
    rw [List.getD_eq_getElem?_getD, Int.toNat_natCast, List.getElem?_eq_getElem h1, Option.getD_some]
  rw [e]
  exact List.drop_eq_getElem_cons h1
/-- Bytes behind a register. -/
theorem on_loop (l : List Int) (hl : Bytes l) (hn : l.length ≤ 140737488351232) (d : Nat) : ∀ (v : BitVec 32) (i : Nat), i + d = l.length → Ev (fun k => sum_On.l0 k (rg v) l (l.length : Int) (i : Int)) (rg (ones ^^^ run v (bitsI (l.drop i)))) := by
  induction d with
  | zero =>
    intro v i hi
    have e : l.drop i = [] := List.drop_eq_nil_of_le (by omega)
    rw [e]
    refine Ev.step (f := fun _ => some (rg (ones ^^^ v))) (fun k => ?_) (Ev.now _)
    simp only [sum_On.l0]
    rw [if_neg (by omega), rg_ones, rg_xor]
  | succ d ih =>
    intro v i hi
    have hm := hl _ (rd_mem (l := l) (i := (i : Int)) (by omega) (by omega))
    have hw : wrap64 ((i : Int) + 1) = ((i + 1 : Nat) : Int) := by unfold wrap64; omega
    refine Ev.step (f := fun k => (sum_step.f k (rg v) (rd l i)).bind fun t => sum_On.l0 k t l (l.length : Int) ((i + 1 : Nat) : Int)) (fun k => ?_) ?_
    · simp only [sum_On.l0]
      rw [if_pos (by omega), if_pos (by omega), if_pos (by omega), hw]
    · refine Ev.bind (step_ev v _ hm.1 hm.2) ?_
      have := ih (run v (bitsB (rd l (i : Int)).toNat)) (i + 1) (by omega)
      rw [drop_rd (by omega), show bitsI (rd l (i : Int) :: l.drop (i + 1)) = bitsB (rd l (i : Int)).toNat ++ bitsI (l.drop (i + 1)) from rfl, run_append]
      exact this
/-- The sum of bytes behind others. -/
def crcOn (v : BitVec 32) (l : List Int) : BitVec 32 := ones ^^^ run (ones ^^^ v) (bitsI l)
theorem on_ev (v : BitVec 32) (l : List Int) (hl : Bytes l) (hn : l.length ≤ 140737488351232) : Ev (fun k => sum_On.f k (rg v) l) (rg (crcOn v l)) := by
  unfold sum_On.f
  rw [rg_ones, rg_xor]
  exact on_loop l hl hn l.length _ 0 (by omega)
theorem on_append (v : BitVec 32) (xs ys : List Int) : crcOn (crcOn v xs) ys = crcOn v (xs ++ ys) := by
  unfold crcOn
  rw [bitsI_append, run_append]
  congr 2
  rw [← BitVec.xor_assoc, BitVec.xor_self, BitVec.zero_xor]
theorem on_nil (v : BitVec 32) : crcOn v [] = v := by
  unfold crcOn
  show ones ^^^ (ones ^^^ v) = v
  rw [← BitVec.xor_assoc, BitVec.xor_self, BitVec.zero_xor]
/-- The sum of bytes in parts. -/
theorem of_loop (l : List (List Int)) (hl : ∀ p ∈ l, Bytes p ∧ p.length ≤ 140737488351232) (hn : l.length ≤ 140737488351232) (d : Nat) : ∀ (v : BitVec 32) (i : Nat), i + d = l.length → Ev (fun k => sum_Of.l0 k (rg v) l (l.length : Int) (i : Int)) (rg (crcOn v (l.drop i).flatten)) := by
  induction d with
  | zero =>
    intro v i hi
    have e : l.drop i = [] := List.drop_eq_nil_of_le (by omega)
    rw [e, List.flatten_nil, on_nil]
    exact Ev.step (f := fun _ => some (rg v)) (fun k => by simp only [sum_Of.l0]; rw [if_neg (by omega)]) (Ev.now _)
  | succ d ih =>
    intro v i hi
    have e1 : rd_L1 l (i : Int) = l[i]'(by omega) := by
      unfold rd_L1
      rw [List.getD_eq_getElem?_getD, Int.toNat_natCast, List.getElem?_eq_getElem (by omega), Option.getD_some]
    have hm := hl _ (List.getElem_mem (l := l) (n := i) (by omega))
    have hw : wrap64 ((i : Int) + 1) = ((i + 1 : Nat) : Int) := by unfold wrap64; omega
    refine Ev.step (f := fun k => (sum_On.f k (rg v) (rd_L1 l i)).bind fun t => sum_Of.l0 k t l (l.length : Int) ((i + 1 : Nat) : Int)) (fun k => ?_) ?_
    · simp only [sum_Of.l0]
      rw [if_pos (by omega), if_pos (by omega), if_pos (by omega), hw]
    · rw [e1]
      refine Ev.bind (on_ev v _ hm.1 hm.2) ?_
      have := ih (crcOn v (l[i]'(by omega))) (i + 1) (by omega)
      rw [on_append] at this
      rw [List.drop_eq_getElem_cons (by omega), List.flatten_cons]
      exact this
theorem of_ev (l : List (List Int)) (hl : ∀ p ∈ l, Bytes p ∧ p.length ≤ 140737488351232) (hn : l.length ≤ 140737488351232) : Ev (fun k => sum_Of.f k l) (rg (crcOn 0#32 l.flatten)) := by
  unfold sum_Of.f
  exact of_loop l hl hn l.length 0#32 0 (by omega)
theorem of_one (l : List Int) (hl : Bytes l) (hn : l.length ≤ 140737488351232) : Ev (fun k => sum_Of.f k [l]) (rg (crcOn 0#32 l)) := by
  have := of_ev [l] (fun p hp => by rw [List.mem_singleton.1 hp]; exact ⟨hl, hn⟩) (by simp)
  simpa using this

/-! ### the reference -/
def bitI (b : Bool) : Int := if b = true then 1 else 0
theorem bit_of (x : Nat) (hx : x < 256) (j : Nat) (hj : j < 8) : Int.tmod (wrap64 (Int.tdiv (x : Int) ((2 ^ j : Nat) : Int))) 2 = bitI (x.testBit j) := by
  have h2 : x / 2 ^ j ≤ x := Nat.div_le_self _ _
  have e : wrap64 (Int.tdiv (x : Int) ((2 ^ j : Nat) : Int)) = ((x / 2 ^ j : Nat) : Int) := by
    rw [show Int.tdiv (x : Int) ((2 ^ j : Nat) : Int) = ((x / 2 ^ j : Nat) : Int) from rfl]
    generalize x / 2 ^ j = y at h2
    unfold wrap64
    omega
  rw [e, show Int.tmod ((x / 2 ^ j : Nat) : Int) 2 = ((x / 2 ^ j % 2 : Nat) : Int) from rfl]
  unfold bitI
  rw [Nat.testBit_eq_decide_div_mod_eq]
  have : x / 2 ^ j % 2 < 2 := Nat.mod_lt _ (by omega)
  by_cases h : x / 2 ^ j % 2 = 1
  · simp [h]
  · have h0 : x / 2 ^ j % 2 = 0 := by omega
    simp [h0]
/-- The bits of one byte, from the j-th on. -/
def tailB (c : Nat) : Nat → List Int
  | 0 => []
  | j + 1 => bitI (c.testBit j) :: tailB c j
theorem tailB_all (c : Nat) : tailB c 8 = (bitsB c).map bitI := rfl
theorem bits_in (l : List Int) (hn : l.length ≤ 1000000000000) (c : Nat) (hc : c < 256) (i : Int) (j : Nat) : ∀ (out : List Int), j ≤ 8 → out.length + j ≤ 17592186044416 → ∀ (r : List Int), Ev (fun k => hucksterref01_Bits.l0 k l (out ++ tailB c j) (wrap64 (i + 1))) r → Ev (fun k => hucksterref01_Bits.l1 k l out i (c : Int) (((2 ^ j / 2 : Nat) : Int))) r := by
  induction j with
  | zero =>
    intro out hj ho r hr
    refine Ev.step (fun k => ?_) (by simpa [tailB] using hr)
    simp only [hucksterref01_Bits.l1]
    rw [if_neg (by decide)]
  | succ j ih =>
    intro out hj ho r hr
    have hp : 0 < 2 ^ j := Nat.two_pow_pos j
    have e2 : 2 ^ (j + 1) / 2 = 2 ^ j := by rw [Nat.pow_succ]; omega
    rw [e2]
    have hle : 2 ^ j ≤ 2 ^ 7 := Nat.pow_le_pow_right (by omega) (by omega)
    refine Ev.step (f := fun k => hucksterref01_Bits.l1 k l (out ++ [bitI (c.testBit j)]) i (c : Int) (((2 ^ j / 2 : Nat) : Int))) (fun k => ?_) ?_
    · simp only [hucksterref01_Bits.l1]
      rw [if_pos (by omega), if_neg (by omega), if_pos (by omega), bit_of c hc j (by omega)]
      rw [show Int.tdiv ((2 ^ j : Nat) : Int) 2 = ((2 ^ j / 2 : Nat) : Int) from rfl, show wrap64 ((2 ^ j / 2 : Nat) : Int) = ((2 ^ j / 2 : Nat) : Int) from by unfold wrap64; omega]
    · refine ih (out ++ [bitI (c.testBit j)]) (by omega) (by simp; omega) r ?_
      simpa [tailB] using hr
theorem bits_loop (l : List Int) (hl : Bytes l) (hn : l.length ≤ 1000000000000) (d : Nat) : ∀ (out : List Int) (i : Nat), i + d = l.length → out.length + 8 * d ≤ 17592186044416 → Ev (fun k => hucksterref01_Bits.l0 k l out (i : Int)) (out ++ (bitsI (l.drop i)).map bitI) := by
  induction d with
  | zero =>
    intro out i hi ho
    have e : l.drop i = [] := List.drop_eq_nil_of_le (by omega)
    rw [e]
    refine Ev.step (f := fun _ => some out) (fun k => ?_) (by simpa [bitsI, bitsL] using Ev.now out)
    simp only [hucksterref01_Bits.l0]
    rw [if_neg (by omega)]
  | succ d ih =>
    intro out i hi ho
    have hm := hl _ (rd_mem (l := l) (i := (i : Int)) (by omega) (by omega))
    have hw : wrap64 ((i : Int) + 1) = ((i + 1 : Nat) : Int) := by unfold wrap64; omega
    have hv : wrap64 (rd l (i : Int)) = (((rd l (i : Int)).toNat : Nat) : Int) := by unfold wrap64; omega
    refine Ev.step (f := fun k => hucksterref01_Bits.l1 k l out (i : Int) (((rd l (i : Int)).toNat : Nat) : Int) (((2 ^ 8 / 2 : Nat) : Int))) (fun k => ?_) ?_
    · simp only [hucksterref01_Bits.l0]
      rw [if_pos (by omega), if_pos (by omega), hv]
      rfl
    · refine bits_in l hn _ (by omega) (i : Int) 8 out (by omega) (by omega) _ ?_
      rw [hw]
      have := ih (out ++ tailB (rd l (i : Int)).toNat 8) (i + 1) (by omega) (by simp [tailB]; omega)
      rw [drop_rd (by omega), show bitsI (rd l (i : Int) :: l.drop (i + 1)) = bitsB (rd l (i : Int)).toNat ++ bitsI (l.drop (i + 1)) from rfl, List.map_append, ← tailB_all, ← List.append_assoc]
      exact this
theorem bits_ev (l : List Int) (hl : Bytes l) (hn : l.length ≤ 1000000000000) : Ev (fun k => hucksterref01_Bits.f k l) ((bitsI l).map bitI) := by
  have := bits_loop l hl hn l.length [] 0 (by omega) (by simp; omega)
  simpa [hucksterref01_Bits.f] using this
theorem A_high (v : BitVec 32) (b : Bool) : A v b = if v.msb = b then v <<< 1 else (v <<< 1) ^^^ P := by
  have h1 : hi <<< 1 = 0#32 := by decide
  have h2 : hi.msb = true := by decide
  unfold A F
  cases b
  · cases h : v.msb <;> simp [h]
  · simp only [if_true]
    rw [BitVec.msb_xor, h2, BitVec.shiftLeft_xor_distrib, h1]
    cases h : v.msb <;> simp [h]
theorem run_loop (bs : List Bool) (hn : bs.length ≤ 140737488351232) (d : Nat) : ∀ (v : BitVec 32) (i : Nat), i + d = bs.length → Ev (fun k => hucksterref01_run.l0 k (rg v) (bs.map bitI) (i : Int)) (rg (run v (bs.drop i))) := by
  induction d with
  | zero =>
    intro v i hi
    have e : bs.drop i = [] := List.drop_eq_nil_of_le (by omega)
    rw [e]
    refine Ev.step (f := fun _ => some (rg v)) (fun k => ?_) (Ev.now _)
    simp only [hucksterref01_run.l0, List.length_map]
    rw [if_neg (by omega)]
  | succ d ih =>
    intro v i hi
    have hlt : i < bs.length := by omega
    have hw : wrap64 ((i : Int) + 1) = ((i + 1 : Nat) : Int) := by unfold wrap64; omega
    have hr : rd (bs.map bitI) (i : Int) = bitI bs[i] := by
      unfold rd
      rw [List.getD_eq_getElem?_getD, Int.toNat_natCast, List.getElem?_eq_getElem (by simpa using hlt), Option.getD_some, List.getElem_map]
    have hb := rg_lt v
    have hq : (Int.tdiv (rg v) 2147483648) % 4294967296 = bitI v.msb := by
      rw [rg_msb, Int.tdiv_eq_ediv_of_nonneg hb.1]
      unfold bitI
      by_cases h : 2147483648 ≤ rg v
      · simp only [decide_eq_true_eq, if_pos h]
        omega
      · simp only [decide_eq_true_eq, if_neg h]
        omega
    have hbb : ∀ x y : Bool, bitI x = bitI y ↔ x = y := by decide
    rw [List.drop_eq_getElem_cons hlt, run_cons, A_high]
    by_cases hm : v.msb = bs[i]
    · refine Ev.step (f := fun k => hucksterref01_run.l0 k (rg (v <<< 1)) (bs.map bitI) ((i + 1 : Nat) : Int)) (fun k => ?_) ?_
      · simp only [hucksterref01_run.l0, List.length_map]
        rw [if_pos (by omega), if_pos (by omega), hr, hq, if_pos ((hbb _ _).2 hm), rg_shl, hw]
      · rw [if_pos hm]
        exact ih _ _ (by omega)
    · refine Ev.step (f := fun k => hucksterref01_run.l0 k (rg ((v <<< 1) ^^^ P)) (bs.map bitI) ((i + 1 : Nat) : Int)) (fun k => ?_) ?_
      · simp only [hucksterref01_run.l0, List.length_map]
        rw [if_pos (by omega), if_pos (by omega), hr, hq, if_neg (fun h => hm ((hbb _ _).1 h)), rg_shl, rg_P, rg_xor, hw]
      · rw [if_neg hm]
        exact ih _ _ (by omega)
theorem run_ev (v : BitVec 32) (bs : List Bool) (hn : bs.length ≤ 140737488351232) : Ev (fun k => hucksterref01_run.f k (rg v) (bs.map bitI)) (rg (run v bs)) := by
  unfold hucksterref01_run.f
  exact run_loop bs hn bs.length v 0 (by omega)
theorem bitsI_length (l : List Int) : (bitsI l).length = 8 * l.length := by
  unfold bitsI bitsL
  induction l with
  | nil => rfl
  | cons x l ih =>
    simp only [List.map_cons, List.flatMap_cons, List.length_append, List.length_cons, ih]
    simp [bitsB]
    omega
theorem refOn_ev (v : BitVec 32) (l : List Int) (hl : Bytes l) (hn : l.length ≤ 1000000000000) : Ev (fun k => hucksterref01_On.f k (rg v) l) (rg (crcOn v l)) := by
  unfold hucksterref01_On.f
  refine Ev.bind (bits_ev l hl hn) ?_
  rw [rg_ones, rg_xor]
  refine Ev.bind (run_ev _ _ (by rw [bitsI_length]; omega)) ?_
  rw [rg_xor]
  exact Ev.now _
theorem refOf_ev (l : List Int) (hl : Bytes l) (hn : l.length ≤ 1000000000000) : Ev (fun k => hucksterref01_Of.f k l) (rg (crcOn 0#32 l)) := by
  have := refOn_ev 0#32 l hl hn
  unfold hucksterref01_On.f at this
  unfold hucksterref01_Of.f
  rw [show Go.bits .xor .u32 4294967295 (rg 0#32) = 4294967295 from by rw [rg_ones, rg_xor, BitVec.xor_zero]] at this
  exact this
end Go.Proofs.Ytpahdlgpiecdkaa.PSum

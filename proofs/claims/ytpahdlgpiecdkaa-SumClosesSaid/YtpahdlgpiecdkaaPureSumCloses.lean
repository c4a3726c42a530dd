/- SumCloses: bytes with their own sum behind them, the highest byte first, all have one sum. -/
import Derived.Test.YtpahdlgpiecdkaaSumAid
import Derived.Test.YtpahdlgpiecdkaaPSumCx2
namespace Go.Proofs.Ytpahdlgpiecdkaa.Pure
open Go.RowKit Go.Proofs.Ytpahdlgpiecdkaa.PSumC Go.Proofs.YtpahdlgpiecdkaaW.PrintWords Go.Proofs.YtpahdlgpiecdkaaW.PrintLast Go.Proofs.Ytpahdlgpiecdkaa.Crc
set_option linter.unusedVariables false
set_option linter.unusedSimpArgs false

theorem pack_bit : ∀ (bs : List Bool) (j : Nat), j < 32 → (pack bs).getLsbD (31 - j) = bs.getD j false
  | [], j, _ => by simp [pack]
  | b :: bs, j, hj => by
    have hh : hi.getLsbD (31 - j) = decide (j = 0) := by
      have : ∀ j : Fin 32, hi.getLsbD (31 - j.val) = decide (j.val = 0) := by decide
      exact this ⟨j, hj⟩
    unfold pack
    rw [BitVec.getLsbD_xor, BitVec.getLsbD_ushiftRight]
    have h1 : (if b = true then hi else 0#32).getLsbD (31 - j) = (b && decide (j = 0)) := by
      cases b
      · simp
      · simp [hh]
    rw [h1]
    cases j with
    | zero =>
      have : (pack bs).getLsbD (1 + (31 - 0)) = false := BitVec.getLsbD_of_ge _ _ (by omega)
      rw [this]
      cases b <;> rfl
    | succ j =>
      rw [show 1 + (31 - (j + 1)) = 31 - j by omega, pack_bit bs j (by omega)]
      simp
theorem byte_bit (x q : Nat) (k : Nat) (hk : k < 8) : ((x / 2 ^ q) % 256).testBit k = x.testBit (q + k) := by
  rw [show (256 : Nat) = 2 ^ 8 from rfl, Nat.testBit_mod_two_pow, decide_eq_true hk, Bool.true_and, Nat.testBit_div_two_pow, Nat.add_comm]
theorem bits_own (x : Nat) : bitsB ((x / 16777216) % 256) ++ (bitsB ((x / 65536) % 256) ++ (bitsB ((x / 256) % 256) ++ bitsB (x % 256))) = (List.range 32).map fun j => x.testBit (31 - j) := by
  have h3 := fun k hk => byte_bit x 24 k hk
  have h2 := fun k hk => byte_bit x 16 k hk
  have h1 := fun k hk => byte_bit x 8 k hk
  have h0 := fun k hk => byte_bit x 0 k hk
  rw [show (2 : Nat) ^ 24 = 16777216 from rfl] at h3
  rw [show (2 : Nat) ^ 16 = 65536 from rfl] at h2
  rw [show (2 : Nat) ^ 8 = 256 from rfl] at h1
  rw [show (2 : Nat) ^ 0 = 1 from rfl, Nat.div_one] at h0
  simp only [bitsB, h3 7 (by decide), h3 6 (by decide), h3 5 (by decide), h3 4 (by decide), h3 3 (by decide), h3 2 (by decide), h3 1 (by decide), h3 0 (by decide),
    h2 7 (by decide), h2 6 (by decide), h2 5 (by decide), h2 4 (by decide), h2 3 (by decide), h2 2 (by decide), h2 1 (by decide), h2 0 (by decide),
    h1 7 (by decide), h1 6 (by decide), h1 5 (by decide), h1 4 (by decide), h1 3 (by decide), h1 2 (by decide), h1 1 (by decide), h1 0 (by decide),
    h0 7 (by decide), h0 6 (by decide), h0 5 (by decide), h0 4 (by decide), h0 3 (by decide), h0 2 (by decide), h0 1 (by decide), h0 0 (by decide)]
  rfl
theorem pack_own (s : BitVec 32) : pack ((List.range 32).map fun j => s.toNat.testBit (31 - j)) = s := by
  apply BitVec.eq_of_getLsbD_eq
  intro i hi
  have h := pack_bit ((List.range 32).map fun j => s.toNat.testBit (31 - j)) (31 - i) (by omega)
  rw [show 31 - (31 - i) = i by omega] at h
  rw [h, List.getD_eq_getElem?_getD, List.getElem?_map, List.getElem?_range (by omega)]
  simp only [Option.map_some, Option.getD_some]
  rw [show 31 - (31 - i) = i by omega]
  rfl
/-- A sum's bytes, the highest first. -/
def own4 (s : BitVec 32) : List Int := [(rg s / 16777216) % 256, (rg s / 65536) % 256, (rg s / 256) % 256, (rg s) % 256]
theorem own4_bits (s : BitVec 32) : bitsI (own4 s) = (List.range 32).map fun j => s.toNat.testBit (31 - j) := by
  rw [← bits_own]
  have e3 : ((rg s / 16777216) % 256).toNat = s.toNat / 16777216 % 256 := by unfold rg; omega
  have e2 : ((rg s / 65536) % 256).toNat = s.toNat / 65536 % 256 := by unfold rg; omega
  have e1 : ((rg s / 256) % 256).toNat = s.toNat / 256 % 256 := by unfold rg; omega
  have e0 : ((rg s) % 256).toNat = s.toNat % 256 := by unfold rg; omega
  simp only [bitsI, bitsL, own4, List.map_cons, List.map_nil, List.flatMap_cons, List.flatMap_nil, List.append_nil, e3, e2, e1, e0]
theorem own4_bytes (s : BitVec 32) : Bytes (own4 s) := by
  intro x hx
  unfold own4 at hx
  simp only [List.mem_cons, List.mem_nil_iff, or_false] at hx
  omega
theorem closes (l : List Int) : crcOn 0#32 (l ++ own4 (crcOn 0#32 l)) = crcOn 0#32 (List.replicate 4 0) := by
  have hz : (0#32 : BitVec 32) = 0#32 := rfl
  have ho : ones ^^^ 0#32 = ones := by decide
  unfold crcOn
  rw [ho, bitsI_append, run_append]
  generalize hV : run ones (bitsI l) = V
  congr 1
  rw [own4_bits, run_pack _ _ (by simp), pack_own]
  have hb : bitsI (List.replicate 4 0) = List.replicate 32 false := by decide
  rw [hb, run_zeros, List.length_map, List.length_range]
  congr 1
  rw [← BitVec.xor_assoc, BitVec.xor_comm V ones, BitVec.xor_assoc, BitVec.xor_self, BitVec.xor_zero]
theorem SumCloses : hucksterlaw01_SumCloses.Pure := by
  intro l0 hm hr hw
  refine Ev.rounds (g := fun k => hucksterlaw01_SumCloses.f k l0) ?_
  unfold hucksterlaw01_SumCloses.f
  have hb := bytes_of hw
  by_cases hl : (l0.length : Int) > 1500
  · exact ev_if hl (Ev.bind awake_ev (Ev.now _))
  · refine ev_else hl ?_
    refine Ev.bind (of_one l0 hb (by omega)) ?_
    have h2 := of_ev [l0, own4 (crcOn 0#32 l0)] (fun p hp => by
      simp only [List.mem_cons, List.mem_nil_iff, or_false] at hp
      rcases hp with rfl | rfl
      · exact ⟨hb, by omega⟩
      · exact ⟨own4_bytes _, by simp [own4]⟩) (by simp)
    have h3 := of_one (List.replicate 4 0) (fun x hx => by rw [(List.mem_replicate.1 hx).2]; omega) (by simp)
    have e : [l0, own4 (crcOn 0#32 l0)].flatten = l0 ++ own4 (crcOn 0#32 l0) := by simp
    rw [e, closes] at h2
    refine Ev.bind h2 (ev_if (by decide) (Ev.bind h3 (ev_if rfl ?_)))
    exact Ev.bind awake_ev (Ev.now _)
end Go.Proofs.Ytpahdlgpiecdkaa.Pure

/- SumTurns: bytes some of whose bits are turned, all within 32 in a row, have another sum. -/
import Derived.Test.YtpahdlgpiecdkaaSumAid
import Derived.Test.YtpahdlgpiecdkaaPSumx3
namespace Go.Proofs.Ytpahdlgpiecdkaa.Pure
open Go.RowKit Go.Proofs.Ytpahdlgpiecdkaa.PSum Go.Proofs.YtpahdlgpiecdkaaW.PrintWords Go.Proofs.YtpahdlgpiecdkaaW.PrintLast Go.Proofs.YtpahdlgpiecdkaaW.PrintMore Go.Proofs.Ytpahdlgpiecdkaa.Crc
set_option linter.unusedVariables false
set_option linter.unusedSimpArgs false

/-- A bit of bytes: the highest one of each byte first. -/
def bt8 (l : List Int) (p : Nat) : Bool := ((l.getD (p / 8) 0).toNat).testBit (7 - p % 8)
theorem bitsB_at (c p : Nat) (hp : p < 8) : (bitsB c)[p]? = some (c.testBit (7 - p)) := by
  match p, hp with
  | 0, _ => rfl
  | 1, _ => rfl
  | 2, _ => rfl
  | 3, _ => rfl
  | 4, _ => rfl
  | 5, _ => rfl
  | 6, _ => rfl
  | 7, _ => rfl
  | p + 8, h => exact absurd h (by omega)
theorem bitsI_at : ∀ (l : List Int) (p : Nat), p < 8 * l.length → (bitsI l)[p]? = some (bt8 l p)
  | [], p, h => absurd h (by simp)
  | x :: l, p, h => by
    rw [show bitsI (x :: l) = bitsB x.toNat ++ bitsI l from rfl]
    have hl : (bitsB x.toNat).length = 8 := rfl
    by_cases hp : p < 8
    · rw [List.getElem?_append_left (by omega), bitsB_at _ _ hp]
      unfold bt8
      rw [show p / 8 = 0 by omega, show p % 8 = p by omega]
      rfl
    · rw [List.getElem?_append_right (by omega), hl, bitsI_at l (p - 8) (by simp at h; omega)]
      unfold bt8
      rw [show p / 8 = (p - 8) / 8 + 1 by omega, show p % 8 = (p - 8) % 8 by omega]
      rfl
theorem byte_turn : ∀ c : Fin 256, ∀ q : Fin 8, ∀ j : Fin 8, (c.val ^^^ (128 / 2 ^ q.val)).testBit (7 - j.val) = (c.val.testBit (7 - j.val) != decide (j.val = q.val)) ∧ c.val ^^^ (128 / 2 ^ q.val) < 256 := by decide +kernel
/-- A bit is turned. -/
theorem bt8_turn (l : List Int) (hl : Bytes l) (p : Nat) (hp : p < 8 * l.length) : 
    Bytes (l.set (p / 8) (Go.bits .xor .u8 (rd l ((p / 8 : Nat) : Int)) (((128 / 2 ^ (p % 8) : Nat)) : Int))) ∧
    ∀ p', p' < 8 * l.length → bt8 (l.set (p / 8) (Go.bits .xor .u8 (rd l ((p / 8 : Nat) : Int)) (((128 / 2 ^ (p % 8) : Nat)) : Int))) p' = (bt8 l p' != decide (p' = p)) := by
  have hlt : p / 8 < l.length := by omega
  have hm := hl _ (rd_mem (l := l) (i := ((p / 8 : Nat) : Int)) (by omega) (by omega))
  obtain ⟨c, hc, hc'⟩ : ∃ c : Nat, rd l ((p / 8 : Nat) : Int) = (c : Int) ∧ c < 256 := ⟨(rd l ((p / 8 : Nat) : Int)).toNat, by omega, by omega⟩
  have h128 : 128 / 2 ^ (p % 8) < 256 := Nat.lt_of_le_of_lt (Nat.div_le_self _ _) (by omega)
  have hx : Go.bits .xor .u8 (rd l ((p / 8 : Nat) : Int)) (((128 / 2 ^ (p % 8) : Nat)) : Int) = ((c ^^^ (128 / 2 ^ (p % 8)) : Nat) : Int) := by
    rw [hc]
    exact u8_xor_nat c _ hc' h128
  rw [hx]
  have hB := fun j : Fin 8 => byte_turn ⟨c, hc'⟩ ⟨p % 8, by omega⟩ j
  constructor
  · intro x hx'
    rcases List.mem_or_eq_of_mem_set hx' with h | h
    · exact hl x h
    · have := (hB 0).2
      simp only at this
      omega
  · intro p' hp'
    unfold bt8
    by_cases he : p' / 8 = p / 8
    · rw [he, List.getD_eq_getElem?_getD, List.getElem?_set_self (by omega), Option.getD_some, Int.toNat_natCast]
      have h1 := (hB ⟨p' % 8, by omega⟩).1
      simp only at h1
      rw [h1]
      have h2 : (l.getD (p / 8) 0).toNat = c := by
        have : l.getD (p / 8) 0 = (c : Int) := by
          rw [← hc]
          unfold rd
          rw [Int.toNat_natCast]
        rw [this, Int.toNat_natCast]
      rw [h2]
      congr 1
      simp only [decide_eq_decide]
      omega
    · rw [List.getD_eq_getElem?_getD, List.getElem?_set_ne (by omega), ← List.getD_eq_getElem?_getD]
      have : decide (p' = p) = false := decide_eq_false (by rintro rfl; exact he rfl)
      rw [this]
      simp
theorem bits_len (l : List Int) : (bitsI l).length = 8 * l.length := bitsI_length l
/-- Which bits are turned. -/
def dl (from_ i bits : Nat) (p : Nat) : Bool := decide (from_ ≤ p) && decide (p < from_ + i) && bits.testBit (p - from_)
theorem told (x y : List Int) (from_ i bits : Nat) (hl : y.length = x.length) (hi : i ≤ 32) (hf : from_ + i ≤ 8 * x.length) (h : ∀ p, p < 8 * x.length → bt8 y p = (bt8 x p != dl from_ i bits p)) :
    crcOn 0#32 x = crcOn 0#32 y ↔ ∀ j, j < i → bits.testBit j = false := by
  have hz : List.zipWith (fun a b => a != b) (bitsI x) (bitsI y) = List.replicate from_ false ++ (List.range i).map (fun j => bits.testBit j) ++ List.replicate (8 * x.length - from_ - i) false := by
    apply List.ext_getElem?
    intro p
    by_cases hp : p < 8 * x.length
    · rw [List.getElem?_zipWith, bitsI_at x p hp, bitsI_at y p (by omega), h p hp]
      simp only
      have e : (bt8 x p != (bt8 x p != dl from_ i bits p)) = dl from_ i bits p := by cases bt8 x p <;> cases dl from_ i bits p <;> rfl
      rw [e]
      unfold dl
      by_cases h1 : p < from_
      · rw [List.append_assoc, List.getElem?_append_left (by simpa using h1)]
        simp [h1, show ¬ from_ ≤ p by omega]
      · by_cases h2 : p < from_ + i
        · rw [List.getElem?_append_left (by simp; omega), List.getElem?_append_right (by simp; omega)]
          simp only [List.length_replicate, List.getElem?_map, List.getElem?_range (show p - from_ < i by omega), Option.map_some]
          simp [h2, show from_ ≤ p by omega]
        · rw [List.getElem?_append_right (by simp; omega)]
          simp only [List.length_append, List.length_replicate, List.length_map, List.length_range]
          rw [List.getElem?_replicate, if_pos (by omega)]
          simp [h2]
    · rw [List.getElem?_eq_none (by simp [bits_len]; omega), List.getElem?_eq_none (by simp; omega)]
  have hk : crcOn 0#32 x = crcOn 0#32 y ↔ run 0#32 (List.zipWith (fun a b => a != b) (bitsI x) (bitsI y)) = 0#32 := by
    have hr := run_xor (bitsI x) (bitsI y) (ones ^^^ 0#32) (ones ^^^ 0#32) (by rw [bits_len, bits_len, hl])
    rw [BitVec.xor_self] at hr
    rw [← hr]
    unfold crcOn
    constructor
    · intro he
      have : run (ones ^^^ 0#32) (bitsI x) = run (ones ^^^ 0#32) (bitsI y) := by
        have := congrArg (fun z => ones ^^^ z) he
        simpa only [← BitVec.xor_assoc, BitVec.xor_self, BitVec.zero_xor] using this
      rw [this, BitVec.xor_self]
    · intro he
      have : run (ones ^^^ 0#32) (bitsI x) = run (ones ^^^ 0#32) (bitsI y) := by
        have h2 := congrArg (fun z => z ^^^ run (ones ^^^ 0#32) (bitsI y)) he
        simpa only [BitVec.xor_assoc, BitVec.xor_self, BitVec.xor_zero, BitVec.zero_xor] using h2
      rw [this]
  rw [hk, hz, run_turned _ _ _ (by simpa using hi)]
  constructor
  · intro hh j hj
    exact hh _ (List.mem_map.2 ⟨j, List.mem_range.2 hj, rfl⟩)
  · intro hh b hb
    obtain ⟨j, hj, rfl⟩ := List.mem_map.1 hb
    exact hh j (List.mem_range.1 hj)
/-- Behind the loop. -/
theorem turns_end (x y : List Int) (hx : Bytes x) (hn : 0 < x.length ∧ x.length ≤ 1500) (from_ i bits : Nat) (a2 : Int) (turned : Bool) (hy : Bytes y) (hl : y.length = x.length) (hi : i ≤ 32) (hf : from_ + i ≤ 8 * x.length)
    (h : ∀ p, p < 8 * x.length → bt8 y p = (bt8 x p != dl from_ i bits p)) (ht : turned = true ↔ ∃ j, j < i ∧ bits.testBit j = true) (x7 x10 : Int) :
    Ev (fun k => hucksterlaw01_SumTurns.j2 k x a2 x7 y turned x10 false) true := by
  refine Ev.step (f := fun k => (sum_Of.f k [x]).bind fun t => (sum_Of.f k [y]).bind fun u => if ((t != u) == turned) = true then ((hucksterlaw01_awake.f k).bind fun v => some v) else some false) (fun k => ?_) ?_
  · simp only [hucksterlaw01_SumTurns.j2]
    rw [if_neg (by simp)]
  · refine Ev.bind (of_one x hx (by omega)) ?_
    refine Ev.bind (of_one y hy (by omega)) ?_
    have ht' := told x y from_ i bits hl hi hf h
    have e : ((rg (crcOn 0#32 x) != rg (crcOn 0#32 y)) == turned) = true := by
      cases turned with
      | true =>
        have hne : rg (crcOn 0#32 x) ≠ rg (crcOn 0#32 y) := fun he => by
          obtain ⟨j, hj, hb⟩ := ht.1 rfl
          have := ht'.1 (rg_inj he) j hj
          rw [this] at hb
          cases hb
        simp [hne]
      | false =>
        have he : crcOn 0#32 x = crcOn 0#32 y := ht'.2 (fun j hj => by
          cases hb : bits.testBit j with
          | false => rfl
          | true => exact absurd (ht.2 ⟨j, hj, hb⟩) (by simp))
        simp [he]
    exact ev_if e (Ev.bind awake_ev (Ev.now _))
theorem turns_loop (x : List Int) (hx : Bytes x) (hn : 0 < x.length ∧ x.length ≤ 1500) (from_ bits : Nat) (hb : bits < 4294967296) (hf : from_ < 8 * x.length) (d : Nat) : ∀ (y : List Int) (turned : Bool) (i : Nat), i + d = 32 → Bytes y → y.length = x.length → from_ + i ≤ 8 * x.length →
    (∀ p, p < 8 * x.length → bt8 y p = (bt8 x p != dl from_ i bits p)) → (turned = true ↔ ∃ j, j < i ∧ bits.testBit j = true) →
    Ev (fun k => hucksterlaw01_SumTurns.l0 k x (bits : Int) (from_ : Int) y turned (i : Int)) true := by
  induction d with
  | zero =>
    intro y turned i hi hy hl hfi h ht
    have hni : ¬ ((i : Int) < 32) := by omega
    refine Ev.step (fun k => ?_) (turns_end x y hx hn from_ i bits (bits : Int) turned hy hl (by omega) hfi h ht (from_ : Int) (i : Int))
    simp only [hucksterlaw01_SumTurns.l0]
    rw [if_neg hni]
  | succ d ih =>
    intro y turned i hi hy hl hfi h ht
    have hi32 : (i : Int) < 32 := by omega
    have w1 : wrap64 ((from_ : Int) + (i : Int)) = ((from_ + i : Nat) : Int) := by unfold wrap64; omega
    have w2 : wrap64 (8 * (x.length : Int)) = ((8 * x.length : Nat) : Int) := by unfold wrap64; omega
    have w3 : wrap64 ((i : Int) + 1) = ((i + 1 : Nat) : Int) := by unfold wrap64; omega
    have w4 : IntKind.u64.wrap (i : Int) = (i : Int) := by rw [IntKind.wrap_u64]; omega
    by_cases hend : from_ + i < 8 * x.length
    · have hdec : decide (((from_ + i : Nat) : Int) < ((8 * x.length : Nat) : Int)) = true := decide_eq_true (by omega)
      refine Ev.step (f := fun k => hucksterlaw01_SumTurns.j2 k x (bits : Int) (from_ : Int) y turned (i : Int) true) (fun k => ?_) ?_
      · simp only [hucksterlaw01_SumTurns.l0]
        rw [if_pos hi32, w1, w2, hdec]
      · have hbit : Int.tmod (shr .u32 (bits : Int) (i : Int)) 2 = if bits.testBit i = true then 1 else 0 := by
          unfold shr
          rw [Int.toNat_natCast, show min i IntKind.u32.bits = i from by simp [IntKind.bits]; omega]
          rw [show ((bits : Int) / 2 ^ i) = ((bits / 2 ^ i : Nat) : Int) from by simp]
          rw [show Int.tmod ((bits / 2 ^ i : Nat) : Int) 2 = ((bits / 2 ^ i % 2 : Nat) : Int) from rfl, Nat.testBit_eq_decide_div_mod_eq]
          have : bits / 2 ^ i % 2 < 2 := Nat.mod_lt _ (by omega)
          by_cases h1 : bits / 2 ^ i % 2 = 1
          · simp [h1]
          · have h0 : bits / 2 ^ i % 2 = 0 := by omega
            simp [h0]
        have hdl : ∀ p, dl from_ (i + 1) bits p = (dl from_ i bits p != (decide (p = from_ + i) && bits.testBit i)) := by
          intro p
          unfold dl
          by_cases hp : p = from_ + i
          · subst hp
            have : from_ + i - from_ = i := by omega
            rw [this]
            simp
          · have e1 : decide (p = from_ + i) = false := decide_eq_false hp
            have e2 : decide (p < from_ + (i + 1)) = decide (p < from_ + i) := by simp only [decide_eq_decide]; omega
            rw [e1, e2]
            simp
        by_cases htb : bits.testBit i = true
        · have hbit1 : Int.tmod (shr .u32 (bits : Int) (i : Int)) 2 = 1 := by rw [hbit, if_pos htb]
          have w5 : wrap64 (Int.tdiv ((from_ + i : Nat) : Int) 8) = (((from_ + i) / 8 : Nat) : Int) := by
            rw [show Int.tdiv ((from_ + i : Nat) : Int) 8 = (((from_ + i) / 8 : Nat) : Int) from rfl]
            unfold wrap64
            omega
          have w6 : IntKind.u64.wrap (Int.tmod ((from_ + i : Nat) : Int) 8) = (((from_ + i) % 8 : Nat) : Int) := by
            rw [show Int.tmod ((from_ + i : Nat) : Int) 8 = (((from_ + i) % 8 : Nat) : Int) from rfl, IntKind.wrap_u64]
            omega
          have w7 : shr .u8 128 (((from_ + i) % 8 : Nat) : Int) = ((128 / 2 ^ ((from_ + i) % 8) : Nat) : Int) := by
            unfold shr
            rw [Int.toNat_natCast, show min ((from_ + i) % 8) IntKind.u8.bits = (from_ + i) % 8 from by simp [IntKind.bits]; omega]
            simp
          have hT := bt8_turn y hy (from_ + i) (by omega)
          have hn1 : (0 : Int) ≤ (i : Int) := by omega
          have hn2 : (0 : Int) ≤ (((from_ + i) / 8 : Nat) : Int) := by omega
          have hn3 : (((from_ + i) / 8 : Nat) : Int) < (y.length : Int) := by omega
          have hn4 : (0 : Int) ≤ (((from_ + i) % 8 : Nat) : Int) := by omega
          refine Ev.step (f := fun k => hucksterlaw01_SumTurns.l0 k x (bits : Int) (from_ : Int) (y.set ((from_ + i) / 8) (Go.bits .xor .u8 (rd y (((from_ + i) / 8 : Nat) : Int)) (((128 / 2 ^ ((from_ + i) % 8) : Nat)) : Int))) true ((i + 1 : Nat) : Int)) (fun k => ?_) ?_
          · simp only [hucksterlaw01_SumTurns.j2]
            rw [if_pos trivial, w4, if_pos hn1, if_pos hbit1, w1, w5, if_pos hn2, if_pos hn3, w6, if_pos hn4, w7, w3, Int.toNat_natCast]
          · refine ih _ true (i + 1) (by omega) hT.1 (by simpa using hl) (by omega) (fun p hp => ?_) ⟨fun _ => ⟨i, by omega, htb⟩, fun _ => rfl⟩
            rw [hT.2 p (by omega), h p hp, hdl, htb, Bool.and_true]
            cases bt8 x p <;> cases dl from_ i bits p <;> cases decide (p = from_ + i) <;> rfl
        · have hbit0 : ¬ (Int.tmod (shr .u32 (bits : Int) (i : Int)) 2 = 1) := by rw [hbit, if_neg htb]; decide
          have htf : bits.testBit i = false := by simpa using htb
          have hn1 : (0 : Int) ≤ (i : Int) := by omega
          refine Ev.step (f := fun k => hucksterlaw01_SumTurns.l0 k x (bits : Int) (from_ : Int) y turned ((i + 1 : Nat) : Int)) (fun k => ?_) ?_
          · simp only [hucksterlaw01_SumTurns.j2]
            rw [if_pos trivial, w4, if_pos hn1, if_neg hbit0, w3]
          · refine ih y turned (i + 1) (by omega) hy hl (by omega) (fun p hp => ?_) ⟨fun ht' => ?_, fun ⟨j, hj, hb'⟩ => ?_⟩
            · rw [h p hp, hdl, htf, Bool.and_false]
              cases bt8 x p <;> cases dl from_ i bits p <;> rfl
            · obtain ⟨j, hj, hb'⟩ := ht.1 ht'
              exact ⟨j, by omega, hb'⟩
            · refine ht.2 ⟨j, ?_, hb'⟩
              rcases Nat.lt_or_ge j i with h' | h'
              · exact h'
              · have : j = i := by omega
                subst this
                rw [htf] at hb'
                cases hb'
    · have hdec : decide (((from_ + i : Nat) : Int) < ((8 * x.length : Nat) : Int)) = false := decide_eq_false (by omega)
      refine Ev.step (fun k => ?_) (turns_end x y hx hn from_ i bits (bits : Int) turned hy hl (by omega) hfi h ht (from_ : Int) (i : Int))
      simp only [hucksterlaw01_SumTurns.l0]
      rw [if_pos hi32, w1, w2, hdec]
theorem SumTurns : hucksterlaw01_SumTurns.Pure := by
  intro l0 a1 a2 hm hr hw h1 h2
  refine Ev.rounds (g := fun k => hucksterlaw01_SumTurns.f k l0 a1 a2) ?_
  unfold hucksterlaw01_SumTurns.f
  have hb := bytes_of hw
  have u1 := u16_of h1
  have u2 := u32_of h2
  have awake_road : Ev (fun k => hucksterlaw01_SumTurns.j0 k l0 a1 a2 true) true := by
    refine Ev.step (f := fun k => (hucksterlaw01_awake.f k).bind fun t => some t) (fun k => ?_) (Ev.bind awake_ev (Ev.now _))
    simp only [hucksterlaw01_SumTurns.j0]
    rw [if_pos trivial]
  by_cases hl : (l0.length : Int) = 0
  · exact ev_if hl awake_road
  · refine ev_else hl ?_
    by_cases hl2 : (l0.length : Int) > 1500
    · rw [decide_eq_true hl2]
      exact awake_road
    · rw [decide_eq_false hl2]
      clear hm hr hw h1 h2
      have e1 : wrap64 (8 * (l0.length : Int)) = ((8 * l0.length : Nat) : Int) := by unfold wrap64; omega
      have e2 : wrap64 a1 = ((a1.toNat : Nat) : Int) := by unfold wrap64; omega
      have n1 : ¬ (((8 * l0.length : Nat) : Int) = 0) := by omega
      have n2 : ([] : List Int).length + l0.length < 140737488355328 := by simp; omega
      have hn : 0 < l0.length ∧ l0.length ≤ 1500 := by omega
      have hmod : a1.toNat % (8 * l0.length) < 8 * l0.length := Nat.mod_lt _ (by omega)
      refine Ev.step (f := fun k => hucksterlaw01_SumTurns.l0 k l0 ((a2.toNat : Nat) : Int) ((a1.toNat % (8 * l0.length) : Nat) : Int) l0 false ((0 : Nat) : Int)) (fun k => ?_) ?_
      · simp only [hucksterlaw01_SumTurns.j0, Option.bind_some]
        rw [if_neg (by simp), e1, if_neg n1, if_pos n2, e2, List.nil_append]
        rw [show Int.tmod ((a1.toNat : Nat) : Int) ((8 * l0.length : Nat) : Int) = ((a1.toNat % (8 * l0.length) : Nat) : Int) from rfl]
        rw [show ((a2.toNat : Nat) : Int) = a2 by omega]
        rfl
      · refine turns_loop l0 hb hn (a1.toNat % (8 * l0.length)) a2.toNat (by omega) hmod 32 l0 false 0 (by omega) hb rfl (by omega) (fun p hp => ?_) ⟨fun h => (by cases h), fun ⟨j, hj, _⟩ => (by omega)⟩
        have : dl (a1.toNat % (8 * l0.length)) 0 a2.toNat p = false := by
          unfold dl
          by_cases h : a1.toNat % (8 * l0.length) ≤ p
          · have hlt : decide (p < a1.toNat % (8 * l0.length) + 0) = false := decide_eq_false (by omega)
            rw [hlt]
            simp
          · simp [h]
        rw [this]
        simp
end Go.Proofs.Ytpahdlgpiecdkaa.Pure

/- Clocks: what the reference's functions that make a clock come to, in plain words. -/
import Derived.Test.YtjpjdipdhakjnaaClockRef
import Derived.Test.YtjpjdipdhakjnaaPClockx3
import Derived.Test.YtjpjdipdhakjnaaPClockx6
namespace Go.Proofs.Ytjpjdipdhakjnaa.PClock
open Go.RowKit Go.Proofs.YtjpjdipdhakjnaaW.PrintWords Go.Proofs.YtjpjdipdhakjnaaW.PrintLast Go.Proofs.Ytjpjdipdhakjnaa.ClockBase
set_option linter.unusedVariables false
set_option linter.unusedSimpArgs false

theorem plain_good {f : List Int} (h : GoodC f) : Ev (fun k => hucksterref03_Plain.f k f) (trim f) := by
  have := plain_ev f (by rw [h.1]; decide)
  rwa [ofL_good h] at this
theorem take_five {f : List Int} (h : f.length = 5) : f.take 5 = f := by rw [← h, List.take_length]
theorem join_loop (a b : List Int) (ha : a.length ≤ 140737488355328) (hb : b.length ≤ 140737488355328) (d : Nat) : ∀ i : Nat, i + d = 5 → Ev (fun k => hucksterref03_Join.l0 k a b ((List.zipWith greater (ofL a) (ofL b)).take i) ((i + 1 : Nat) : Int)) (trim (List.zipWith greater (ofL a) (ofL b))) := by
  have hz := good_greater (good_of a) (good_of b)
  induction d with
  | zero =>
    intro i hi
    obtain rfl : i = 5 := by omega
    rw [take_five hz.1]
    refine Ev.step (f := fun k => (hucksterref03_Plain.f k (List.zipWith greater (ofL a) (ofL b))).bind fun t => some t) (fun k => ?_) (Ev.bind (plain_good hz) (Ev.now _))
    simp only [hucksterref03_Join.l0]
    rw [if_neg (by omega)]
  | succ d ih =>
    intro i hi
    have hl : ((List.zipWith greater (ofL a) (ofL b)).take i).length < 17592186044416 := by rw [List.length_take, hz.1]; omega
    have hn := ih (i + 1) (by omega)
    rw [take_snoc5 hz.1 i (by omega), zip5 (ofL_length a) (ofL_length b) i (by omega)] at hn
    have hxa := getS_nat a i (by omega)
    have hxb := getS_nat b i (by omega)
    have ga := get_ev a ((i + 1 : Nat) : Int) ha
    have gb := get_ev b ((i + 1 : Nat) : Int) hb
    rw [hxa] at ga
    rw [hxb] at gb
    unfold greater at hn
    refine Ev.step (f := fun k => (hucksterref03_Get.f k a ((i + 1 : Nat) : Int)).bind fun t => (hucksterref03_Get.f k b ((i + 1 : Nat) : Int)).bind fun u => if t > u then (hucksterref03_Get.f k a ((i + 1 : Nat) : Int)).bind fun t => hucksterref03_Join.l0 k a b ((List.zipWith greater (ofL a) (ofL b)).take i ++ [t]) ((i + 1 + 1 : Nat) : Int) else (hucksterref03_Get.f k b ((i + 1 : Nat) : Int)).bind fun t => hucksterref03_Join.l0 k a b ((List.zipWith greater (ofL a) (ofL b)).take i ++ [t]) ((i + 1 + 1 : Nat) : Int)) (fun k => ?_) ?_
    · simp only [hucksterref03_Join.l0]
      rw [if_pos (by omega), ck_w (by omega)]
      simp only [if_pos hl]
    · refine Ev.bind ga (Ev.bind gb ?_)
      by_cases h : (ofL a).getD i 0 > (ofL b).getD i 0
      · rw [if_neg (by omega)] at hn
        exact ck_if h (Ev.bind ga hn)
      · refine ck_else h (Ev.bind gb ?_)
        by_cases h' : (ofL a).getD i 0 < (ofL b).getD i 0
        · rw [if_pos h'] at hn
          exact hn
        · rw [if_neg h', show (ofL a).getD i 0 = (ofL b).getD i 0 by omega] at hn
          exact hn
theorem join_ev (a b : List Int) (ha : a.length ≤ 140737488355328) (hb : b.length ≤ 140737488355328) : Ev (fun k => hucksterref03_Join.f k a b) (trim (joinS [a, b])) := by
  rw [join_two]
  exact join_loop a b ha hb 5 0 (by omega)
theorem meet_loop (a b : List Int) (ha : a.length ≤ 140737488355328) (hb : b.length ≤ 140737488355328) (d : Nat) : ∀ i : Nat, i + d = 5 → Ev (fun k => hucksterref03_Meet.l0 k a b ((meetS a b).take i) ((i + 1 : Nat) : Int)) (trim (meetS a b)) := by
  have hz := good_meet a b
  induction d with
  | zero =>
    intro i hi
    obtain rfl : i = 5 := by omega
    rw [take_five hz.1]
    refine Ev.step (f := fun k => (hucksterref03_Plain.f k (meetS a b)).bind fun t => some t) (fun k => ?_) (Ev.bind (plain_good hz) (Ev.now _))
    simp only [hucksterref03_Meet.l0]
    rw [if_neg (by omega)]
  | succ d ih =>
    intro i hi
    have hl : ((meetS a b).take i).length < 17592186044416 := by rw [List.length_take, hz.1]; omega
    have hn := ih (i + 1) (by omega)
    have hzi : (meetS a b).getD i 0 = lesser ((ofL a).getD i 0) ((ofL b).getD i 0) := zip5 (ofL_length a) (ofL_length b) i (by omega)
    rw [take_snoc5 hz.1 i (by omega), hzi] at hn
    have hxa := getS_nat a i (by omega)
    have hxb := getS_nat b i (by omega)
    have ga := get_ev a ((i + 1 : Nat) : Int) ha
    have gb := get_ev b ((i + 1 : Nat) : Int) hb
    rw [hxa] at ga
    rw [hxb] at gb
    unfold lesser at hn
    refine Ev.step (f := fun k => (hucksterref03_Get.f k a ((i + 1 : Nat) : Int)).bind fun t => (hucksterref03_Get.f k b ((i + 1 : Nat) : Int)).bind fun u => if t < u then (hucksterref03_Get.f k a ((i + 1 : Nat) : Int)).bind fun t => hucksterref03_Meet.l0 k a b ((meetS a b).take i ++ [t]) ((i + 1 + 1 : Nat) : Int) else (hucksterref03_Get.f k b ((i + 1 : Nat) : Int)).bind fun t => hucksterref03_Meet.l0 k a b ((meetS a b).take i ++ [t]) ((i + 1 + 1 : Nat) : Int)) (fun k => ?_) ?_
    · simp only [hucksterref03_Meet.l0]
      rw [if_pos (by omega), ck_w (by omega)]
      simp only [if_pos hl]
    · refine Ev.bind ga (Ev.bind gb ?_)
      by_cases h : (ofL a).getD i 0 < (ofL b).getD i 0
      · rw [if_neg (by omega)] at hn
        exact ck_if h (Ev.bind ga hn)
      · refine ck_else h (Ev.bind gb ?_)
        by_cases h' : (ofL b).getD i 0 < (ofL a).getD i 0
        · rw [if_pos h'] at hn
          exact hn
        · rw [if_neg h', show (ofL a).getD i 0 = (ofL b).getD i 0 by omega] at hn
          exact hn
theorem meet_ev (a b : List Int) (ha : a.length ≤ 140737488355328) (hb : b.length ≤ 140737488355328) : Ev (fun k => hucksterref03_Meet.f k a b) (trim (meetS a b)) := meet_loop a b ha hb 5 0 (by omega)
theorem order_ev (a b : List Int) (ha : a.length ≤ 140737488355328) (hb : b.length ≤ 140737488355328) : Ev (fun k => hucksterref03_Order.f k a b) (orderS a b) := by
  unfold hucksterref03_Order.f
  rw [order_eq]
  refine Ev.bind (within_ev a b ha hb) (Ev.bind (within_ev b a hb ha) ?_)
  have hj : ∀ x y z r, (if z = true then (0 : Int) else if x = true then -1 else if y = true then 1 else 2) = r → Ev (fun k => hucksterref03_Order.j0 k x y z) r := by
    intro x y z r e
    subst e
    refine Ev.step (f := fun _ => some (if z = true then (0 : Int) else if x = true then -1 else if y = true then 1 else 2)) (fun k => ?_) (Ev.now _)
    simp only [hucksterref03_Order.j0]
    cases x <;> cases y <;> cases z <;> rfl
  by_cases h : withinS a b = true
  · refine ck_if h (hj _ _ _ _ ?_)
    rw [h]
    cases withinS b a <;> rfl
  · refine ck_else h (hj _ _ _ _ ?_)
    rw [Bool.not_eq_true] at h
    rw [h]
    cases withinS b a <;> rfl
theorem sum_ev (l : List Int) (hn : l.length ≤ 140737488355328) : Ev (fun k => hucksterref03_Sum.f k l) (sumS l) := by
  have st : ∀ (i : Nat) (x r : Int), i < 5 → Ev (fun k => hucksterref03_Sum.l0 k l (wrap64 (x + (ofL l).getD i 0)) ((i + 1 + 1 : Nat) : Int)) r → Ev (fun k => hucksterref03_Sum.l0 k l x ((i + 1 : Nat) : Int)) r := by
    intro i x r hi h
    refine Ev.step (f := fun k => (hucksterref03_Get.f k l ((i + 1 : Nat) : Int)).bind fun t => hucksterref03_Sum.l0 k l (wrap64 (x + t)) ((i + 1 + 1 : Nat) : Int)) (fun k => ?_) ?_
    · simp only [hucksterref03_Sum.l0]
      rw [if_pos (by omega), ck_w (by omega)]
    · have := get_ev l ((i + 1 : Nat) : Int) hn
      rw [getS_nat l i hi] at this
      exact Ev.bind this h
  obtain ⟨y0, y1, y2, y3, y4, e⟩ := five (ofL_length l)
  unfold hucksterref03_Sum.f sumS
  rw [e] at st ⊢
  refine st 0 0 _ (by omega) (st 1 _ _ (by omega) (st 2 _ _ (by omega) (st 3 _ _ (by omega) (st 4 _ _ (by omega) ?_))))
  refine Ev.step (f := fun _ => some (List.foldl (fun a n => wrap64 (a + n)) 0 [y0, y1, y2, y3, y4])) (fun k => ?_) (Ev.now _)
  simp only [hucksterref03_Sum.l0]
  rw [if_neg (by omega)]
  rfl
theorem good_set {f : List Int} (h : GoodC f) (i : Nat) {n : Int} (h0 : 0 ≤ n) (h1 : n ≤ 1048576) : GoodC (f.set i n) := by
  refine ⟨by rw [List.length_set, h.1], fun x hx => ?_⟩
  rcases List.mem_or_eq_of_mem_set hx with hx | hx
  · exact h.2 x hx
  · omega
theorem set_loop (l : List Int) (j : Nat) (hj : j < 5) (n : Int) (hn : l.length ≤ 140737488355328) (h0 : 0 ≤ n) (h1 : n ≤ 1048576) (d : Nat) : ∀ i : Nat, i + d = 5 → Ev (fun k => hucksterref03_Set.l0 k l ((j + 1 : Nat) : Int) n (((ofL l).set j n).take i) ((i + 1 : Nat) : Int)) (trim ((ofL l).set j n)) := by
  have hz := good_set (good_of l) j h0 h1
  induction d with
  | zero =>
    intro i hi
    obtain rfl : i = 5 := by omega
    rw [take_five hz.1]
    refine Ev.step (f := fun k => (hucksterref03_Plain.f k ((ofL l).set j n)).bind fun t => some t) (fun k => ?_) (Ev.bind (plain_good hz) (Ev.now _))
    simp only [hucksterref03_Set.l0]
    rw [if_neg (by omega)]
  | succ d ih =>
    intro i hi
    have hl : (((ofL l).set j n).take i).length < 17592186044416 := by rw [List.length_take, hz.1]; omega
    have hn1 := ih (i + 1) (by omega)
    rw [take_snoc5 hz.1 i (by omega)] at hn1
    by_cases h : i = j
    · subst h
      have e : ((ofL l).set i n).getD i 0 = n := by
        rw [List.getD_eq_getElem?_getD, List.getElem?_set_self (by rw [ofL_length]; omega)]
        rfl
      rw [e] at hn1
      refine Ev.step (f := fun k => hucksterref03_Set.l0 k l ((i + 1 : Nat) : Int) n (((ofL l).set i n).take i ++ [n]) ((i + 1 + 1 : Nat) : Int)) (fun k => ?_) hn1
      simp only [hucksterref03_Set.l0]
      rw [if_pos (by omega), if_pos trivial, if_pos hl, ck_w (by omega)]
    · have e : ((ofL l).set j n).getD i 0 = (ofL l).getD i 0 := by
        rw [List.getD_eq_getElem?_getD, List.getElem?_set_ne (fun hh => h hh.symm), List.getD_eq_getElem?_getD]
      rw [e] at hn1
      refine Ev.step (f := fun k => (hucksterref03_Get.f k l ((i + 1 : Nat) : Int)).bind fun t => hucksterref03_Set.l0 k l ((j + 1 : Nat) : Int) n (((ofL l).set j n).take i ++ [t]) ((i + 1 + 1 : Nat) : Int)) (fun k => ?_) ?_
      · simp only [hucksterref03_Set.l0]
        rw [if_pos (by omega), if_neg (by omega), ck_w (by omega)]
        simp only [if_pos hl]
      · have := get_ev l ((i + 1 : Nat) : Int) hn
        rw [getS_nat l i (by omega)] at this
        exact Ev.bind this hn1
theorem set_ev (l : List Int) (rep n : Int) (hn : l.length ≤ 140737488355328) (hk : setOk rep n = true) : Ev (fun k => hucksterref03_Set.f k l rep n) (setS l rep n) := by
  unfold setOk at hk
  simp only [Bool.and_eq_true, decide_eq_true_eq] at hk
  obtain ⟨j, rfl⟩ : ∃ j : Nat, rep = ((j + 1 : Nat) : Int) := ⟨(rep - 1).toNat, by omega⟩
  have h := set_loop l j (by omega) n hn hk.2.1 hk.2.2 5 0 (by omega)
  have e : (((j + 1 : Nat) : Int) - 1).toNat = j := by omega
  unfold setS
  rw [e]
  exact h
end Go.Proofs.Ytjpjdipdhakjnaa.PClock

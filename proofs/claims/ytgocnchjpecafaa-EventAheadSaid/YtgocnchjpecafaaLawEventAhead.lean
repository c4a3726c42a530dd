/- EventAhead: for every input the law returns true. -/
import Derived.Test.YtgocnchjpecafaaEvPure
import Derived.Test.YtgocnchjpecafaaPEvx10
import Derived.Test.YtgocnchjpecafaaPEvx23
import Derived.Test.YtgocnchjpecafaaPEvx30
import Derived.Test.YtgocnchjpecafaaPEvx33
import Derived.Test.YtgocnchjpecafaaPEvx19
import Derived.Test.YtgocnchjpecafaaPEvx4
import Derived.Test.YtgocnchjpecafaaPEvx24
import Derived.Test.YtgocnchjpecafaaWWords
import Derived.Deep.Slices
import Derived.WideShapes
import Derived.SizedLaws
import Derived.KernelRfl
import Derived.Test.YtgocnchjpecafaaPEvx0
import Derived.Test.YtgocnchjpecafaaRows
import Derived.WalkKit
import Derived.ProofKit
import Derived.OpenShut
import Derived.ShutString
import Derived.ChangeOld
import Derived.Below
namespace Go.Proofs.Ytgocnchjpecafaa.PEv
open Go.RowKit Go.Proofs.YtgocnchjpecafaaW.PrintWords Go.Proofs.YtgocnchjpecafaaW.PrintLast Go.Proofs.Ytgocnchjpecafaa.ClockBase
set_option linter.unusedVariables false
set_option linter.unusedSimpArgs false
def leF (a b : List Int) : Nat → Nat → Bool
 | 0, _ => true
 | d + 1, i => decide (a.getD i 0 ≤ b.getD i 0) && leF a b d (i + 1)
theorem within_loop (a b : List Int) (ha : a.length ≤ 140737488355328) (hb : b.length ≤ 140737488355328) (d : Nat) : ∀ i : Nat, i + d = 5 → Ev (fun k => hucksterref03_Within.l0 k a b ((i + 1 : Nat) : Int)) (leF (ofL a) (ofL b) d i) := by
 induction d with
 | zero =>
  intro i hi
  refine Ev.step (f := fun _ => some true) (fun k => ?_) (Ev.now _)
  simp only [hucksterref03_Within.l0]
  rw [if_neg (by omega)]
 | succ d ih =>
  intro i hi
  refine Ev.step (f := fun k => (hucksterref03_Get.f k a ((i + 1 : Nat) : Int)).bind fun t => (hucksterref03_Get.f k b ((i + 1 : Nat) : Int)).bind fun u => if t > u then some false else hucksterref03_Within.l0 k a b ((i + 1 + 1 : Nat) : Int)) (fun k => ?_) ?_
  ·simp only [hucksterref03_Within.l0]
   rw [if_pos (by omega), ck_w (by omega)]
  ·refine Ev.bind (get_ev a _ ha) (Ev.bind (get_ev b _ hb) ?_)
   rw [getS_nat a i (by omega), getS_nat b i (by omega)]
   unfold leF
   by_cases h : (ofL a).getD i 0 > (ofL b).getD i 0
   ·rw [decide_eq_false (by omega), Bool.false_and]
    exact ck_if h (Ev.now _)
   ·rw [decide_eq_true (by omega), Bool.true_and]
    exact ck_else h (ih (i + 1) (by omega))
theorem within_ev (a b : List Int) (ha : a.length ≤ 140737488355328) (hb : b.length ≤ 140737488355328) : Ev (fun k => hucksterref03_Within.f k a b) (withinS a b) := by
 have h := within_loop a b ha hb 5 0 (by omega)
 have e : withinS a b = leF (ofL a) (ofL b) 5 0 := by
  simp [withinS, leF, List.range, List.range.loop]
 rw [e]
 exact h
theorem plain_good {f : List Int} (h : GoodC f) : Ev (fun k => hucksterref03_Plain.f k f) (trim f) := by
 have := plain_ev f (by rw [h.1]; decide)
 rwa [ofL_good h] at this
theorem take_five {f : List Int} (h : f.length = 5) : f.take 5 = f := by rw [← h, List.take_length]
theorem sum_ev (l : List Int) (hn : l.length ≤ 140737488355328) : Ev (fun k => hucksterref03_Sum.f k l) (sumS l) := by
 have st : ∀ (i : Nat) (x r : Int), i < 5 → Ev (fun k => hucksterref03_Sum.l0 k l (wrap64 (x + (ofL l).getD i 0)) ((i + 1 + 1 : Nat) : Int)) r → Ev (fun k => hucksterref03_Sum.l0 k l x ((i + 1 : Nat) : Int)) r := by
  intro i x r hi h
  refine Ev.step (f := fun k => (hucksterref03_Get.f k l ((i + 1 : Nat) : Int)).bind fun t => hucksterref03_Sum.l0 k l (wrap64 (x + t)) ((i + 1 + 1 : Nat) : Int)) (fun k => ?_) ?_
  ·simp only [hucksterref03_Sum.l0]
   rw [if_pos (by omega), ck_w (by omega)]
  ·have := get_ev l ((i + 1 : Nat) : Int) hn
   rw [getS_nat l i hi] at this
   exact Ev.bind this h
 obtain ⟨y0, y1, y2, y3, y4, e⟩ := five (ofL_length l)
 unfold hucksterref03_Sum.f sumS
 rw [e] at st ⊢
 refine st 0 0 _ (by omega) (st 1 _ _ (by omega) (st 2 _ _ (by omega) (st 3 _ _ (by omega) (st 4 _ _ (by omega) ?_))))
 refine Ev.step (f := fun _ => some (List.foldl (fun a n => wrap64 (a + n)) 0 [y0, y1, y2, y3, y4])) (fun k => ?_) (Ev.now _)
 simp only [hucksterref03_Sum.l0]
 rw [if_neg (by omega)]
 rfl
theorem good_set {f : List Int} (h : GoodC f) (i : Nat) {n : Int} (h0 : 0 ≤ n) (h1 : n ≤ 1048576) : GoodC (f.set i n) := by
 refine ⟨by rw [List.length_set, h.1], fun x hx => ?_⟩
 rcases List.mem_or_eq_of_mem_set hx with hx | hx
 ·exact h.2 x hx
 ·omega
theorem set_loop (l : List Int) (j : Nat) (hj : j < 5) (n : Int) (hn : l.length ≤ 140737488355328) (h0 : 0 ≤ n) (h1 : n ≤ 1048576) (d : Nat) : ∀ i : Nat, i + d = 5 → Ev (fun k => hucksterref03_Set.l0 k l ((j + 1 : Nat) : Int) n (((ofL l).set j n).take i) ((i + 1 : Nat) : Int)) (trim ((ofL l).set j n)) := by
 have hz := good_set (good_of l) j h0 h1
 induction d with
 | zero =>
  intro i hi
  obtain rfl : i = 5 := by omega
  rw [take_five hz.1]
  refine Ev.step (f := fun k => (hucksterref03_Plain.f k ((ofL l).set j n)).bind fun t => some t) (fun k => ?_) (Ev.bind (plain_good hz) (Ev.now _))
  simp only [hucksterref03_Set.l0]
  rw [if_neg (by omega)]
 | succ d ih =>
  intro i hi
  have hl : (((ofL l).set j n).take i).length < 17592186044416 := by rw [List.length_take, hz.1]; omega
  have hn1 := ih (i + 1) (by omega)
  rw [take_snoc5 hz.1 i (by omega)] at hn1
  by_cases h : i = j
  ·subst h
   have e : ((ofL l).set i n).getD i 0 = n := by
    rw [List.getD_eq_getElem?_getD, List.getElem?_set_self (by rw [ofL_length]; omega)]
    rfl
   rw [e] at hn1
   refine Ev.step (f := fun k => hucksterref03_Set.l0 k l ((i + 1 : Nat) : Int) n (((ofL l).set i n).take i ++ [n]) ((i + 1 + 1 : Nat) : Int)) (fun k => ?_) hn1
   simp only [hucksterref03_Set.l0]
   rw [if_pos (by omega), if_pos trivial, if_pos hl, ck_w (by omega)]
  ·have e : ((ofL l).set j n).getD i 0 = (ofL l).getD i 0 := by
    rw [List.getD_eq_getElem?_getD, List.getElem?_set_ne (fun hh => h hh.symm), List.getD_eq_getElem?_getD]
   rw [e] at hn1
   refine Ev.step (f := fun k => (hucksterref03_Get.f k l ((i + 1 : Nat) : Int)).bind fun t => hucksterref03_Set.l0 k l ((j + 1 : Nat) : Int) n (((ofL l).set j n).take i ++ [t]) ((i + 1 + 1 : Nat) : Int)) (fun k => ?_) ?_
   ·simp only [hucksterref03_Set.l0]
    rw [if_pos (by omega), if_neg (by omega), ck_w (by omega)]
    simp only [if_pos hl]
   ·have := get_ev l ((i + 1 : Nat) : Int) hn
    rw [getS_nat l i (by omega)] at this
    exact Ev.bind this hn1
theorem set_ev (l : List Int) (rep n : Int) (hn : l.length ≤ 140737488355328) (hk : setOk rep n = true) : Ev (fun k => hucksterref03_Set.f k l rep n) (setS l rep n) := by
 unfold setOk at hk
 simp only [Bool.and_eq_true, decide_eq_true_eq] at hk
 obtain ⟨j, rfl⟩ : ∃ j : Nat, rep = ((j + 1 : Nat) : Int) := ⟨(rep - 1).toNat, by omega⟩
 have h := set_loop l j (by omega) n hn hk.2.1 hk.2.2 5 0 (by omega)
 have e : (((j + 1 : Nat) : Int) - 1).toNat = j := by omega
 unfold setS
 rw [e]
 exact h
end Go.Proofs.Ytgocnchjpecafaa.PEv
namespace Go.Proofs.Ytgocnchjpecafaa.PEv
open Go.RowKit Go.Proofs.YtgocnchjpecafaaW.PrintWords Go.Proofs.YtgocnchjpecafaaW.PrintLast Go.Proofs.Ytgocnchjpecafaa.ClockBase Go.Proofs.Ytgocnchjpecafaa.Wr
set_option linter.unusedVariables false
set_option linter.unusedSimpArgs false
theorem light1_ev (l : List S30) (i : Nat) (hi : i < l.length) (hn : ((rd_T30 l (i : Int)).f2).length ≤ 140737488355328) (next : ∃ b, Ev (fun k => hucksterlaw05_Light.l0 k l (wrap64 ((i : Int) + 1))) b) (d : Nat) : ∀ (j : Nat), j + d = ((rd_T30 l (i : Int)).f2).length → ∃ b, Ev (fun k => hucksterlaw05_Light.l1 k l (i : Int) (j : Int)) b := by
 induction d with
 | zero =>
  intro j hj
  obtain ⟨b, hb⟩ := next
  refine ⟨b, Ev.step (f := fun k => hucksterlaw05_Light.l0 k l (wrap64 ((i : Int) + 1))) (fun k => ?_) hb⟩
  simp only [hucksterlaw05_Light.l1]
  rw [if_pos (by omega), if_pos (by omega), if_neg (by omega)]
 | succ d ih =>
  intro j hj
  obtain ⟨b, hb⟩ := ih (j + 1) (by omega)
  by_cases h1 : (((rd_T48 ((rd_T30 l (i : Int)).f2) (j : Int)).f2).size : Int) > 100
  ·refine ⟨false, Ev.step (f := fun _ => some false) (fun k => ?_) (Ev.now _)⟩
   simp only [hucksterlaw05_Light.l1]
   rw [if_pos (by omega), if_pos (by omega), if_pos (by omega), if_pos (by omega), if_pos h1]
  by_cases h2 : (((rd_T48 ((rd_T30 l (i : Int)).f2) (j : Int)).f5).size : Int) > 100
  ·refine ⟨false, Ev.step (f := fun _ => some false) (fun k => ?_) (Ev.now _)⟩
   simp only [hucksterlaw05_Light.l1]
   rw [if_pos (by omega), if_pos (by omega), if_pos (by omega), if_pos (by omega), if_neg h1, if_pos h2]
  ·refine ⟨b, Ev.step (f := fun k => hucksterlaw05_Light.l1 k l (i : Int) ((j + 1 : Nat) : Int)) (fun k => ?_) hb⟩
   simp only [hucksterlaw05_Light.l1]
   rw [if_pos (by omega), if_pos (by omega), if_pos (by omega), if_pos (by omega), if_neg h1, if_neg h2, ck_w (by omega)]
theorem light0_ev (l : List S30) (hl : l.length ≤ 140737488355328) (hn : ∀ i : Nat, i < l.length → ((rd_T30 l (i : Int)).f2).length ≤ 140737488355328) (d : Nat) : ∀ (i : Nat), i + d = l.length → ∃ b, Ev (fun k => hucksterlaw05_Light.l0 k l (i : Int)) b := by
 induction d with
 | zero =>
  intro i hi
  refine ⟨decide ((l.length : Int) ≤ 40), Ev.step (f := fun k => hucksterlaw05_Light.j1 k l (i : Int) false) (fun k => ?_) (Ev.step (f := fun _ => some (decide ((l.length : Int) ≤ 40))) (fun k => rfl) (Ev.now _))⟩
  simp only [hucksterlaw05_Light.l0]
  rw [if_neg (by omega)]
 | succ d ih =>
  intro i hi
  have h0 : ∀ k, hucksterlaw05_Light.l0 (k + 1) l (i : Int) = hucksterlaw05_Light.j1 k l (i : Int) (decide ((i : Int) ≤ 40)) := fun k => by
   simp only [hucksterlaw05_Light.l0]
   rw [if_pos (by omega)]
  by_cases h40 : (i : Int) ≤ 40
  rotate_left
  ·refine ⟨decide ((l.length : Int) ≤ 40), Ev.step h0 ?_⟩
   rw [decide_eq_false h40]
   exact Ev.step (f := fun _ => some (decide ((l.length : Int) ≤ 40))) (fun k => rfl) (Ev.now _)
  have nx := ih (i + 1) (by omega)
  rw [← ck_w (by omega)] at nx
  obtain ⟨b, hb⟩ := light1_ev l i (by omega) (hn i (by omega)) nx _ 0 (Nat.zero_add _)
  have h2 : ∀ c : Bool, ∃ b, Ev (fun k => hucksterlaw05_Light.j2 k l (i : Int) c) b := fun c => by
   cases c with
   | true => exact ⟨false, Ev.step (f := fun _ => some false) (fun k => rfl) (Ev.now _)⟩
   | false => exact ⟨b, Ev.step (f := fun k => hucksterlaw05_Light.l1 k l (i : Int) 0) (fun k => rfl) hb⟩
  have h1 : ∃ b, Ev (fun k => hucksterlaw05_Light.j1 k l (i : Int) true) b := by
   by_cases h20 : (((rd_T30 l (i : Int)).f1).length : Int) > 20
   ·obtain ⟨b, hb⟩ := h2 true
    refine ⟨b, Ev.step (f := fun k => hucksterlaw05_Light.j2 k l (i : Int) true) (fun k => ?_) hb⟩
    simp only [hucksterlaw05_Light.j1]
    rw [if_pos trivial, if_pos (by omega), if_pos (by omega), if_pos h20]
   ·obtain ⟨b, hb⟩ := h2 (decide ((((rd_T30 l (i : Int)).f2).length : Int) > 30))
    refine ⟨b, Ev.step (f := fun k => hucksterlaw05_Light.j2 k l (i : Int) (decide ((((rd_T30 l (i : Int)).f2).length : Int) > 30))) (fun k => ?_) hb⟩
    simp only [hucksterlaw05_Light.j1]
    rw [if_pos trivial, if_pos (by omega), if_pos (by omega), if_neg h20]
  obtain ⟨b, hb⟩ := h1
  refine ⟨b, Ev.step h0 ?_⟩
  rw [decide_eq_true h40]
  exact hb
theorem light_ev (l : List S30) (hl : l.length ≤ 140737488355328) (hn : ∀ i : Nat, i < l.length → ((rd_T30 l (i : Int)).f2).length ≤ 140737488355328) : ∃ b, Ev (fun k => hucksterlaw05_Light.f k l) b := light0_ev l hl hn l.length 0 (by omega)
end Go.Proofs.Ytgocnchjpecafaa.PEv
namespace Go.Proofs.Ytgocnchjpecafaa.PEv
open Go.RowKit Go.Proofs.YtgocnchjpecafaaW.PrintWords Go.Proofs.YtgocnchjpecafaaW.PrintLast Go.Proofs.Ytgocnchjpecafaa.ClockBase Go.Proofs.Ytgocnchjpecafaa.Wr
set_option linter.unusedVariables false
set_option linter.unusedSimpArgs false
def aheadS (a b : S30) : Bool := decide (1 ≤ a.f0.f0 ∧ a.f0.f0 ≤ 5 ∧ 1 ≤ a.f0.f1 ∧ a.f0.f1 ≤ 1048576) && decide (a.f0.f1 ≤ getS b.f1 a.f0.f0)
def OkE (x : S30) : Prop := OkEv x.f0.f0 x.f0.f1 x.f1 x.f2
theorem aheadRun_eq (a b : S30) : event_Ahead.f a.f0.f0 a.f0.f1 a.f1 a.f2 b.f0.f0 b.f0.f1 b.f1 b.f2 = some (aheadS a b) := by
 unfold event_Ahead.f aheadS
 rw [dotMay_eq]
 by_cases h : 1 ≤ a.f0.f0 ∧ a.f0.f0 ≤ 5 ∧ 1 ≤ a.f0.f1 ∧ a.f0.f1 ≤ 1048576
 ·rw [decide_eq_true h, Bool.true_and]
  rfl
 ·rw [decide_eq_false h, Bool.false_and]
  rfl
theorem aheadRef_ev (a b : S30) (hb : b.f1.length ≤ 140737488355328) : Ev (fun k => hucksterref05_Ahead.f k a.f0.f0 a.f0.f1 a.f1 a.f2 b.f0.f0 b.f0.f1 b.f1 b.f2) (aheadS a b) := by
 unfold hucksterref05_Ahead.f aheadS
 refine Ev.bind (ev_is (dotMay04_eq a.f0.f0 a.f0.f1)) ?_
 by_cases h : 1 ≤ a.f0.f0 ∧ a.f0.f0 ≤ 5 ∧ 1 ≤ a.f0.f1 ∧ a.f0.f1 ≤ 1048576
 ·rw [decide_eq_true h, Bool.true_and]
  refine ck_if rfl ?_
  exact Ev.bind (get_ev b.f1 a.f0.f0 hb) (Ev.now _)
 ·rw [decide_eq_false h, Bool.false_and]
  exact ck_else (by decide) (Ev.now _)
theorem ahead_less {a b : S30} (ha : OkE a) (h : aheadS a b = true) (hw : withinS a.f1 b.f1 = true) : event_Order.lt a b = true := by
 unfold aheadS at h
 simp only [Bool.and_eq_true, decide_eq_true_eq] at h
 obtain ⟨⟨h1, h2, h3, h4⟩, h5⟩ := h
 have hg : getS a.f1 a.f0.f0 = a.f0.f1 - 1 := ha.2.2.2.2.2.2.1
 have hle := (withinS_iff _ _).mp hw
 obtain ⟨i, hi, hi5⟩ : ∃ i : Nat, a.f0.f0 = ((i + 1 : Nat) : Int) ∧ i < 5 := ⟨(a.f0.f0 - 1).toNat, by omega, by omega⟩
 rw [hi, getS_nat _ i hi5] at hg h5
 refine (event_Order.lt_iff a b).mpr (.inl ?_)
 rw [sum_eq, sum_eq]
 have l0 := hle 0 (by omega)
 have l1 := hle 1 (by omega)
 have l2 := hle 2 (by omega)
 have l3 := hle 3 (by omega)
 have l4 := hle 4 (by omega)
 rcases (by omega : i = 0 ∨ i = 1 ∨ i = 2 ∨ i = 3 ∨ i = 4) with rfl | rfl | rfl | rfl | rfl <;> omega
theorem insL_length {α : Type} (lt : α → α → Bool) (x : α) : ∀ l : List α, (Srt.insL lt x l).length = l.length + 1
 | [] => rfl
 | y :: l => by
  unfold Srt.insL
  split
  ·rfl
  ·rw [List.length_cons, insL_length lt x l, List.length_cons]
theorem ordL_length {α : Type} (lt : α → α → Bool) (l : List α) : (Srt.ordL lt l).length = l.length := by
 have h : ∀ (l acc : List α), (l.foldl (fun acc x => Srt.insL lt x acc) acc).length = acc.length + l.length := fun l => by
  induction l with
  | nil => intro acc; rfl
  | cons x l ih =>
   intro acc
   rw [List.foldl_cons, ih, insL_length, List.length_cons]
   omega
 have := h l []
 rw [List.length_nil, Nat.zero_add] at this
 exact this
theorem ordE_mem {l : List S30} {x : S30} (h : x ∈ Srt.ordL event_Order.lt l) : x ∈ l := by
 haveI : Inhabited S30 := ⟨z30⟩
 have h1 : x ∈ (Srt.ordL event_Order.lt l).filter (Srt.eqv event_Order.lt x) := List.mem_filter.mpr ⟨h, Srt.eqv_self event_Order.swo x⟩
 rw [Srt.ordL_filter event_Order.swo] at h1
 exact (List.mem_filter.mp h1).1
theorem ordE_at {l : List S30} {i j : Nat} (hij : i < j) (hj : j < (Srt.ordL event_Order.lt l).length) : event_Order.lt (Srt.ordL event_Order.lt l)[j] ((Srt.ordL event_Order.lt l)[i]'(by omega)) = false := by
 haveI : Inhabited S30 := ⟨z30⟩
 exact List.pairwise_iff_getElem.mp (Srt.ordL_sorted event_Order.swo l) i j (by omega) hj hij
theorem order_law {l : List S30} (h : ∀ b, b ∈ l → OkE b ∧ ∀ a, a ∈ l → aheadS a b = true → withinS a.f1 b.f1 = true) {i j : Nat} (hij : i < j) (hj : j < (Srt.ordL event_Order.lt l).length) :
  aheadS (Srt.ordL event_Order.lt l)[j] ((Srt.ordL event_Order.lt l)[i]'(by omega)) = false := by
 cases hc : aheadS (Srt.ordL event_Order.lt l)[j] ((Srt.ordL event_Order.lt l)[i]'(by omega)) with
 | false => rfl
 | true =>
  have ma := ordE_mem (List.getElem_mem hj)
  have mb := ordE_mem (List.getElem_mem (l := Srt.ordL event_Order.lt l) (n := i) (by omega))
  have := ahead_less (h _ ma).1 hc ((h _ mb).2 _ ma hc)
  rw [ordE_at hij hj] at this
  cases this
end Go.Proofs.Ytgocnchjpecafaa.PEv
namespace Go.Proofs.Ytgocnchjpecafaa.Pure
open Go.RowKit Go.Proofs.Ytgocnchjpecafaa.PEv Go.Proofs.YtgocnchjpecafaaW.PrintWords Go.Proofs.YtgocnchjpecafaaW.PrintLast Go.Proofs.Ytgocnchjpecafaa.ClockBase Go.Proofs.Ytgocnchjpecafaa.Wr
set_option linter.unusedVariables false
set_option linter.unusedSimpArgs false
theorem rd30_at {l : List S30} {i : Nat} (h : i < l.length) : rd_T30 l (i : Int) = l[i] := by
 unfold rd_T30
 rw [Int.toNat_natCast, List.getD_eq_getElem?_getD, List.getElem?_eq_getElem h]
 rfl
theorem ahead_l3 (l o : List S30) (j : Nat) (hj : j < o.length) (ho : o.length ≤ 2199023255552) (hn : ∀ i, (h : i < j) → aheadS o[j] (o[i]'(by omega)) = false) (next : Ev (fun k => hucksterlaw05_EventAhead.l2 k l o (wrap64 ((j : Int) + 1))) true) (d : Nat) :
  ∀ (i : Nat), i + d = j → Ev (fun k => hucksterlaw05_EventAhead.l3 k l o (j : Int) (i : Int)) true := by
 induction d with
 | zero =>
  intro i hi
  refine Ev.step (f := fun k => hucksterlaw05_EventAhead.l2 k l o (wrap64 ((j : Int) + 1))) (fun k => ?_) next
  simp only [hucksterlaw05_EventAhead.l3]
  rw [if_neg (by omega)]
 | succ d ih =>
  intro i hi
  refine Ev.step (f := fun k => hucksterlaw05_EventAhead.l3 k l o (j : Int) ((i + 1 : Nat) : Int)) (fun k => ?_) (ih (i + 1) (by omega))
  simp only [hucksterlaw05_EventAhead.l3]
  rw [if_pos (by omega), if_pos (by omega), if_pos (by omega), if_pos (by omega), if_pos (by omega), rd30_at hj, rd30_at (show i < o.length by omega), aheadRun_eq, hn i (by omega), ck_w (by omega)]
  rfl
theorem ahead_l2 (l o : List S30) (hl : o.length = l.length) (ho : o.length ≤ 2199023255552) (hn : ∀ j, (hj : j < o.length) → ∀ i, (h : i < j) → aheadS o[j] (o[i]'(by omega)) = false) (d : Nat) :
  ∀ (j : Nat), j + d = o.length → Ev (fun k => hucksterlaw05_EventAhead.l2 k l o (j : Int)) true := by
 induction d with
 | zero =>
  intro j hj
  refine Ev.step (f := fun k => (hucksterlaw05_awake.f k).bind fun t => some t) (fun k => ?_) (Ev.bind awake5_ev (Ev.now _))
  simp only [hucksterlaw05_EventAhead.l2]
  rw [if_neg (by omega), if_pos (by omega)]
 | succ d ih =>
  intro j hj
  have nx := ih (j + 1) (by omega)
  rw [← ck_w (by omega)] at nx
  refine Ev.step (f := fun k => hucksterlaw05_EventAhead.l3 k l o (j : Int) 0) (fun k => ?_) (ahead_l3 l o j (by omega) ho (hn j (by omega)) nx j 0 (Nat.zero_add j))
  simp only [hucksterlaw05_EventAhead.l2]
  rw [if_pos (by omega)]
theorem ahead_l1 (l : List S30) (hl : l.length < 2199023255552) (hp : ∀ i, (h : i < l.length) → l[i].f1.length ≤ 140737488355328) (i : Nat) (hi : i < l.length)
  (next : (∀ a, a ∈ l → aheadS a l[i] = true → withinS a.f1 l[i].f1 = true) → Ev (fun k => hucksterlaw05_EventAhead.l0 k l (wrap64 ((i : Int) + 1))) true) (d : Nat) :
  ∀ (j : Nat), j + d = l.length → (∀ q, (h : q < l.length) → q < j → aheadS l[q] l[i] = true → withinS l[q].f1 l[i].f1 = true) → Ev (fun k => hucksterlaw05_EventAhead.l1 k l (i : Int) (j : Int)) true := by
 induction d with
 | zero =>
  intro j hj hq
  refine Ev.step (f := fun k => hucksterlaw05_EventAhead.l0 k l (wrap64 ((i : Int) + 1))) (fun k => ?_) (next fun a ha hh => ?_)
  ·simp only [hucksterlaw05_EventAhead.l1]
   rw [if_neg (by omega)]
  ·obtain ⟨q, h, rfl⟩ := List.mem_iff_getElem.mp ha
   exact hq q h (by omega) hh
 | succ d ih =>
  intro j hj hq
  have hjl : j < l.length := by omega
  refine Ev.step (fun k => by simp only [hucksterlaw05_EventAhead.l1]; rfl) ?_
  refine ck_if (by omega) ?_
  refine ck_if (by omega) ?_
  refine ck_if (by omega) ?_
  refine ck_if (by omega) ?_
  rw [rd30_at hi, rd30_at hjl, ck_w (by omega)]
  refine Ev.bind (aheadRef_ev l[j] l[i] (hp i hi)) ?_
  cases ha : aheadS l[j] l[i] with
  | false =>
   refine ck_else (by decide) (ih (j + 1) (by omega) fun q h hqj hh => ?_)
   by_cases e : q = j
   ·subst e
    rw [ha] at hh
    cases hh
   ·exact hq q h (by omega) hh
  | true =>
   refine ck_if rfl ?_
   refine Ev.bind (within_ev l[j].f1 l[i].f1 (hp j hjl) (hp i hi)) ?_
   cases hw : withinS l[j].f1 l[i].f1 with
   | false => exact ck_else (by decide) (Ev.bind awake5_ev (Ev.now _))
   | true =>
    refine ck_if rfl (ih (j + 1) (by omega) fun q h hqj hh => ?_)
    by_cases e : q = j
    ·subst e
     exact hw
    ·exact hq q h (by omega) hh
theorem ahead_l0 (l : List S30) (hl : l.length < 2199023255552) (hp : ∀ i, (h : i < l.length) → l[i].f1.length ≤ 140737488355328 ∧ l[i].f2.length ≤ 140737488355328) (d : Nat) :
  ∀ (i : Nat), i + d = l.length → (∀ q, (h : q < l.length) → q < i → OkE l[q] ∧ ∀ a, a ∈ l → aheadS a l[q] = true → withinS a.f1 l[q].f1 = true) → Ev (fun k => hucksterlaw05_EventAhead.l0 k l (i : Int)) true := by
 induction d with
 | zero =>
  intro i hi hq
  refine Ev.step (fun k => by simp only [hucksterlaw05_EventAhead.l0]; rfl) ?_
  refine ck_else (by omega) ?_
  have hlen := ordL_length event_Order.lt l
  refine Ev.bind (ev_is (r := Srt.ordL event_Order.lt l) (by unfold event_Order.f; exact if_pos hl)) ?_
  refine ahead_l2 l _ hlen (by omega) (fun j hj i hij => order_law (fun b hb => ?_) hij hj) _ 0 (Nat.zero_add _)
  obtain ⟨q, h, rfl⟩ := List.mem_iff_getElem.mp hb
  exact hq q h (by omega)
 | succ d ih =>
  intro i hi hq
  have hil : i < l.length := by omega
  refine Ev.step (fun k => by simp only [hucksterlaw05_EventAhead.l0]; rfl) ?_
  refine ck_if (by omega) ?_
  refine ck_if (by omega) ?_
  rw [rd30_at hil]
  refine Ev.bind (refMay_ev _ _ _ _ (hp i hil).1 (hp i hil).2) ?_
  by_cases hk : OkEv l[i].f0.f0 l[i].f0.f1 l[i].f1 l[i].f2
  rotate_left
  ·rw [decide_eq_false hk]
   exact ck_else (by decide) (Ev.bind awake5_ev (Ev.now _))
  rw [decide_eq_true hk]
  refine ck_if rfl ?_
  refine ahead_l1 l hl (fun i h => (hp i h).1) i hil (fun hw => ?_) _ 0 (Nat.zero_add _) (fun q h h0 => by omega)
  rw [ck_w (by omega)]
  refine ih (i + 1) (by omega) fun q h hqi => ?_
  by_cases e : q = i
  ·subst e
   exact ⟨hk, hw⟩
  ·exact hq q h (by omega)
theorem EventAhead (l : List S30) (hl : l.length * 64 ≤ 140737488351232) (hp : ∀ x, x ∈ l → x.f1.length ≤ 140737488355328 ∧ x.f2.length ≤ 140737488355328) : ∃ k, hucksterlaw05_EventAhead.f k l = some true := by
 refine Ev.rounds (g := fun k => hucksterlaw05_EventAhead.f k l) ?_
 unfold hucksterlaw05_EventAhead.f
 obtain ⟨b, hb⟩ := light_ev l (by omega) (fun i hi => by rw [rd30_at hi]; exact (hp _ (List.getElem_mem hi)).2)
 refine Ev.bind hb ?_
 cases b with
 | false => exact ck_else (by decide) (Ev.bind awake5_ev (Ev.now _))
 | true => exact ck_if rfl (ahead_l0 l (by omega) (fun i h => hp _ (List.getElem_mem h)) _ 0 (Nat.zero_add _) (fun q h h0 => by omega))
end Go.Proofs.Ytgocnchjpecafaa.Pure
namespace Go.Proofs.Ytgocnchjpecafaa.Open
open Go.RowKit Go.ChangeShapes Go.WideShapes Go.Deep Go.Proofs.YtgocnchjpecafaaW.PrintWords
set_option linter.unusedVariables false
set_option linter.unusedSimpArgs false
section
variable {H : Type} {enc : TypeId × Value → H} {P : Program} {w : World} {t e : TypeId}
def Opens {α : Type} (enc : TypeId × Value → H) (P : Program) (w : World) (t : TypeId) (d : Kd α) (good : α → Prop) : Prop :=
 ∀ (fuel : Nat) (cs : List Value) (x : DataW H × List MemPlace), DataW.trod enc P w 0 (fun _ => true) true fuel t cs = some x → (∀ n ∈ x.1.weights P t, n ≤ reachBytes) → ∃ y : α, d.K w y cs ∧ good y
theorem weights_all {e : TypeId} : ∀ {ds : List (DataW H)} {d : DataW H}, d ∈ ds → ∀ n ∈ d.weights P e, n ∈ DataW.weightsAll P e ds
 | [], d, h, _, _ => by cases h
 | d0 :: ds, d, h, n, hn => by
  simp only [DataW.weightsAll, List.mem_append]
  rcases List.mem_cons.1 h with rfl | h
  ·exact .inl hn
  ·exact .inr (weights_all h n hn)
theorem opens_int {k : IntKind} (ht : P.underlying t = some (.int k)) : Opens enc P w t (Kd.int k) (fun n => (Lit.int k n).wf = true) := by
 intro fuel cs x h hz
 obtain ⟨n, rfl, _, hw⟩ := DataW.trod_int ht h
 exact ⟨n, rfl, hw⟩
theorem opens_bool (ht : P.underlying t = some .bool) : Opens enc P w t Kd.bool (fun _ => True) := by
 intro fuel cs x h hz
 obtain ⟨b, rfl, _⟩ := DataW.trod_bool ht h
 exact ⟨b, rfl, trivial⟩
theorem opens_string (ht : P.underlying t = some .string) : Opens enc P w t Kd.string (fun s => s.size ≤ maxLen) := by
 intro fuel cs x h hz
 obtain ⟨s, rfl, _, hs⟩ := DataW.trod_string ht h
 exact ⟨s, rfl, hs⟩
theorem opens_slice {α : Type} {d : Kd α} {q : Nat} {good : α → Prop} (ht : P.underlying t = some (.slice e)) (hs : P.cellsOf e = d.sz) {B : Nat} (hB : P.bytesOf e = B) (he : Opens enc P w e d good) : Opens enc P w t (Kd.slice q d) (fun xs => xs.length * B ≤ 140737488351232 ∧ ∀ y ∈ xs, good y) := by
 intro fuel cs x h hz
 rcases open_slice ht h with ⟨rfl, _⟩ | ⟨a, len, cap, m, n, D, Pl, rfl, _, hl, hm, hmm, hxx, hx⟩
 ·refine ⟨[], ⟨none, 0, rfl, Nat.le_refl _, rfl, by simp, fun h => ?_⟩, by simp, by simp⟩
  simp at h
 ·simp only [if_true] at hmm
  subst hxx
  simp only [DataW.weights, ht, List.mem_cons, List.mem_append, List.length_map, List.length_range] at hz
  have hz0 := hz _ (.inl rfl)
  rw [hB] at hz0
  have hzB : len * B ≤ 140737488351232 := Nat.le_trans (Nat.mul_le_mul_right _ (Nat.le_add_right _ _)) hz0
  have each : ∀ i, i < len → ∃ y : α, (∃ cs', w.cells? 0 (a.add (i * P.cellsOf e)) (P.cellsOf e) = some cs' ∧ d.K w y cs') ∧ good y := by
   intro i hi
   obtain ⟨cs', h1, h2⟩ := hx i (by omega)
   obtain ⟨y, k1, k2⟩ := he n cs' _ h2 (fun n hn => hz n (.inr (.inl (weights_all (List.mem_map.2 ⟨i, List.mem_range.2 hi, rfl⟩) n hn))))
   exact ⟨y, ⟨cs', h1, k1⟩, k2⟩
  have all : ∀ n, n ≤ len → ∃ ys : List α, ys.length = n ∧ ∀ i y, ys[i]? = some y → (∃ cs', w.cells? 0 (a.add (i * P.cellsOf e)) (P.cellsOf e) = some cs' ∧ d.K w y cs') ∧ good y := by
   intro n
   induction n with
   | zero => exact fun _ => ⟨[], rfl, fun i y h => by simp at h⟩
   | succ n ih =>
    intro hn
    obtain ⟨ys, h1, h2⟩ := ih (by omega)
    obtain ⟨y, hy⟩ := each n (by omega)
    refine ⟨ys ++ [y], by simp [h1], fun i z hz => ?_⟩
    by_cases hi : i < ys.length
    ·rw [List.getElem?_append_left hi] at hz
     exact h2 i z hz
    ·rw [List.getElem?_append_right (by omega)] at hz
     by_cases hi0 : i - ys.length = 0
     ·rw [hi0] at hz
      simp only [List.getElem?_cons_zero, Option.some.injEq] at hz
      subst hz
      rw [show i = n by omega]
      exact hy
     ·obtain ⟨j, hj⟩ : ∃ j, i - ys.length = j + 1 := ⟨i - ys.length - 1, by omega⟩
      rw [hj] at hz
      simp at hz
  obtain ⟨ys, h1, h2⟩ := all len (Nat.le_refl _)
  subst h1
  refine ⟨ys, ⟨some a, cap, rfl, hl, rfl, ?_, fun _ => ⟨a, rfl, fun j p hj => ?_⟩⟩, hzB, fun y hy => ?_⟩
  ·have : maxLen ≤ 9223372036854775807 := by decide
   omega
  ·obtain ⟨⟨cs', c1, c2⟩, _⟩ := h2 j p hj
   obtain ⟨_, l1, l2⟩ := World.cells?_some c1
   refine ⟨cs', by rw [l1, hs], c2, fun i u hu => ?_⟩
   have hi : i < P.cellsOf e := by
    rw [← l1]
    by_cases hi : i < cs'.length
    ·exact hi
    ·rw [List.getElem?_eq_none (by omega)] at hu
     cases hu
   rw [← Go.Deep.add_add, ← hs, l2 i hi, hu]
  ·obtain ⟨i, hi⟩ := List.mem_iff_getElem?.1 hy
   exact (h2 i y hi).2
theorem opens_row {α : Type} {d : Kd α} {q : Nat} {good : List α → Prop} {A : Option Addr} {len cap : Nat} {x : DataW H} {p : List MemPlace} (ho : Opens enc P w t (Kd.slice q d) good) (h : DataW.Trod enc P w 0 (fun _ => true) true t (.slice A len cap) x p) (hz : ∀ n ∈ x.weights P t, n ≤ reachBytes) : ∃ xs : List α, len = xs.length ∧ xs.length ≤ cap ∧ d.C w A xs.length xs ∧ good xs := by
 obtain ⟨fuel, hf⟩ := h
 obtain ⟨xs, ⟨A', c', e1, hl, hr⟩, hg⟩ := ho fuel _ _ hf hz
 have e2 : (Value.slice A len cap).cells.toList = [Value.slice A len cap] := rfl
 rw [e2] at e1
 simp only [List.cons.injEq, and_true, Value.slice.injEq] at e1
 obtain ⟨rfl, rfl, rfl⟩ := e1
 exact ⟨xs, rfl, hl, hr, hg⟩
def OpensAt {α : Type} (enc : TypeId × Value → H) (P : Program) (w : World) (fs : List Field) (o : Nat) (d : Kd α) (good : α → Prop) : Prop :=
 ∀ (n : Nat) (cs : List Value) (xs : List (DataW H × List MemPlace)), xs.length = fs.length → cs.length = d.sz →
  (∀ (j : Nat) (f : Field), fs[j]? = some f → o ≤ f.offset ∧ DataW.trod enc P w 0 (fun _ => true) true n f.type ((cs.drop (f.offset - o)).take (P.cellsOf f.type)) = xs[j]?) →
  (∀ m ∈ DataW.weightsEach P (fs.map (·.type)) (xs.map (·.1)), m ≤ reachBytes) → ∃ y : α, d.K w y cs ∧ good y
theorem opensAt_last {α : Type} {d : Kd α} {good : α → Prop} {f : Field} {o : Nat} (ho : f.offset = o) (hs : P.cellsOf f.type = d.sz) (he : Opens enc P w f.type d good) : OpensAt enc P w [f] o d good := by
 intro n cs xs hl hc h hz
 match xs, hl with
 | [x], _ =>
  have h0 := (h 0 f rfl).2
  rw [ho, Nat.sub_self, List.drop_zero, hs, ← hc, List.take_length] at h0
  refine he n cs x (by simpa using h0) (fun m hm => hz m ?_)
  simp only [List.map_cons, List.map_nil, DataW.weightsEach, List.mem_append]
  exact .inl hm
theorem opensAt_cons {α β : Type} {d : Kd α} {e' : Kd β} {good : α → Prop} {good' : β → Prop} {f : Field} {fs : List Field} {o o' : Nat} (ho : f.offset = o) (hs : P.cellsOf f.type = d.sz) (ho' : o' = o + d.sz) (hfs : ∀ g ∈ fs, o' ≤ g.offset) (he : Opens enc P w f.type d good) (hr : OpensAt enc P w fs o' e' good') :
  OpensAt enc P w (f :: fs) o (Kd.pair d e') (fun y => good y.1 ∧ good' y.2) := by
 intro n cs xs hl hc h hz
 subst ho'
 match xs, hl with
 | x :: xs, hl =>
  have hc : cs.length = d.sz + e'.sz := hc
  have h0 := (h 0 f rfl).2
  rw [ho, Nat.sub_self, List.drop_zero, hs] at h0
  simp only [List.map_cons, DataW.weightsEach, List.mem_append] at hz
  obtain ⟨y, hy, gy⟩ := he n (cs.take d.sz) x (by simpa using h0) (fun m hm => hz m (.inl hm))
  obtain ⟨z, hzz, gz⟩ := hr n (cs.drop d.sz) xs (by simpa using hl) (by rw [List.length_drop]; omega) (fun j g hj => by
   have hg := hfs g (List.mem_of_getElem? hj)
   refine ⟨hg, ?_⟩
   have h1 := (h (j + 1) g (by simpa using hj)).2
   rw [List.drop_drop, show d.sz + (g.offset - (o + d.sz)) = g.offset - o by omega]
   simpa using h1) (fun m hm => hz m (.inr hm))
  exact ⟨(y, z), ⟨cs.take d.sz, cs.drop d.sz, (List.take_append_drop _ _).symm, hy, hzz⟩, gy, gz⟩
theorem opens_struct {α : Type} {d : Kd α} {good : α → Prop} {fs : Array Field} (ht : P.underlying t = some (.struct fs)) (hs : P.cellsOf t = d.sz) (h : OpensAt enc P w fs.toList 0 d good) : Opens enc P w t d good := by
 intro fuel cs x hx hz
 obtain ⟨xs, n, _, rfl, hl, hlen, hf⟩ := DataW.trod_struct ht hx
 refine h n cs xs (by simpa using hlen) (by rw [hl, hs]) (fun j f hj => ⟨Nat.zero_le _, ?_⟩) (fun m hm => hz m ?_)
 ·have hj' : fs[j]? = some f := by simpa using hj
  exact hf j f hj'
 ·simp only [DataW.weights, ht]
  simpa using hm
theorem opens_iso {α β : Type} {d : Kd α} {good : α → Prop} {f : β → α} (g : α → β) (hg : ∀ x, f (g x) = x) (h : Opens enc P w t d good) : Opens enc P w t (Kd.iso d f) (fun y => good (f y)) := by
 intro fuel cs x hx hz
 obtain ⟨y, hy, gy⟩ := h fuel cs x hx hz
 refine ⟨g y, ?_, by show good (f (g y)); rw [hg]; exact gy⟩
 show d.K w (f (g y)) cs
 rw [hg]
 exact hy
theorem opens_agg {α : Type} {d : Kd α} {good : α → Prop} {fs : Array Field} {r : Reach} {b0 : Nat} {v : Value} {x : DataW H} {p : List MemPlace} (ht : P.underlying t = some (.struct fs)) (hv : Value.okWide P w r b0 t v) (ho : Opens enc P w t d good) (h : DataW.Trod enc P w 0 (fun _ => true) true t v x p) (hz : ∀ n ∈ x.weights P t, n ≤ reachBytes) : ∃ (cs : Array Value) (y : α), v = .agg cs ∧ d.K w y cs.toList ∧ good y := by
 obtain ⟨cs, rfl, hsz⟩ := okWide_struct ht hv
 obtain ⟨fuel, hf⟩ := h
 obtain ⟨y, hy, gy⟩ := ho fuel _ _ hf hz
 exact ⟨cs, y, rfl, hy, gy⟩
end
end Go.Proofs.Ytgocnchjpecafaa.Open
namespace Go.Proofs.Ytgocnchjpecafaa.Open
open Go.RowKit Go.ChangeShapes Go.WideShapes Go.Deep Go.Proofs.YtgocnchjpecafaaW.PrintWords Go.Proofs.Ytgocnchjpecafaa.PEv
set_option linter.unusedVariables false
theorem o48 {H : Type} {enc : TypeId × Value → H} {W : World} : Opens enc Try.prog W 48 k48 (fun _ => True) := fun fuel cs x h hz => by
 obtain ⟨y, hy, _⟩ := opens_iso (f := fun x : S48 => (x.f0, x.f1, x.f2, x.f3, x.f4, x.f5)) (fun y => ⟨y.1, y.2.1, y.2.2.1, y.2.2.2.1, y.2.2.2.2.1, y.2.2.2.2.2⟩) (fun x => rfl)
  (opens_struct (d := Kd.pair (Kd.int .i64) (Kd.pair (Kd.int .i64) (Kd.pair Kd.string (Kd.pair (Kd.int .i64) (Kd.pair (Kd.int .i64) Kd.string))))) Try.underlying48 (by kernel_rfl)
   (opensAt_cons (by decide) (by kernel_rfl) (by rfl) (by decide) (opens_int Try.underlying3) (opensAt_cons (by decide) (by kernel_rfl) (by rfl) (by decide) (opens_int Try.underlying3) (opensAt_cons (by decide) (by kernel_rfl) (by rfl) (by decide) (opens_string Try.underlying9) (opensAt_cons (by decide) (by kernel_rfl) (by rfl) (by decide) (opens_int Try.underlying3) (opensAt_cons (by decide) (by kernel_rfl) (by rfl) (by decide) (opens_int Try.underlying3) (opensAt_last (by decide) (by kernel_rfl) (opens_string Try.underlying9)))))))) fuel cs x h hz
 exact ⟨y, hy, trivial⟩
theorem o25 {H : Type} {enc : TypeId × Value → H} {W : World} : Opens enc Try.prog W 25 k25 (fun _ => True) := fun fuel cs x h hz => by
 obtain ⟨y, hy, _⟩ := opens_iso (f := fun x : S25 => (x.f0, x.f1)) (fun y => ⟨y.1, y.2⟩) (fun x => rfl)
  (opens_struct (d := Kd.pair (Kd.int .i64) (Kd.int .i64)) Try.underlying25 (by kernel_rfl)
   (opensAt_cons (by decide) (by kernel_rfl) (by rfl) (by decide) (opens_int Try.underlying3) (opensAt_last (by decide) (by kernel_rfl) (opens_int Try.underlying3)))) fuel cs x h hz
 exact ⟨y, hy, trivial⟩
theorem o30 {H : Type} {enc : TypeId × Value → H} {W : World} : Opens enc Try.prog W 30 k30 (fun x => x.f1.length ≤ 140737488355328 ∧ x.f2.length ≤ 140737488355328) := fun fuel cs x h hz => by
 obtain ⟨y, hy, hg⟩ := opens_iso (f := fun x : S30 => (x.f0, x.f1, x.f2)) (fun y => ⟨y.1, y.2.1, y.2.2⟩) (fun x => rfl)
  (opens_struct (d := Kd.pair k25 (Kd.pair (Kd.slice 3 (Kd.int .i64)) (Kd.slice 48 k48))) Try.underlying30 (by kernel_rfl)
   (opensAt_cons (by decide) (by kernel_rfl) (by rfl) (by decide) o25 (opensAt_cons (by decide) (by kernel_rfl) (by rfl) (by decide) (opens_slice (d := Kd.int .i64) (q := 3) Try.underlying27 (by kernel_rfl) (B := 8) (by kernel_rfl) (opens_int Try.underlying3)) (opensAt_last (by decide) (by kernel_rfl) (opens_slice (d := k48) (q := 48) Try.underlying28 (by kernel_rfl) (B := 64) (by kernel_rfl) o48))))) fuel cs x h hz
 refine ⟨y, hy, ?_, ?_⟩
 ·have h_ : y.f1.length * 8 ≤ 140737488351232 := hg.2.1.1
  omega
 ·have h_ : y.f2.length * 64 ≤ 140737488351232 := hg.2.2.1
  omega
theorem heap48 : Kd.Heap k48 := Kd.heap_iso _ (Kd.heap_pair (Kd.heap_int _) (Kd.heap_pair (Kd.heap_int _) (Kd.heap_pair Kd.heap_string (Kd.heap_pair (Kd.heap_int _) (Kd.heap_pair (Kd.heap_int _) Kd.heap_string)))))
end Go.Proofs.Ytgocnchjpecafaa.Open
namespace Go.Proofs.Ytgocnchjpecafaa.eventAhead
open Go.ChangeShapes Go.WideShapes Go.ChangeAt Go.RowKit Go.Proofs.YtgocnchjpecafaaW.PrintWords Go.Proofs.Ytgocnchjpecafaa.Open Go.Proofs.Ytgocnchjpecafaa.PEv
set_option linter.unusedVariables false
theorem own : ownKnob Try.prog.godebug = none := by kernel_rfl
theorem laidOut : laidOutB Try.prog = true := by kernel_rfl
set_option maxRecDepth 100000 in
theorem lifted (os : Os) (started : os.Started) (H : Type) (enc : TypeId × Value → H) :
  ReturnsInHanded {} Try.checked os 4 .any (Rows.eventAheadSpec.pre6 enc Try.prog Try.f4 Rows.eventAheadRow.domain false) (Rows.eventAheadSpec.post enc Try.prog Try.f4 false true false false) := by
 refine returnsInHanded_of_change_sized (C := Try.checked) own started (by kernel_rfl) Try.func4
  (ChangeSpec.witness6 (enc := enc) (C := Try.checked) false ⟨#[], #[.slice none 0 0], []⟩ 8 (by kernel_rfl) (by kernel_rfl) (by kernel_rfl) (by kernel_rfl)) ?_
 intro W base args ds gs before hval0 hW hcnd hsz0 _
 have hval : ∀ (j : Nat) t v, Try.f4.params[j]? = some t → args[j]? = some v → Value.okWide Try.prog W .any base t v := hval0
 have hW' := hW
 obtain ⟨p, q, hA0, hV, rfl, hfz, hnd⟩ := hW
 have hA : DataW.TrodAll enc Try.prog W 0 (fun _ => true) true Try.f4.params.toList args.toList ds p := hA0
 have hsz : (DataW.weightsEach Try.prog (Try.f4.params.toList ++ Rows.eventAheadSpec.plain.varTypes Try.prog) (ds ++ gs)).all (· ≤ reachBytes) = true := hsz0
 rw [Try.params4] at hA hval hsz
 obtain ⟨v0, vs0, d0, ds0, p0, q0, hargs, rfl, rfl, h0, r0⟩ := trodAll_cons hA
 obtain ⟨rfl, rfl, rfl⟩ := trodAll_nil r0
 obtain rfl : args = #[v0] := by cases args; simp_all
 obtain ⟨rfl, rfl⟩ := trodVars_none hV
 obtain ⟨A0, len0, c0, rfl⟩ := okWide_slice Try.underlying38 (hval 0 38 v0 rfl rfl)
 have k0 := h0
 have lt0 : ∀ x ∈ p0, x.block < W.heap.size := by obtain ⟨m, hm⟩ := k0; exact DataW.trod_lt m _ _ _ hm
 obtain ⟨l0, rfl, hl0, hr0, hg0⟩ := opens_row (opens_slice (d := k30) (q := 0) Try.underlying38 (by kernel_rfl) (B := 64) (by kernel_rfl) o30) h0 (fun n hn => by simpa using List.all_eq_true.1 hsz _ (DataW.weights_mem_each (j := 0) (t := 38) rfl rfl n hn))
 clear hA0 hval0 hsz0 hsz
 obtain ⟨k, hk⟩ := Pure.EventAhead l0 hg0.1 hg0.2
 refine (PEv.hucksterlaw05_EventAhead.calls k A0 c0 l0 true W hr0 hl0 hk).mono fun e W' ⟨he, bel⟩ => ?_
 subst he
 exact ⟨_, rfl, _, _, _, [], _, [], hW', trodAll_mk1 (shut_bool Try.underlying4 _), (trodAll_cons_mk (Below.trod laidOut (by kernel_rfl) (of_decide_eq_true (by kernel_rfl)) k0 bel lt0) trodAll_mk0), rfl, bel.frame _, fun h => by cases h⟩
theorem over : Rows.eventAheadRow.holds Try.pinned (OpenSpec.ofChange Rows.eventAheadSpec) :=
 OpenClaim.holds_of_wide 4 Try.f4 rfl rfl rfl rfl rfl rfl rfl ⟨rfl, rfl, rfl, rfl, rfl⟩ rfl rfl rfl rfl rfl (by kernel_rfl) Try.func4 (by kernel_rfl)
  (of_decide_eq_true (by kernel_rfl)) (by unfold Func.isWrapper; first | (rw [if_pos (by decide +kernel)]; kernel_rfl) | (rw [if_neg (by decide +kernel)]; exact ⟨rfl, rfl⟩))
  (fun os started H enc _ => lifted os started H enc)
theorem proved : Rows.EventAheadSaid := over
end Go.Proofs.Ytgocnchjpecafaa.eventAhead
namespace Go.Proofs.Ytgocnchjpecafaa
theorem eventAhead_holds : Rows.EventAheadSaid := eventAhead.proved
end Go.Proofs.Ytgocnchjpecafaa

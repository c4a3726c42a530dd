/- EventPuts: for every input the law returns true. -/
import Derived.Test.YtgocnchjpecafaaEvPureP
import Derived.Test.YtgocnchjpecafaaPEpx13
import Derived.Test.YtgocnchjpecafaaPEpx14
import Derived.Test.YtgocnchjpecafaaPEpx3
import Derived.Test.YtgocnchjpecafaaPEpx16
import Derived.Test.YtgocnchjpecafaaPEpx8
import Derived.Test.YtgocnchjpecafaaPEpx9
import Derived.Test.YtgocnchjpecafaaPEpx18
import Derived.Test.YtgocnchjpecafaaWWords
import Derived.Deep.Slices
import Derived.WideShapes
import Derived.SizedLaws
import Derived.Test.YtgocnchjpecafaaRows
import Derived.WalkKit
import Derived.ProofKit
import Derived.OpenShut
import Derived.ShutString
import Derived.ChangeOld
import Derived.Below
namespace Go.Proofs.Ytgocnchjpecafaa.PEp
open Go.RowKit Go.Proofs.YtgocnchjpecafaaW.PrintWords Go.Proofs.YtgocnchjpecafaaW.PrintLast Go.Proofs.Ytgocnchjpecafaa.ClockBase Go.Proofs.Ytgocnchjpecafaa.Wr
set_option linter.unusedVariables false
set_option linter.unusedSimpArgs false
theorem nums_loop (l : List Int) (hl : l.length ≤ 1000) (hs : ∀ n ∈ l, 0 ≤ n ∧ n ≤ 1048576) (d : Nat) : ∀ (i : Nat), i + d = l.length → Ev (fun k => event_nums.l0 k ((numsB l).take i) l (l.length : Int) (i : Int)) (numsB l) := by
 have hn : (numsB l).length = l.length := by unfold numsB; rw [List.length_map]
 induction d with
 | zero =>
  intro i hi
  obtain rfl : i = l.length := by omega
  have e : (numsB l).take l.length = numsB l := by rw [← hn, List.take_length]
  rw [e]
  refine Ev.step (f := fun k => some (numsB l)) (fun k => ?_) (Ev.now _)
  simp only [event_nums.l0]
  rw [if_neg (by omega)]
 | succ d ih =>
  intro i hi
  have hlt : i < l.length := by omega
  have hg := hs _ (List.getElem_mem hlt)
  have hlen : ((numsB l).take i).length < 5864062014805 := by rw [List.length_take]; omega
  have ht : (numsB l).take (i + 1) = (numsB l).take i ++ [num (l[i]).toNat] := by
   rw [List.take_add_one, List.getElem?_eq_getElem (by omega)]
   simp [numsB]
  refine Ev.step (f := fun k => (wire_Num.f k (((l[i]).toNat : Nat) : Int)).bind fun t => event_nums.l0 k ((numsB l).take i ++ [t]) l (l.length : Int) ((i + 1 : Nat) : Int)) (fun k => ?_) ?_
  ·simp only [event_nums.l0]
   rw [if_pos (by omega), if_pos (by omega), if_pos (by omega), ck_rd hlt, small_u64 hg.1 hg.2, ck_w (by omega)]
   simp only [if_pos hlen]
  ·refine Ev.bind (num_ev _ (by omega)) ?_
   rw [← ht]
   exact ih (i + 1) (by omega)
theorem nums_ev (l : List Int) (hl : l.length ≤ 1000) (hs : ∀ n ∈ l, 0 ≤ n ∧ n ≤ 1048576) : Ev (fun k => event_nums.f k l) (numsB l) := by
 have := nums_loop l hl hs l.length 0 (by omega)
 rw [List.take_zero] at this
 exact this
theorem evPut_loop (es : List S48) (hes : es.length ≤ 16) (hk : ∀ x ∈ es, OkEff x) (p q : List Int) (hp : p.length ≤ 447) (hq : q.length ≤ 447) (d : Nat) : ∀ (i : Nat), i + d = es.length → Ev (fun k => event_Put.l0 k es ([p, q] ++ (es.map effB).take i) (i : Int)) (pack ([p, q] ++ es.map effB)) := by
 have hn : (es.map effB).length = es.length := by rw [List.length_map]
 induction d with
 | zero =>
  intro i hi
  obtain rfl : i = es.length := by omega
  have e : (es.map effB).take es.length = es.map effB := by rw [← hn, List.take_length]
  rw [e]
  refine Ev.step (f := fun k => wire_Pack.f k ([p, q] ++ es.map effB)) (fun k => ?_) ?_
  ·simp only [event_Put.l0]
   rw [if_neg (by omega)]
  ·refine pack_ev _ (by rw [List.length_append, hn]; simp only [List.length_cons, List.length_nil]; omega) (fun t ht => ?_)
   rcases List.mem_append.mp ht with ht | ht
   ·simp only [List.mem_cons, List.not_mem_nil, or_false] at ht
    rcases ht with rfl | rfl <;> omega
   ·obtain ⟨x, hx, rfl⟩ := List.mem_map.mp ht
    have := effB_le (hk x hx)
    omega
 | succ d ih =>
  intro i hi
  have hlt : i < es.length := by omega
  have hx := hk _ (List.getElem_mem hlt)
  have hw := eff_word hx
  have hlen : ([p, q] ++ (es.map effB).take i).length < 5864062014805 := by rw [List.length_append, List.length_take]; simp only [List.length_cons, List.length_nil]; omega
  have ht : [p, q] ++ (es.map effB).take (i + 1) = ([p, q] ++ (es.map effB).take i) ++ [effB es[i]] := by
   rw [List.take_add_one, List.getElem?_eq_getElem (by omega)]
   simp
  refine Ev.step (f := fun k => (event_nums.f k [(es[i]).f0, (es[i]).f1, (es[i]).f3, (es[i]).f4]).bind fun t => if t.length + 2 < 5864062014805 ∧ (es[i]).f2.size ≤ 9223372036854775807 ∧ (es[i]).f5.size ≤ 9223372036854775807 then ((wire_Pack.f k (t ++ [bytesOf (es[i]).f2, bytesOf (es[i]).f5])).bind fun r => event_Put.l0 k es (([p, q] ++ (es.map effB).take i) ++ [r]) ((i + 1 : Nat) : Int)) else none) (fun k => ?_) ?_
  ·simp only [event_Put.l0]
   rw [if_pos (by omega), if_pos (by omega), rdT_at hlt, ck_w (by omega)]
   simp only [if_pos hlen]
  ·refine Ev.bind (nums_ev _ (by simp) (eff_nums hx)) ?_
   refine ck_if ⟨by simp [numsB], by omega, by omega⟩ ?_
   refine Ev.bind (pack_ev _ (by simp [numsB]) (fun t ht => by have := eff_texts hx t ht; omega)) ?_
   have := ih (i + 1) (by omega)
   rw [ht] at this
   exact this
theorem evPut_ev (a b : Int) (past : List Int) (es : List S48) : Ev (fun k => event_Put.f k a b past es) (if OkEv a b past es then (evB a b past es, 0) else ([], 1)) := by
 unfold event_Put.f
 refine Ev.bind (evCheck_ev a b past es) ?_
 by_cases hk : OkEv a b past es
 rotate_left
 ·rw [if_neg hk, if_neg hk]
  exact ck_else (by decide) (Ev.now _)
 rw [if_pos hk, if_pos hk]
 refine ck_if rfl ?_
 obtain ⟨h1, h2, h3, h4, h5, h6, h7, h8, h9, h0⟩ := hk
 refine Ev.bind (nums_ev [a, b] (by simp) (dot_nums h1 h2 h3 h4)) ?_
 refine Ev.bind (pack_ev _ (by simp [numsB]) (fun t ht => by have := dot_texts h1 h2 h3 h4 t ht; omega)) ?_
 refine Ev.bind (put_ev past) ?_
 have := evPut_loop es h9 h0 (pack (numsB [a, b])) (putB past) (by have := dotB_le h1 h2 h3 h4; omega) (by have := putB_len past; omega) es.length 0 (by omega)
 rw [List.take_zero, List.append_nil] at this
 exact Ev.bind this (Ev.now _)
end Go.Proofs.Ytgocnchjpecafaa.PEp
namespace Go.Proofs.Ytgocnchjpecafaa.PEp
open Go.RowKit Go.Proofs.YtgocnchjpecafaaW.PrintWords Go.Proofs.YtgocnchjpecafaaW.PrintLast Go.Proofs.Ytgocnchjpecafaa.ClockBase Go.Proofs.Ytgocnchjpecafaa.Wr
set_option linter.unusedVariables false
set_option linter.unusedSimpArgs false
theorem evB_bytes {a b : Int} {past : List Int} {es : List S48} (h : OkEv a b past es) : Wr.Bytes (evB a b past es) := by
 refine pack_bytes _ ?_ (fun t ht => by have := ev_texts h t ht; exact ⟨this.2, by omega⟩)
 have := h.2.2.2.2.2.2.2.2.1
 simp only [List.length_append, List.length_cons, List.length_nil, List.length_map]
 omega
def effNe (x y : S48) : Bool := (!((x.f0) == (y.f0)) || (!((x.f1) == (y.f1)) || (!((x.f2.toList) == (y.f2.toList)) || (!((x.f3) == (y.f3)) || (!((x.f4) == (y.f4)) || (!((x.f5.toList) == (y.f5.toList))))))))
theorem effNe_self (x : S48) : effNe x x = false := by simp [effNe]
def esSame (l m : List S48) (i d : Nat) : Bool := (List.range' i d).all fun j => !effNe (rd_T48 l (j : Int)) (rd_T48 m (j : Int))
theorem esSame_succ (l m : List S48) (i d : Nat) : esSame l m i (d + 1) = (!effNe (rd_T48 l (i : Int)) (rd_T48 m (i : Int)) && esSame l m (i + 1) d) := by
 unfold esSame
 rw [List.range'_succ, List.all_cons]
theorem esSame_self (l : List S48) (i d : Nat) : esSame l l i d = true := by
 unfold esSame
 exact List.all_eq_true.mpr fun j _ => by rw [effNe_self]; rfl
def evS (a b : Int) (p : List Int) (es : List S48) (a' b' : Int) (p' : List Int) (es' : List S48) : Bool :=
 decide (a = a' ∧ b = b') && (decide (p = p') && (decide (es.length = es'.length) && esSame es es' 0 es.length))
theorem evS_self (a b : Int) (p : List Int) (es : List S48) : evS a b p es a b p es = true := by
 unfold evS
 rw [esSame_self]
 simp
theorem refSame_loop (a b : Int) (p : List Int) (es : List S48) (a' b' : Int) (p' : List Int) (es' : List S48) (hl : es.length = es'.length) (hn : es.length ≤ 140737488355328) (d : Nat) : ∀ (i : Nat), i + d = es.length → Ev (fun k => hucksterref05_Same.l0 k (i : Int) a b p es a' b' p' es') (esSame es es' i d) := by
 induction d with
 | zero =>
  intro i hi
  refine Ev.step (f := fun _ => some true) (fun k => ?_) (Ev.now _)
  simp only [hucksterref05_Same.l0]
  rw [if_neg (by omega)]
 | succ d ih =>
  intro i hi
  rw [esSame_succ]
  cases hc : effNe (rd_T48 es (i : Int)) (rd_T48 es' (i : Int)) with
  | true =>
   refine Ev.step (f := fun _ => some false) (fun k => ?_) (Ev.now _)
   simp only [hucksterref05_Same.l0]
   rw [if_pos (by omega), if_pos (by omega), if_pos (by omega)]
   exact if_pos hc
  | false =>
   refine Ev.step (f := fun k => hucksterref05_Same.l0 k ((i + 1 : Nat) : Int) a b p es a' b' p' es') (fun k => ?_) (ih (i + 1) (by omega))
   simp only [hucksterref05_Same.l0]
   rw [if_pos (by omega), if_pos (by omega), if_pos (by omega), ck_w (by omega)]
   exact if_neg (fun h => absurd ((show effNe (rd_T48 es (i : Int)) (rd_T48 es' (i : Int)) = true from h).symm.trans hc) (by decide))
theorem refSameAll_ev (a b : Int) (p : List Int) (es : List S48) (a' b' : Int) (p' : List Int) (es' : List S48) (hp : p.length ≤ 140737488355328) (hn : es.length ≤ 140737488355328) : Ev (fun k => hucksterref05_Same.f k a b p es a' b' p' es') (evS a b p es a' b' p' es') := by
 have no : Ev (fun k => hucksterref05_Same.j0 k true a b p es a' b' p' es') false := Ev.step (f := fun _ => some false) (fun k => rfl) (Ev.now _)
 unfold hucksterref05_Same.f evS
 by_cases h1 : a = a' ∧ b = b'
 rotate_left
 ·rw [decide_eq_false h1, Bool.false_and]
  refine ck_if ?_ no
  by_cases ha : a = a'
  ·have hb : ¬ b = b' := fun hb => h1 ⟨ha, hb⟩
   simp [hb]
  ·simp [ha]
 obtain ⟨rfl, rfl⟩ := h1
 rw [decide_eq_true ⟨rfl, rfl⟩, Bool.true_and]
 refine ck_else (by simp) ?_
 refine Ev.bind (same_ev p p' hp) ?_
 by_cases h2 : p = p'
 rotate_left
 ·rw [decide_eq_false h2, Bool.false_and]
  exact ck_else (by decide) no
 subst h2
 rw [decide_eq_true rfl, Bool.true_and]
 refine ck_if rfl ?_
 by_cases h3 : es.length = es'.length
 rotate_left
 ·rw [decide_eq_false h3, Bool.false_and]
  have e : ((es.length : Int) != (es'.length : Int)) = true := by simp; omega
  rw [e]
  exact no
 rw [decide_eq_true h3, Bool.true_and]
 have e : ((es.length : Int) != (es'.length : Int)) = false := by simp; omega
 rw [e]
 exact Ev.step (f := fun k => hucksterref05_Same.l0 k 0 a b p es a b p es') (fun k => rfl) (refSame_loop a b p es a b p es' h3 hn es.length 0 (by omega))
theorem eqC_loop (a b : List Int) (hab : a.length = b.length) (hn : a.length ≤ 140737488355328) (d : Nat) : ∀ (i : Nat), i + d = a.length → Ev (fun k => api_Clock_int_69.l0 k a b (a.length : Int) (i : Int)) (decide (a.drop i = b.drop i)) := by
 induction d with
 | zero =>
  intro i hi
  refine Ev.step (f := fun _ => some (decide (a.drop i = b.drop i))) (fun k => ?_) (Ev.now _)
  simp only [api_Clock_int_69.l0]
  rw [if_neg (by omega), List.drop_eq_nil_of_le (by omega), List.drop_eq_nil_of_le (by omega)]
  rfl
 | succ d ih =>
  intro i hi
  have h1 : i < a.length := by omega
  have h2 : i < b.length := by omega
  rw [List.drop_eq_getElem_cons h1, List.drop_eq_getElem_cons h2, ck_cons]
  by_cases h : a[i] = b[i]
  ·rw [decide_eq_true h, Bool.true_and]
   refine Ev.step (f := fun k => api_Clock_int_69.l0 k a b (a.length : Int) ((i + 1 : Nat) : Int)) (fun k => ?_) (ih (i + 1) (by omega))
   simp only [api_Clock_int_69.l0]
   rw [if_pos (by omega), if_pos (by omega), if_pos (by omega), if_pos (by omega), ck_rd h1, ck_rd h2, if_pos h, ck_w (by omega)]
  ·rw [decide_eq_false h, Bool.false_and]
   refine Ev.step (f := fun _ => some false) (fun k => ?_) (Ev.now _)
   simp only [api_Clock_int_69.l0]
   rw [if_pos (by omega), if_pos (by omega), if_pos (by omega), if_pos (by omega), ck_rd h1, ck_rd h2, if_neg h]
theorem eqC_ev (a b : List Int) (hn : a.length ≤ 140737488355328) : Ev (fun k => api_Clock_int_69.f k a b) (decide (a = b)) := by
 unfold api_Clock_int_69.f
 by_cases h : a.length = b.length
 ·refine ck_if (by omega) ?_
  exact eqC_loop a b h hn a.length 0 (by omega)
 ·refine ck_else (by omega) ?_
  rw [decide_eq_false (fun e => h (by rw [e]))]
  exact Ev.now _
theorem eqE_loop (l m : List S48) (hl : l.length = m.length) (hn : l.length ≤ 140737488355328) (d : Nat) : ∀ (i : Nat), i + d = l.length → Ev (fun k => api_Effect_70.l0 k l m (l.length : Int) (i : Int)) (esSame l m i d) := by
 induction d with
 | zero =>
  intro i hi
  refine Ev.step (f := fun _ => some true) (fun k => ?_) (Ev.now _)
  simp only [api_Effect_70.l0]
  rw [if_neg (by omega)]
 | succ d ih =>
  intro i hi
  rw [esSame_succ]
  cases hc : effNe (rd_T48 l (i : Int)) (rd_T48 m (i : Int)) with
  | true =>
   refine Ev.step (f := fun _ => some false) (fun k => ?_) (Ev.now _)
   simp only [api_Effect_70.l0]
   rw [if_pos (by omega), if_pos (by omega), if_pos (by omega), if_pos (by omega)]
   exact if_pos hc
  | false =>
   refine Ev.step (f := fun k => api_Effect_70.l0 k l m (l.length : Int) ((i + 1 : Nat) : Int)) (fun k => ?_) (ih (i + 1) (by omega))
   simp only [api_Effect_70.l0]
   rw [if_pos (by omega), if_pos (by omega), if_pos (by omega), if_pos (by omega), ck_w (by omega)]
   exact if_neg (fun h => absurd ((show effNe (rd_T48 l (i : Int)) (rd_T48 m (i : Int)) = true from h).symm.trans hc) (by decide))
theorem eqE_ev (l m : List S48) (hn : l.length ≤ 140737488355328) : Ev (fun k => api_Effect_70.f k l m) (decide (l.length = m.length) && esSame l m 0 l.length) := by
 unfold api_Effect_70.f
 by_cases h : l.length = m.length
 ·refine ck_if (by omega) ?_
  rw [decide_eq_true h, Bool.true_and]
  exact eqE_loop l m h hn l.length 0 (by omega)
 ·refine ck_else (by omega) ?_
  rw [decide_eq_false h]
  exact Ev.now _
theorem evSameAll_ev (a b : Int) (p : List Int) (es : List S48) (a' b' : Int) (p' : List Int) (es' : List S48) (hp : p.length ≤ 140737488355328) (hn : es.length ≤ 140737488355328) : Ev (fun k => event_Same.f k a b p es a' b' p' es') (evS a b p es a' b' p' es') := by
 unfold event_Same.f evS
 by_cases h1 : a = a' ∧ b = b'
 rotate_left
 ·rw [decide_eq_false h1, Bool.false_and]
  refine ck_else ?_ (Ev.now _)
  intro h
  simp at h
  exact h1 h
 obtain ⟨rfl, rfl⟩ := h1
 rw [decide_eq_true ⟨rfl, rfl⟩, Bool.true_and]
 refine ck_if (by simp) ?_
 refine Ev.bind (eqC_ev p p' hp) ?_
 by_cases h2 : p = p'
 rotate_left
 ·rw [decide_eq_false h2, Bool.false_and]
  exact ck_else (by decide) (Ev.now _)
 subst h2
 rw [decide_eq_true rfl, Bool.true_and]
 refine ck_if rfl ?_
 exact Ev.bind (eqE_ev es es' hn) (Ev.now _)
theorem light1_ev (l : List S30) (i : Nat) (hi : i < l.length) (hn : ((rd_T30 l (i : Int)).f2).length ≤ 140737488355328) (next : ∃ b, Ev (fun k => hucksterlaw05_Light.l0 k l (wrap64 ((i : Int) + 1))) b) (d : Nat) : ∀ (j : Nat), j + d = ((rd_T30 l (i : Int)).f2).length → ∃ b, Ev (fun k => hucksterlaw05_Light.l1 k l (i : Int) (j : Int)) b := by
 induction d with
 | zero =>
  intro j hj
  obtain ⟨b, hb⟩ := next
  refine ⟨b, Ev.step (f := fun k => hucksterlaw05_Light.l0 k l (wrap64 ((i : Int) + 1))) (fun k => ?_) hb⟩
  simp only [hucksterlaw05_Light.l1]
  rw [if_pos (by omega), if_pos (by omega), if_neg (by omega)]
 | succ d ih =>
  intro j hj
  obtain ⟨b, hb⟩ := ih (j + 1) (by omega)
  by_cases h1 : (((rd_T48 ((rd_T30 l (i : Int)).f2) (j : Int)).f2).size : Int) > 100
  ·refine ⟨false, Ev.step (f := fun _ => some false) (fun k => ?_) (Ev.now _)⟩
   simp only [hucksterlaw05_Light.l1]
   rw [if_pos (by omega), if_pos (by omega), if_pos (by omega), if_pos (by omega), if_pos h1]
  by_cases h2 : (((rd_T48 ((rd_T30 l (i : Int)).f2) (j : Int)).f5).size : Int) > 100
  ·refine ⟨false, Ev.step (f := fun _ => some false) (fun k => ?_) (Ev.now _)⟩
   simp only [hucksterlaw05_Light.l1]
   rw [if_pos (by omega), if_pos (by omega), if_pos (by omega), if_pos (by omega), if_neg h1, if_pos h2]
  ·refine ⟨b, Ev.step (f := fun k => hucksterlaw05_Light.l1 k l (i : Int) ((j + 1 : Nat) : Int)) (fun k => ?_) hb⟩
   simp only [hucksterlaw05_Light.l1]
   rw [if_pos (by omega), if_pos (by omega), if_pos (by omega), if_pos (by omega), if_neg h1, if_neg h2, ck_w (by omega)]
theorem light0_ev (l : List S30) (hl : l.length ≤ 140737488355328) (hn : ∀ i : Nat, i < l.length → ((rd_T30 l (i : Int)).f2).length ≤ 140737488355328) (d : Nat) : ∀ (i : Nat), i + d = l.length → ∃ b, Ev (fun k => hucksterlaw05_Light.l0 k l (i : Int)) b := by
 induction d with
 | zero =>
  intro i hi
  refine ⟨decide ((l.length : Int) ≤ 40), Ev.step (f := fun k => hucksterlaw05_Light.j1 k l (i : Int) false) (fun k => ?_) (Ev.step (f := fun _ => some (decide ((l.length : Int) ≤ 40))) (fun k => rfl) (Ev.now _))⟩
  simp only [hucksterlaw05_Light.l0]
  rw [if_neg (by omega)]
 | succ d ih =>
  intro i hi
  have h0 : ∀ k, hucksterlaw05_Light.l0 (k + 1) l (i : Int) = hucksterlaw05_Light.j1 k l (i : Int) (decide ((i : Int) ≤ 40)) := fun k => by
   simp only [hucksterlaw05_Light.l0]
   rw [if_pos (by omega)]
  by_cases h40 : (i : Int) ≤ 40
  rotate_left
  ·refine ⟨decide ((l.length : Int) ≤ 40), Ev.step h0 ?_⟩
   rw [decide_eq_false h40]
   exact Ev.step (f := fun _ => some (decide ((l.length : Int) ≤ 40))) (fun k => rfl) (Ev.now _)
  have nx := ih (i + 1) (by omega)
  rw [← ck_w (by omega)] at nx
  obtain ⟨b, hb⟩ := light1_ev l i (by omega) (hn i (by omega)) nx _ 0 (Nat.zero_add _)
  have h2 : ∀ c : Bool, ∃ b, Ev (fun k => hucksterlaw05_Light.j2 k l (i : Int) c) b := fun c => by
   cases c with
   | true => exact ⟨false, Ev.step (f := fun _ => some false) (fun k => rfl) (Ev.now _)⟩
   | false => exact ⟨b, Ev.step (f := fun k => hucksterlaw05_Light.l1 k l (i : Int) 0) (fun k => rfl) hb⟩
  have h1 : ∃ b, Ev (fun k => hucksterlaw05_Light.j1 k l (i : Int) true) b := by
   by_cases h20 : (((rd_T30 l (i : Int)).f1).length : Int) > 20
   ·obtain ⟨b, hb⟩ := h2 true
    refine ⟨b, Ev.step (f := fun k => hucksterlaw05_Light.j2 k l (i : Int) true) (fun k => ?_) hb⟩
    simp only [hucksterlaw05_Light.j1]
    rw [if_pos trivial, if_pos (by omega), if_pos (by omega), if_pos h20]
   ·obtain ⟨b, hb⟩ := h2 (decide ((((rd_T30 l (i : Int)).f2).length : Int) > 30))
    refine ⟨b, Ev.step (f := fun k => hucksterlaw05_Light.j2 k l (i : Int) (decide ((((rd_T30 l (i : Int)).f2).length : Int) > 30))) (fun k => ?_) hb⟩
    simp only [hucksterlaw05_Light.j1]
    rw [if_pos trivial, if_pos (by omega), if_pos (by omega), if_neg h20]
  obtain ⟨b, hb⟩ := h1
  refine ⟨b, Ev.step h0 ?_⟩
  rw [decide_eq_true h40]
  exact hb
theorem light_ev (l : List S30) (hl : l.length ≤ 140737488355328) (hn : ∀ i : Nat, i < l.length → ((rd_T30 l (i : Int)).f2).length ≤ 140737488355328) : ∃ b, Ev (fun k => hucksterlaw05_Light.f k l) b := light0_ev l hl hn l.length 0 (by omega)
end Go.Proofs.Ytgocnchjpecafaa.PEp
namespace Go.Proofs.Ytgocnchjpecafaa.Pure
open Go.RowKit Go.Proofs.Ytgocnchjpecafaa.PEp Go.Proofs.YtgocnchjpecafaaW.PrintWords Go.Proofs.YtgocnchjpecafaaW.PrintLast Go.Proofs.Ytgocnchjpecafaa.ClockBase Go.Proofs.Ytgocnchjpecafaa.Wr
theorem puts_j (b : List Int) (x : Int) (a b' : Int) (p : List Int) (es : List S48) (hp : p.length ≤ 140737488355328) (hn : es.length ≤ 140737488355328) (hr : (b, x) = if OkEv a b' p es then (evB a b' p es, (0 : Int)) else ([], 1)) : Ev (fun k => hucksterlaw05_EventPuts.j1 k b x false a b' p es) true := by
 by_cases hk : OkEv a b' p es
 rotate_left
 ·rw [if_neg hk] at hr
  obtain ⟨rfl, rfl⟩ := Prod.mk.inj hr
  refine Ev.step (f := fun k => (hucksterref05_May.f k a b' p es).bind fun t374 => _) (fun k => rfl) ?_
  refine Ev.bind (refMay_ev a b' p es hp hn) ?_
  rw [decide_eq_false hk]
  refine ck_else (by decide) ?_
  refine Ev.bind (evCheck_ev a b' p es) ?_
  rw [if_neg hk]
  refine ck_if rfl ?_
  refine ck_if rfl ?_
  exact ck_if rfl (Ev.bind awake5_ev (Ev.now _))
 ·rw [if_pos hk] at hr
  obtain ⟨rfl, rfl⟩ := Prod.mk.inj hr
  have hB := evB_bytes hk
  have hL := evB_le hk
  have hg := (evG_iff hB a b' p es).mpr ⟨hk, rfl⟩
  refine Ev.step (f := fun k => (hucksterref05_May.f k a b' p es).bind fun t374 => _) (fun k => rfl) ?_
  refine Ev.bind (refMay_ev a b' p es hp hn) ?_
  rw [decide_eq_true hk]
  refine ck_if rfl ?_
  refine Ev.bind (evGet_ev _ hB (by omega)) ?_
  rw [hg]
  refine Ev.bind (evCheck_ev a b' p es) ?_
  rw [if_pos hk]
  refine ck_if rfl ?_
  refine ck_if rfl ?_
  refine Ev.bind (refEvPut_ev hk) ?_
  refine Ev.bind (eq_ev _ _ (by omega)) ?_
  refine ck_if (decide_eq_true rfl) ?_
  refine ck_if rfl ?_
  refine Ev.bind (refSameAll_ev a b' p es a b' p es hp hn) ?_
  rw [evS_self]
  exact ck_if rfl (Ev.bind awake5_ev (Ev.now _))
theorem puts_l (a b : Int) (p : List Int) (es : List S48) (a' b' : Int) (p' : List Int) (es' : List S48) (hp : p.length ≤ 140737488355328) (hn : es.length ≤ 140737488355328) (d : Nat) : ∀ (i : Nat), i + d = es.length → Ev (fun k => hucksterlaw05_EventPuts.l0 k (i : Int) a b p es a' b' p' es') true := by
 induction d with
 | zero =>
  intro i hi
  refine Ev.step (fun k => by simp only [hucksterlaw05_EventPuts.l0]; rfl) ?_
  refine ck_else (by omega) ?_
  refine Ev.bind (evPut_ev a b p es) ?_
  refine Ev.bind (evSameAll_ev a b p es a' b' p' es' hp hn) ?_
  refine Ev.bind (refSameAll_ev a b p es a' b' p' es' hp hn) ?_
  refine ck_else (by simp) ?_
  refine Ev.bind (evSameAll_ev a b p es a b p es hp hn) ?_
  rw [evS_self]
  exact puts_j _ _ a b p es hp hn rfl
 | succ d ih =>
  intro i hi
  refine Ev.step (fun k => by simp only [hucksterlaw05_EventPuts.l0]; rfl) ?_
  refine ck_if (by omega) ?_
  refine ck_if (by omega) ?_
  refine Ev.bind (checkEff_ev (rd_T48 es (i : Int))) ?_
  refine Ev.bind (mayEff_ev (rd_T48 es (i : Int))) ?_
  refine ck_else ?_ ?_
  ·by_cases h : OkEff (rd_T48 es (i : Int))
   ·rw [if_pos h, decide_eq_true h]; decide
   ·rw [if_neg h, decide_eq_false h]; decide
  rw [ck_w (by omega)]
  exact ih (i + 1) (by omega)
theorem EventPuts (x y : S30) (hp : x.f1.length ≤ 140737488355328) (hn : x.f2.length ≤ 140737488355328) (hn' : y.f2.length ≤ 140737488355328) : ∃ k, hucksterlaw05_EventPuts.f k x.f0.f0 x.f0.f1 x.f1 x.f2 y.f0.f0 y.f0.f1 y.f1 y.f2 = some true := by
 refine Ev.rounds (g := fun k => hucksterlaw05_EventPuts.f k x.f0.f0 x.f0.f1 x.f1 x.f2 y.f0.f0 y.f0.f1 y.f1 y.f2) ?_
 unfold hucksterlaw05_EventPuts.f
 obtain ⟨b, hb⟩ := light_ev [(⟨(⟨x.f0.f0, x.f0.f1⟩ : S25), x.f1, x.f2⟩ : S30), (⟨(⟨y.f0.f0, y.f0.f1⟩ : S25), y.f1, y.f2⟩ : S30)] (by simp) (fun i hi => by
  have hi : i < 2 := hi
  match i, hi with
  | 0, _ => exact hn
  | 1, _ => exact hn')
 refine Ev.bind hb ?_
 cases b with
 | false => exact ck_else (by decide) (Ev.bind awake5_ev (Ev.now _))
 | true => exact ck_if rfl (puts_l _ _ _ _ _ _ _ _ hp hn _ 0 (Nat.zero_add _))
end Go.Proofs.Ytgocnchjpecafaa.Pure
namespace Go.Proofs.Ytgocnchjpecafaa.Open
open Go.RowKit Go.ChangeShapes Go.WideShapes Go.Deep Go.Proofs.YtgocnchjpecafaaW.PrintWords
set_option linter.unusedVariables false
set_option linter.unusedSimpArgs false
section
variable {H : Type} {enc : TypeId × Value → H} {P : Program} {w : World} {t e : TypeId}
def Opens {α : Type} (enc : TypeId × Value → H) (P : Program) (w : World) (t : TypeId) (d : Kd α) (good : α → Prop) : Prop :=
 ∀ (fuel : Nat) (cs : List Value) (x : DataW H × List MemPlace), DataW.trod enc P w 0 (fun _ => true) true fuel t cs = some x → (∀ n ∈ x.1.weights P t, n ≤ reachBytes) → ∃ y : α, d.K w y cs ∧ good y
theorem weights_all {e : TypeId} : ∀ {ds : List (DataW H)} {d : DataW H}, d ∈ ds → ∀ n ∈ d.weights P e, n ∈ DataW.weightsAll P e ds
 | [], d, h, _, _ => by cases h
 | d0 :: ds, d, h, n, hn => by
  simp only [DataW.weightsAll, List.mem_append]
  rcases List.mem_cons.1 h with rfl | h
  ·exact .inl hn
  ·exact .inr (weights_all h n hn)
theorem opens_int {k : IntKind} (ht : P.underlying t = some (.int k)) : Opens enc P w t (Kd.int k) (fun n => (Lit.int k n).wf = true) := by
 intro fuel cs x h hz
 obtain ⟨n, rfl, _, hw⟩ := DataW.trod_int ht h
 exact ⟨n, rfl, hw⟩
theorem opens_bool (ht : P.underlying t = some .bool) : Opens enc P w t Kd.bool (fun _ => True) := by
 intro fuel cs x h hz
 obtain ⟨b, rfl, _⟩ := DataW.trod_bool ht h
 exact ⟨b, rfl, trivial⟩
theorem opens_string (ht : P.underlying t = some .string) : Opens enc P w t Kd.string (fun s => s.size ≤ maxLen) := by
 intro fuel cs x h hz
 obtain ⟨s, rfl, _, hs⟩ := DataW.trod_string ht h
 exact ⟨s, rfl, hs⟩
theorem opens_slice {α : Type} {d : Kd α} {q : Nat} {good : α → Prop} (ht : P.underlying t = some (.slice e)) (hs : P.cellsOf e = d.sz) {B : Nat} (hB : P.bytesOf e = B) (he : Opens enc P w e d good) : Opens enc P w t (Kd.slice q d) (fun xs => xs.length * B ≤ 140737488351232 ∧ ∀ y ∈ xs, good y) := by
 intro fuel cs x h hz
 rcases open_slice ht h with ⟨rfl, _⟩ | ⟨a, len, cap, m, n, D, Pl, rfl, _, hl, hm, hmm, hxx, hx⟩
 ·refine ⟨[], ⟨none, 0, rfl, Nat.le_refl _, rfl, by simp, fun h => ?_⟩, by simp, by simp⟩
  simp at h
 ·simp only [if_true] at hmm
  subst hxx
  simp only [DataW.weights, ht, List.mem_cons, List.mem_append, List.length_map, List.length_range] at hz
  have hz0 := hz _ (.inl rfl)
  rw [hB] at hz0
  have hzB : len * B ≤ 140737488351232 := Nat.le_trans (Nat.mul_le_mul_right _ (Nat.le_add_right _ _)) hz0
  have each : ∀ i, i < len → ∃ y : α, (∃ cs', w.cells? 0 (a.add (i * P.cellsOf e)) (P.cellsOf e) = some cs' ∧ d.K w y cs') ∧ good y := by
   intro i hi
   obtain ⟨cs', h1, h2⟩ := hx i (by omega)
   obtain ⟨y, k1, k2⟩ := he n cs' _ h2 (fun n hn => hz n (.inr (.inl (weights_all (List.mem_map.2 ⟨i, List.mem_range.2 hi, rfl⟩) n hn))))
   exact ⟨y, ⟨cs', h1, k1⟩, k2⟩
  have all : ∀ n, n ≤ len → ∃ ys : List α, ys.length = n ∧ ∀ i y, ys[i]? = some y → (∃ cs', w.cells? 0 (a.add (i * P.cellsOf e)) (P.cellsOf e) = some cs' ∧ d.K w y cs') ∧ good y := by
   intro n
   induction n with
   | zero => exact fun _ => ⟨[], rfl, fun i y h => by simp at h⟩
   | succ n ih =>
    intro hn
    obtain ⟨ys, h1, h2⟩ := ih (by omega)
    obtain ⟨y, hy⟩ := each n (by omega)
    refine ⟨ys ++ [y], by simp [h1], fun i z hz => ?_⟩
    by_cases hi : i < ys.length
    ·rw [List.getElem?_append_left hi] at hz
     exact h2 i z hz
    ·rw [List.getElem?_append_right (by omega)] at hz
     by_cases hi0 : i - ys.length = 0
     ·rw [hi0] at hz
      simp only [List.getElem?_cons_zero, Option.some.injEq] at hz
      subst hz
      rw [show i = n by omega]
      exact hy
     ·obtain ⟨j, hj⟩ : ∃ j, i - ys.length = j + 1 := ⟨i - ys.length - 1, by omega⟩
      rw [hj] at hz
      simp at hz
  obtain ⟨ys, h1, h2⟩ := all len (Nat.le_refl _)
  subst h1
  refine ⟨ys, ⟨some a, cap, rfl, hl, rfl, ?_, fun _ => ⟨a, rfl, fun j p hj => ?_⟩⟩, hzB, fun y hy => ?_⟩
  ·have : maxLen ≤ 9223372036854775807 := by decide
   omega
  ·obtain ⟨⟨cs', c1, c2⟩, _⟩ := h2 j p hj
   obtain ⟨_, l1, l2⟩ := World.cells?_some c1
   refine ⟨cs', by rw [l1, hs], c2, fun i u hu => ?_⟩
   have hi : i < P.cellsOf e := by
    rw [← l1]
    by_cases hi : i < cs'.length
    ·exact hi
    ·rw [List.getElem?_eq_none (by omega)] at hu
     cases hu
   rw [← Go.Deep.add_add, ← hs, l2 i hi, hu]
  ·obtain ⟨i, hi⟩ := List.mem_iff_getElem?.1 hy
   exact (h2 i y hi).2
theorem opens_row {α : Type} {d : Kd α} {q : Nat} {good : List α → Prop} {A : Option Addr} {len cap : Nat} {x : DataW H} {p : List MemPlace} (ho : Opens enc P w t (Kd.slice q d) good) (h : DataW.Trod enc P w 0 (fun _ => true) true t (.slice A len cap) x p) (hz : ∀ n ∈ x.weights P t, n ≤ reachBytes) : ∃ xs : List α, len = xs.length ∧ xs.length ≤ cap ∧ d.C w A xs.length xs ∧ good xs := by
 obtain ⟨fuel, hf⟩ := h
 obtain ⟨xs, ⟨A', c', e1, hl, hr⟩, hg⟩ := ho fuel _ _ hf hz
 have e2 : (Value.slice A len cap).cells.toList = [Value.slice A len cap] := rfl
 rw [e2] at e1
 simp only [List.cons.injEq, and_true, Value.slice.injEq] at e1
 obtain ⟨rfl, rfl, rfl⟩ := e1
 exact ⟨xs, rfl, hl, hr, hg⟩
def OpensAt {α : Type} (enc : TypeId × Value → H) (P : Program) (w : World) (fs : List Field) (o : Nat) (d : Kd α) (good : α → Prop) : Prop :=
 ∀ (n : Nat) (cs : List Value) (xs : List (DataW H × List MemPlace)), xs.length = fs.length → cs.length = d.sz →
  (∀ (j : Nat) (f : Field), fs[j]? = some f → o ≤ f.offset ∧ DataW.trod enc P w 0 (fun _ => true) true n f.type ((cs.drop (f.offset - o)).take (P.cellsOf f.type)) = xs[j]?) →
  (∀ m ∈ DataW.weightsEach P (fs.map (·.type)) (xs.map (·.1)), m ≤ reachBytes) → ∃ y : α, d.K w y cs ∧ good y
theorem opensAt_last {α : Type} {d : Kd α} {good : α → Prop} {f : Field} {o : Nat} (ho : f.offset = o) (hs : P.cellsOf f.type = d.sz) (he : Opens enc P w f.type d good) : OpensAt enc P w [f] o d good := by
 intro n cs xs hl hc h hz
 match xs, hl with
 | [x], _ =>
  have h0 := (h 0 f rfl).2
  rw [ho, Nat.sub_self, List.drop_zero, hs, ← hc, List.take_length] at h0
  refine he n cs x (by simpa using h0) (fun m hm => hz m ?_)
  simp only [List.map_cons, List.map_nil, DataW.weightsEach, List.mem_append]
  exact .inl hm
theorem opensAt_cons {α β : Type} {d : Kd α} {e' : Kd β} {good : α → Prop} {good' : β → Prop} {f : Field} {fs : List Field} {o o' : Nat} (ho : f.offset = o) (hs : P.cellsOf f.type = d.sz) (ho' : o' = o + d.sz) (hfs : ∀ g ∈ fs, o' ≤ g.offset) (he : Opens enc P w f.type d good) (hr : OpensAt enc P w fs o' e' good') :
  OpensAt enc P w (f :: fs) o (Kd.pair d e') (fun y => good y.1 ∧ good' y.2) := by
 intro n cs xs hl hc h hz
 subst ho'
 match xs, hl with
 | x :: xs, hl =>
  have hc : cs.length = d.sz + e'.sz := hc
  have h0 := (h 0 f rfl).2
  rw [ho, Nat.sub_self, List.drop_zero, hs] at h0
  simp only [List.map_cons, DataW.weightsEach, List.mem_append] at hz
  obtain ⟨y, hy, gy⟩ := he n (cs.take d.sz) x (by simpa using h0) (fun m hm => hz m (.inl hm))
  obtain ⟨z, hzz, gz⟩ := hr n (cs.drop d.sz) xs (by simpa using hl) (by rw [List.length_drop]; omega) (fun j g hj => by
   have hg := hfs g (List.mem_of_getElem? hj)
   refine ⟨hg, ?_⟩
   have h1 := (h (j + 1) g (by simpa using hj)).2
   rw [List.drop_drop, show d.sz + (g.offset - (o + d.sz)) = g.offset - o by omega]
   simpa using h1) (fun m hm => hz m (.inr hm))
  exact ⟨(y, z), ⟨cs.take d.sz, cs.drop d.sz, (List.take_append_drop _ _).symm, hy, hzz⟩, gy, gz⟩
theorem opens_struct {α : Type} {d : Kd α} {good : α → Prop} {fs : Array Field} (ht : P.underlying t = some (.struct fs)) (hs : P.cellsOf t = d.sz) (h : OpensAt enc P w fs.toList 0 d good) : Opens enc P w t d good := by
 intro fuel cs x hx hz
 obtain ⟨xs, n, _, rfl, hl, hlen, hf⟩ := DataW.trod_struct ht hx
 refine h n cs xs (by simpa using hlen) (by rw [hl, hs]) (fun j f hj => ⟨Nat.zero_le _, ?_⟩) (fun m hm => hz m ?_)
 ·have hj' : fs[j]? = some f := by simpa using hj
  exact hf j f hj'
 ·simp only [DataW.weights, ht]
  simpa using hm
theorem opens_iso {α β : Type} {d : Kd α} {good : α → Prop} {f : β → α} (g : α → β) (hg : ∀ x, f (g x) = x) (h : Opens enc P w t d good) : Opens enc P w t (Kd.iso d f) (fun y => good (f y)) := by
 intro fuel cs x hx hz
 obtain ⟨y, hy, gy⟩ := h fuel cs x hx hz
 refine ⟨g y, ?_, by show good (f (g y)); rw [hg]; exact gy⟩
 show d.K w (f (g y)) cs
 rw [hg]
 exact hy
theorem opens_agg {α : Type} {d : Kd α} {good : α → Prop} {fs : Array Field} {r : Reach} {b0 : Nat} {v : Value} {x : DataW H} {p : List MemPlace} (ht : P.underlying t = some (.struct fs)) (hv : Value.okWide P w r b0 t v) (ho : Opens enc P w t d good) (h : DataW.Trod enc P w 0 (fun _ => true) true t v x p) (hz : ∀ n ∈ x.weights P t, n ≤ reachBytes) : ∃ (cs : Array Value) (y : α), v = .agg cs ∧ d.K w y cs.toList ∧ good y := by
 obtain ⟨cs, rfl, hsz⟩ := okWide_struct ht hv
 obtain ⟨fuel, hf⟩ := h
 obtain ⟨y, hy, gy⟩ := ho fuel _ _ hf hz
 exact ⟨cs, y, rfl, hy, gy⟩
end
end Go.Proofs.Ytgocnchjpecafaa.Open
namespace Go.Proofs.Ytgocnchjpecafaa.eventPuts
open Go.ChangeShapes Go.WideShapes Go.ChangeAt Go.RowKit Go.Proofs.YtgocnchjpecafaaW.PrintWords Go.Proofs.Ytgocnchjpecafaa.Open Go.Proofs.Ytgocnchjpecafaa.PEp
set_option linter.unusedVariables false
theorem own : ownKnob Try.prog.godebug = none := by kernel_rfl
theorem laidOut : laidOutB Try.prog = true := by kernel_rfl
theorem o48 {H : Type} {enc : TypeId × Value → H} {W : World} : Opens enc Try.prog W 48 k48 (fun _ => True) := fun fuel cs x h hz => by
 obtain ⟨y, hy, _⟩ := opens_iso (f := fun x : S48 => (x.f0, x.f1, x.f2, x.f3, x.f4, x.f5)) (fun y => ⟨y.1, y.2.1, y.2.2.1, y.2.2.2.1, y.2.2.2.2.1, y.2.2.2.2.2⟩) (fun x => rfl)
  (opens_struct (d := Kd.pair (Kd.int .i64) (Kd.pair (Kd.int .i64) (Kd.pair Kd.string (Kd.pair (Kd.int .i64) (Kd.pair (Kd.int .i64) Kd.string))))) Try.underlying48 (by kernel_rfl)
   (opensAt_cons (by decide) (by kernel_rfl) (by rfl) (by decide) (opens_int Try.underlying3) (opensAt_cons (by decide) (by kernel_rfl) (by rfl) (by decide) (opens_int Try.underlying3) (opensAt_cons (by decide) (by kernel_rfl) (by rfl) (by decide) (opens_string Try.underlying9) (opensAt_cons (by decide) (by kernel_rfl) (by rfl) (by decide) (opens_int Try.underlying3) (opensAt_cons (by decide) (by kernel_rfl) (by rfl) (by decide) (opens_int Try.underlying3) (opensAt_last (by decide) (by kernel_rfl) (opens_string Try.underlying9)))))))) fuel cs x h hz
 exact ⟨y, hy, trivial⟩
theorem o25 {H : Type} {enc : TypeId × Value → H} {W : World} : Opens enc Try.prog W 25 k25 (fun _ => True) := fun fuel cs x h hz => by
 obtain ⟨y, hy, _⟩ := opens_iso (f := fun x : S25 => (x.f0, x.f1)) (fun y => ⟨y.1, y.2⟩) (fun x => rfl)
  (opens_struct (d := Kd.pair (Kd.int .i64) (Kd.int .i64)) Try.underlying25 (by kernel_rfl)
   (opensAt_cons (by decide) (by kernel_rfl) (by rfl) (by decide) (opens_int Try.underlying3) (opensAt_last (by decide) (by kernel_rfl) (opens_int Try.underlying3)))) fuel cs x h hz
 exact ⟨y, hy, trivial⟩
theorem o30 {H : Type} {enc : TypeId × Value → H} {W : World} : Opens enc Try.prog W 30 k30 (fun x => x.f1.length ≤ 140737488355328 ∧ x.f2.length ≤ 140737488355328) := fun fuel cs x h hz => by
 obtain ⟨y, hy, hg⟩ := opens_iso (f := fun x : S30 => (x.f0, x.f1, x.f2)) (fun y => ⟨y.1, y.2.1, y.2.2⟩) (fun x => rfl)
  (opens_struct (d := Kd.pair k25 (Kd.pair (Kd.slice 3 (Kd.int .i64)) (Kd.slice 48 k48))) Try.underlying30 (by kernel_rfl)
   (opensAt_cons (by decide) (by kernel_rfl) (by rfl) (by decide) o25 (opensAt_cons (by decide) (by kernel_rfl) (by rfl) (by decide) (opens_slice (d := Kd.int .i64) (q := 3) Try.underlying27 (by kernel_rfl) (B := 8) (by kernel_rfl) (opens_int Try.underlying3)) (opensAt_last (by decide) (by kernel_rfl) (opens_slice (d := k48) (q := 48) Try.underlying28 (by kernel_rfl) (B := 64) (by kernel_rfl) o48))))) fuel cs x h hz
 refine ⟨y, hy, ?_, ?_⟩
 ·have h_ : y.f1.length * 8 ≤ 140737488351232 := hg.2.1.1
  omega
 ·have h_ : y.f2.length * 64 ≤ 140737488351232 := hg.2.2.1
  omega
theorem heap48 : Kd.Heap k48 := Kd.heap_iso _ (Kd.heap_pair (Kd.heap_int _) (Kd.heap_pair (Kd.heap_int _) (Kd.heap_pair Kd.heap_string (Kd.heap_pair (Kd.heap_int _) (Kd.heap_pair (Kd.heap_int _) Kd.heap_string)))))
set_option maxRecDepth 100000 in
theorem lifted (os : Os) (started : os.Started) (H : Type) (enc : TypeId × Value → H) :
  ReturnsInHanded {} Try.checked os 6 .any (Rows.eventPutsSpec.pre6 enc Try.prog Try.f6 Rows.eventPutsRow.domain false) (Rows.eventPutsSpec.post enc Try.prog Try.f6 false true false false) := by
 refine returnsInHanded_of_change_sized (C := Try.checked) own started (by kernel_rfl) Try.func6
  (ChangeSpec.witness6 (enc := enc) (C := Try.checked) false ⟨#[], #[.agg #[.int .i64 0, .int .i64 0, .slice none 0 0, .slice none 0 0], .agg #[.int .i64 0, .int .i64 0, .slice none 0 0, .slice none 0 0]], []⟩ 8 (by kernel_rfl) (by kernel_rfl) (by kernel_rfl) (by kernel_rfl)) ?_
 intro W base args ds gs before hval0 hW hcnd hsz0 _
 have hval : ∀ (j : Nat) t v, Try.f6.params[j]? = some t → args[j]? = some v → Value.okWide Try.prog W .any base t v := hval0
 have hW' := hW
 obtain ⟨p, q, hA0, hV, rfl, hfz, hnd⟩ := hW
 have hA : DataW.TrodAll enc Try.prog W 0 (fun _ => true) true Try.f6.params.toList args.toList ds p := hA0
 have hsz : (DataW.weightsEach Try.prog (Try.f6.params.toList ++ Rows.eventPutsSpec.plain.varTypes Try.prog) (ds ++ gs)).all (· ≤ reachBytes) = true := hsz0
 rw [Try.params6] at hA hval hsz
 obtain ⟨v0, vs0, d0, ds0, p0, q0, hargs, rfl, rfl, h0, r0⟩ := trodAll_cons hA
 obtain ⟨v1, vs1, d1, ds1, p1, q1, rfl, rfl, rfl, h1, r1⟩ := trodAll_cons r0
 obtain ⟨rfl, rfl, rfl⟩ := trodAll_nil r1
 obtain rfl : args = #[v0, v1] := by cases args; simp_all
 obtain ⟨rfl, rfl⟩ := trodVars_none hV
 have k0 := h0
 have lt0 : ∀ x ∈ p0, x.block < W.heap.size := by obtain ⟨m, hm⟩ := k0; exact DataW.trod_lt m _ _ _ hm
 obtain ⟨cs0, x0, rfl, K0, g0⟩ := opens_agg Try.underlying30 (hval 0 30 v0 rfl rfl) o30 h0 (fun n hn => by simpa using List.all_eq_true.1 hsz _ (DataW.weights_mem_each (j := 0) (t := 30) rfl rfl n hn))
 obtain ⟨A0_2, c0_2, A0_3, c0_3, e0_, hl0_2, hr0_2, hl0_3, hr0_3⟩ := k30_open K0
 obtain rfl : cs0 = #[.int .i64 x0.f0.f0, .int .i64 x0.f0.f1, .slice A0_2 x0.f1.length c0_2, .slice A0_3 x0.f2.length c0_3] := by apply Array.ext'; exact e0_
 have k1 := h1
 have lt1 : ∀ x ∈ p1, x.block < W.heap.size := by obtain ⟨m, hm⟩ := k1; exact DataW.trod_lt m _ _ _ hm
 obtain ⟨cs1, x1, rfl, K1, g1⟩ := opens_agg Try.underlying30 (hval 1 30 v1 rfl rfl) o30 h1 (fun n hn => by simpa using List.all_eq_true.1 hsz _ (DataW.weights_mem_each (j := 1) (t := 30) rfl rfl n hn))
 obtain ⟨A1_2, c1_2, A1_3, c1_3, e1_, hl1_2, hr1_2, hl1_3, hr1_3⟩ := k30_open K1
 obtain rfl : cs1 = #[.int .i64 x1.f0.f0, .int .i64 x1.f0.f1, .slice A1_2 x1.f1.length c1_2, .slice A1_3 x1.f2.length c1_3] := by apply Array.ext'; exact e1_
 clear hA0 hval0 hsz0 hsz
 obtain ⟨k, hk⟩ := Pure.EventPuts x0 x1 g0.1 g0.2 g1.2
 refine (PEp.hucksterlaw05_EventPuts.calls k x0.f0.f0 x0.f0.f1 (fun k_ => k_ < W.heap.size) A0_2 c0_2 x0.f1 (fun k_ => k_ < W.heap.size) A0_3 c0_3 x0.f2 x1.f0.f0 x1.f0.f1 (fun k_ => k_ < W.heap.size) A1_2 c1_2 x1.f1 (fun k_ => k_ < W.heap.size) A1_3 c1_3 x1.f2 true W (Kd.V_mk hl0_2 (Kd.C_F (Kd.heap_int .i64) hr0_2)) (Kd.V_mk hl0_3 (Kd.C_F heap48 hr0_3)) (Kd.V_mk hl1_2 (Kd.C_F (Kd.heap_int .i64) hr1_2)) (Kd.V_mk hl1_3 (Kd.C_F heap48 hr1_3)) hk rfl).mono fun e W' ⟨he, bel⟩ => ?_
 subst he
 exact ⟨_, rfl, _, _, _, [], _, [], hW', trodAll_mk1 (shut_bool Try.underlying4 _), (trodAll_cons_mk (Below.trod laidOut (by kernel_rfl) (of_decide_eq_true (by kernel_rfl)) k0 bel lt0) (trodAll_cons_mk (Below.trod laidOut (by kernel_rfl) (of_decide_eq_true (by kernel_rfl)) k1 bel lt1) trodAll_mk0)), rfl, bel.frame _, fun h => by cases h⟩
theorem over : Rows.eventPutsRow.holds Try.pinned (OpenSpec.ofChange Rows.eventPutsSpec) :=
 OpenClaim.holds_of_wide 6 Try.f6 rfl rfl rfl rfl rfl rfl rfl ⟨rfl, rfl, rfl, rfl, rfl⟩ rfl rfl rfl rfl rfl (by kernel_rfl) Try.func6 (by kernel_rfl)
  (of_decide_eq_true (by kernel_rfl)) (by unfold Func.isWrapper; first | (rw [if_pos (by decide +kernel)]; kernel_rfl) | (rw [if_neg (by decide +kernel)]; exact ⟨rfl, rfl⟩))
  (fun os started H enc _ => lifted os started H enc)
theorem proved : Rows.EventPutsSaid := over
end Go.Proofs.Ytgocnchjpecafaa.eventPuts
namespace Go.Proofs.Ytgocnchjpecafaa
theorem eventPuts_holds : Rows.EventPutsSaid := eventPuts.proved
end Go.Proofs.Ytgocnchjpecafaa

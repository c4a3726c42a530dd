/- What all know: what the program's and the reference's functions come to. -/
import Derived.Test.YtjpjdipdhakjnaaStableWords
import Derived.Test.YtjpjdipdhakjnaaClockRefMore
import Derived.Test.YtjpjdipdhakjnaaPStabx1
import Derived.Test.YtjpjdipdhakjnaaPStabx2
import Derived.Test.YtjpjdipdhakjnaaPStabx3
import Derived.Test.YtjpjdipdhakjnaaPStabx4
namespace Go.Proofs.Ytjpjdipdhakjnaa.PStab
open Go.RowKit Go.Proofs.YtjpjdipdhakjnaaW.PrintWords Go.Proofs.YtjpjdipdhakjnaaW.PrintLast Go.Proofs.Ytjpjdipdhakjnaa.ClockBase
set_option linter.unusedVariables false
set_option linter.unusedSimpArgs false

theorem st_rd {l : List (List Int)} {i : Nat} (h : i < l.length) : rd_L1 l (i : Int) = l[i] := by
  unfold rd_L1
  rw [Int.toNat_natCast, List.getD_eq_getElem?_getD, List.getElem?_eq_getElem h]
  rfl
theorem st_rdD (l : List (List Int)) (i : Nat) : rd_L1 l (i : Int) = l.getD i [] := rfl
theorem map_take_snoc {l : List (List Int)} {i : Nat} (h : i < l.length) : (l.map pl).take (i + 1) = (l.map pl).take i ++ [pl l[i]] := by
  rw [List.take_add_one, List.getElem?_eq_getElem (by rw [List.length_map]; exact h)]
  simp
theorem pLearn_loop (ls : List (List Int)) (own : List Int) (rep : Int) (c : List Int) (hl : ls.length ≤ 5) (h1 : 1 ≤ rep) (h2 : rep ≤ ls.length) (d : Nat) : ∀ (i : Nat), i + d = ls.length → Ev (fun k => stable_Learn.l0 k own rep c ((ls.map pl).take i) ls (ls.length : Int) (i : Int)) (learnS ls own rep c, 0) := by
  induction d with
  | zero =>
    intro i hi
    obtain rfl : i = ls.length := by omega
    have e : (ls.map pl).take ls.length = ls.map pl := by rw [← List.length_map (f := pl), List.take_length]
    rw [e]
    refine Ev.step (f := fun _ => some (learnS ls own rep c, 0)) (fun k => ?_) (Ev.now _)
    simp only [stable_Learn.l0, clock_Get.f, clock_Join.f, Option.bind_some]
    rw [if_neg (by omega)]
    have hw : wrap64 (rep - 1) = (((rep - 1).toNat : Nat) : Int) := by unfold wrap64; omega
    unfold learnS
    by_cases hc : getS c rep ≤ getS own rep
    · rw [if_pos hc, if_pos hc, hw, if_pos (by omega), if_pos (by rw [List.length_map]; omega), st_rdD, Int.toNat_natCast]
    · rw [if_neg hc, if_neg hc]
  | succ d ih =>
    intro i hi
    have hlt : i < ls.length := by omega
    refine Ev.step (f := fun k => stable_Learn.l0 k own rep c ((ls.map pl).take i ++ [pl ls[i]]) ls (ls.length : Int) ((i + 1 : Nat) : Int)) (fun k => ?_) ?_
    · simp only [stable_Learn.l0, clock_Plain.f, Option.bind_some]
      rw [if_pos (by omega), if_pos (by omega), if_pos (by omega), st_rd hlt, if_pos (by rw [List.length_take, List.length_map]; omega), ck_w (by omega)]
      rfl
    · rw [← map_take_snoc hlt]
      exact ih (i + 1) (by omega)
/-- What Learn tells. -/
def learnP (ls : List (List Int)) (own : List Int) (rep : Int) (c : List Int) : List (List Int) × Int := if mayS ls own = true ∧ okC c = true ∧ 1 ≤ rep ∧ rep ≤ ls.length then (learnS ls own rep c, 0) else ([], 1)
theorem pLearn_ev (ls : List (List Int)) (own : List Int) (rep : Int) (c : List Int) : Ev (fun k => stable_Learn.f k ls own rep c) (learnP ls own rep c) := by
  have hbad : ∀ r, r = (([] : List (List Int)), (1 : Int)) → Ev (fun k => stable_Learn.j0 k ls own rep c true) r := by
    rintro r rfl
    refine Ev.step (f := fun _ => some ([], 1)) (fun k => ?_) (Ev.now _)
    simp only [stable_Learn.j0]
    rfl
  unfold stable_Learn.f learnP
  simp only [stable_may.f, clock_Check.f, Option.bind_some]
  by_cases hm : mayS ls own = true
  · refine ck_if hm ?_
    by_cases hk : okC c = true
    · simp only [if_pos hk]
      refine ck_if trivial ?_
      by_cases h1 : rep < 1
      · refine ck_if h1 (hbad _ ?_)
        rw [if_neg (by omega)]
      · refine ck_else h1 ?_
        by_cases h2 : rep > (ls.length : Int)
        · rw [decide_eq_true h2]
          refine hbad _ ?_
          rw [if_neg (by omega)]
        · rw [decide_eq_false h2, if_pos ⟨hm, hk, by omega, by omega⟩]
          have h := pLearn_loop ls own rep c (mayS_iff.1 hm).1.2 (by omega) (by omega) ls.length 0 (by omega)
          rw [List.take_zero] at h
          refine Ev.step (f := fun k => stable_Learn.l0 k own rep c ([] : List (List Int)) ls (ls.length : Int) 0) (fun k => ?_) h
          simp only [stable_Learn.j0]
          rfl
    · simp only [if_neg hk]
      refine ck_else (by simp) (hbad _ ?_)
      rw [if_neg (fun h => hk h.2.1)]
  · refine ck_else hm (hbad _ ?_)
    rw [if_neg (fun h => hm h.1)]
theorem pStable_loop (ls : List (List Int)) (hl : ls.length ≤ 5) (d : Nat) : ∀ (i : Nat) (a : List Int), i + d = ls.length → Ev (fun k => stable_Stable.l0 k a ls (ls.length : Int) (i : Int)) ((ls.drop i).foldl (fun a x => trim (meetS a x)) a) := by
  induction d with
  | zero =>
    intro i a hi
    rw [List.drop_eq_nil_of_le (by omega)]
    refine Ev.step (f := fun _ => some a) (fun k => ?_) (Ev.now _)
    simp only [stable_Stable.l0]
    rw [if_neg (by omega)]
  | succ d ih =>
    intro i a hi
    have hlt : i < ls.length := by omega
    rw [List.drop_eq_getElem_cons hlt, List.foldl_cons]
    refine Ev.step (f := fun k => stable_Stable.l0 k (trim (meetS a ls[i])) ls (ls.length : Int) ((i + 1 : Nat) : Int)) (fun k => ?_) (ih (i + 1) _ (by omega))
    simp only [stable_Stable.l0, clock_Meet.f, Option.bind_some]
    rw [if_pos (by omega), if_pos (by omega), if_pos (by omega), st_rd hlt, ck_w (by omega)]
def stableP (ls : List (List Int)) (own : List Int) : List Int := if mayS ls own = true then stableS ls own else []
theorem pStable_ev (ls : List (List Int)) (own : List Int) : Ev (fun k => stable_Stable.f k ls own) (stableP ls own) := by
  unfold stable_Stable.f stableP
  simp only [stable_may.f, clock_Plain.f, Option.bind_some]
  by_cases hm : mayS ls own = true
  · refine ck_if hm ?_
    rw [if_pos hm]
    have h := pStable_loop ls (mayS_iff.1 hm).1.2 ls.length 0 (pl own) (by omega)
    rw [List.drop_zero] at h
    exact h
  · refine ck_else hm ?_
    rw [if_neg hm]
    exact Ev.now _
/-! ### the reference -/
def Short (ls : List (List Int)) : Prop := ∀ x ∈ ls, x.length ≤ 140737488355328
theorem rMay_loop (ls : List (List Int)) (own : List Int) (hn : ls.length ≤ 140737488355328) (hs : Short ls) (ho : own.length ≤ 140737488355328) (d : Nat) : ∀ (i : Nat), i + d = ls.length → Ev (fun k => hucksterref29_May.l0 k ls own (i : Int)) (!(ls.drop i).any badC && (decide (1 ≤ ls.length ∧ ls.length ≤ 5) && okC own)) := by
  induction d with
  | zero =>
    intro i hi
    rw [List.drop_eq_nil_of_le (by omega)]
    have hq : Ev (fun k => (if (ls.length : Int) ≥ 1 then (if (ls.length : Int) ≤ 5 then ((hucksterref03_May.f k own).bind fun t178 => (some t178)) else (some false)) else (some false))) (!([] : List (List Int)).any badC && (decide (1 ≤ ls.length ∧ ls.length ≤ 5) && okC own)) := by
      by_cases h1 : (ls.length : Int) ≥ 1
      · refine ck_if h1 ?_
        by_cases h5 : (ls.length : Int) ≤ 5
        · refine ck_if h5 ?_
          rw [decide_eq_true (by omega)]
          simpa using Ev.bind (may_ev own ho) (Ev.now _)
        · refine ck_else h5 ?_
          rw [decide_eq_false (by omega)]
          simpa using Ev.now false
      · refine ck_else h1 ?_
        rw [decide_eq_false (by omega)]
        simpa using Ev.now false
    refine Ev.step (fun k => ?_) hq
    simp only [hucksterref29_May.l0]
    rw [if_neg (by omega)]
  | succ d ih =>
    intro i hi
    have hlt : i < ls.length := by omega
    rw [List.drop_eq_getElem_cons hlt]
    refine Ev.step (f := fun k => (hucksterref03_May.f k ls[i]).bind fun t => if t = true then hucksterref29_May.l0 k ls own ((i + 1 : Nat) : Int) else some false) (fun k => ?_) ?_
    · simp only [hucksterref29_May.l0]
      rw [if_pos (by omega), if_pos (by omega), st_rd hlt, ck_w (by omega)]
    · refine Ev.bind (may_ev _ (hs _ (List.getElem_mem hlt))) ?_
      rw [List.any_cons, show badC ls[i] = !okC ls[i] from rfl]
      cases hk : okC ls[i] with
      | true =>
        refine ck_if rfl ?_
        simpa using ih (i + 1) (by omega)
      | false =>
        refine ck_else (by simp) ?_
        simpa using Ev.now false
theorem rMay_ev (ls : List (List Int)) (own : List Int) (hn : ls.length ≤ 140737488355328) (hs : Short ls) (ho : own.length ≤ 140737488355328) : Ev (fun k => hucksterref29_May.f k ls own) (mayS ls own) := by
  have h := rMay_loop ls own hn hs ho ls.length 0 (by omega)
  rw [List.drop_zero] at h
  have e : mayS ls own = (!ls.any badC && (decide (1 ≤ ls.length ∧ ls.length ≤ 5) && okC own)) := by
    unfold mayS
    cases ls.any badC <;> cases okC own <;> simp
  rw [e]
  exact h
theorem rStable_inner (ls : List (List Int)) (own : List Int) (hn : ls.length ≤ 140737488355328) (hs : Short ls) (j : Nat) (hj : j < 5) (out : List Int) (ho : out.length ≤ 5) (r : List Int) (d : Nat) : ∀ (i : Nat) (n : Int), i + d = ls.length → Ev (fun k => hucksterref29_Stable.l0 k ls own (out ++ [leastF j (ls.drop i) n]) ((j + 1 + 1 : Nat) : Int)) r → Ev (fun k => hucksterref29_Stable.l1 k ls own out ((j + 1 : Nat) : Int) n (i : Int)) r := by
  induction d with
  | zero =>
    intro i n hi h
    rw [List.drop_eq_nil_of_le (by omega)] at h
    refine Ev.step (f := fun k => hucksterref29_Stable.l0 k ls own (out ++ [n]) ((j + 1 + 1 : Nat) : Int)) (fun k => ?_) h
    simp only [hucksterref29_Stable.l1]
    rw [if_neg (by omega), if_pos (by omega), ck_w (by omega)]
  | succ d ih =>
    intro i n hi h
    have hlt : i < ls.length := by omega
    rw [List.drop_eq_getElem_cons hlt, leastF_cons] at h
    have hg := get_ev ls[i] ((j + 1 : Nat) : Int) (hs _ (List.getElem_mem hlt))
    rw [getS_nat _ j hj] at hg
    refine Ev.step (f := fun k => (hucksterref03_Get.f k ls[i] ((j + 1 : Nat) : Int)).bind fun t => if t < n then (hucksterref03_Get.f k ls[i] ((j + 1 : Nat) : Int)).bind fun t => hucksterref29_Stable.l1 k ls own out ((j + 1 : Nat) : Int) t ((i + 1 : Nat) : Int) else hucksterref29_Stable.l1 k ls own out ((j + 1 : Nat) : Int) n ((i + 1 : Nat) : Int)) (fun k => ?_) ?_
    · simp only [hucksterref29_Stable.l1]
      rw [if_pos (by omega), if_pos (by omega), st_rd hlt, ck_w (by omega)]
    · refine Ev.bind hg ?_
      by_cases hc : (ofL ls[i]).getD j 0 < n
      · rw [if_pos hc] at h
        exact ck_if hc (Ev.bind hg (ih (i + 1) _ (by omega) h))
      · rw [if_neg hc] at h
        exact ck_else hc (ih (i + 1) _ (by omega) h)
def leasts (ls : List (List Int)) (own : List Int) : List Int := [leastF 0 ls ((ofL own).getD 0 0), leastF 1 ls ((ofL own).getD 1 0), leastF 2 ls ((ofL own).getD 2 0), leastF 3 ls ((ofL own).getD 3 0), leastF 4 ls ((ofL own).getD 4 0)]
theorem leasts_eq (ls : List (List Int)) (own : List Int) : leasts ls own = ofL (stableS ls own) := by
  refine good_ext rfl (ofL_length _) (fun i hi => ?_)
  rw [stable_at ls own i hi]
  match i, hi with
  | 0, _ => rfl
  | 1, _ => rfl
  | 2, _ => rfl
  | 3, _ => rfl
  | 4, _ => rfl
theorem rStable_ev (ls : List (List Int)) (own : List Int) (hn : ls.length ≤ 140737488355328) (hs : Short ls) (ho : own.length ≤ 140737488355328) : Ev (fun k => hucksterref29_Stable.f k ls own) (stableS ls own) := by
  have hfin : Ev (fun k => hucksterref29_Stable.l0 k ls own (leasts ls own) 6) (stableS ls own) := by
    refine Ev.step (f := fun k => (hucksterref03_Plain.f k (leasts ls own)).bind fun t => some t) (fun k => ?_) ?_
    · simp only [hucksterref29_Stable.l0]
      rw [if_neg (by omega)]
    · rw [leasts_eq]
      have h := plain_good (good_of (stableS ls own))
      have e : trim (ofL (stableS ls own)) = stableS ls own := stable_plain ls own
      rw [e] at h
      exact Ev.bind h (Ev.now _)
  have st : ∀ (j : Nat) (hj : j < 5) (out : List Int), out.length ≤ 5 → Ev (fun k => hucksterref29_Stable.l0 k ls own (out ++ [leastF j ls ((ofL own).getD j 0)]) ((j + 1 + 1 : Nat) : Int)) (stableS ls own) → Ev (fun k => hucksterref29_Stable.l0 k ls own out ((j + 1 : Nat) : Int)) (stableS ls own) := by
    intro j hj out hout h
    have hg := get_ev own ((j + 1 : Nat) : Int) ho
    rw [getS_nat _ j hj] at hg
    refine Ev.step (f := fun k => (hucksterref03_Get.f k own ((j + 1 : Nat) : Int)).bind fun t => hucksterref29_Stable.l1 k ls own out ((j + 1 : Nat) : Int) t 0) (fun k => ?_) ?_
    · simp only [hucksterref29_Stable.l0]
      rw [if_pos (by omega)]
    · refine Ev.bind hg ?_
      exact rStable_inner ls own hn hs j hj out hout _ ls.length 0 _ (by omega) (by rw [List.drop_zero]; exact h)
  unfold hucksterref29_Stable.f
  exact st 0 (by omega) [] (by simp) (st 1 (by omega) _ (by simp) (st 2 (by omega) _ (by simp) (st 3 (by omega) _ (by simp) (st 4 (by omega) _ (by simp) hfin))))
theorem rSame_loop (a b : List (List Int)) (hab : a.length = b.length) (hn : a.length ≤ 140737488355328) (hs : Short a) (d : Nat) : ∀ (i : Nat), i + d = a.length → Ev (fun k => hucksterref29_Same.l0 k a b (i : Int)) (decide (a.drop i = b.drop i)) := by
  induction d with
  | zero =>
    intro i hi
    have e1 : a.drop i = [] := List.drop_eq_nil_of_le (by omega)
    have e2 : b.drop i = [] := List.drop_eq_nil_of_le (by omega)
    rw [e1, e2]
    refine Ev.step (f := fun _ => some true) (fun k => ?_) (Ev.now _)
    simp only [hucksterref29_Same.l0]
    rw [if_neg (by omega)]
  | succ d ih =>
    intro i hi
    have ha : i < a.length := by omega
    have hb : i < b.length := by omega
    have e : decide (a.drop i = b.drop i) = (decide (a[i] = b[i]) && decide (a.drop (i + 1) = b.drop (i + 1))) := by
      rw [List.drop_eq_getElem_cons ha, List.drop_eq_getElem_cons hb]
      exact ck_cons _ _ _ _
    rw [e]
    refine Ev.step (f := fun k => (hucksterref03_Same.f k a[i] b[i]).bind fun t => if t = true then hucksterref29_Same.l0 k a b ((i + 1 : Nat) : Int) else some false) (fun k => ?_) ?_
    · simp only [hucksterref29_Same.l0]
      rw [if_pos (by omega), if_pos (by omega), if_pos (by omega), st_rd ha, st_rd hb, ck_w (by omega)]
    · refine Ev.bind (same_ev _ _ (hs _ (List.getElem_mem ha))) ?_
      by_cases h : a[i] = b[i]
      · rw [decide_eq_true h, Bool.true_and]
        exact ck_if rfl (ih (i + 1) (by omega))
      · rw [decide_eq_false h, Bool.false_and]
        exact ck_else (by simp) (Ev.now _)
theorem rSame_yes (a : List (List Int)) (hn : a.length ≤ 140737488355328) (hs : Short a) : Ev (fun k => hucksterref29_Same.f k a a) true := by
  have h := rSame_loop a a rfl hn hs a.length 0 (by omega)
  rw [decide_eq_true rfl] at h
  unfold hucksterref29_Same.f
  exact ck_if rfl h
theorem rLearn_loop (ls : List (List Int)) (own : List Int) (rep : Int) (c : List Int) (hl : ls.length ≤ 5) (h1 : 1 ≤ rep) (hs : Short ls) (ho : own.length ≤ 140737488355328) (hc : c.length ≤ 140737488355328) (d : Nat) : ∀ (i : Nat), i + d = ls.length → Ev (fun k => hucksterref29_Learn.l0 k ls own rep c ((learnS ls own rep c).take i) (i : Int)) (learnS ls own rep c) := by
  have hL := learn_length ls own rep c
  induction d with
  | zero =>
    intro i hi
    obtain rfl : i = ls.length := by omega
    have e : (learnS ls own rep c).take ls.length = learnS ls own rep c := by rw [← hL, List.take_length]
    rw [e]
    refine Ev.step (f := fun _ => some (learnS ls own rep c)) (fun k => ?_) (Ev.now _)
    simp only [hucksterref29_Learn.l0]
    rw [if_neg (by omega)]
  | succ d ih =>
    intro i hi
    have hlt : i < ls.length := by omega
    have hat := learn_at ls own rep c h1 i hlt
    have hgd : ls.getD i [] = ls[i] := by rw [List.getD_eq_getElem?_getD, List.getElem?_eq_getElem hlt]; rfl
    rw [hgd] at hat
    have ht : (learnS ls own rep c).take (i + 1) = (learnS ls own rep c).take i ++ [(learnS ls own rep c).getD i []] := by
      rw [List.take_add_one, List.getD_eq_getElem?_getD, List.getElem?_eq_getElem (by omega)]
      rfl
    have hi1 := ih (i + 1) (by omega)
    rw [ht, hat] at hi1
    have hlen : ((learnS ls own rep c).take i).length < 5864062014805 := by rw [List.length_take]; omega
    refine Ev.step (f := fun k => (hucksterref03_Plain.f k ls[i]).bind fun t229 => (if ((i + 1 : Nat) : Int) = rep then ((hucksterref03_Get.f k c rep).bind fun t232 => ((hucksterref03_Get.f k own rep).bind fun t233 => (if t232 ≤ t233 then ((hucksterref03_Join.f k t229 c).bind fun t234 => hucksterref29_Learn.l0 k ls own rep c ((learnS ls own rep c).take i ++ [t234]) ((i + 1 : Nat) : Int)) else hucksterref29_Learn.l0 k ls own rep c ((learnS ls own rep c).take i ++ [t229]) ((i + 1 : Nat) : Int)))) else hucksterref29_Learn.l0 k ls own rep c ((learnS ls own rep c).take i ++ [t229]) ((i + 1 : Nat) : Int))) (fun k => ?_) ?_
    · simp only [hucksterref29_Learn.l0]
      rw [if_pos (by omega), if_pos (by omega), st_rd hlt, ck_w (by omega)]
      simp only [if_pos hlen]
    · refine Ev.bind (plain_ev _ (hs _ (List.getElem_mem hlt))) ?_
      by_cases hr : ((i + 1 : Nat) : Int) = rep
      · refine ck_if hr (Ev.bind (get_ev c rep hc) (Ev.bind (get_ev own rep ho) ?_))
        by_cases hle : getS c rep ≤ getS own rep
        · rw [if_pos ⟨by omega, hle⟩] at hi1
          refine ck_if hle (Ev.bind (join_ev _ c (Nat.le_trans (pl_len ls[i]) (by decide)) hc) hi1)
        · rw [if_neg (fun h => hle h.2)] at hi1
          exact ck_else hle hi1
      · rw [if_neg (fun h => hr (by omega))] at hi1
        exact ck_else hr hi1
theorem rLearn_ev (ls : List (List Int)) (own : List Int) (rep : Int) (c : List Int) (hl : ls.length ≤ 5) (h1 : 1 ≤ rep) (hs : Short ls) (ho : own.length ≤ 140737488355328) (hc : c.length ≤ 140737488355328) : Ev (fun k => hucksterref29_Learn.f k ls own rep c) (learnS ls own rep c) := by
  have h := rLearn_loop ls own rep c hl h1 hs ho hc ls.length 0 (by omega)
  rw [List.take_zero] at h
  exact h
/-! ### the law's own -/
theorem light_loop (ls : List (List Int)) (hn : ls.length ≤ 140737488355328) (d : Nat) : ∀ (i : Nat), i + d = ls.length → ∃ b, Ev (fun k => hucksterlaw29_light.l0 k ls (i : Int)) b ∧ (b = true → ls.length ≤ 20) := by
  have hend : ∀ i : Int, Ev (fun k => hucksterlaw29_light.j1 k ls i false) (decide ((ls.length : Int) ≤ 20)) := by
    intro i
    refine Ev.step (f := fun _ => some (decide ((ls.length : Int) ≤ 20))) (fun k => ?_) (Ev.now _)
    simp only [hucksterlaw29_light.j1]
    rfl
  induction d with
  | zero =>
    intro i hi
    refine ⟨decide ((ls.length : Int) ≤ 20), Ev.step (f := fun k => hucksterlaw29_light.j1 k ls (i : Int) false) (fun k => ?_) (hend _), fun h => by have := of_decide_eq_true h; omega⟩
    simp only [hucksterlaw29_light.l0]
    rw [if_neg (by omega)]
  | succ d ih =>
    intro i hi
    have hlt : i < ls.length := by omega
    by_cases h20 : (i : Int) ≤ 20
    · by_cases hx : (ls[i].length : Int) > 20
      · refine ⟨false, Ev.step (f := fun k => hucksterlaw29_light.j1 k ls (i : Int) true) (fun k => ?_) (Ev.step (f := fun _ => some false) (fun k => ?_) (Ev.now _)), fun h => by cases h⟩
        · simp only [hucksterlaw29_light.l0]
          rw [if_pos (by omega), decide_eq_true h20]
        · simp only [hucksterlaw29_light.j1]
          rw [if_pos trivial, if_pos (by omega), if_pos (by omega), st_rd hlt, if_pos hx]
      · obtain ⟨b, hb, hb2⟩ := ih (i + 1) (by omega)
        refine ⟨b, Ev.step (f := fun k => hucksterlaw29_light.j1 k ls (i : Int) true) (fun k => ?_) (Ev.step (f := fun k => hucksterlaw29_light.l0 k ls ((i + 1 : Nat) : Int)) (fun k => ?_) hb), hb2⟩
        · simp only [hucksterlaw29_light.l0]
          rw [if_pos (by omega), decide_eq_true h20]
        · simp only [hucksterlaw29_light.j1]
          rw [if_pos trivial, if_pos (by omega), if_pos (by omega), st_rd hlt, if_neg hx, ck_w (by omega)]
    · refine ⟨decide ((ls.length : Int) ≤ 20), Ev.step (f := fun k => hucksterlaw29_light.j1 k ls (i : Int) false) (fun k => ?_) (hend _), fun h => by have := of_decide_eq_true h; omega⟩
      simp only [hucksterlaw29_light.l0]
      rw [if_pos (by omega), decide_eq_false h20]
theorem light_ev (ls : List (List Int)) (hn : ls.length ≤ 140737488355328) : ∃ b, Ev (fun k => hucksterlaw29_light.f k ls) b ∧ (b = true → ls.length ≤ 20) := light_loop ls hn ls.length 0 (by omega)
theorem awake_ev : Ev (fun k => hucksterlaw29_awake.f k) true := by
  unfold hucksterlaw29_awake.f
  have e0 : stable_New.f 2 = some ([[], []], 0) := by decide +kernel
  have e1 : learnP [[], []] [1, 1] 1 [1, 1] = ([[1, 1], []], 0) := by decide +kernel
  have e2 : learnP [[1, 1], []] [1, 1] 2 [1, 1] = ([[1, 1], [1, 1]], 0) := by decide +kernel
  have e3 : stableP [[1, 1], [1, 1]] [1, 1] = [1, 1] := by decide +kernel
  have h1 := pLearn_ev [[], []] [1, 1] 1 [1, 1]
  have h2 := pLearn_ev [[1, 1], []] [1, 1] 2 [1, 1]
  have h3 := pStable_ev [[1, 1], [1, 1]] [1, 1]
  rw [e1] at h1
  rw [e2] at h2
  rw [e3] at h3
  rw [e0]
  simp only [Option.bind_some]
  refine Ev.bind h1 (Ev.bind h2 (ck_if trivial (ck_if rfl (ck_if rfl (Ev.bind h3 (Ev.bind (same_yes _ (by decide)) (Ev.now _)))))))
end Go.Proofs.Ytjpjdipdhakjnaa.PStab

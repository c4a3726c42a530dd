/- EventGets: for every input the law returns true. -/
import Derived.Test.YtgocnchjpecafaaEvPure
import Derived.Test.YtgocnchjpecafaaPEvx15
import Derived.Test.YtgocnchjpecafaaPEvx16
import Derived.Test.YtgocnchjpecafaaRows
import Derived.WalkKit
import Derived.ProofKit
import Derived.OpenShut
import Derived.ShutString
import Derived.ChangeOld
import Derived.Below
import Derived.SizedLaws
import Derived.Test.YtgocnchjpecafaaWSized
namespace Go.Proofs.Ytgocnchjpecafaa.PEv
open Go.RowKit Go.Proofs.YtgocnchjpecafaaW.PrintWords Go.Proofs.YtgocnchjpecafaaW.PrintLast Go.Proofs.Ytgocnchjpecafaa.ClockBase Go.Proofs.Ytgocnchjpecafaa.Wr
set_option linter.unusedVariables false
set_option linter.unusedSimpArgs false
def effA (t : List Int) : Option S48 := match unpack t 6 with
 | none => none
 | some (p, _) => effP p
def effsA : List (List Int) → Option (List S48)
 | [] => some []
 | t :: ts => match effA t with | none => none | some x => match effsA ts with | none => none | some l => some (x :: l)
def dotA (t : List Int) : Option (List Int) := match unpack t 2 with
 | none => none
 | some (d, _) => if d.length = 2 then wholes d else none
def evA (b : List Int) : Option (Int × Int × List Int × List S48) := match unpack b 18 with
 | none => none
 | some (l, n) => if 3 ≤ l.length then (match dotA (l.getD 0 []) with
  | none => none
  | some ns => (effsA (l.drop 2)).map fun es => (ns.getD 0 0, ns.getD 1 0, (readQ (l.getD 1 [])).1, es)) else none
theorem four_loop (p : List (List Int)) (hp : p.length = 6) (hb : ∀ t ∈ p, t.length ≤ 65536 ∧ Wr.Bytes t) (d : Nat) : ∀ (i : Nat) (ns : List Int), i + d = 4 → ns.length = i → Ev (fun k => hucksterref05_Get.l1 k p ns (i : Int)) ((wholes ((p.take 4).drop i)).map (ns ++ ·)) := by
 have hl4 : (p.take 4).length = 4 := by rw [List.length_take]; omega
 induction d with
 | zero =>
  intro i ns hi ho
  rw [List.drop_eq_nil_of_le (by omega)]
  have e : (wholes []).map (ns ++ ·) = some ns := by simp [wholes]
  rw [e]
  refine Ev.step (f := fun _ => some (some ns)) (fun k => ?_) (Ev.now _)
  simp only [hucksterref05_Get.l1]
  rw [if_neg (by omega)]
 | succ d ih =>
  intro i ns hi ho
  have hlt : i < p.length := by omega
  have ht := hb _ (List.getElem_mem hlt)
  rw [List.drop_eq_getElem_cons (show i < (p.take 4).length by omega), List.getElem_take]
  refine Ev.step (f := fun k => (hucksterref05_number.f k p[i]).bind fun x => if x.2 = true then hucksterref05_Get.l1 k p (ns ++ [x.1]) ((i + 1 : Nat) : Int) else some none) (fun k => ?_) ?_
  ·simp only [hucksterref05_Get.l1]
   rw [if_pos (by omega), if_pos (by omega), rdB_at hlt, ck_w (by omega)]
   simp only [if_pos (show ns.length < 17592186044416 by omega)]
  ·refine Ev.bind (number_ev _ ht.2 (by omega)) ?_
   unfold wholes
   cases hx : whole1 p[i] with
   | none => exact ck_else (by simp [numberR]) (Ev.now _)
   | some x =>
    refine ck_if rfl ?_
    have h1 := ih (i + 1) (ns ++ [x]) (by omega) (by rw [List.length_append, List.length_singleton]; omega)
    cases hw : wholes ((p.take 4).drop (i + 1)) with
    | none => rw [hw] at h1; exact h1
    | some l =>
     rw [hw] at h1
     show Ev (fun k => hucksterref05_Get.l1 k p (ns ++ [x]) ((i + 1 : Nat) : Int)) _
     simpa using h1
theorem effs_loop (l : List (List Int)) (hl : l.length ≤ 1000) (hb : ∀ t ∈ l, t.length ≤ 65536 ∧ Wr.Bytes t) (d : Nat) : ∀ (i : Nat) (acc : List S48), i + d = l.length → acc.length + 2 = i → Ev (fun k => hucksterref05_Get.l0 k l acc (i : Int)) ((effsA (l.drop i)).map (acc ++ ·)) := by
 induction d with
 | zero =>
  intro i acc hi ho
  rw [List.drop_eq_nil_of_le (by omega)]
  have e : (effsA []).map (acc ++ ·) = some acc := by simp [effsA]
  rw [e]
  refine Ev.step (f := fun _ => some (some acc)) (fun k => ?_) (Ev.now _)
  simp only [hucksterref05_Get.l0]
  rw [if_neg (by omega)]
 | succ d ih =>
  intro i acc hi ho
  have hlt : i < l.length := by omega
  have ht := hb _ (List.getElem_mem hlt)
  rw [List.drop_eq_getElem_cons hlt]
  refine Ev.step (f := fun k => (hucksterref02_Unpack.f k l[i] 6).bind fun x => if (x.1.length : Int) = 6 then ((hucksterref05_Get.l1 k x.1 [] 0).bind fun o => match o with
   | none => some none
   | some ns => if 3 < (ns.length : Int) then hucksterref05_Get.l0 k l (acc ++ [(⟨rd ns 0, rd ns 1, strOfNums (Hand.rdB x.1 4), rd ns 2, rd ns 3, strOfNums (Hand.rdB x.1 5)⟩ : S48)]) ((i + 1 : Nat) : Int) else none) else some none) (fun k => ?_) ?_
  ·simp only [hucksterref05_Get.l0]
   rw [if_pos (by omega), if_pos (by omega), rdB_at hlt, ck_w (by omega)]
   simp only [if_pos (show acc.length < 2199023255552 by omega)]
   rfl
  ·refine Ev.bind (refUnpack_ev _ ht.2 (by omega) 6 (by decide)) ?_
   unfold packR2 effsA effA
   cases hu : unpack l[i] 6 with
   | none => exact ck_else (by simp) (Ev.now _)
   | some q =>
    obtain ⟨p, n⟩ := q
    have hs := (unpack_some ht.2 hu).2.2.2.2.2
    unfold effP
    by_cases h6 : p.length = 6
    rotate_left
    ·simp only [if_neg h6]
     exact ck_else (by (try simp only); omega) (Ev.now _)
    simp only [if_pos h6]
    refine ck_if (by (try simp only); omega) ?_
    have h4 := four_loop p h6 hs 4 0 [] (by omega) rfl
    rw [List.drop_zero] at h4
    refine Ev.bind h4 ?_
    cases hw : wholes (p.take 4) with
    | none => exact Ev.now _
    | some ns =>
     have hln : ns.length = 4 := by rw [wholes_len hw, List.length_take]; omega
     obtain ⟨n0, n1, n2, n3, rfl⟩ := list4 hln
     refine ck_if (by simp) ?_
     obtain ⟨a, b, c, d', f, g, rfl⟩ := list6 h6
     have h1 := ih (i + 1) (acc ++ [(⟨n0, n1, strOfNums f, n2, n3, strOfNums g⟩ : S48)]) (by omega) (by rw [List.length_append, List.length_singleton]; omega)
     show Ev (fun k => hucksterref05_Get.l0 k l (acc ++ [(⟨n0, n1, strOfNums f, n2, n3, strOfNums g⟩ : S48)]) ((i + 1 : Nat) : Int)) _
     cases hw2 : effsA (l.drop (i + 1)) with
     | none => rw [hw2] at h1; simpa using h1
     | some m =>
      rw [hw2] at h1
      simpa using h1
theorem readQ_len (t : List Int) : (readQ t).1.length ≤ 140737488355328 := by
 unfold readQ
 cases h : readB t with
 | none => simp
 | some q =>
  obtain ⟨c, n⟩ := q
  unfold readB at h
  cases hu : unpack t 5 with
  | none => rw [hu] at h; cases h
  | some q =>
   obtain ⟨ts, m⟩ := q
   rw [hu] at h
   simp only at h
   cases hw : wholes ts with
   | none => rw [hw] at h; cases h
   | some c' =>
    rw [hw] at h
    simp only at h
    split at h
    ·rename_i hc
     have hh := Option.some.inj h
     injection hh with e1 e2
     subst e1
     have := plain_len c'
     simp only
     omega
    ·cases h
theorem effsA_len : ∀ {ts : List (List Int)} {l : List S48}, effsA ts = some l → l.length = ts.length
 | [], l, h => by obtain rfl := Option.some.inj h; rfl
 | t :: ts, l, h => by
  unfold effsA at h
  cases h1 : effA t with
  | none => rw [h1] at h; cases h
  | some n =>
   rw [h1] at h
   simp only at h
   cases h2 : effsA ts with
   | none => rw [h2] at h; cases h
   | some m =>
    rw [h2] at h
    obtain rfl := Option.some.inj h
    simp [effsA_len h2]
def evH (b : List Int) : Option (Int × Int × List Int × List S48) := match evA b with
 | none => none
 | some e => if OkEv e.1 e.2.1 e.2.2.1 e.2.2.2 ∧ evB e.1 e.2.1 e.2.2.1 e.2.2.2 = b then some e else none
def getR2 (o : Option (Int × Int × List Int × List S48)) : Int × Int × List Int × List S48 × Bool := match o with
 | none => hucksterref05_Get.fail
 | some e => (e.1, e.2.1, e.2.2.1, e.2.2.2, true)
theorem refEvGet_ev (b : List Int) (hb : Wr.Bytes b) (hn : b.length ≤ 140737488351232) : Ev (fun k => hucksterref05_Get.f k b) (getR2 (evH b)) := by
 unfold hucksterref05_Get.f evH evA
 refine Ev.bind (refUnpack_ev b hb hn 18 (by decide)) ?_
 unfold packR2
 cases hu : unpack b 18 with
 | none => exact ck_if (by simp) (Ev.now _)
 | some q =>
  obtain ⟨l, n⟩ := q
  have hs := unpack_some hb hu
  have hB := hs.2.2.2.2.2
  by_cases h3 : 3 ≤ l.length
  rotate_left
  ·simp only [if_neg h3]
   exact ck_if (by (try simp only); omega) (Ev.now _)
  refine ck_else (by (try simp only); omega) ?_
  simp only [if_pos h3]
  obtain ⟨t0, t1, r, rfl⟩ : ∃ t0 t1 r, l = t0 :: t1 :: r := by
   match l, h3 with
   | t0 :: t1 :: r, _ => exact ⟨t0, t1, r, rfl⟩
  have b0 := hB t0 (by simp)
  have b1 := hB t1 (by simp)
  simp only [List.getD_cons_zero, List.getD_cons_succ, List.drop_succ_cons, List.drop_zero]
  have e0 : Hand.rdB (t0 :: t1 :: r) 0 = t0 := rfl
  have e1 : Hand.rdB (t0 :: t1 :: r) 1 = t1 := rfl
  simp only [e0, e1]
  refine Ev.bind (refUnpack_ev t0 b0.2 (by omega) 2 (by decide)) ?_
  unfold packR2 dotA
  cases hd : unpack t0 2 with
  | none => exact ck_else (by simp) (Ev.now _)
  | some q =>
   obtain ⟨ds, m⟩ := q
   have hs2 := (unpack_some b0.2 hd).2.2.2.2.2
   by_cases h2 : ds.length = 2
   rotate_left
   ·simp only [if_neg h2]
    exact ck_else (by (try simp only); omega) (Ev.now _)
   refine ck_if (by (try simp only); omega) ?_
   simp only [if_pos h2]
   obtain ⟨d0, d1, rfl⟩ := list2 h2
   have c0 := hs2 d0 (by simp)
   have c1 := hs2 d1 (by simp)
   have e2 : Hand.rdB [d0, d1] 0 = d0 := rfl
   have e3 : Hand.rdB [d0, d1] 1 = d1 := rfl
   simp only [e2, e3]
   refine Ev.bind (number_ev d0 c0.2 (by omega)) ?_
   refine Ev.bind (number_ev d1 c1.2 (by omega)) ?_
   refine Ev.bind (refRead_ev t1 b1.2 (by omega)) ?_
   unfold wholes wholes wholes
   cases hw0 : whole1 d0 with
   | none => exact ck_else (by simp [numberR]) (Ev.now _)
   | some n0 =>
    refine ck_if rfl ?_
    cases hw1 : whole1 d1 with
    | none => exact ck_else (by simp [numberR]) (Ev.now _)
    | some n1 =>
     refine ck_if rfl ?_
     have hl := effs_loop (t0 :: t1 :: r) (by have := hs.2.1; omega) hB r.length 2 [] (by simp; omega) rfl
     have e4 : (effsA ((t0 :: t1 :: r).drop 2)).map (([] : List S48) ++ ·) = effsA r := by
      show (effsA r).map _ = effsA r
      cases effsA r <;> rfl
     rw [e4] at hl
     refine Ev.bind hl ?_
     cases hx : effsA r with
     | none => exact Ev.now _
     | some es =>
      have hes := effsA_len hx
      have hr : r.length ≤ 18 := by have := hs.2.1; simp at this; omega
      refine Ev.bind (refMay_ev n0 n1 (readQ t1).1 es (readQ_len t1) (by omega)) ?_
      by_cases hk : OkEv n0 n1 (readQ t1).1 es
      rotate_left
      ·refine ck_else (by rw [decide_eq_false hk]; decide) ?_
       have e5 : (if OkEv n0 n1 (readQ t1).1 es ∧ evB n0 n1 (readQ t1).1 es = b then some (n0, n1, (readQ t1).1, es) else none) = none := if_neg (fun h => hk h.1)
       exact ev_is (congrArg (fun o => some (getR2 o)) e5.symm)
      refine ck_if (decide_eq_true hk) ?_
      refine Ev.bind (refEvPut_ev hk) ?_
      refine Ev.bind (eq_ev (evB n0 n1 (readQ t1).1 es) b (by have := evB_le hk; omega)) ?_
      by_cases hq : evB n0 n1 (readQ t1).1 es = b
      ·refine ck_if (decide_eq_true hq) ?_
       have e5 : (if OkEv n0 n1 (readQ t1).1 es ∧ evB n0 n1 (readQ t1).1 es = b then some (n0, n1, (readQ t1).1, es) else none) = some (n0, n1, (readQ t1).1, es) := if_pos ⟨hk, hq⟩
       exact ev_is (congrArg (fun o => some (getR2 o)) e5.symm)
      ·refine ck_else (show ¬ decide (evB n0 n1 (readQ t1).1 es = b) = true by rw [decide_eq_false hq]; decide) ?_
       have e5 : (if OkEv n0 n1 (readQ t1).1 es ∧ evB n0 n1 (readQ t1).1 es = b then some (n0, n1, (readQ t1).1, es) else none) = none := if_neg (fun h => hq h.2)
       exact ev_is (congrArg (fun o => some (getR2 o)) e5.symm)
end Go.Proofs.Ytgocnchjpecafaa.PEv
namespace Go.Proofs.Ytgocnchjpecafaa.PEv
open Go.RowKit Go.Proofs.YtgocnchjpecafaaW.PrintWords Go.Proofs.YtgocnchjpecafaaW.PrintLast Go.Proofs.Ytgocnchjpecafaa.ClockBase Go.Proofs.Ytgocnchjpecafaa.Wr
set_option linter.unusedVariables false
set_option linter.unusedSimpArgs false
theorem effA_of {t : List Int} {x : S48} (h : effD t = some x) : effA t = some x := by
 unfold effD at h
 unfold effA
 cases hu : unpack t 6 with
 | none => rw [hu] at h; cases h
 | some q =>
  rw [hu] at h
  simp only at h
  split at h
  ·exact h
  ·cases h
theorem effsA_of : ∀ {ts : List (List Int)} {l : List S48}, effsD ts = some l → effsA ts = some l
 | [], l, h => h
 | t :: ts, l, h => by
  unfold effsD at h
  unfold effsA
  cases h1 : effD t with
  | none => rw [h1] at h; cases h
  | some n =>
   rw [h1] at h
   rw [effA_of h1]
   simp only at h ⊢
   cases h2 : effsD ts with
   | none => rw [h2] at h; cases h
   | some m =>
    rw [h2] at h
    rw [effsA_of h2]
    exact h
theorem dotA_of {t : List Int} {ns : List Int} (h : dotD t = some ns) : dotA t = some ns := by
 unfold dotD at h
 unfold dotA
 cases hu : unpack t 2 with
 | none => rw [hu] at h; cases h
 | some q =>
  rw [hu] at h
  simp only at h ⊢
  split at h
  ·rename_i hn
   rw [if_pos hn.2]
   exact h
  ·cases h
theorem readQ_of {t c : List Int} (h : pastD t = some c) : (readQ t).1 = c := by
 unfold pastD at h
 unfold readQ
 cases hu : readB t with
 | none => rw [hu] at h; cases h
 | some q =>
  rw [hu] at h
  simp only at h ⊢
  split at h
  ·exact Option.some.inj h
  ·cases h
theorem evA_of {b : List Int} {e : Int × Int × List Int × List S48} (h : evD b = some e) : evA b = some e := by
 unfold evD at h
 unfold evA
 cases hu : unpack b 18 with
 | none => rw [hu] at h; cases h
 | some q =>
  obtain ⟨l, n⟩ := q
  rw [hu] at h
  simp only at h ⊢
  split at h
  ·rename_i hn
   rw [if_pos hn.2]
   cases h1 : dotD (l.getD 0 []) with
   | none => rw [h1] at h; cases h
   | some ns =>
    rw [h1] at h
    rw [dotA_of h1]
    simp only at h ⊢
    cases h2 : pastD (l.getD 1 []) with
    | none => rw [h2] at h; cases h
    | some past =>
     rw [h2] at h
     simp only at h
     rw [readQ_of h2]
     cases h3 : effsD (l.drop 2) with
     | none => rw [h3] at h; cases h
     | some es =>
      rw [h3] at h
      rw [effsA_of h3]
      exact h
  ·cases h
theorem evH_eq {b : List Int} (hb : Wr.Bytes b) : evH b = evG b := by
 cases hg : evG b with
 | some e =>
  obtain ⟨x, y, past, es⟩ := e
  obtain ⟨hk, he⟩ := (evG_iff hb x y past es).mp hg
  have hd : evD b = some (x, y, past, es) := by rw [he]; exact evD_put hk
  unfold evH
  rw [evA_of hd]
  exact if_pos ⟨hk, he.symm⟩
 | none =>
  unfold evH
  cases ha : evA b with
  | none => rfl
  | some e =>
   obtain ⟨x, y, past, es⟩ := e
   refine if_neg fun h => ?_
   have := (evG_iff hb x y past es).mpr ⟨h.1, h.2.symm⟩
   rw [hg] at this
   cases this
theorem evSame_loop (a b : Int) (past : List Int) (es : List S48) (hn : es.length ≤ 140737488355328) (d : Nat) : ∀ (i : Nat), i + d = es.length → Ev (fun k => hucksterref05_Same.l0 k (i : Int) a b past es a b past es) true := by
 induction d with
 | zero =>
  intro i hi
  refine Ev.step (f := fun _ => some true) (fun k => ?_) (Ev.now _)
  simp only [hucksterref05_Same.l0]
  rw [if_neg (by omega)]
 | succ d ih =>
  intro i hi
  refine Ev.step (f := fun k => hucksterref05_Same.l0 k ((i + 1 : Nat) : Int) a b past es a b past es) (fun k => ?_) (ih (i + 1) (by omega))
  simp only [hucksterref05_Same.l0]
  rw [if_pos (by omega), if_pos (by omega), if_pos (by omega), if_neg (by simp), ck_w (by omega)]
theorem evSame_ev (a b : Int) (past : List Int) (es : List S48) (hp : past.length ≤ 140737488355328) (hn : es.length ≤ 140737488355328) : Ev (fun k => hucksterref05_Same.f k a b past es a b past es) true := by
 unfold hucksterref05_Same.f
 refine ck_else (by simp) ?_
 refine Ev.bind (same_yes past hp) ?_
 refine ck_if rfl ?_
 have e : ((es.length : Int) != (es.length : Int)) = false := by simp
 rw [e]
 exact Ev.step (f := fun k => hucksterref05_Same.l0 k 0 a b past es a b past es) (fun k => rfl) (evSame_loop a b past es hn es.length 0 (by omega))
end Go.Proofs.Ytgocnchjpecafaa.PEv
namespace Go.Proofs.Ytgocnchjpecafaa.Pure
open Go.RowKit Go.Proofs.Ytgocnchjpecafaa.PEv Go.Proofs.YtgocnchjpecafaaW.PrintWords Go.Proofs.YtgocnchjpecafaaW.PrintLast Go.Proofs.Ytgocnchjpecafaa.ClockBase Go.Proofs.Ytgocnchjpecafaa.Wr
theorem EventGets : hucksterlaw05_EventGets.Pure := by
 intro l0 hl hl2 hb
 refine Ev.rounds (g := fun k => hucksterlaw05_EventGets.f k l0) ?_
 have hB : Wr.Bytes l0 := fun x hx => by
  have := bounds_u8 (hb x hx)
  omega
 unfold hucksterlaw05_EventGets.f
 by_cases h1 : (l0.length : Int) > 3000
 ·exact ck_if h1 (Ev.bind awake5_ev (Ev.now _))
 refine ck_else h1 ?_
 refine Ev.bind (ev_is rfl) ?_
 refine ck_if (by simp; omega) ?_
 rw [List.nil_append]
 refine Ev.bind (evGet_ev l0 hB (by omega)) ?_
 refine Ev.bind (refEvGet_ev l0 hB (by omega)) ?_
 rw [evH_eq hB]
 cases hg : evG l0 with
 | none =>
  refine Ev.bind (evSame_ev 0 0 [] [] (by simp) (by simp)) ?_
  refine ck_if rfl ?_
  refine ck_if rfl ?_
  exact ck_if rfl (Ev.bind awake5_ev (Ev.now _))
 | some e =>
  obtain ⟨x, y, past, es⟩ := e
  obtain ⟨hk, he⟩ := (evG_iff hB x y past es).mp hg
  refine Ev.bind (evSame_ev x y past es (by have := (okC_iff.mp hk.2.2.2.2.1).1; omega) (by have := hk.2.2.2.2.2.2.2.2.1; omega)) ?_
  refine ck_if rfl ?_
  refine ck_if rfl ?_
  exact ck_if rfl (Ev.bind awake5_ev (Ev.now _))
end Go.Proofs.Ytgocnchjpecafaa.Pure
namespace Go.Proofs.Ytgocnchjpecafaa.eventGets
open Go.ChangeShapes Go.WideShapes Go.ChangeAt Go.RowKit
open Go.ChangeMaps (open_string shut_string)
set_option linter.unusedVariables false
theorem own : ownKnob Try.prog.godebug = none := by kernel_rfl
theorem laidOut : laidOutB Try.prog = true := by kernel_rfl
def IsRow (k : IntKind) (w : World) (a : Option Addr) (len cap : Nat) (zs : List Int) : Prop :=
 (a = none ∧ len = 0 ∧ cap = 0 ∧ zs = []) ∨
 ∃ x, a = some x ∧ len ≤ cap ∧ cap ≤ maxLen ∧ zs.length = cap ∧ (∀ i, i < zs.length → w.cell? (x.add i) = some (.int k (zs.getD i 0))) ∧ ∀ n ∈ zs, (Lit.int k n).wf = true
set_option maxRecDepth 100000 in
theorem lifted (os : Os) (started : os.Started) (H : Type) (enc : TypeId × Value → H) :
  ReturnsInHanded {} Try.checked os 3 .any (Rows.eventGetsSpec.pre6 enc Try.prog Try.f3 Rows.eventGetsRow.domain false) (Rows.eventGetsSpec.post enc Try.prog Try.f3 false true false false) := by
 refine returnsInHanded_of_change_sized (C := Try.checked) own started (by kernel_rfl) Try.func3
  (ChangeSpec.witness6 (enc := enc) (C := Try.checked) false ⟨#[], #[.slice none 0 0], []⟩ 8 (by kernel_rfl) (by kernel_rfl) (by kernel_rfl) (by kernel_rfl)) ?_
 intro W base args ds gs before hval0 hW hcnd hsz0 _
 have hsz : (DataW.weightsEach Try.prog (Try.f3.params.toList ++ Rows.eventGetsSpec.plain.varTypes Try.prog) (ds ++ gs)).all (· ≤ reachBytes) = true := hsz0
 have hval : ∀ (j : Nat) t v, Try.f3.params[j]? = some t → args[j]? = some v → Value.okWide Try.prog W .any base t v := hval0
 have hW' := hW
 obtain ⟨p, q, hA0, hV, rfl, hfz, hnd⟩ := hW
 have hA : DataW.TrodAll enc Try.prog W 0 (fun _ => true) true Try.f3.params.toList args.toList ds p := hA0
 rw [Try.params3] at hA hval hsz
 obtain ⟨v0, vs0, d0, ds0, p0, q0, hargs, rfl, rfl, h0, r0⟩ := trodAll_cons hA
 obtain ⟨rfl, rfl, rfl⟩ := trodAll_nil r0
 obtain rfl : args = #[v0] := by cases args; simp_all
 obtain ⟨rfl, rfl⟩ := trodVars_none hV
 obtain ⟨a0, len0, cap0, rfl⟩ := okWide_slice Try.underlying22 (hval 0 22 v0 rfl rfl)
 have k0 := h0
 have lt0 : ∀ x ∈ p0, x.block < W.heap.size := by obtain ⟨m, hm⟩ := k0; exact DataW.trod_lt m _ _ _ hm
 obtain ⟨z0, w0⟩ : ∃ zs, IsRow .u8 W a0 len0 cap0 zs := by
  obtain ⟨fuel, hf⟩ := h0
  rcases open_ints Try.underlying22 Try.underlying5 (by kernel_rfl) hf with ⟨hcs, _⟩ | ⟨x, l, c, zs, hcs, _, hl, hm, hz, _, hcell, hwz⟩
  ·simp [Value.cells] at hcs
   obtain ⟨rfl, rfl, rfl⟩ := hcs
   exact ⟨[], .inl ⟨rfl, rfl, rfl, rfl⟩⟩
  ·simp [Value.cells] at hcs
   obtain ⟨rfl, rfl, rfl⟩ := hcs
   exact ⟨zs, .inr ⟨_, rfl, hl, hm, by simpa using hz, hcell, hwz⟩⟩
 have y0 : len0 * 1 ≤ 140737488351232 := Go.Proofs.YtgocnchjpecafaaW.PrintWords.sized_ints hsz (j := 0) (t := 22) rfl rfl Try.underlying22 Try.underlying5 (by kernel_rfl) (by kernel_rfl) h0
 clear hA0 hval0 hsz0 hsz
 refine (PEv.hucksterlaw05_EventGets.walk Pure.EventGets a0 len0 cap0 z0 W w0 y0).mono fun e W' ⟨he, bel⟩ => ?_
 subst he
 exact ⟨_, rfl, _, _, _, [], _, [], hW', trodAll_mk1 (shut_bool Try.underlying4 _), (trodAll_cons_mk (Below.trod laidOut (by kernel_rfl) (of_decide_eq_true (by kernel_rfl)) k0 bel lt0) trodAll_mk0), rfl, bel.frame _, fun h => by cases h⟩
theorem over : Rows.eventGetsRow.holds Try.pinned (OpenSpec.ofChange Rows.eventGetsSpec) :=
 OpenClaim.holds_of_wide 3 Try.f3 rfl rfl rfl rfl rfl rfl rfl ⟨rfl, rfl, rfl, rfl, rfl⟩ rfl rfl rfl rfl rfl (by kernel_rfl) Try.func3 (by kernel_rfl)
  (of_decide_eq_true (by kernel_rfl)) (by unfold Func.isWrapper; first | (rw [if_pos (by decide +kernel)]; kernel_rfl) | (rw [if_neg (by decide +kernel)]; exact ⟨rfl, rfl⟩))
  (fun os started H enc _ => lifted os started H enc)
theorem proved : Rows.EventGetsSaid := over
end Go.Proofs.Ytgocnchjpecafaa.eventGets
namespace Go.Proofs.Ytgocnchjpecafaa
theorem eventGets_holds : Rows.EventGetsSaid := eventGets.proved
end Go.Proofs.Ytgocnchjpecafaa

/- EventOne: for every input the law returns true. -/
import Derived.Test.YtgocnchjpecafaaEvPure
import Derived.Test.YtgocnchjpecafaaPEvx17
import Derived.Test.YtgocnchjpecafaaPEvx3
import Derived.Test.YtgocnchjpecafaaPEvx18
import Derived.Test.YtgocnchjpecafaaRows
import Derived.WalkKit
import Derived.ProofKit
import Derived.OpenShut
import Derived.ShutString
import Derived.ChangeOld
import Derived.Below
import Derived.SizedLaws
import Derived.Test.YtgocnchjpecafaaWSized
namespace Go.Proofs.Ytgocnchjpecafaa.PEv
open Go.RowKit Go.Proofs.YtgocnchjpecafaaW.PrintWords Go.Proofs.YtgocnchjpecafaaW.PrintLast Go.Proofs.Ytgocnchjpecafaa.ClockBase Go.Proofs.Ytgocnchjpecafaa.Wr
set_option linter.unusedVariables false
set_option linter.unusedSimpArgs false
theorem nums_loop (l : List Int) (hl : l.length ≤ 1000) (hs : ∀ n ∈ l, 0 ≤ n ∧ n ≤ 1048576) (d : Nat) : ∀ (i : Nat), i + d = l.length → Ev (fun k => event_nums.l0 k ((numsB l).take i) l (l.length : Int) (i : Int)) (numsB l) := by
 have hn : (numsB l).length = l.length := by unfold numsB; rw [List.length_map]
 induction d with
 | zero =>
  intro i hi
  obtain rfl : i = l.length := by omega
  have e : (numsB l).take l.length = numsB l := by rw [← hn, List.take_length]
  rw [e]
  refine Ev.step (f := fun k => some (numsB l)) (fun k => ?_) (Ev.now _)
  simp only [event_nums.l0]
  rw [if_neg (by omega)]
 | succ d ih =>
  intro i hi
  have hlt : i < l.length := by omega
  have hg := hs _ (List.getElem_mem hlt)
  have hlen : ((numsB l).take i).length < 5864062014805 := by rw [List.length_take]; omega
  have ht : (numsB l).take (i + 1) = (numsB l).take i ++ [num (l[i]).toNat] := by
   rw [List.take_add_one, List.getElem?_eq_getElem (by omega)]
   simp [numsB]
  refine Ev.step (f := fun k => (wire_Num.f k (((l[i]).toNat : Nat) : Int)).bind fun t => event_nums.l0 k ((numsB l).take i ++ [t]) l (l.length : Int) ((i + 1 : Nat) : Int)) (fun k => ?_) ?_
  ·simp only [event_nums.l0]
   rw [if_pos (by omega), if_pos (by omega), if_pos (by omega), ck_rd hlt, small_u64 hg.1 hg.2, ck_w (by omega)]
   simp only [if_pos hlen]
  ·refine Ev.bind (num_ev _ (by omega)) ?_
   rw [← ht]
   exact ih (i + 1) (by omega)
theorem nums_ev (l : List Int) (hl : l.length ≤ 1000) (hs : ∀ n ∈ l, 0 ≤ n ∧ n ≤ 1048576) : Ev (fun k => event_nums.f k l) (numsB l) := by
 have := nums_loop l hl hs l.length 0 (by omega)
 rw [List.take_zero] at this
 exact this
theorem evPut_loop (es : List S48) (hes : es.length ≤ 16) (hk : ∀ x ∈ es, OkEff x) (p q : List Int) (hp : p.length ≤ 447) (hq : q.length ≤ 447) (d : Nat) : ∀ (i : Nat), i + d = es.length → Ev (fun k => event_Put.l0 k es ([p, q] ++ (es.map effB).take i) (i : Int)) (pack ([p, q] ++ es.map effB)) := by
 have hn : (es.map effB).length = es.length := by rw [List.length_map]
 induction d with
 | zero =>
  intro i hi
  obtain rfl : i = es.length := by omega
  have e : (es.map effB).take es.length = es.map effB := by rw [← hn, List.take_length]
  rw [e]
  refine Ev.step (f := fun k => wire_Pack.f k ([p, q] ++ es.map effB)) (fun k => ?_) ?_
  ·simp only [event_Put.l0]
   rw [if_neg (by omega)]
  ·refine pack_ev _ (by rw [List.length_append, hn]; simp only [List.length_cons, List.length_nil]; omega) (fun t ht => ?_)
   rcases List.mem_append.mp ht with ht | ht
   ·simp only [List.mem_cons, List.not_mem_nil, or_false] at ht
    rcases ht with rfl | rfl <;> omega
   ·obtain ⟨x, hx, rfl⟩ := List.mem_map.mp ht
    have := effB_le (hk x hx)
    omega
 | succ d ih =>
  intro i hi
  have hlt : i < es.length := by omega
  have hx := hk _ (List.getElem_mem hlt)
  have hw := eff_word hx
  have hlen : ([p, q] ++ (es.map effB).take i).length < 5864062014805 := by rw [List.length_append, List.length_take]; simp only [List.length_cons, List.length_nil]; omega
  have ht : [p, q] ++ (es.map effB).take (i + 1) = ([p, q] ++ (es.map effB).take i) ++ [effB es[i]] := by
   rw [List.take_add_one, List.getElem?_eq_getElem (by omega)]
   simp
  refine Ev.step (f := fun k => (event_nums.f k [(es[i]).f0, (es[i]).f1, (es[i]).f3, (es[i]).f4]).bind fun t => if t.length + 2 < 5864062014805 ∧ (es[i]).f2.size ≤ 9223372036854775807 ∧ (es[i]).f5.size ≤ 9223372036854775807 then ((wire_Pack.f k (t ++ [bytesOf (es[i]).f2, bytesOf (es[i]).f5])).bind fun r => event_Put.l0 k es (([p, q] ++ (es.map effB).take i) ++ [r]) ((i + 1 : Nat) : Int)) else none) (fun k => ?_) ?_
  ·simp only [event_Put.l0]
   rw [if_pos (by omega), if_pos (by omega), rdT_at hlt, ck_w (by omega)]
   simp only [if_pos hlen]
  ·refine Ev.bind (nums_ev _ (by simp) (eff_nums hx)) ?_
   refine ck_if ⟨by simp [numsB], by omega, by omega⟩ ?_
   refine Ev.bind (pack_ev _ (by simp [numsB]) (fun t ht => by have := eff_texts hx t ht; omega)) ?_
   have := ih (i + 1) (by omega)
   rw [ht] at this
   exact this
theorem evPut_ev (a b : Int) (past : List Int) (es : List S48) : Ev (fun k => event_Put.f k a b past es) (if OkEv a b past es then (evB a b past es, 0) else ([], 1)) := by
 unfold event_Put.f
 refine Ev.bind (evCheck_ev a b past es) ?_
 by_cases hk : OkEv a b past es
 rotate_left
 ·rw [if_neg hk, if_neg hk]
  exact ck_else (by decide) (Ev.now _)
 rw [if_pos hk, if_pos hk]
 refine ck_if rfl ?_
 obtain ⟨h1, h2, h3, h4, h5, h6, h7, h8, h9, h0⟩ := hk
 refine Ev.bind (nums_ev [a, b] (by simp) (dot_nums h1 h2 h3 h4)) ?_
 refine Ev.bind (pack_ev _ (by simp [numsB]) (fun t ht => by have := dot_texts h1 h2 h3 h4 t ht; omega)) ?_
 refine Ev.bind (put_ev past) ?_
 have := evPut_loop es h9 h0 (pack (numsB [a, b])) (putB past) (by have := dotB_le h1 h2 h3 h4; omega) (by have := putB_len past; omega) es.length 0 (by omega)
 rw [List.take_zero, List.append_nil] at this
 exact Ev.bind this (Ev.now _)
end Go.Proofs.Ytgocnchjpecafaa.PEv
namespace Go.Proofs.Ytgocnchjpecafaa.Pure
open Go.RowKit Go.Proofs.Ytgocnchjpecafaa.PEv Go.Proofs.YtgocnchjpecafaaW.PrintWords Go.Proofs.YtgocnchjpecafaaW.PrintLast Go.Proofs.Ytgocnchjpecafaa.ClockBase Go.Proofs.Ytgocnchjpecafaa.Wr
theorem EventOne : hucksterlaw05_EventOne.Pure := by
 intro l0 hl hl2 hb
 have hB : Wr.Bytes l0 := fun x hx => by
  have := bounds_u8 (hb x hx)
  omega
 have key : Ev (fun k => hucksterlaw05_EventOne.f k l0) true := by
  unfold hucksterlaw05_EventOne.f
  by_cases h1 : (l0.length : Int) > 3000
  ·exact ck_if h1 (Ev.bind awake5_ev (Ev.now _))
  refine ck_else h1 ?_
  refine Ev.bind (ev_is rfl) ?_
  refine ck_if (by simp; omega) ?_
  rw [List.nil_append]
  refine Ev.bind (evGet_ev l0 hB (by omega)) ?_
  cases hg : evG l0 with
  | none =>
   refine ck_else (by simp [getR, event_Get.fail]) ?_
   exact ck_if rfl (Ev.bind awake5_ev (Ev.now _))
  | some e =>
   obtain ⟨x, y, past, es⟩ := e
   obtain ⟨hk, he⟩ := (evG_iff hB x y past es).mp hg
   refine ck_if rfl ?_
   refine Ev.bind (evPut_ev x y past es) ?_
   rw [if_pos hk]
   refine ck_if rfl ?_
   refine Ev.bind (eq_ev l0 (evB x y past es) (by omega)) ?_
   exact ck_if (decide_eq_true he) (Ev.bind awake5_ev (Ev.now _))
 obtain ⟨n, hn⟩ := key
 exact ⟨n, hn n (Nat.le_refl n)⟩
end Go.Proofs.Ytgocnchjpecafaa.Pure
namespace Go.Proofs.Ytgocnchjpecafaa.eventOne
open Go.ChangeShapes Go.WideShapes Go.ChangeAt Go.RowKit
open Go.ChangeMaps (open_string shut_string)
set_option linter.unusedVariables false
theorem own : ownKnob Try.prog.godebug = none := by kernel_rfl
theorem laidOut : laidOutB Try.prog = true := by kernel_rfl
def IsRow (k : IntKind) (w : World) (a : Option Addr) (len cap : Nat) (zs : List Int) : Prop :=
 (a = none ∧ len = 0 ∧ cap = 0 ∧ zs = []) ∨
 ∃ x, a = some x ∧ len ≤ cap ∧ cap ≤ maxLen ∧ zs.length = cap ∧ (∀ i, i < zs.length → w.cell? (x.add i) = some (.int k (zs.getD i 0))) ∧ ∀ n ∈ zs, (Lit.int k n).wf = true
set_option maxRecDepth 100000 in
theorem lifted (os : Os) (started : os.Started) (H : Type) (enc : TypeId × Value → H) :
  ReturnsInHanded {} Try.checked os 5 .any (Rows.eventOneSpec.pre6 enc Try.prog Try.f5 Rows.eventOneRow.domain false) (Rows.eventOneSpec.post enc Try.prog Try.f5 false true false false) := by
 refine returnsInHanded_of_change_sized (C := Try.checked) own started (by kernel_rfl) Try.func5
  (ChangeSpec.witness6 (enc := enc) (C := Try.checked) false ⟨#[], #[.slice none 0 0], []⟩ 8 (by kernel_rfl) (by kernel_rfl) (by kernel_rfl) (by kernel_rfl)) ?_
 intro W base args ds gs before hval0 hW hcnd hsz0 _
 have hsz : (DataW.weightsEach Try.prog (Try.f5.params.toList ++ Rows.eventOneSpec.plain.varTypes Try.prog) (ds ++ gs)).all (· ≤ reachBytes) = true := hsz0
 have hval : ∀ (j : Nat) t v, Try.f5.params[j]? = some t → args[j]? = some v → Value.okWide Try.prog W .any base t v := hval0
 have hW' := hW
 obtain ⟨p, q, hA0, hV, rfl, hfz, hnd⟩ := hW
 have hA : DataW.TrodAll enc Try.prog W 0 (fun _ => true) true Try.f5.params.toList args.toList ds p := hA0
 rw [Try.params5] at hA hval hsz
 obtain ⟨v0, vs0, d0, ds0, p0, q0, hargs, rfl, rfl, h0, r0⟩ := trodAll_cons hA
 obtain ⟨rfl, rfl, rfl⟩ := trodAll_nil r0
 obtain rfl : args = #[v0] := by cases args; simp_all
 obtain ⟨rfl, rfl⟩ := trodVars_none hV
 obtain ⟨a0, len0, cap0, rfl⟩ := okWide_slice Try.underlying22 (hval 0 22 v0 rfl rfl)
 have k0 := h0
 have lt0 : ∀ x ∈ p0, x.block < W.heap.size := by obtain ⟨m, hm⟩ := k0; exact DataW.trod_lt m _ _ _ hm
 obtain ⟨z0, w0⟩ : ∃ zs, IsRow .u8 W a0 len0 cap0 zs := by
  obtain ⟨fuel, hf⟩ := h0
  rcases open_ints Try.underlying22 Try.underlying5 (by kernel_rfl) hf with ⟨hcs, _⟩ | ⟨x, l, c, zs, hcs, _, hl, hm, hz, _, hcell, hwz⟩
  ·simp [Value.cells] at hcs
   obtain ⟨rfl, rfl, rfl⟩ := hcs
   exact ⟨[], .inl ⟨rfl, rfl, rfl, rfl⟩⟩
  ·simp [Value.cells] at hcs
   obtain ⟨rfl, rfl, rfl⟩ := hcs
   exact ⟨zs, .inr ⟨_, rfl, hl, hm, by simpa using hz, hcell, hwz⟩⟩
 have y0 : len0 * 1 ≤ 140737488351232 := Go.Proofs.YtgocnchjpecafaaW.PrintWords.sized_ints hsz (j := 0) (t := 22) rfl rfl Try.underlying22 Try.underlying5 (by kernel_rfl) (by kernel_rfl) h0
 clear hA0 hval0 hsz0 hsz
 refine (PEv.hucksterlaw05_EventOne.walk Pure.EventOne a0 len0 cap0 z0 W w0 y0).mono fun e W' ⟨he, bel⟩ => ?_
 subst he
 exact ⟨_, rfl, _, _, _, [], _, [], hW', trodAll_mk1 (shut_bool Try.underlying4 _), (trodAll_cons_mk (Below.trod laidOut (by kernel_rfl) (of_decide_eq_true (by kernel_rfl)) k0 bel lt0) trodAll_mk0), rfl, bel.frame _, fun h => by cases h⟩
theorem over : Rows.eventOneRow.holds Try.pinned (OpenSpec.ofChange Rows.eventOneSpec) :=
 OpenClaim.holds_of_wide 5 Try.f5 rfl rfl rfl rfl rfl rfl rfl ⟨rfl, rfl, rfl, rfl, rfl⟩ rfl rfl rfl rfl rfl (by kernel_rfl) Try.func5 (by kernel_rfl)
  (of_decide_eq_true (by kernel_rfl)) (by unfold Func.isWrapper; first | (rw [if_pos (by decide +kernel)]; kernel_rfl) | (rw [if_neg (by decide +kernel)]; exact ⟨rfl, rfl⟩))
  (fun os started H enc _ => lifted os started H enc)
theorem proved : Rows.EventOneSaid := over
end Go.Proofs.Ytgocnchjpecafaa.eventOne
namespace Go.Proofs.Ytgocnchjpecafaa
theorem eventOne_holds : Rows.EventOneSaid := eventOne.proved
end Go.Proofs.Ytgocnchjpecafaa

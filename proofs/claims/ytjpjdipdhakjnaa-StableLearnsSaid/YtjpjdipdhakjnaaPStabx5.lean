-- Written by a program of this session (a patched printer) out of the translation. Not trusted: Lean checks it.
import Derived.Test.YtjpjdipdhakjnaaPStabx0
import Derived.Test.YtjpjdipdhakjnaaPStabx1
import Derived.Test.YtjpjdipdhakjnaaPStabx2
import Derived.Test.YtjpjdipdhakjnaaPStabx3
import Derived.Test.YtjpjdipdhakjnaaPStabx4
namespace Go.Proofs.Ytjpjdipdhakjnaa.PStab
open Go.RowKit Go.Proofs.YtjpjdipdhakjnaaW.PrintWords Go.Proofs.YtjpjdipdhakjnaaW.PrintLast Go.Proofs.YtjpjdipdhakjnaaW.PrintMore
attribute [local go_sem] max2_int min2_int max_two min_two max_three min_three max_four min_four   -- for this text's walks alone
set_option linter.unusedVariables false
set_option linter.unusedSimpArgs false

/-! ### hucksterlaw29_StableLearns: function 7 -/
mutual
def hucksterlaw29_StableLearns.j0 : Nat → List (List Int) → Bool → List Int → Int → List Int → Option (Bool)
  | 0, _, _, _, _, _ => none
  | k + 1, x0, x21, x247000, x247001, x247002 => if x21 = true then ((hucksterlaw29_awake.f k).bind fun t252 => (some t252)) else ((stable_New.f x247001).bind fun bt253 => ((stable_Learn.f k x0 x247000 x247001 x247002).bind fun bt257 => ((stable_Stable.f k x0 x247000).bind fun t261 => (if x247001 ≥ 1 then (if ((bt253.2 == 0) != (decide (x247001 ≤ 5))) = true then (hucksterlaw29_StableLearns.j1 k x0 bt257.1 bt257.2 t261 true x247000 x247001 x247002) else (if bt253.2 = 0 then (if (bt253.1.length : Int) = x247001 then (hucksterlaw29_StableLearns.j1 k x0 bt257.1 bt257.2 t261 false x247000 x247001 x247002) else (hucksterlaw29_StableLearns.j1 k x0 bt257.1 bt257.2 t261 true x247000 x247001 x247002)) else (if bt253.2 = 1 then (hucksterlaw29_StableLearns.j1 k x0 bt257.1 bt257.2 t261 ((bt253.1.length : Int) != 0) x247000 x247001 x247002) else (hucksterlaw29_StableLearns.j1 k x0 bt257.1 bt257.2 t261 true x247000 x247001 x247002)))) else (if ((bt253.2 == 0) != false) = true then (hucksterlaw29_StableLearns.j1 k x0 bt257.1 bt257.2 t261 true x247000 x247001 x247002) else (if bt253.2 = 0 then (if (bt253.1.length : Int) = x247001 then (hucksterlaw29_StableLearns.j1 k x0 bt257.1 bt257.2 t261 false x247000 x247001 x247002) else (hucksterlaw29_StableLearns.j1 k x0 bt257.1 bt257.2 t261 true x247000 x247001 x247002)) else (if bt253.2 = 1 then (hucksterlaw29_StableLearns.j1 k x0 bt257.1 bt257.2 t261 ((bt253.1.length : Int) != 0) x247000 x247001 x247002) else (hucksterlaw29_StableLearns.j1 k x0 bt257.1 bt257.2 t261 true x247000 x247001 x247002))))))))
def hucksterlaw29_StableLearns.j1 : Nat → List (List Int) → List (List Int) → Int → List Int → Bool → List Int → Int → List Int → Option (Bool)
  | 0, _, _, _, _, _, _, _, _ => none
  | k + 1, x0, x7, x8, x9, x78, x247000, x247001, x247002 => if x78 = true then (some false) else ((hucksterref29_May.f k x0 x247000).bind fun t264 => (if t264 = true then ((hucksterref29_Stable.f k x0 x247000).bind fun t266 => ((hucksterref03_Same.f k x9 t266).bind fun t269 => (if t269 = true then ((hucksterref03_May.f k x247002).bind fun t270 => (if t270 = true then (if x247001 < 1 then (hucksterlaw29_StableLearns.j2 k x0 x7 x8 true x247000 x247001 x247002) else (hucksterlaw29_StableLearns.j2 k x0 x7 x8 (decide (x247001 > (x0.length : Int))) x247000 x247001 x247002)) else (hucksterlaw29_StableLearns.j2 k x0 x7 x8 true x247000 x247001 x247002))) else (some false)))) else (if x8 = 1 then (if (x7.length : Int) = 0 then (if (x9.length : Int) = 0 then ((hucksterlaw29_awake.f k).bind fun t265 => (some t265)) else (some false)) else (some false)) else (some false))))
def hucksterlaw29_StableLearns.j2 : Nat → List (List Int) → List (List Int) → Int → Bool → List Int → Int → List Int → Option (Bool)
  | 0, _, _, _, _, _, _, _ => none
  | k + 1, x0, x7, x8, x121, x247000, x247001, x247002 => if x121 = true then (if x8 = 1 then (if (x7.length : Int) = 0 then ((hucksterlaw29_awake.f k).bind fun t271 => (some t271)) else (some false)) else (some false)) else (if x8 = 0 then ((hucksterref29_Learn.f k x0 x247000 x247001 x247002).bind fun t272 => ((hucksterref29_Same.f k x7 t272).bind fun t275 => (if t275 = true then ((hucksterlaw29_awake.f k).bind fun t276 => (some t276)) else (some false)))) else (some false))
end
def hucksterlaw29_StableLearns.f (k : Nat) (l0 : List (List Int)) (l1_0 : List Int) (a1_1 : Int) (l1_2 : List Int) : Option (Bool) := (hucksterlaw29_light.f k l0).bind fun t247 => (if t247 = true then ((hucksterlaw29_light.f k (([l1_0, l1_2] : List (List Int)))).bind fun t251 => (hucksterlaw29_StableLearns.j0 k l0 (!t251) l1_0 a1_1 l1_2)) else (hucksterlaw29_StableLearns.j0 k l0 true l1_0 a1_1 l1_2))
theorem hucksterlaw29_StableLearns.mono_l : ∀ k, (∀ y0 y1 y2 y3 y4, LeO (hucksterlaw29_StableLearns.j0 k y0 y1 y2 y3 y4) (hucksterlaw29_StableLearns.j0 (k + 1) y0 y1 y2 y3 y4)) ∧ (∀ y0 y1 y2 y3 y4 y5 y6 y7, LeO (hucksterlaw29_StableLearns.j1 k y0 y1 y2 y3 y4 y5 y6 y7) (hucksterlaw29_StableLearns.j1 (k + 1) y0 y1 y2 y3 y4 y5 y6 y7)) ∧ (∀ y0 y1 y2 y3 y4 y5 y6, LeO (hucksterlaw29_StableLearns.j2 k y0 y1 y2 y3 y4 y5 y6) (hucksterlaw29_StableLearns.j2 (k + 1) y0 y1 y2 y3 y4 y5 y6))
  | 0 => ⟨fun _ _ _ _ _ r h => by simp [hucksterlaw29_StableLearns.j0] at h, fun _ _ _ _ _ _ _ _ r h => by simp [hucksterlaw29_StableLearns.j1] at h, fun _ _ _ _ _ _ _ r h => by simp [hucksterlaw29_StableLearns.j2] at h⟩
  | k + 1 => by
    obtain ⟨ih0, ih1, ih2⟩ := hucksterlaw29_StableLearns.mono_l k
    refine ⟨?_, ?_, ?_⟩
    · intro y0 y1 y2 y3 y4
      unfold hucksterlaw29_StableLearns.j0
      repeat' first
      | (with_reducible exact ih0 _ _ _ _ _)
      | (with_reducible exact ih1 _ _ _ _ _ _ _ _)
      | (with_reducible exact ih2 _ _ _ _ _ _ _)
      | (with_reducible exact hucksterlaw29_awake.mono _)
      | (with_reducible exact hucksterlaw29_light.mono _ _)
      | (with_reducible exact hucksterref03_May.mono _ _)
      | (with_reducible exact hucksterref03_Same.mono _ _ _)
      | (with_reducible exact hucksterref29_Learn.mono _ _ _ _ _)
      | (with_reducible exact hucksterref29_May.mono _ _ _)
      | (with_reducible exact hucksterref29_Same.mono _ _ _)
      | (with_reducible exact hucksterref29_Stable.mono _ _ _)
      | (with_reducible exact stable_Learn.mono _ _ _ _ _)
      | (with_reducible exact stable_Stable.mono _ _ _)
      | (with_reducible exact LeO.refl _)
      | (with_reducible exact LeO.none _)
      | (with_reducible refine LeO.ite ?_ ?_)
      | (with_reducible refine LeO.bind ?_ (fun _ => ?_))
      | exact ih0 _ _ _ _ _
      | exact ih1 _ _ _ _ _ _ _ _
      | exact ih2 _ _ _ _ _ _ _
      | exact hucksterlaw29_awake.mono _
      | exact hucksterlaw29_light.mono _ _
      | exact hucksterref03_May.mono _ _
      | exact hucksterref03_Same.mono _ _ _
      | exact hucksterref29_Learn.mono _ _ _ _ _
      | exact hucksterref29_May.mono _ _ _
      | exact hucksterref29_Same.mono _ _ _
      | exact hucksterref29_Stable.mono _ _ _
      | exact stable_Learn.mono _ _ _ _ _
      | exact stable_Stable.mono _ _ _
      | exact LeO.none _
      | refine LeO.ite ?_ ?_
      | refine LeO.bind ?_ (fun _ => ?_)
    · intro y0 y1 y2 y3 y4 y5 y6 y7
      unfold hucksterlaw29_StableLearns.j1
      repeat' first
      | (with_reducible exact ih0 _ _ _ _ _)
      | (with_reducible exact ih1 _ _ _ _ _ _ _ _)
      | (with_reducible exact ih2 _ _ _ _ _ _ _)
      | (with_reducible exact hucksterlaw29_awake.mono _)
      | (with_reducible exact hucksterlaw29_light.mono _ _)
      | (with_reducible exact hucksterref03_May.mono _ _)
      | (with_reducible exact hucksterref03_Same.mono _ _ _)
      | (with_reducible exact hucksterref29_Learn.mono _ _ _ _ _)
      | (with_reducible exact hucksterref29_May.mono _ _ _)
      | (with_reducible exact hucksterref29_Same.mono _ _ _)
      | (with_reducible exact hucksterref29_Stable.mono _ _ _)
      | (with_reducible exact stable_Learn.mono _ _ _ _ _)
      | (with_reducible exact stable_Stable.mono _ _ _)
      | (with_reducible exact LeO.refl _)
      | (with_reducible exact LeO.none _)
      | (with_reducible refine LeO.ite ?_ ?_)
      | (with_reducible refine LeO.bind ?_ (fun _ => ?_))
      | exact ih0 _ _ _ _ _
      | exact ih1 _ _ _ _ _ _ _ _
      | exact ih2 _ _ _ _ _ _ _
      | exact hucksterlaw29_awake.mono _
      | exact hucksterlaw29_light.mono _ _
      | exact hucksterref03_May.mono _ _
      | exact hucksterref03_Same.mono _ _ _
      | exact hucksterref29_Learn.mono _ _ _ _ _
      | exact hucksterref29_May.mono _ _ _
      | exact hucksterref29_Same.mono _ _ _
      | exact hucksterref29_Stable.mono _ _ _
      | exact stable_Learn.mono _ _ _ _ _
      | exact stable_Stable.mono _ _ _
      | exact LeO.none _
      | refine LeO.ite ?_ ?_
      | refine LeO.bind ?_ (fun _ => ?_)
    · intro y0 y1 y2 y3 y4 y5 y6
      unfold hucksterlaw29_StableLearns.j2
      repeat' first
      | (with_reducible exact ih0 _ _ _ _ _)
      | (with_reducible exact ih1 _ _ _ _ _ _ _ _)
      | (with_reducible exact ih2 _ _ _ _ _ _ _)
      | (with_reducible exact hucksterlaw29_awake.mono _)
      | (with_reducible exact hucksterlaw29_light.mono _ _)
      | (with_reducible exact hucksterref03_May.mono _ _)
      | (with_reducible exact hucksterref03_Same.mono _ _ _)
      | (with_reducible exact hucksterref29_Learn.mono _ _ _ _ _)
      | (with_reducible exact hucksterref29_May.mono _ _ _)
      | (with_reducible exact hucksterref29_Same.mono _ _ _)
      | (with_reducible exact hucksterref29_Stable.mono _ _ _)
      | (with_reducible exact stable_Learn.mono _ _ _ _ _)
      | (with_reducible exact stable_Stable.mono _ _ _)
      | (with_reducible exact LeO.refl _)
      | (with_reducible exact LeO.none _)
      | (with_reducible refine LeO.ite ?_ ?_)
      | (with_reducible refine LeO.bind ?_ (fun _ => ?_))
      | exact ih0 _ _ _ _ _
      | exact ih1 _ _ _ _ _ _ _ _
      | exact ih2 _ _ _ _ _ _ _
      | exact hucksterlaw29_awake.mono _
      | exact hucksterlaw29_light.mono _ _
      | exact hucksterref03_May.mono _ _
      | exact hucksterref03_Same.mono _ _ _
      | exact hucksterref29_Learn.mono _ _ _ _ _
      | exact hucksterref29_May.mono _ _ _
      | exact hucksterref29_Same.mono _ _ _
      | exact hucksterref29_Stable.mono _ _ _
      | exact stable_Learn.mono _ _ _ _ _
      | exact stable_Stable.mono _ _ _
      | exact LeO.none _
      | refine LeO.ite ?_ ?_
      | refine LeO.bind ?_ (fun _ => ?_)
theorem hucksterlaw29_StableLearns.mono : ∀ a0 a1 a2 a3 k, LeO (hucksterlaw29_StableLearns.f k a0 a1 a2 a3) (hucksterlaw29_StableLearns.f (k + 1) a0 a1 a2 a3) := by
  intro a0 a1 a2 a3 k
  obtain ⟨ih0, ih1, ih2⟩ := hucksterlaw29_StableLearns.mono_l k
  unfold hucksterlaw29_StableLearns.f
  repeat' first
      | (with_reducible exact ih0 _ _ _ _ _)
      | (with_reducible exact ih1 _ _ _ _ _ _ _ _)
      | (with_reducible exact ih2 _ _ _ _ _ _ _)
      | (with_reducible exact hucksterlaw29_awake.mono _)
      | (with_reducible exact hucksterlaw29_light.mono _ _)
      | (with_reducible exact hucksterref03_May.mono _ _)
      | (with_reducible exact hucksterref03_Same.mono _ _ _)
      | (with_reducible exact hucksterref29_Learn.mono _ _ _ _ _)
      | (with_reducible exact hucksterref29_May.mono _ _ _)
      | (with_reducible exact hucksterref29_Same.mono _ _ _)
      | (with_reducible exact hucksterref29_Stable.mono _ _ _)
      | (with_reducible exact stable_Learn.mono _ _ _ _ _)
      | (with_reducible exact stable_Stable.mono _ _ _)
      | (with_reducible exact LeO.refl _)
      | (with_reducible exact LeO.none _)
      | (with_reducible refine LeO.ite ?_ ?_)
      | (with_reducible refine LeO.bind ?_ (fun _ => ?_))
      | exact ih0 _ _ _ _ _
      | exact ih1 _ _ _ _ _ _ _ _
      | exact ih2 _ _ _ _ _ _ _
      | exact hucksterlaw29_awake.mono _
      | exact hucksterlaw29_light.mono _ _
      | exact hucksterref03_May.mono _ _
      | exact hucksterref03_Same.mono _ _ _
      | exact hucksterref29_Learn.mono _ _ _ _ _
      | exact hucksterref29_May.mono _ _ _
      | exact hucksterref29_Same.mono _ _ _
      | exact hucksterref29_Stable.mono _ _ _
      | exact stable_Learn.mono _ _ _ _ _
      | exact stable_Stable.mono _ _ _
      | exact LeO.none _
      | refine LeO.ite ?_ ?_
      | refine LeO.bind ?_ (fun _ => ?_)
set_option maxHeartbeats 8000000 in
set_option maxRecDepth 100000 in
theorem hucksterlaw29_StableLearns.calls (k : Nat) (A0 : Option Addr) (c0 : Nat) (l0 : List (List Int)) (P1_0_ : Nat → Prop) (A1_0 : Option Addr) (c1_0 : Nat) (l1_0 : List Int) (a1_1 : Int) (P1_2_ : Nat → Prop) (A1_2 : Option Addr) (c1_2 : Nat) (l1_2 : List Int) (r : Bool) (w : World) (hr0 : Kd.C (Kd.slice 3 (Kd.int .i64)) w A0 l0.length l0) (hc0 : l0.length ≤ c0) (hs1_0 : Kd.V (Kd.int .i64) 3 w w.heap.size (fun k_ => P1_0_ k_) (.slice A1_0 l1_0.length c1_0) l1_0) (hs1_2 : Kd.V (Kd.int .i64) 3 w w.heap.size (fun k_ => P1_2_ k_) (.slice A1_2 l1_2.length c1_2) l1_2) (h : hucksterlaw29_StableLearns.f k l0 l1_0 a1_1 l1_2 = some r) :
    Calls Try.prog 7 #[.slice A0 l0.length c0, .agg #[.slice A1_0 l1_0.length c1_0, .int .i64 a1_1, .slice A1_2 l1_2.length c1_2]] w fun e w' => e = .returned (.bool r) ∧ Below w.heap.size w w' := by
  have hu43 := Try.underlying43
  have HR0 := Aside0.mk hr0
  have HC0 := Aside0.mk hc0
  clear hr0 hc0
  have HO1_0 := Aside0.mk (show Kd.V (Kd.int .i64) 3 w w.heap.size (fun k_ => ((P1_0_ k_ ∨ P1_2_ k_) ∨ w.heap.size ≤ k_)) (.slice A1_0 l1_0.length c1_0) l1_0 from Kd.V_mono hs1_0 (fun k_ hk => .inl (.inl hk)))
  have HO1_2 := Aside0.mk (show Kd.V (Kd.int .i64) 3 w w.heap.size (fun k_ => ((P1_0_ k_ ∨ P1_2_ k_) ∨ w.heap.size ≤ k_)) (.slice A1_2 l1_2.length c1_2) l1_2 from Kd.V_mono hs1_2 (fun k_ hk => .inl (.inr hk)))
  have HB := Aside0.mk (Below.refl w.heap.size w)
  have H : ((hucksterlaw29_light.f k l0).bind fun t247 => (if t247 = true then ((hucksterlaw29_light.f k (([l1_0, l1_2] : List (List Int)))).bind fun t251 => (hucksterlaw29_StableLearns.j0 k l0 (!t251) l1_0 a1_1 l1_2)) else (hucksterlaw29_StableLearns.j0 k l0 true l1_0 a1_1 l1_2))) = some r := h
  clear h
  have HC3 := Aside0.mk H
  clear H
  go_enter Try.func7, Try.ntmps7
  go_upto_region 1 with (first | ((with_reducible refine gate_dst (N := 3) rfl ?_); (try (refine gate_guard (by rfl) ?_; dsimp only)); refine box_event ?hg (N := 3) ?hd (cs := #[.slice A1_0 l1_0.length c1_0, .int .i64 a1_1, .slice A1_2 l1_2.length c1_2]) (t := 43) ?hr ?_; (case hd => rfl); (case hg => rfl); (case hr => first | (go_simp; done) | (go_simp; rfl)); intro gb246 hg w4 hbox hb; have n0_ := Aside0.mk (Kd.V_below (Kd.V_elderB (by (with_reducible repeat (first | apply Kd.V_alloc | apply Kd.V_drewN | apply Kd.V_drew)); exact HO1_0.out) gb246 (Nat.le_of_eq hg.symm)) hb); have n1_ := Aside0.mk (Kd.V_below (Kd.V_elderB (by (with_reducible repeat (first | apply Kd.V_alloc | apply Kd.V_drewN | apply Kd.V_drew)); exact HO1_2.out) gb246 (Nat.le_of_eq hg.symm)) hb); have n2_ := Aside0.mk (below_step (by repeat (first | (with_reducible first | exact HB.out | apply below_alloc | apply pw_below_drewN | apply below_drew1) | exact HB.out)) hb); have n3_ := Aside0.mk (hbox); have n4_ := Aside0.mk ((by rw [hg]; exact (below_size (by repeat (first | (with_reducible first | exact HB.out | apply below_alloc | apply pw_below_drewN | apply below_drew1) | exact HB.out))) : w.heap.size ≤ gb246)); have n5_ := Aside0.mk ((by rw [hg]; exact (below_size (by repeat (first | (with_reducible first | exact HB.out | apply below_alloc | apply pw_below_drewN | apply below_drew1) | exact HB.out))) : w.heap.size ≤ gb246)); clear HO1_0; clear HO1_2; clear HB; have HO1_0 := n0_; have HO1_2 := n1_; have HB := n2_; have BK246 := n3_; have GW246 := n4_; have GE246 := n5_; clear n0_ n1_ n2_ n3_ n4_ n5_; clear hb hbox hg))
  (try simp only [Act.put, List.setIfInBounds_toArray, List.set_cons_zero, List.set_cons_succ])
  go_cut [21] (fun v21 wc => ∃ (kq : Nat) (x21_2 : Bool), v21 = .bool x21_2 ∧ Aside0 (hucksterlaw29_StableLearns.j0 kq l0 x21_2 l1_0 a1_1 l1_2 = some r) ∧ Aside0 (kq ≤ k) ∧ Aside0 (Kd.V (Kd.int .i64) 3 wc w.heap.size (fun k_ => ((P1_0_ k_ ∨ P1_2_ k_) ∨ w.heap.size ≤ k_) ∧ k_ ≠ gb246) (.slice A1_0 l1_0.length c1_0) l1_0) ∧ Aside0 (Kd.V (Kd.int .i64) 3 wc w.heap.size (fun k_ => ((P1_0_ k_ ∨ P1_2_ k_) ∨ w.heap.size ≤ k_) ∧ k_ ≠ gb246) (.slice A1_2 l1_2.length c1_2) l1_2) ∧ Aside0 (wc.heap[gb246]? = some (.cells #[(.slice A1_0 l1_0.length c1_0), .int .i64 a1_1, (.slice A1_2 l1_2.length c1_2)] 43 (0, 0))) ∧ Aside0 (Below w.heap.size w wc))
  case first =>
    have H := HC3.out
    clear HC3
    replace H := Option.bind_eq_some_iff.mp H
    obtain ⟨t247, A50, H⟩ := H
    replace H : (if t247 = true then ((hucksterlaw29_light.f k (([l1_0, l1_2] : List (List Int)))).bind fun t251 => (hucksterlaw29_StableLearns.j0 k l0 (!t251) l1_0 a1_1 l1_2)) else (hucksterlaw29_StableLearns.j0 k l0 true l1_0 a1_1 l1_2)) = some r := H
    have A5 := Aside0.mk A50
    clear A50
    by_cases c6 : t247 = true
    · subst c6
      have H1 : ((hucksterlaw29_light.f k (([l1_0, l1_2] : List (List Int)))).bind fun t251 => (hucksterlaw29_StableLearns.j0 k l0 (!t251) l1_0 a1_1 l1_2)) = some r := by rw [if_pos rfl] at H; exact H
      clear H
      have H := H1
      clear H1
      obtain ⟨y248, hy248⟩ : ∃ y_ : List (List Int), y_ = (([l1_0, l1_2] : List (List Int))) := ⟨_, rfl⟩
      replace H : ((hucksterlaw29_light.f k y248).bind fun t251 => (hucksterlaw29_StableLearns.j0 k l0 (!t251) l1_0 a1_1 l1_2)) = some r := by first | (rw [hy248]; with_reducible exact H) | (have H2_ := (Option.bind_some _ _).symm.trans H; rw [hy248]; with_reducible exact H2_) | (have H2_ := (Option.bind_some _ _).symm.trans H; with_reducible exact H2_) | with_reducible exact H | (rw [hy248]; exact H) | exact H
      have Ny248 := Aside0.mk hy248
      clear hy248
      replace H := Option.bind_eq_some_iff.mp H
      obtain ⟨t251, A70, H⟩ := H
      replace H : (hucksterlaw29_StableLearns.j0 k l0 (!t251) l1_0 a1_1 l1_2) = some r := H
      have A7 := Aside0.mk A70
      clear A70
      have H' := Aside0.mk H
      clear H
      go_wp2_with (first | ((with_reducible refine gate_callee (f := 33) rfl ?_); refine goesL_ (some 11) rfl rfl Try.func33 (by kernel_rfl) rfl #[.slice A0 l0.length c0] rfl (by (try simp only [List.map_toArray, List.map_cons, List.map_nil]); first | done | rfl | (simp only [List.length_drop, List.length_take]; rfl)) ?_; (with_reducible refine (hucksterlaw29_light.calls k _ _ l0 true _ ?side1 ?side2 A5.out).mono ?_); (case side1 => repeat (first | exact (Kd.C_below HR0.out HB.out) | (with_reducible refine Kd.C_alloc ?_ _) | (with_reducible refine Kd.C_drewN ?_ _) | (with_reducible refine Kd.C_drew ?_))); (case side2 => exact HC0.out); rintro e w' ⟨rfl, ⟨nd, rfl⟩⟩; refine ⟨_, rfl, ?_⟩; have hcz8_0 : w4.cell? ⟨gb246, 0, none⟩ = some (.slice A1_0 l1_0.length c1_0) := (blk_cell BK246.out 0).trans rfl; have hcz8_1 : w4.cell? ⟨gb246, 1, none⟩ = some (.int .i64 a1_1) := (blk_cell BK246.out 1).trans rfl; have hcz8_2 : w4.cell? ⟨gb246, 2, none⟩ = some (.slice A1_2 l1_2.length c1_2) := (blk_cell BK246.out 2).trans rfl; have hfz8_0 := blk_frozen BK246.out 0; have hfz8_1 := blk_frozen BK246.out 1; have hfz8_2 := blk_frozen BK246.out 2) | ((with_reducible refine gate_dst (N := 18) rfl ?_); (try (refine gate_guard (by rfl) ?_; dsimp only)); refine Kd.N_lit (Kd.slice 3 (Kd.int .i64)) _ 23 ?hg (N' := 18) ?hd (xs := ([l1_0, l1_2] : List (List Int))) (inner := [.slice A1_0 l1_0.length c1_0, .slice A1_2 l1_2.length c1_2]) (ok := (fun k_ => ((P1_0_ k_ ∨ P1_2_ k_) ∨ w.heap.size ≤ k_) ∧ k_ ≠ gb246)) (okp := (fun k_ => ((P1_0_ k_ ∨ P1_2_ k_) ∨ w.heap.size ≤ k_) ∧ k_ ≠ gb246)) ?hr ?hp (fun _ hk => hk) ((show ∀ k_, w4.heap.size ≤ k_ → (fun k_ => ((P1_0_ k_ ∨ P1_2_ k_) ∨ w.heap.size ≤ k_) ∧ k_ ≠ gb246) k_ from fun k_ hk => ⟨(.inr (Nat.le_trans (below_size (by repeat (first | (with_reducible first | exact HB.out | apply below_alloc | apply pw_below_drewN | apply below_drew1 | refine below_set ?_ GE246.out) | exact HB.out))) hk)), Kd.freshB (g := gb246) (o := .cells #[.slice A1_0 l1_0.length c1_0, .int .i64 a1_1, .slice A1_2 l1_2.length c1_2] 43 (0, 0)) (by (with_reducible repeat (first | refine blk_drewN ?_ _ | refine blk_drew ?_ | refine blk_alloc ?_ _)); exact BK246.out) k_ hk⟩) _ (Nat.le_refl _)) (Below.refl _ _) (Nat.le_refl _) (by simp) ?_; (case hd => rfl); (case hg => rfl); (case hr => first | (go_simp; done) | (go_simp; rfl)); (case hp => exact (Reps.one (show Kd.FK (Kd.slice 3 (Kd.int .i64)) _ _ l1_0 [.slice A1_0 l1_0.length c1_0] from (Kd.FK_slice_mk (Kd.V_reads' (e := 0) (base := 0) (Kd.V_mono (e := 0) (base := 0) (ok' := (fun k_ => ((P1_0_ k_ ∨ P1_2_ k_) ∨ w.heap.size ≤ k_) ∧ k_ ≠ gb246)) (HO1_0.out) (fun k_ hk => ⟨hk.1, hk.2⟩))).2.1 (Kd.V_F (e := 0) (base := 0) (Kd.V_mono (e := 0) (base := 0) (ok' := (fun k_ => ((P1_0_ k_ ∨ P1_2_ k_) ∨ w.heap.size ≤ k_) ∧ k_ ≠ gb246)) (HO1_0.out) (fun k_ hk => ⟨hk.1, hk.2⟩))))) (Reps.one (show Kd.FK (Kd.slice 3 (Kd.int .i64)) _ _ l1_2 [.slice A1_2 l1_2.length c1_2] from (Kd.FK_slice_mk (Kd.V_reads' (e := 0) (base := 0) (Kd.V_mono (e := 0) (base := 0) (ok' := (fun k_ => ((P1_0_ k_ ∨ P1_2_ k_) ∨ w.heap.size ≤ k_) ∧ k_ ≠ gb246)) (HO1_2.out) (fun k_ hk => ⟨hk.1, hk.2⟩))).2.1 (Kd.V_F (e := 0) (base := 0) (Kd.V_mono (e := 0) (base := 0) (ok' := (fun k_ => ((P1_0_ k_ ∨ P1_2_ k_) ∨ w.heap.size ≤ k_) ∧ k_ ≠ gb246)) (HO1_2.out) (fun k_ hk => ⟨hk.1, hk.2⟩))))) (Reps.none _ _)))); intro v249 w9 ho10 hb hg_ hnew_; clear hg_ hnew_; (first | rw [← Ny248.out] at ho10 | (simp only [Int.reduceToNat] at ho10; rw [← Ny248.out] at ho10)); have n0_ := Aside0.mk (Kd.V_elder' (by (with_reducible repeat (first | apply Kd.V_alloc | apply Kd.V_drewN | apply Kd.V_drew)); exact HO1_0.out) (Kd.N_base ho10) hb); have n1_ := Aside0.mk (Kd.V_elder' (by (with_reducible repeat (first | apply Kd.V_alloc | apply Kd.V_drewN | apply Kd.V_drew)); exact HO1_2.out) (Kd.N_base ho10) hb); have n2_ := Aside0.mk (Kd.N_lower ho10 (below_size (by repeat (first | (with_reducible first | exact HB.out | apply below_alloc | apply pw_below_drewN | apply below_drew1 | refine below_set ?_ GE246.out) | exact HB.out)))); have n3_ := Aside0.mk (blk_below (g := gb246) (o := .cells #[.slice A1_0 l1_0.length c1_0, .int .i64 a1_1, .slice A1_2 l1_2.length c1_2] 43 (0, 0)) (by (with_reducible repeat (first | refine blk_drewN ?_ _ | refine blk_drew ?_ | refine blk_alloc ?_ _)); exact BK246.out) hb); have n4_ := Aside0.mk (below_step (by repeat (first | (with_reducible first | exact HB.out | apply below_alloc | apply pw_below_drewN | apply below_drew1 | refine below_set ?_ GE246.out) | exact HB.out)) hb); clear HO1_0; clear HO1_2; clear BK246; clear HB; have HO1_0 := n0_; have HO1_2 := n1_; have HO250 := n2_; have BK246 := n3_; have HB := n4_; clear n0_ n1_ n2_ n3_ n4_; clear hb ho10; obtain ⟨Ao11, co11, eo11⟩ := Kd.N_slice HO250.out; subst eo11) | (go_at_call 33; (with_reducible refine (hucksterlaw29_light.calls k _ _ y248 t251 _ ?side1 ?side2 A7.out).mono ?_); (case side1 => repeat (first | exact (Kd.N_reads' HO250.out).2.2 | (with_reducible refine Kd.C_alloc ?_ _) | (with_reducible refine Kd.C_drewN ?_ _) | (with_reducible refine Kd.C_drew ?_))); (case side2 => exact (Kd.N_reads' HO250.out).2.1); rintro e w' ⟨rfl, ⟨nd, rfl⟩⟩))
      go_meet
      case rel => exact ⟨_, (!t251), (by first | rfl | (simp; done) | (simp [*]; done)), H', ⟨by first | omega | exact Nat.le_refl _⟩, ⟨by (with_reducible repeat (first | apply Kd.V_alloc | apply Kd.V_drewN | apply Kd.V_drew)); exact Kd.V_mono HO1_0.out (fun _ hk => ⟨hk.1.1, hk.1.2⟩)⟩, ⟨by (with_reducible repeat (first | apply Kd.V_alloc | apply Kd.V_drewN | apply Kd.V_drew)); exact Kd.V_mono HO1_2.out (fun _ hk => ⟨hk.1.1, hk.1.2⟩)⟩, ⟨by (with_reducible repeat (first | refine blk_drewN ?_ _ | refine blk_drew ?_ | refine blk_alloc ?_ _)); exact BK246.out⟩, ⟨by repeat (first | (with_reducible first | exact HB.out | apply below_alloc | apply pw_below_drewN | apply below_drew1 | refine below_set ?_ GE246.out) | exact HB.out)⟩⟩
    · replace c6 := Bool.eq_false_iff.mpr c6
      subst c6
      have H1 : (hucksterlaw29_StableLearns.j0 k l0 true l1_0 a1_1 l1_2) = some r := by rw [if_neg (show ¬ (false = true) by decide)] at H; exact H
      clear H
      have H := H1
      clear H1
      have H' := Aside0.mk H
      clear H
      go_wp2_with (first | ((with_reducible refine gate_callee (f := 33) rfl ?_); refine goesL_ (some 11) rfl rfl Try.func33 (by kernel_rfl) rfl #[.slice A0 l0.length c0] rfl (by (try simp only [List.map_toArray, List.map_cons, List.map_nil]); first | done | rfl | (simp only [List.length_drop, List.length_take]; rfl)) ?_; (with_reducible refine (hucksterlaw29_light.calls k _ _ l0 false _ ?side1 ?side2 A5.out).mono ?_); (case side1 => repeat (first | exact (Kd.C_below HR0.out HB.out) | (with_reducible refine Kd.C_alloc ?_ _) | (with_reducible refine Kd.C_drewN ?_ _) | (with_reducible refine Kd.C_drew ?_))); (case side2 => exact HC0.out); rintro e w' ⟨rfl, ⟨nd, rfl⟩⟩; refine ⟨_, rfl, ?_⟩))
      go_meet
      case rel => exact ⟨_, (true), (by first | rfl | (simp; done) | (simp [*]; done)), H', ⟨by first | omega | exact Nat.le_refl _⟩, ⟨by (with_reducible repeat (first | apply Kd.V_alloc | apply Kd.V_drewN | apply Kd.V_drew)); exact HO1_0.out⟩, ⟨by (with_reducible repeat (first | apply Kd.V_alloc | apply Kd.V_drewN | apply Kd.V_drew)); exact HO1_2.out⟩, ⟨by (with_reducible repeat (first | refine blk_drewN ?_ _ | refine blk_drew ?_ | refine blk_alloc ?_ _)); exact BK246.out⟩, ⟨by repeat (first | (with_reducible first | exact HB.out | apply below_alloc | apply pw_below_drewN | apply below_drew1 | refine below_set ?_ GE246.out) | exact HB.out)⟩⟩
  case rest =>
    clear HC3
    try clear c1
    try clear p2
    try clear c3
    try clear c6
    try clear c7
    try clear hcz8_0
    try clear hcz8_1
    try clear hcz8_2
    try clear hfz8_0
    try clear hfz8_1
    try clear hfz8_2
    obtain ⟨kq, x21_2, rfl, HA, HJ2, HO_247000, HO_247002, BK246, HB⟩ := hcut
    cases kq with
    | zero => exact absurd HA.out (by simp [hucksterlaw29_StableLearns.j0])
    | succ kj2 =>
      have H := HA.out
      clear HA
      simp only [hucksterlaw29_StableLearns.j0] at H
      by_cases c12 : x21_2 = true
      · subst c12
        have H1 : ((hucksterlaw29_awake.f kj2).bind fun t252 => (some t252)) = some r := by rw [if_pos rfl] at H; exact H
        clear H
        have H := H1
        clear H1
        replace H := Option.bind_eq_some_iff.mp H
        obtain ⟨t252, A130, H⟩ := H
        replace H : (some t252) = some r := H
        have A13 := Aside0.mk A130
        clear A130
        obtain rfl := Option.some.inj H
        go_wp2_with (first | ((with_reducible refine gate_callee (f := 34) rfl ?_); refine goesL_ (some 22) rfl rfl Try.func34 (by kernel_rfl) rfl #[] rfl (by (try simp only [List.map_toArray, List.map_cons, List.map_nil]); first | done | rfl | (simp only [List.length_drop, List.length_take]; rfl)) ?_; (with_reducible refine (hucksterlaw29_awake.calls kj2  t252 _ A13.out).mono ?_); rintro e w14 ⟨rfl, hb⟩; refine ⟨_, rfl, ?_⟩; have n0_ := Aside0.mk (Kd.V_below (by (with_reducible repeat (first | apply Kd.V_alloc | apply Kd.V_drewN | apply Kd.V_drew)); exact HO_247000.out) hb); have n1_ := Aside0.mk (Kd.V_below (by (with_reducible repeat (first | apply Kd.V_alloc | apply Kd.V_drewN | apply Kd.V_drew)); exact HO_247002.out) hb); have n2_ := Aside0.mk (blk_below (g := gb246) (o := .cells #[.slice A1_0 l1_0.length c1_0, .int .i64 a1_1, .slice A1_2 l1_2.length c1_2] 43 (0, 0)) (by (with_reducible repeat (first | refine blk_drewN ?_ _ | refine blk_drew ?_ | refine blk_alloc ?_ _)); exact BK246.out) hb); have n3_ := Aside0.mk (below_step (by repeat (first | (with_reducible first | exact HB.out | apply below_alloc | apply pw_below_drewN | apply below_drew1 | refine below_set ?_ GE246.out) | exact HB.out)) hb); clear HO_247000; clear HO_247002; clear BK246; clear HB; have HO_247000 := n0_; have HO_247002 := n1_; have BK246 := n2_; have HB := n3_; clear n0_ n1_ n2_ n3_; (try clear hb); (try clear hb2); (try clear hk); (try clear hi)))
        go_ret
        exact ⟨by first | rfl | (simp [errW_none, errW_some] <;> rfl) | (simp [*, errW_none, errW_some] <;> rfl), by repeat (first | (with_reducible first | exact HB.out | apply below_alloc | apply pw_below_drewN | apply below_drew1 | refine below_set ?_ GE246.out) | exact HB.out)⟩
      · replace c12 := Bool.eq_false_iff.mpr c12
        subst c12
        have H1 : ((stable_New.f a1_1).bind fun bt253 => ((stable_Learn.f kj2 l0 l1_0 a1_1 l1_2).bind fun bt257 => ((stable_Stable.f kj2 l0 l1_0).bind fun t261 => (if a1_1 ≥ 1 then (if ((bt253.2 == 0) != (decide (a1_1 ≤ 5))) = true then (hucksterlaw29_StableLearns.j1 kj2 l0 bt257.1 bt257.2 t261 true l1_0 a1_1 l1_2) else (if bt253.2 = 0 then (if (bt253.1.length : Int) = a1_1 then (hucksterlaw29_StableLearns.j1 kj2 l0 bt257.1 bt257.2 t261 false l1_0 a1_1 l1_2) else (hucksterlaw29_StableLearns.j1 kj2 l0 bt257.1 bt257.2 t261 true l1_0 a1_1 l1_2)) else (if bt253.2 = 1 then (hucksterlaw29_StableLearns.j1 kj2 l0 bt257.1 bt257.2 t261 ((bt253.1.length : Int) != 0) l1_0 a1_1 l1_2) else (hucksterlaw29_StableLearns.j1 kj2 l0 bt257.1 bt257.2 t261 true l1_0 a1_1 l1_2)))) else (if ((bt253.2 == 0) != false) = true then (hucksterlaw29_StableLearns.j1 kj2 l0 bt257.1 bt257.2 t261 true l1_0 a1_1 l1_2) else (if bt253.2 = 0 then (if (bt253.1.length : Int) = a1_1 then (hucksterlaw29_StableLearns.j1 kj2 l0 bt257.1 bt257.2 t261 false l1_0 a1_1 l1_2) else (hucksterlaw29_StableLearns.j1 kj2 l0 bt257.1 bt257.2 t261 true l1_0 a1_1 l1_2)) else (if bt253.2 = 1 then (hucksterlaw29_StableLearns.j1 kj2 l0 bt257.1 bt257.2 t261 ((bt253.1.length : Int) != 0) l1_0 a1_1 l1_2) else (hucksterlaw29_StableLearns.j1 kj2 l0 bt257.1 bt257.2 t261 true l1_0 a1_1 l1_2)))))))) = some r := by rw [if_neg (show ¬ (false = true) by decide)] at H; exact H
        clear H
        have H := H1
        clear H1
        replace H := Option.bind_eq_some_iff.mp H
        obtain ⟨⟨t253, t254⟩, A150, H⟩ := H
        replace H : ((stable_Learn.f kj2 l0 l1_0 a1_1 l1_2).bind fun bt257 => ((stable_Stable.f kj2 l0 l1_0).bind fun t261 => (if a1_1 ≥ 1 then (if ((t254 == 0) != (decide (a1_1 ≤ 5))) = true then (hucksterlaw29_StableLearns.j1 kj2 l0 bt257.1 bt257.2 t261 true l1_0 a1_1 l1_2) else (if t254 = 0 then (if (t253.length : Int) = a1_1 then (hucksterlaw29_StableLearns.j1 kj2 l0 bt257.1 bt257.2 t261 false l1_0 a1_1 l1_2) else (hucksterlaw29_StableLearns.j1 kj2 l0 bt257.1 bt257.2 t261 true l1_0 a1_1 l1_2)) else (if t254 = 1 then (hucksterlaw29_StableLearns.j1 kj2 l0 bt257.1 bt257.2 t261 ((t253.length : Int) != 0) l1_0 a1_1 l1_2) else (hucksterlaw29_StableLearns.j1 kj2 l0 bt257.1 bt257.2 t261 true l1_0 a1_1 l1_2)))) else (if ((t254 == 0) != false) = true then (hucksterlaw29_StableLearns.j1 kj2 l0 bt257.1 bt257.2 t261 true l1_0 a1_1 l1_2) else (if t254 = 0 then (if (t253.length : Int) = a1_1 then (hucksterlaw29_StableLearns.j1 kj2 l0 bt257.1 bt257.2 t261 false l1_0 a1_1 l1_2) else (hucksterlaw29_StableLearns.j1 kj2 l0 bt257.1 bt257.2 t261 true l1_0 a1_1 l1_2)) else (if t254 = 1 then (hucksterlaw29_StableLearns.j1 kj2 l0 bt257.1 bt257.2 t261 ((t253.length : Int) != 0) l1_0 a1_1 l1_2) else (hucksterlaw29_StableLearns.j1 kj2 l0 bt257.1 bt257.2 t261 true l1_0 a1_1 l1_2))))))) = some r := H
        have A15 := Aside0.mk A150
        clear A150
        replace H := Option.bind_eq_some_iff.mp H
        obtain ⟨⟨t257, t260⟩, A160, H⟩ := H
        replace H : ((stable_Stable.f kj2 l0 l1_0).bind fun t261 => (if a1_1 ≥ 1 then (if ((t254 == 0) != (decide (a1_1 ≤ 5))) = true then (hucksterlaw29_StableLearns.j1 kj2 l0 t257 t260 t261 true l1_0 a1_1 l1_2) else (if t254 = 0 then (if (t253.length : Int) = a1_1 then (hucksterlaw29_StableLearns.j1 kj2 l0 t257 t260 t261 false l1_0 a1_1 l1_2) else (hucksterlaw29_StableLearns.j1 kj2 l0 t257 t260 t261 true l1_0 a1_1 l1_2)) else (if t254 = 1 then (hucksterlaw29_StableLearns.j1 kj2 l0 t257 t260 t261 ((t253.length : Int) != 0) l1_0 a1_1 l1_2) else (hucksterlaw29_StableLearns.j1 kj2 l0 t257 t260 t261 true l1_0 a1_1 l1_2)))) else (if ((t254 == 0) != false) = true then (hucksterlaw29_StableLearns.j1 kj2 l0 t257 t260 t261 true l1_0 a1_1 l1_2) else (if t254 = 0 then (if (t253.length : Int) = a1_1 then (hucksterlaw29_StableLearns.j1 kj2 l0 t257 t260 t261 false l1_0 a1_1 l1_2) else (hucksterlaw29_StableLearns.j1 kj2 l0 t257 t260 t261 true l1_0 a1_1 l1_2)) else (if t254 = 1 then (hucksterlaw29_StableLearns.j1 kj2 l0 t257 t260 t261 ((t253.length : Int) != 0) l1_0 a1_1 l1_2) else (hucksterlaw29_StableLearns.j1 kj2 l0 t257 t260 t261 true l1_0 a1_1 l1_2)))))) = some r := H
        have A16 := Aside0.mk A160
        clear A160
        replace H := Option.bind_eq_some_iff.mp H
        obtain ⟨t261, A170, H⟩ := H
        replace H : (if a1_1 ≥ 1 then (if ((t254 == 0) != (decide (a1_1 ≤ 5))) = true then (hucksterlaw29_StableLearns.j1 kj2 l0 t257 t260 t261 true l1_0 a1_1 l1_2) else (if t254 = 0 then (if (t253.length : Int) = a1_1 then (hucksterlaw29_StableLearns.j1 kj2 l0 t257 t260 t261 false l1_0 a1_1 l1_2) else (hucksterlaw29_StableLearns.j1 kj2 l0 t257 t260 t261 true l1_0 a1_1 l1_2)) else (if t254 = 1 then (hucksterlaw29_StableLearns.j1 kj2 l0 t257 t260 t261 ((t253.length : Int) != 0) l1_0 a1_1 l1_2) else (hucksterlaw29_StableLearns.j1 kj2 l0 t257 t260 t261 true l1_0 a1_1 l1_2)))) else (if ((t254 == 0) != false) = true then (hucksterlaw29_StableLearns.j1 kj2 l0 t257 t260 t261 true l1_0 a1_1 l1_2) else (if t254 = 0 then (if (t253.length : Int) = a1_1 then (hucksterlaw29_StableLearns.j1 kj2 l0 t257 t260 t261 false l1_0 a1_1 l1_2) else (hucksterlaw29_StableLearns.j1 kj2 l0 t257 t260 t261 true l1_0 a1_1 l1_2)) else (if t254 = 1 then (hucksterlaw29_StableLearns.j1 kj2 l0 t257 t260 t261 ((t253.length : Int) != 0) l1_0 a1_1 l1_2) else (hucksterlaw29_StableLearns.j1 kj2 l0 t257 t260 t261 true l1_0 a1_1 l1_2))))) = some r := H
        have A17 := Aside0.mk A170
        clear A170
        have HC18 := Aside0.mk H
        clear H
        have hcz19_0 : wc.cell? ⟨gb246, 0, none⟩ = some (.slice A1_0 l1_0.length c1_0) := (blk_cell BK246.out 0).trans rfl
        have hcz19_1 : wc.cell? ⟨gb246, 1, none⟩ = some (.int .i64 a1_1) := (blk_cell BK246.out 1).trans rfl
        have hcz19_2 : wc.cell? ⟨gb246, 2, none⟩ = some (.slice A1_2 l1_2.length c1_2) := (blk_cell BK246.out 2).trans rfl
        have hfz19_0 := blk_frozen BK246.out 0
        have hfz19_1 := blk_frozen BK246.out 1
        have hfz19_2 := blk_frozen BK246.out 2
        go_upto_region 6 with (first | ((with_reducible refine gate_callee (f := 35) rfl ?_); refine goesL_ (some 26) rfl rfl Try.func35 (by kernel_rfl) rfl #[.int .i64 a1_1] rfl (by (try simp only [List.map_toArray, List.map_cons, List.map_nil]); first | done | rfl | (simp only [List.length_drop, List.length_take]; rfl)) ?_; (with_reducible refine (stable_New.calls a1_1 t253 t254 _ A15.out).mono ?_); rintro e w20 ⟨v255, rfl, ho0, hb⟩; refine ⟨_, rfl, ?_⟩; have n0_ := Aside0.mk (Kd.V_elder' (by (with_reducible repeat (first | apply Kd.V_alloc | apply Kd.V_drewN | apply Kd.V_drew)); exact HO_247000.out) (Kd.N_base (Kd.S_N ho0)) hb); have n1_ := Aside0.mk (Kd.V_elder' (by (with_reducible repeat (first | apply Kd.V_alloc | apply Kd.V_drewN | apply Kd.V_drew)); exact HO_247002.out) (Kd.N_base (Kd.S_N ho0)) hb); have n2_ := Aside0.mk (Kd.N_lower (Kd.N_mono (ok' := fun k_ => ((P1_0_ k_ ∨ P1_2_ k_) ∨ w.heap.size ≤ k_) ∧ k_ ≠ gb246) (Kd.S_N (Kd.S_bound ho0)) (fun k_ hk_ => ⟨(.inr (Nat.le_trans (below_size (by repeat (first | (with_reducible first | exact HB.out | apply below_alloc | apply pw_below_drewN | apply below_drew1 | refine below_set ?_ GE246.out) | exact HB.out))) hk_.2.1)), (Kd.freshB (g := gb246) (o := .cells #[.slice A1_0 l1_0.length c1_0, .int .i64 a1_1, .slice A1_2 l1_2.length c1_2] 43 (0, 0)) (by (with_reducible repeat (first | refine blk_drewN ?_ _ | refine blk_drew ?_ | refine blk_alloc ?_ _)); exact BK246.out) k_ hk_.2.1)⟩)) (below_size (by repeat (first | (with_reducible first | exact HB.out | apply below_alloc | apply pw_below_drewN | apply below_drew1 | refine below_set ?_ GE246.out) | exact HB.out)))); have n3_ := Aside0.mk (blk_below (g := gb246) (o := .cells #[.slice A1_0 l1_0.length c1_0, .int .i64 a1_1, .slice A1_2 l1_2.length c1_2] 43 (0, 0)) (by (with_reducible repeat (first | refine blk_drewN ?_ _ | refine blk_drew ?_ | refine blk_alloc ?_ _)); exact BK246.out) hb); have n4_ := Aside0.mk (below_step (by repeat (first | (with_reducible first | exact HB.out | apply below_alloc | apply pw_below_drewN | apply below_drew1 | refine below_set ?_ GE246.out) | exact HB.out)) hb); clear HO_247000; clear HO_247002; clear BK246; clear HB; have HO_247000 := n0_; have HO_247002 := n1_; have HO256 := n2_; have BK246 := n3_; have HB := n4_; clear n0_ n1_ n2_ n3_ n4_; (try clear hb); (try clear hb2); (try clear hk); (try clear hi); (try clear ho0); have hcz21_0 : w20.cell? ⟨gb246, 0, none⟩ = some (.slice A1_0 l1_0.length c1_0) := (blk_cell BK246.out 0).trans rfl; have hcz21_1 : w20.cell? ⟨gb246, 1, none⟩ = some (.int .i64 a1_1) := (blk_cell BK246.out 1).trans rfl; have hcz21_2 : w20.cell? ⟨gb246, 2, none⟩ = some (.slice A1_2 l1_2.length c1_2) := (blk_cell BK246.out 2).trans rfl; have hfz21_0 := blk_frozen BK246.out 0; have hfz21_1 := blk_frozen BK246.out 1; have hfz21_2 := blk_frozen BK246.out 2) | ((with_reducible refine gate_callee (f := 36) rfl ?_); refine goesL_ (some 37) rfl rfl Try.func36 (by kernel_rfl) rfl #[.slice A0 l0.length c0, .slice A1_0 l1_0.length c1_0, .int .i64 a1_1, .slice A1_2 l1_2.length c1_2] rfl (by (try simp only [List.map_toArray, List.map_cons, List.map_nil]); first | done | rfl | (simp only [List.length_drop, List.length_take]; rfl)) ?_; (with_reducible refine (stable_Learn.calls kj2 _ _ l0 _ _ l1_0 a1_1 (fun k_ => ((((P1_0_ k_ ∨ P1_2_ k_) ∨ w.heap.size ≤ k_) ∧ k_ ≠ gb246) ∧ some k_ ≠ (v255 : Value).ownBlock)) _ _ l1_2 t257 t260 _ ?side1 ?side2 ?side3 ?side4 ?side5 A16.out).mono ?_); (case side1 => repeat (first | exact (Kd.C_below HR0.out HB.out) | (with_reducible refine Kd.C_alloc ?_ _) | (with_reducible refine Kd.C_drewN ?_ _) | (with_reducible refine Kd.C_drew ?_))); (case side2 => exact HC0.out); (case side3 => repeat (first | exact (Kd.V_reads' HO_247000.out).2.2 | (with_reducible refine Kd.C_alloc ?_ _) | (with_reducible refine Kd.C_drewN ?_ _) | (with_reducible refine Kd.C_drew ?_))); (case side4 => exact (Kd.V_reads' HO_247000.out).2.1); (case side5 => exact HO_247002.out); rintro e w22 ⟨v258, rfl, ho0, hb⟩; refine ⟨_, rfl, ?_⟩; have n0_ := Aside0.mk (Kd.V_elder' (by (with_reducible repeat (first | apply Kd.V_alloc | apply Kd.V_drewN | apply Kd.V_drew)); exact HO_247000.out) (Kd.N_base ho0) hb); have n1_ := Aside0.mk (Kd.V_elder' (by (with_reducible repeat (first | apply Kd.V_alloc | apply Kd.V_drewN | apply Kd.V_drew)); exact HO_247002.out) (Kd.N_base ho0) hb); have n2_ := Aside0.mk (Kd.N_elder' (by (with_reducible repeat (first | apply Kd.N_alloc | apply Kd.N_drewN | apply Kd.N_drew)); exact HO256.out) (Kd.N_base ho0) hb); have n3_ := Aside0.mk (Kd.N_lower (Kd.N_mono (ok' := fun k_ => ((P1_0_ k_ ∨ P1_2_ k_) ∨ w.heap.size ≤ k_) ∧ some k_ ≠ (v255 : Value).ownBlock ∧ k_ ≠ gb246) ho0 (fun k_ hk_ => ⟨Or.elim hk_ (fun hs_ => hs_.1.1) (fun hn_ => (.inr (Nat.le_trans (below_size (by repeat (first | (with_reducible first | exact HB.out | apply below_alloc | apply pw_below_drewN | apply below_drew1 | refine below_set ?_ GE246.out) | exact HB.out))) hn_))), Or.elim hk_ (fun hs_ => hs_.2) (fun hn_ => (Kd.fresh' (Kd.N_lt (by (with_reducible repeat (first | apply Kd.N_alloc | apply Kd.N_drewN | apply Kd.N_drew)); exact HO256.out)) k_ hn_)), Or.elim hk_ (fun hs_ => hs_.1.2) (fun hn_ => (Kd.freshB (g := gb246) (o := .cells #[.slice A1_0 l1_0.length c1_0, .int .i64 a1_1, .slice A1_2 l1_2.length c1_2] 43 (0, 0)) (by (with_reducible repeat (first | refine blk_drewN ?_ _ | refine blk_drew ?_ | refine blk_alloc ?_ _)); exact BK246.out) k_ hn_))⟩)) (below_size (by repeat (first | (with_reducible first | exact HB.out | apply below_alloc | apply pw_below_drewN | apply below_drew1 | refine below_set ?_ GE246.out) | exact HB.out)))); have n4_ := Aside0.mk (blk_below (g := gb246) (o := .cells #[.slice A1_0 l1_0.length c1_0, .int .i64 a1_1, .slice A1_2 l1_2.length c1_2] 43 (0, 0)) (by (with_reducible repeat (first | refine blk_drewN ?_ _ | refine blk_drew ?_ | refine blk_alloc ?_ _)); exact BK246.out) hb); have n5_ := Aside0.mk (below_step (by repeat (first | (with_reducible first | exact HB.out | apply below_alloc | apply pw_below_drewN | apply below_drew1 | refine below_set ?_ GE246.out) | exact HB.out)) hb); clear HO_247000; clear HO_247002; clear HO256; clear BK246; clear HB; have HO_247000 := n0_; have HO_247002 := n1_; have HO256 := n2_; have HO259 := n3_; have BK246 := n4_; have HB := n5_; clear n0_ n1_ n2_ n3_ n4_ n5_; (try clear hb); (try clear hb2); (try clear hk); (try clear hi); (try clear ho0); have hcz23_0 : w22.cell? ⟨gb246, 0, none⟩ = some (.slice A1_0 l1_0.length c1_0) := (blk_cell BK246.out 0).trans rfl; have hcz23_1 : w22.cell? ⟨gb246, 1, none⟩ = some (.int .i64 a1_1) := (blk_cell BK246.out 1).trans rfl; have hcz23_2 : w22.cell? ⟨gb246, 2, none⟩ = some (.slice A1_2 l1_2.length c1_2) := (blk_cell BK246.out 2).trans rfl; have hfz23_0 := blk_frozen BK246.out 0; have hfz23_1 := blk_frozen BK246.out 1; have hfz23_2 := blk_frozen BK246.out 2) | ((with_reducible refine gate_callee (f := 37) rfl ?_); refine goesL_ (some 43) rfl rfl Try.func37 (by kernel_rfl) rfl #[.slice A0 l0.length c0, .slice A1_0 l1_0.length c1_0] rfl (by (try simp only [List.map_toArray, List.map_cons, List.map_nil]); first | done | rfl | (simp only [List.length_drop, List.length_take]; rfl)) ?_; (with_reducible refine (stable_Stable.calls kj2 _ _ l0 _ _ l1_0 t261 _ ?side1 ?side2 ?side3 ?side4 A17.out).mono ?_); (case side1 => repeat (first | exact (Kd.C_below HR0.out HB.out) | (with_reducible refine Kd.C_alloc ?_ _) | (with_reducible refine Kd.C_drewN ?_ _) | (with_reducible refine Kd.C_drew ?_))); (case side2 => exact HC0.out); (case side3 => repeat (first | exact (Kd.V_reads' HO_247000.out).2.2 | (with_reducible refine Kd.C_alloc ?_ _) | (with_reducible refine Kd.C_drewN ?_ _) | (with_reducible refine Kd.C_drew ?_))); (case side4 => exact (Kd.V_reads' HO_247000.out).2.1); rintro e w24 ⟨v262, rfl, ho0, hb⟩; refine ⟨_, rfl, ?_⟩; have n0_ := Aside0.mk (Kd.V_elder' (by (with_reducible repeat (first | apply Kd.V_alloc | apply Kd.V_drewN | apply Kd.V_drew)); exact HO_247000.out) (Kd.R_base ho0) hb); have n1_ := Aside0.mk (Kd.V_elder' (by (with_reducible repeat (first | apply Kd.V_alloc | apply Kd.V_drewN | apply Kd.V_drew)); exact HO_247002.out) (Kd.R_base ho0) hb); have n2_ := Aside0.mk (Kd.N_elder' (by (with_reducible repeat (first | apply Kd.N_alloc | apply Kd.N_drewN | apply Kd.N_drew)); exact HO256.out) (Kd.R_base ho0) hb); have n3_ := Aside0.mk (Kd.N_elder' (by (with_reducible repeat (first | apply Kd.N_alloc | apply Kd.N_drewN | apply Kd.N_drew)); exact HO259.out) (Kd.R_base ho0) hb); have n4_ := Aside0.mk (Kd.R_lower (Kd.R_newM (M := fun k_ => (w.heap.size ≤ k_)) ho0 (below_size (by repeat (first | (with_reducible first | exact HB.out | apply below_alloc | apply pw_below_drewN | apply below_drew1 | refine below_set ?_ GE246.out) | exact HB.out))) (fun k_ h_ => h_)) (below_size (by repeat (first | (with_reducible first | exact HB.out | apply below_alloc | apply pw_below_drewN | apply below_drew1 | refine below_set ?_ GE246.out) | exact HB.out)))); have n5_ := Aside0.mk (blk_below (g := gb246) (o := .cells #[.slice A1_0 l1_0.length c1_0, .int .i64 a1_1, .slice A1_2 l1_2.length c1_2] 43 (0, 0)) (by (with_reducible repeat (first | refine blk_drewN ?_ _ | refine blk_drew ?_ | refine blk_alloc ?_ _)); exact BK246.out) hb); have n6_ := Aside0.mk (below_step (by repeat (first | (with_reducible first | exact HB.out | apply below_alloc | apply pw_below_drewN | apply below_drew1 | refine below_set ?_ GE246.out) | exact HB.out)) hb); clear HO_247000; clear HO_247002; clear HO256; clear HO259; clear BK246; clear HB; have HO_247000 := n0_; have HO_247002 := n1_; have HO256 := n2_; have HO259 := n3_; have HO263 := n4_; have BK246 := n5_; have HB := n6_; clear n0_ n1_ n2_ n3_ n4_ n5_ n6_; (try clear hb); (try clear hb2); (try clear hk); (try clear hi); (try clear ho0)))
        (try simp only [Act.put, List.setIfInBounds_toArray, List.set_cons_zero, List.set_cons_succ])
        go_cut [78] (fun v78 wc => ∃ (kq : Nat) (x78_17 : Bool), v78 = .bool x78_17 ∧ Aside0 (hucksterlaw29_StableLearns.j1 kq l0 t257 t260 t261 x78_17 l1_0 a1_1 l1_2 = some r) ∧ Aside0 (kq ≤ kj2) ∧ Aside0 (Kd.N (Kd.slice 3 (Kd.int .i64)) 23 wc w.heap.size (fun k_ => ((P1_0_ k_ ∨ P1_2_ k_) ∨ w.heap.size ≤ k_) ∧ some k_ ≠ (v262 : Value).ownBlock ∧ k_ ≠ gb246) v258 t257) ∧ Aside0 (Kd.R (Kd.int .i64) 3 wc w.heap.size (fun k_ => (w.heap.size ≤ k_)) v262 t261) ∧ Aside0 (Kd.V (Kd.int .i64) 3 wc w.heap.size (fun k_ => ((P1_0_ k_ ∨ P1_2_ k_) ∨ w.heap.size ≤ k_) ∧ some k_ ≠ (v258 : Value).ownBlock ∧ some k_ ≠ (v262 : Value).ownBlock ∧ k_ ≠ gb246) (.slice A1_0 l1_0.length c1_0) l1_0) ∧ Aside0 (Kd.V (Kd.int .i64) 3 wc w.heap.size (fun k_ => ((P1_0_ k_ ∨ P1_2_ k_) ∨ w.heap.size ≤ k_) ∧ some k_ ≠ (v258 : Value).ownBlock ∧ some k_ ≠ (v262 : Value).ownBlock ∧ k_ ≠ gb246) (.slice A1_2 l1_2.length c1_2) l1_2) ∧ Aside0 (wc.heap[gb246]? = some (.cells #[(.slice A1_0 l1_0.length c1_0), .int .i64 a1_1, (.slice A1_2 l1_2.length c1_2)] 43 (0, 0))) ∧ Aside0 (Below w.heap.size w wc))
        case first =>
          have H := HC18.out
          clear HC18
          by_cases c25 : a1_1 ≥ 1
          · rw [if_pos c25] at H
            have c25b0 : decide (1 ≤ a1_1) = true := decide_eq_true c25
            clear c25
            (first | rw [c25b0] | (simp only [i64_w, i32_w]; rw [c25b0]) | skip)
            by_cases c26 : ((t254 == 0) != (decide (a1_1 ≤ 5))) = true
            · rw [if_pos c26] at H
              have c26b0 : ((t254 == 0) != (decide (a1_1 ≤ 5))) = true := c26
              (try (have c26b1 : decide ((t254 == 0) = (decide (a1_1 ≤ 5))) = false := by simpa using c26))
              (try (have c26b2 : ((t254 == 0) == (decide (a1_1 ≤ 5))) = false := by simpa using c26))
              (try (have c26b3 : ¬ ((t254 == 0) = (decide (a1_1 ≤ 5))) := by simpa using c26))
              clear c26
              have H' := Aside0.mk H
              clear H
              have hcz27_0 : w24.cell? ⟨gb246, 0, none⟩ = some (.slice A1_0 l1_0.length c1_0) := (blk_cell BK246.out 0).trans rfl
              have hcz27_1 : w24.cell? ⟨gb246, 1, none⟩ = some (.int .i64 a1_1) := (blk_cell BK246.out 1).trans rfl
              have hcz27_2 : w24.cell? ⟨gb246, 2, none⟩ = some (.slice A1_2 l1_2.length c1_2) := (blk_cell BK246.out 2).trans rfl
              have hfz27_0 := blk_frozen BK246.out 0
              have hfz27_1 := blk_frozen BK246.out 1
              have hfz27_2 := blk_frozen BK246.out 2
              go_wp2
              go_meet
              case rel => exact ⟨_, (true), (by first | rfl | (simp; done) | (simp [*]; done)), H', ⟨by have := HJ2.out; first | omega | exact Nat.le_refl _⟩, ⟨by (with_reducible repeat (first | apply Kd.N_alloc | apply Kd.N_drewN | apply Kd.N_drew)); exact Kd.N_mono HO259.out (fun _ hk => ⟨hk.1.1, ⟨hk.2, hk.1.2.2⟩⟩)⟩, ⟨by (with_reducible repeat (first | apply Kd.R_alloc | apply Kd.R_drewN | apply Kd.R_drew)); exact Kd.R_mono HO263.out (fun _ hk => hk.1)⟩, ⟨by (with_reducible repeat (first | apply Kd.V_alloc | apply Kd.V_drewN | apply Kd.V_drew)); exact Kd.V_mono HO_247000.out (fun _ hk => ⟨hk.1.1.1.1, ⟨hk.1.2, ⟨hk.2, hk.1.1.1.2⟩⟩⟩)⟩, ⟨by (with_reducible repeat (first | apply Kd.V_alloc | apply Kd.V_drewN | apply Kd.V_drew)); exact Kd.V_mono HO_247002.out (fun _ hk => ⟨hk.1.1.1.1, ⟨hk.1.2, ⟨hk.2, hk.1.1.1.2⟩⟩⟩)⟩, ⟨by (with_reducible repeat (first | refine blk_drewN ?_ _ | refine blk_drew ?_ | refine blk_alloc ?_ _)); exact BK246.out⟩, ⟨by repeat (first | (with_reducible first | exact HB.out | apply below_alloc | apply pw_below_drewN | apply below_drew1 | refine below_set ?_ GE246.out) | exact HB.out)⟩⟩
            · rw [if_neg c26] at H
              have c26b0 : ((t254 == 0) != (decide (a1_1 ≤ 5))) = false := by simpa using c26
              (try (have c26b1 : decide ((t254 == 0) = (decide (a1_1 ≤ 5))) = true := by simpa using c26))
              (try (have c26b2 : ((t254 == 0) == (decide (a1_1 ≤ 5))) = true := by simpa using c26))
              clear c26
              by_cases c28 : t254 = 0
              · rw [if_pos c28] at H
                have c28b0 : (t254 == 0) = true := beq_iff_eq.mpr c28
                (try (have c28b0z_ : decide (a1_1 ≤ 5) = true := by have h_ := c26b0; rw [c28b0] at h_; simpa using h_))
                (try (have c28b0z_ : decide (a1_1 ≤ 5) = false := by have h_ := c26b0; rw [c28b0] at h_; simpa using h_))
                have c28b1 : (t254 != 0) = false := bne_eq_false_iff_eq.mpr c28
                clear c28
                by_cases c29 : (t253.length : Int) = a1_1
                · rw [if_pos c29] at H
                  have c29b0 : ((t253.length : Int) == a1_1) = true := beq_iff_eq.mpr c29
                  have c29b1 : ((t253.length : Int) != a1_1) = false := bne_eq_false_iff_eq.mpr c29
                  clear c29
                  have H' := Aside0.mk H
                  clear H
                  have hcz30_0 : w24.cell? ⟨gb246, 0, none⟩ = some (.slice A1_0 l1_0.length c1_0) := (blk_cell BK246.out 0).trans rfl
                  have hcz30_1 : w24.cell? ⟨gb246, 1, none⟩ = some (.int .i64 a1_1) := (blk_cell BK246.out 1).trans rfl
                  have hcz30_2 : w24.cell? ⟨gb246, 2, none⟩ = some (.slice A1_2 l1_2.length c1_2) := (blk_cell BK246.out 2).trans rfl
                  have hfz30_0 := blk_frozen BK246.out 0
                  have hfz30_1 := blk_frozen BK246.out 1
                  have hfz30_2 := blk_frozen BK246.out 2
                  obtain ⟨Ao31, co31, eo31⟩ := Kd.N_slice HO256.out
                  subst eo31
                  go_wp2
                  go_meet
                  case rel => exact ⟨_, (false), (by first | rfl | (simp; done) | (simp [*]; done)), H', ⟨by have := HJ2.out; first | omega | exact Nat.le_refl _⟩, ⟨by (with_reducible repeat (first | apply Kd.N_alloc | apply Kd.N_drewN | apply Kd.N_drew)); exact Kd.N_mono HO259.out (fun _ hk => ⟨hk.1.1, ⟨hk.2, hk.1.2.2⟩⟩)⟩, ⟨by (with_reducible repeat (first | apply Kd.R_alloc | apply Kd.R_drewN | apply Kd.R_drew)); exact Kd.R_mono HO263.out (fun _ hk => hk.1)⟩, ⟨by (with_reducible repeat (first | apply Kd.V_alloc | apply Kd.V_drewN | apply Kd.V_drew)); exact Kd.V_mono HO_247000.out (fun _ hk => ⟨hk.1.1.1.1, ⟨hk.1.2, ⟨hk.2, hk.1.1.1.2⟩⟩⟩)⟩, ⟨by (with_reducible repeat (first | apply Kd.V_alloc | apply Kd.V_drewN | apply Kd.V_drew)); exact Kd.V_mono HO_247002.out (fun _ hk => ⟨hk.1.1.1.1, ⟨hk.1.2, ⟨hk.2, hk.1.1.1.2⟩⟩⟩)⟩, ⟨by (with_reducible repeat (first | refine blk_drewN ?_ _ | refine blk_drew ?_ | refine blk_alloc ?_ _)); exact BK246.out⟩, ⟨by repeat (first | (with_reducible first | exact HB.out | apply below_alloc | apply pw_below_drewN | apply below_drew1 | refine below_set ?_ GE246.out) | exact HB.out)⟩⟩
                · rw [if_neg c29] at H
                  have c29b0 : ((t253.length : Int) == a1_1) = false := beq_eq_false_iff_ne.mpr c29
                  have c29b1 : ((t253.length : Int) != a1_1) = true := bne_iff_ne.mpr c29
                  have H' := Aside0.mk H
                  clear H
                  have hcz32_0 : w24.cell? ⟨gb246, 0, none⟩ = some (.slice A1_0 l1_0.length c1_0) := (blk_cell BK246.out 0).trans rfl
                  have hcz32_1 : w24.cell? ⟨gb246, 1, none⟩ = some (.int .i64 a1_1) := (blk_cell BK246.out 1).trans rfl
                  have hcz32_2 : w24.cell? ⟨gb246, 2, none⟩ = some (.slice A1_2 l1_2.length c1_2) := (blk_cell BK246.out 2).trans rfl
                  have hfz32_0 := blk_frozen BK246.out 0
                  have hfz32_1 := blk_frozen BK246.out 1
                  have hfz32_2 := blk_frozen BK246.out 2
                  obtain ⟨Ao33, co33, eo33⟩ := Kd.N_slice HO256.out
                  subst eo33
                  go_wp2
                  go_meet
                  case rel => exact ⟨_, (true), (by first | rfl | (simp; done) | (simp [*]; done)), H', ⟨by have := HJ2.out; first | omega | exact Nat.le_refl _⟩, ⟨by (with_reducible repeat (first | apply Kd.N_alloc | apply Kd.N_drewN | apply Kd.N_drew)); exact Kd.N_mono HO259.out (fun _ hk => ⟨hk.1.1, ⟨hk.2, hk.1.2.2⟩⟩)⟩, ⟨by (with_reducible repeat (first | apply Kd.R_alloc | apply Kd.R_drewN | apply Kd.R_drew)); exact Kd.R_mono HO263.out (fun _ hk => hk.1)⟩, ⟨by (with_reducible repeat (first | apply Kd.V_alloc | apply Kd.V_drewN | apply Kd.V_drew)); exact Kd.V_mono HO_247000.out (fun _ hk => ⟨hk.1.1.1.1, ⟨hk.1.2, ⟨hk.2, hk.1.1.1.2⟩⟩⟩)⟩, ⟨by (with_reducible repeat (first | apply Kd.V_alloc | apply Kd.V_drewN | apply Kd.V_drew)); exact Kd.V_mono HO_247002.out (fun _ hk => ⟨hk.1.1.1.1, ⟨hk.1.2, ⟨hk.2, hk.1.1.1.2⟩⟩⟩)⟩, ⟨by (with_reducible repeat (first | refine blk_drewN ?_ _ | refine blk_drew ?_ | refine blk_alloc ?_ _)); exact BK246.out⟩, ⟨by repeat (first | (with_reducible first | exact HB.out | apply below_alloc | apply pw_below_drewN | apply below_drew1 | refine below_set ?_ GE246.out) | exact HB.out)⟩⟩
              · rw [if_neg c28] at H
                have c28b0 : (t254 == 0) = false := beq_eq_false_iff_ne.mpr c28
                (try (have c28b0z_ : decide (a1_1 ≤ 5) = true := by have h_ := c26b0; rw [c28b0] at h_; simpa using h_))
                (try (have c28b0z_ : decide (a1_1 ≤ 5) = false := by have h_ := c26b0; rw [c28b0] at h_; simpa using h_))
                have c28b1 : (t254 != 0) = true := bne_iff_ne.mpr c28
                by_cases c34 : t254 = 1
                · rw [if_pos c34] at H
                  have c34b0 : (t254 == 1) = true := beq_iff_eq.mpr c34
                  have c34b1 : (t254 != 1) = false := bne_eq_false_iff_eq.mpr c34
                  clear c34
                  have H' := Aside0.mk H
                  clear H
                  have hcz35_0 : w24.cell? ⟨gb246, 0, none⟩ = some (.slice A1_0 l1_0.length c1_0) := (blk_cell BK246.out 0).trans rfl
                  have hcz35_1 : w24.cell? ⟨gb246, 1, none⟩ = some (.int .i64 a1_1) := (blk_cell BK246.out 1).trans rfl
                  have hcz35_2 : w24.cell? ⟨gb246, 2, none⟩ = some (.slice A1_2 l1_2.length c1_2) := (blk_cell BK246.out 2).trans rfl
                  have hfz35_0 := blk_frozen BK246.out 0
                  have hfz35_1 := blk_frozen BK246.out 1
                  have hfz35_2 := blk_frozen BK246.out 2
                  obtain ⟨Ao36, co36, eo36⟩ := Kd.N_slice HO256.out
                  subst eo36
                  go_wp2
                  go_meet
                  case rel => exact ⟨_, (((t253.length : Int) != 0)), (by first | rfl | (simp; done) | (simp [*]; done)), H', ⟨by have := HJ2.out; first | omega | exact Nat.le_refl _⟩, ⟨by (with_reducible repeat (first | apply Kd.N_alloc | apply Kd.N_drewN | apply Kd.N_drew)); exact Kd.N_mono HO259.out (fun _ hk => ⟨hk.1.1, ⟨hk.2, hk.1.2.2⟩⟩)⟩, ⟨by (with_reducible repeat (first | apply Kd.R_alloc | apply Kd.R_drewN | apply Kd.R_drew)); exact Kd.R_mono HO263.out (fun _ hk => hk.1)⟩, ⟨by (with_reducible repeat (first | apply Kd.V_alloc | apply Kd.V_drewN | apply Kd.V_drew)); exact Kd.V_mono HO_247000.out (fun _ hk => ⟨hk.1.1.1.1, ⟨hk.1.2, ⟨hk.2, hk.1.1.1.2⟩⟩⟩)⟩, ⟨by (with_reducible repeat (first | apply Kd.V_alloc | apply Kd.V_drewN | apply Kd.V_drew)); exact Kd.V_mono HO_247002.out (fun _ hk => ⟨hk.1.1.1.1, ⟨hk.1.2, ⟨hk.2, hk.1.1.1.2⟩⟩⟩)⟩, ⟨by (with_reducible repeat (first | refine blk_drewN ?_ _ | refine blk_drew ?_ | refine blk_alloc ?_ _)); exact BK246.out⟩, ⟨by repeat (first | (with_reducible first | exact HB.out | apply below_alloc | apply pw_below_drewN | apply below_drew1 | refine below_set ?_ GE246.out) | exact HB.out)⟩⟩
                · rw [if_neg c34] at H
                  have c34b0 : (t254 == 1) = false := beq_eq_false_iff_ne.mpr c34
                  have c34b1 : (t254 != 1) = true := bne_iff_ne.mpr c34
                  have H' := Aside0.mk H
                  clear H
                  have hcz37_0 : w24.cell? ⟨gb246, 0, none⟩ = some (.slice A1_0 l1_0.length c1_0) := (blk_cell BK246.out 0).trans rfl
                  have hcz37_1 : w24.cell? ⟨gb246, 1, none⟩ = some (.int .i64 a1_1) := (blk_cell BK246.out 1).trans rfl
                  have hcz37_2 : w24.cell? ⟨gb246, 2, none⟩ = some (.slice A1_2 l1_2.length c1_2) := (blk_cell BK246.out 2).trans rfl
                  have hfz37_0 := blk_frozen BK246.out 0
                  have hfz37_1 := blk_frozen BK246.out 1
                  have hfz37_2 := blk_frozen BK246.out 2
                  go_wp2
                  go_meet
                  case rel => exact ⟨_, (true), (by first | rfl | (simp; done) | (simp [*]; done)), H', ⟨by have := HJ2.out; first | omega | exact Nat.le_refl _⟩, ⟨by (with_reducible repeat (first | apply Kd.N_alloc | apply Kd.N_drewN | apply Kd.N_drew)); exact Kd.N_mono HO259.out (fun _ hk => ⟨hk.1.1, ⟨hk.2, hk.1.2.2⟩⟩)⟩, ⟨by (with_reducible repeat (first | apply Kd.R_alloc | apply Kd.R_drewN | apply Kd.R_drew)); exact Kd.R_mono HO263.out (fun _ hk => hk.1)⟩, ⟨by (with_reducible repeat (first | apply Kd.V_alloc | apply Kd.V_drewN | apply Kd.V_drew)); exact Kd.V_mono HO_247000.out (fun _ hk => ⟨hk.1.1.1.1, ⟨hk.1.2, ⟨hk.2, hk.1.1.1.2⟩⟩⟩)⟩, ⟨by (with_reducible repeat (first | apply Kd.V_alloc | apply Kd.V_drewN | apply Kd.V_drew)); exact Kd.V_mono HO_247002.out (fun _ hk => ⟨hk.1.1.1.1, ⟨hk.1.2, ⟨hk.2, hk.1.1.1.2⟩⟩⟩)⟩, ⟨by (with_reducible repeat (first | refine blk_drewN ?_ _ | refine blk_drew ?_ | refine blk_alloc ?_ _)); exact BK246.out⟩, ⟨by repeat (first | (with_reducible first | exact HB.out | apply below_alloc | apply pw_below_drewN | apply below_drew1 | refine below_set ?_ GE246.out) | exact HB.out)⟩⟩
          · rw [if_neg c25] at H
            have c25b0 : decide (1 ≤ a1_1) = false := decide_eq_false c25
            clear c25
            (first | rw [c25b0] | (simp only [i64_w, i32_w]; rw [c25b0]) | skip)
            by_cases c38 : ((t254 == 0) != false) = true
            · rw [if_pos c38] at H
              have c38b0 : ((t254 == 0) != false) = true := c38
              (try (have c38b1 : decide ((t254 == 0) = false) = false := by simpa using c38))
              (try (have c38b2 : ((t254 == 0) == false) = false := by simpa using c38))
              (try (have c38b3 : ¬ ((t254 == 0) = false) := by simpa using c38))
              clear c38
              have H' := Aside0.mk H
              clear H
              have hcz39_0 : w24.cell? ⟨gb246, 0, none⟩ = some (.slice A1_0 l1_0.length c1_0) := (blk_cell BK246.out 0).trans rfl
              have hcz39_1 : w24.cell? ⟨gb246, 1, none⟩ = some (.int .i64 a1_1) := (blk_cell BK246.out 1).trans rfl
              have hcz39_2 : w24.cell? ⟨gb246, 2, none⟩ = some (.slice A1_2 l1_2.length c1_2) := (blk_cell BK246.out 2).trans rfl
              have hfz39_0 := blk_frozen BK246.out 0
              have hfz39_1 := blk_frozen BK246.out 1
              have hfz39_2 := blk_frozen BK246.out 2
              go_wp2
              go_meet
              case rel => exact ⟨_, (true), (by first | rfl | (simp; done) | (simp [*]; done)), H', ⟨by have := HJ2.out; first | omega | exact Nat.le_refl _⟩, ⟨by (with_reducible repeat (first | apply Kd.N_alloc | apply Kd.N_drewN | apply Kd.N_drew)); exact Kd.N_mono HO259.out (fun _ hk => ⟨hk.1.1, ⟨hk.2, hk.1.2.2⟩⟩)⟩, ⟨by (with_reducible repeat (first | apply Kd.R_alloc | apply Kd.R_drewN | apply Kd.R_drew)); exact Kd.R_mono HO263.out (fun _ hk => hk.1)⟩, ⟨by (with_reducible repeat (first | apply Kd.V_alloc | apply Kd.V_drewN | apply Kd.V_drew)); exact Kd.V_mono HO_247000.out (fun _ hk => ⟨hk.1.1.1.1, ⟨hk.1.2, ⟨hk.2, hk.1.1.1.2⟩⟩⟩)⟩, ⟨by (with_reducible repeat (first | apply Kd.V_alloc | apply Kd.V_drewN | apply Kd.V_drew)); exact Kd.V_mono HO_247002.out (fun _ hk => ⟨hk.1.1.1.1, ⟨hk.1.2, ⟨hk.2, hk.1.1.1.2⟩⟩⟩)⟩, ⟨by (with_reducible repeat (first | refine blk_drewN ?_ _ | refine blk_drew ?_ | refine blk_alloc ?_ _)); exact BK246.out⟩, ⟨by repeat (first | (with_reducible first | exact HB.out | apply below_alloc | apply pw_below_drewN | apply below_drew1 | refine below_set ?_ GE246.out) | exact HB.out)⟩⟩
            · rw [if_neg c38] at H
              have c38b0 : ((t254 == 0) != false) = false := by simpa using c38
              (try (have c38b1 : decide ((t254 == 0) = false) = true := by simpa using c38))
              (try (have c38b2 : ((t254 == 0) == false) = true := by simpa using c38))
              clear c38
              by_cases c40 : t254 = 0
              · rw [if_pos c40] at H
                have c40b0 : (t254 == 0) = true := beq_iff_eq.mpr c40
                exact absurd c38b0 (by rw [c40b0]; decide)
              · rw [if_neg c40] at H
                have c40b0 : (t254 == 0) = false := beq_eq_false_iff_ne.mpr c40
                have c40b1 : (t254 != 0) = true := bne_iff_ne.mpr c40
                by_cases c46 : t254 = 1
                · rw [if_pos c46] at H
                  have c46b0 : (t254 == 1) = true := beq_iff_eq.mpr c46
                  have c46b1 : (t254 != 1) = false := bne_eq_false_iff_eq.mpr c46
                  clear c46
                  have H' := Aside0.mk H
                  clear H
                  have hcz47_0 : w24.cell? ⟨gb246, 0, none⟩ = some (.slice A1_0 l1_0.length c1_0) := (blk_cell BK246.out 0).trans rfl
                  have hcz47_1 : w24.cell? ⟨gb246, 1, none⟩ = some (.int .i64 a1_1) := (blk_cell BK246.out 1).trans rfl
                  have hcz47_2 : w24.cell? ⟨gb246, 2, none⟩ = some (.slice A1_2 l1_2.length c1_2) := (blk_cell BK246.out 2).trans rfl
                  have hfz47_0 := blk_frozen BK246.out 0
                  have hfz47_1 := blk_frozen BK246.out 1
                  have hfz47_2 := blk_frozen BK246.out 2
                  obtain ⟨Ao48, co48, eo48⟩ := Kd.N_slice HO256.out
                  subst eo48
                  go_wp2
                  go_meet
                  case rel => exact ⟨_, (((t253.length : Int) != 0)), (by first | rfl | (simp; done) | (simp [*]; done)), H', ⟨by have := HJ2.out; first | omega | exact Nat.le_refl _⟩, ⟨by (with_reducible repeat (first | apply Kd.N_alloc | apply Kd.N_drewN | apply Kd.N_drew)); exact Kd.N_mono HO259.out (fun _ hk => ⟨hk.1.1, ⟨hk.2, hk.1.2.2⟩⟩)⟩, ⟨by (with_reducible repeat (first | apply Kd.R_alloc | apply Kd.R_drewN | apply Kd.R_drew)); exact Kd.R_mono HO263.out (fun _ hk => hk.1)⟩, ⟨by (with_reducible repeat (first | apply Kd.V_alloc | apply Kd.V_drewN | apply Kd.V_drew)); exact Kd.V_mono HO_247000.out (fun _ hk => ⟨hk.1.1.1.1, ⟨hk.1.2, ⟨hk.2, hk.1.1.1.2⟩⟩⟩)⟩, ⟨by (with_reducible repeat (first | apply Kd.V_alloc | apply Kd.V_drewN | apply Kd.V_drew)); exact Kd.V_mono HO_247002.out (fun _ hk => ⟨hk.1.1.1.1, ⟨hk.1.2, ⟨hk.2, hk.1.1.1.2⟩⟩⟩)⟩, ⟨by (with_reducible repeat (first | refine blk_drewN ?_ _ | refine blk_drew ?_ | refine blk_alloc ?_ _)); exact BK246.out⟩, ⟨by repeat (first | (with_reducible first | exact HB.out | apply below_alloc | apply pw_below_drewN | apply below_drew1 | refine below_set ?_ GE246.out) | exact HB.out)⟩⟩
                · rw [if_neg c46] at H
                  have c46b0 : (t254 == 1) = false := beq_eq_false_iff_ne.mpr c46
                  have c46b1 : (t254 != 1) = true := bne_iff_ne.mpr c46
                  have H' := Aside0.mk H
                  clear H
                  have hcz49_0 : w24.cell? ⟨gb246, 0, none⟩ = some (.slice A1_0 l1_0.length c1_0) := (blk_cell BK246.out 0).trans rfl
                  have hcz49_1 : w24.cell? ⟨gb246, 1, none⟩ = some (.int .i64 a1_1) := (blk_cell BK246.out 1).trans rfl
                  have hcz49_2 : w24.cell? ⟨gb246, 2, none⟩ = some (.slice A1_2 l1_2.length c1_2) := (blk_cell BK246.out 2).trans rfl
                  have hfz49_0 := blk_frozen BK246.out 0
                  have hfz49_1 := blk_frozen BK246.out 1
                  have hfz49_2 := blk_frozen BK246.out 2
                  go_wp2
                  go_meet
                  case rel => exact ⟨_, (true), (by first | rfl | (simp; done) | (simp [*]; done)), H', ⟨by have := HJ2.out; first | omega | exact Nat.le_refl _⟩, ⟨by (with_reducible repeat (first | apply Kd.N_alloc | apply Kd.N_drewN | apply Kd.N_drew)); exact Kd.N_mono HO259.out (fun _ hk => ⟨hk.1.1, ⟨hk.2, hk.1.2.2⟩⟩)⟩, ⟨by (with_reducible repeat (first | apply Kd.R_alloc | apply Kd.R_drewN | apply Kd.R_drew)); exact Kd.R_mono HO263.out (fun _ hk => hk.1)⟩, ⟨by (with_reducible repeat (first | apply Kd.V_alloc | apply Kd.V_drewN | apply Kd.V_drew)); exact Kd.V_mono HO_247000.out (fun _ hk => ⟨hk.1.1.1.1, ⟨hk.1.2, ⟨hk.2, hk.1.1.1.2⟩⟩⟩)⟩, ⟨by (with_reducible repeat (first | apply Kd.V_alloc | apply Kd.V_drewN | apply Kd.V_drew)); exact Kd.V_mono HO_247002.out (fun _ hk => ⟨hk.1.1.1.1, ⟨hk.1.2, ⟨hk.2, hk.1.1.1.2⟩⟩⟩)⟩, ⟨by (with_reducible repeat (first | refine blk_drewN ?_ _ | refine blk_drew ?_ | refine blk_alloc ?_ _)); exact BK246.out⟩, ⟨by repeat (first | (with_reducible first | exact HB.out | apply below_alloc | apply pw_below_drewN | apply below_drew1 | refine below_set ?_ GE246.out) | exact HB.out)⟩⟩
        case rest =>
          clear HC18
          try clear c1
          try clear c2
          try clear p2
          try clear c3
          try clear c4
          try clear c6
          try clear c7
          try clear c12
          try clear c25
          try clear c25b0
          try clear c26
          try clear c26b0
          try clear c26b1
          try clear c26b2
          try clear c28
          try clear c28b0
          try clear c28b1
          try clear c29
          try clear c29b0
          try clear c29b1
          try clear c33
          try clear c34
          try clear c34b0
          try clear c34b1
          try clear c35
          try clear c36
          try clear c37
          try clear c38
          try clear c38b0
          try clear c38b1
          try clear c38b2
          try clear c40
          try clear c40b0
          try clear c40b1
          try clear c41
          try clear c41b0
          try clear c41b1
          try clear c46
          try clear c46b0
          try clear c46b1
          try clear hcz19_0
          try clear hcz19_1
          try clear hcz19_2
          try clear hcz21_0
          try clear hcz21_1
          try clear hcz21_2
          try clear hcz23_0
          try clear hcz23_1
          try clear hcz23_2
          try clear hcz27_0
          try clear hcz27_1
          try clear hcz27_2
          try clear hcz30_0
          try clear hcz30_1
          try clear hcz30_2
          try clear hcz32_0
          try clear hcz32_1
          try clear hcz32_2
          try clear hcz35_0
          try clear hcz35_1
          try clear hcz35_2
          try clear hcz37_0
          try clear hcz37_1
          try clear hcz37_2
          try clear hcz39_0
          try clear hcz39_1
          try clear hcz39_2
          try clear hcz42_0
          try clear hcz42_1
          try clear hcz42_2
          try clear hcz44_0
          try clear hcz44_1
          try clear hcz44_2
          try clear hcz47_0
          try clear hcz47_1
          try clear hcz47_2
          try clear hcz49_0
          try clear hcz49_1
          try clear hcz49_2
          try clear hcz8_0
          try clear hcz8_1
          try clear hcz8_2
          try clear hfz19_0
          try clear hfz19_1
          try clear hfz19_2
          try clear hfz21_0
          try clear hfz21_1
          try clear hfz21_2
          try clear hfz23_0
          try clear hfz23_1
          try clear hfz23_2
          try clear hfz27_0
          try clear hfz27_1
          try clear hfz27_2
          try clear hfz30_0
          try clear hfz30_1
          try clear hfz30_2
          try clear hfz32_0
          try clear hfz32_1
          try clear hfz32_2
          try clear hfz35_0
          try clear hfz35_1
          try clear hfz35_2
          try clear hfz37_0
          try clear hfz37_1
          try clear hfz37_2
          try clear hfz39_0
          try clear hfz39_1
          try clear hfz39_2
          try clear hfz42_0
          try clear hfz42_1
          try clear hfz42_2
          try clear hfz44_0
          try clear hfz44_1
          try clear hfz44_2
          try clear hfz47_0
          try clear hfz47_1
          try clear hfz47_2
          try clear hfz49_0
          try clear hfz49_1
          try clear hfz49_2
          try clear hfz8_0
          try clear hfz8_1
          try clear hfz8_2
          try clear p2
          obtain ⟨kq, x78_17, rfl, HA, HJ17, HO_7, HO_9, HO_247000, HO_247002, BK246, HB⟩ := hcut
          cases kq with
          | zero => exact absurd HA.out (by simp [hucksterlaw29_StableLearns.j1])
          | succ kj17 =>
            have H := HA.out
            clear HA
            simp only [hucksterlaw29_StableLearns.j1] at H
            by_cases c50 : x78_17 = true
            · subst c50
              have H1 : (some false) = some r := by rw [if_pos rfl] at H; exact H
              clear H
              have H := H1
              clear H1
              obtain rfl := Option.some.inj H
              go_wp2
              go_ret
              exact ⟨by first | rfl | (simp [errW_none, errW_some] <;> rfl) | (simp [*, errW_none, errW_some] <;> rfl), by repeat (first | (with_reducible first | exact HB.out | apply below_alloc | apply pw_below_drewN | apply below_drew1 | refine below_set ?_ GE246.out) | exact HB.out)⟩
            · replace c50 := Bool.eq_false_iff.mpr c50
              subst c50
              have H1 : ((hucksterref29_May.f kj17 l0 l1_0).bind fun t264 => (if t264 = true then ((hucksterref29_Stable.f kj17 l0 l1_0).bind fun t266 => ((hucksterref03_Same.f kj17 t261 t266).bind fun t269 => (if t269 = true then ((hucksterref03_May.f kj17 l1_2).bind fun t270 => (if t270 = true then (if a1_1 < 1 then (hucksterlaw29_StableLearns.j2 kj17 l0 t257 t260 true l1_0 a1_1 l1_2) else (hucksterlaw29_StableLearns.j2 kj17 l0 t257 t260 (decide (a1_1 > (l0.length : Int))) l1_0 a1_1 l1_2)) else (hucksterlaw29_StableLearns.j2 kj17 l0 t257 t260 true l1_0 a1_1 l1_2))) else (some false)))) else (if t260 = 1 then (if (t257.length : Int) = 0 then (if (t261.length : Int) = 0 then ((hucksterlaw29_awake.f kj17).bind fun t265 => (some t265)) else (some false)) else (some false)) else (some false)))) = some r := by rw [if_neg (show ¬ (false = true) by decide)] at H; exact H
              clear H
              have H := H1
              clear H1
              replace H := Option.bind_eq_some_iff.mp H
              obtain ⟨t264, A510, H⟩ := H
              replace H : (if t264 = true then ((hucksterref29_Stable.f kj17 l0 l1_0).bind fun t266 => ((hucksterref03_Same.f kj17 t261 t266).bind fun t269 => (if t269 = true then ((hucksterref03_May.f kj17 l1_2).bind fun t270 => (if t270 = true then (if a1_1 < 1 then (hucksterlaw29_StableLearns.j2 kj17 l0 t257 t260 true l1_0 a1_1 l1_2) else (hucksterlaw29_StableLearns.j2 kj17 l0 t257 t260 (decide (a1_1 > (l0.length : Int))) l1_0 a1_1 l1_2)) else (hucksterlaw29_StableLearns.j2 kj17 l0 t257 t260 true l1_0 a1_1 l1_2))) else (some false)))) else (if t260 = 1 then (if (t257.length : Int) = 0 then (if (t261.length : Int) = 0 then ((hucksterlaw29_awake.f kj17).bind fun t265 => (some t265)) else (some false)) else (some false)) else (some false))) = some r := H
              have A51 := Aside0.mk A510
              clear A510
              by_cases c52 : t264 = true
              · subst c52
                have H1 : ((hucksterref29_Stable.f kj17 l0 l1_0).bind fun t266 => ((hucksterref03_Same.f kj17 t261 t266).bind fun t269 => (if t269 = true then ((hucksterref03_May.f kj17 l1_2).bind fun t270 => (if t270 = true then (if a1_1 < 1 then (hucksterlaw29_StableLearns.j2 kj17 l0 t257 t260 true l1_0 a1_1 l1_2) else (hucksterlaw29_StableLearns.j2 kj17 l0 t257 t260 (decide (a1_1 > (l0.length : Int))) l1_0 a1_1 l1_2)) else (hucksterlaw29_StableLearns.j2 kj17 l0 t257 t260 true l1_0 a1_1 l1_2))) else (some false)))) = some r := by rw [if_pos rfl] at H; exact H
                clear H
                have H := H1
                clear H1
                replace H := Option.bind_eq_some_iff.mp H
                obtain ⟨t266, A530, H⟩ := H
                replace H : ((hucksterref03_Same.f kj17 t261 t266).bind fun t269 => (if t269 = true then ((hucksterref03_May.f kj17 l1_2).bind fun t270 => (if t270 = true then (if a1_1 < 1 then (hucksterlaw29_StableLearns.j2 kj17 l0 t257 t260 true l1_0 a1_1 l1_2) else (hucksterlaw29_StableLearns.j2 kj17 l0 t257 t260 (decide (a1_1 > (l0.length : Int))) l1_0 a1_1 l1_2)) else (hucksterlaw29_StableLearns.j2 kj17 l0 t257 t260 true l1_0 a1_1 l1_2))) else (some false))) = some r := H
                have A53 := Aside0.mk A530
                clear A530
                replace H := Option.bind_eq_some_iff.mp H
                obtain ⟨t269, A540, H⟩ := H
                replace H : (if t269 = true then ((hucksterref03_May.f kj17 l1_2).bind fun t270 => (if t270 = true then (if a1_1 < 1 then (hucksterlaw29_StableLearns.j2 kj17 l0 t257 t260 true l1_0 a1_1 l1_2) else (hucksterlaw29_StableLearns.j2 kj17 l0 t257 t260 (decide (a1_1 > (l0.length : Int))) l1_0 a1_1 l1_2)) else (hucksterlaw29_StableLearns.j2 kj17 l0 t257 t260 true l1_0 a1_1 l1_2))) else (some false)) = some r := H
                have A54 := Aside0.mk A540
                clear A540
                by_cases c55 : t269 = true
                · subst c55
                  have H1 : ((hucksterref03_May.f kj17 l1_2).bind fun t270 => (if t270 = true then (if a1_1 < 1 then (hucksterlaw29_StableLearns.j2 kj17 l0 t257 t260 true l1_0 a1_1 l1_2) else (hucksterlaw29_StableLearns.j2 kj17 l0 t257 t260 (decide (a1_1 > (l0.length : Int))) l1_0 a1_1 l1_2)) else (hucksterlaw29_StableLearns.j2 kj17 l0 t257 t260 true l1_0 a1_1 l1_2))) = some r := by rw [if_pos rfl] at H; exact H
                  clear H
                  have H := H1
                  clear H1
                  have HC56 := Aside0.mk H
                  clear H
                  have hcz57_0 : wc.cell? ⟨gb246, 0, none⟩ = some (.slice A1_0 l1_0.length c1_0) := (blk_cell BK246.out 0).trans rfl
                  have hcz57_1 : wc.cell? ⟨gb246, 1, none⟩ = some (.int .i64 a1_1) := (blk_cell BK246.out 1).trans rfl
                  have hcz57_2 : wc.cell? ⟨gb246, 2, none⟩ = some (.slice A1_2 l1_2.length c1_2) := (blk_cell BK246.out 2).trans rfl
                  have hfz57_0 := blk_frozen BK246.out 0
                  have hfz57_1 := blk_frozen BK246.out 1
                  have hfz57_2 := blk_frozen BK246.out 2
                  go_upto_region 12 with (first | ((with_reducible refine gate_callee (f := 38) rfl ?_); refine goesL_ (some 82) rfl rfl Try.func38 (by kernel_rfl) rfl #[.slice A0 l0.length c0, .slice A1_0 l1_0.length c1_0] rfl (by (try simp only [List.map_toArray, List.map_cons, List.map_nil]); first | done | rfl | (simp only [List.length_drop, List.length_take]; rfl)) ?_; (with_reducible refine (hucksterref29_May.calls kj17 _ _ l0 _ _ l1_0 true _ ?side1 ?side2 ?side3 ?side4 A51.out).mono ?_); (case side1 => repeat (first | exact (Kd.C_below HR0.out HB.out) | (with_reducible refine Kd.C_alloc ?_ _) | (with_reducible refine Kd.C_drewN ?_ _) | (with_reducible refine Kd.C_drew ?_))); (case side2 => exact HC0.out); (case side3 => repeat (first | exact (Kd.V_reads' HO_247000.out).2.2 | (with_reducible refine Kd.C_alloc ?_ _) | (with_reducible refine Kd.C_drewN ?_ _) | (with_reducible refine Kd.C_drew ?_))); (case side4 => exact (Kd.V_reads' HO_247000.out).2.1); rintro e w' ⟨rfl, ⟨nd, rfl⟩⟩; refine ⟨_, rfl, ?_⟩) | ((with_reducible refine gate_callee (f := 39) rfl ?_); refine goesL_ (some 103) rfl rfl Try.func39 (by kernel_rfl) rfl #[.slice A0 l0.length c0, .slice A1_0 l1_0.length c1_0] rfl (by (try simp only [List.map_toArray, List.map_cons, List.map_nil]); first | done | rfl | (simp only [List.length_drop, List.length_take]; rfl)) ?_; (with_reducible refine (hucksterref29_Stable.calls kj17 _ _ l0 _ _ l1_0 t266 _ ?side1 ?side2 ?side3 ?side4 A53.out).mono ?_); (case side1 => repeat (first | exact (Kd.C_below HR0.out (by repeat (first | (with_reducible first | exact HB.out | apply below_alloc | apply pw_below_drewN | apply below_drew1 | refine below_set ?_ GE246.out) | exact HB.out))) | (with_reducible refine Kd.C_alloc ?_ _) | (with_reducible refine Kd.C_drewN ?_ _) | (with_reducible refine Kd.C_drew ?_))); (case side2 => exact HC0.out); (case side3 => repeat (first | exact (Kd.V_reads' HO_247000.out).2.2 | (with_reducible refine Kd.C_alloc ?_ _) | (with_reducible refine Kd.C_drewN ?_ _) | (with_reducible refine Kd.C_drew ?_))); (case side4 => exact (Kd.V_reads' HO_247000.out).2.1); rintro e w58 ⟨v267, rfl, ho0, hb⟩; refine ⟨_, rfl, ?_⟩; have n0_ := Aside0.mk (Kd.N_elder' (by (with_reducible repeat (first | apply Kd.N_alloc | apply Kd.N_drewN | apply Kd.N_drew)); exact HO_7.out) (Kd.R_base ho0) hb); have n1_ := Aside0.mk (Kd.R_elder' (by (with_reducible repeat (first | apply Kd.R_alloc | apply Kd.R_drewN | apply Kd.R_drew)); exact HO_9.out) (Kd.R_base ho0) hb); have n2_ := Aside0.mk (Kd.V_elder' (by (with_reducible repeat (first | apply Kd.V_alloc | apply Kd.V_drewN | apply Kd.V_drew)); exact HO_247000.out) (Kd.R_base ho0) hb); have n3_ := Aside0.mk (Kd.V_elder' (by (with_reducible repeat (first | apply Kd.V_alloc | apply Kd.V_drewN | apply Kd.V_drew)); exact HO_247002.out) (Kd.R_base ho0) hb); have n4_ := Aside0.mk (Kd.R_lower (Kd.R_new' (Kd.R_newM (M := fun k_ => (w.heap.size ≤ k_)) ho0 (below_size (by repeat (first | (with_reducible first | exact HB.out | apply below_alloc | apply pw_below_drewN | apply below_drew1 | refine below_set ?_ GE246.out) | exact HB.out))) (fun k_ h_ => h_)) (Kd.R_lt (by (with_reducible repeat (first | apply Kd.R_alloc | apply Kd.R_drewN | apply Kd.R_drew)); exact HO_9.out))) (below_size (by repeat (first | (with_reducible first | exact HB.out | apply below_alloc | apply pw_below_drewN | apply below_drew1 | refine below_set ?_ GE246.out) | exact HB.out)))); have n5_ := Aside0.mk (blk_below (g := gb246) (o := .cells #[.slice A1_0 l1_0.length c1_0, .int .i64 a1_1, .slice A1_2 l1_2.length c1_2] 43 (0, 0)) (by (with_reducible repeat (first | refine blk_drewN ?_ _ | refine blk_drew ?_ | refine blk_alloc ?_ _)); exact BK246.out) hb); have n6_ := Aside0.mk (below_step (by repeat (first | (with_reducible first | exact HB.out | apply below_alloc | apply pw_below_drewN | apply below_drew1 | refine below_set ?_ GE246.out) | exact HB.out)) hb); clear HO_7; clear HO_9; clear HO_247000; clear HO_247002; clear BK246; clear HB; have HO_7 := n0_; have HO_9 := n1_; have HO_247000 := n2_; have HO_247002 := n3_; have HO268 := n4_; have BK246 := n5_; have HB := n6_; clear n0_ n1_ n2_ n3_ n4_ n5_ n6_; (try clear hb); (try clear hb2); (try clear hk); (try clear hi); (try clear ho0); obtain ⟨Ao59, co59, eo59⟩ := Kd.R_slice HO_9.out; subst eo59; obtain ⟨Ao60, co60, eo60⟩ := Kd.R_slice HO268.out; subst eo60) | ((with_reducible refine gate_callee (f := 16) rfl ?_); refine goesL_ (some 104) rfl rfl Try.func16 (by kernel_rfl) rfl #[.slice Ao59 t261.length co59, .slice Ao60 t266.length co60] rfl (by (try simp only [List.map_toArray, List.map_cons, List.map_nil]); first | done | rfl | (simp only [List.length_drop, List.length_take]; rfl)) ?_; (with_reducible refine (hucksterref03_Same.calls kj17 _ _ t261 _ _ t266 true _ ?side1 ?side2 ?side3 ?side4 A54.out).mono ?_); (case side1 => repeat (first | exact (Kd.R_reads' HO_9.out).2.2 | (with_reducible refine Kd.C_alloc ?_ _) | (with_reducible refine Kd.C_drewN ?_ _) | (with_reducible refine Kd.C_drew ?_))); (case side2 => exact (Kd.R_reads' HO_9.out).2.1); (case side3 => repeat (first | exact (Kd.R_reads' HO268.out).2.2 | (with_reducible refine Kd.C_alloc ?_ _) | (with_reducible refine Kd.C_drewN ?_ _) | (with_reducible refine Kd.C_drew ?_))); (case side4 => exact (Kd.R_reads' HO268.out).2.1); rintro e w' ⟨rfl, ⟨nd, rfl⟩⟩; refine ⟨_, rfl, ?_⟩))
                  (try simp only [Act.put, List.setIfInBounds_toArray, List.set_cons_zero, List.set_cons_succ])
                  go_cut [121] (fun v121 wc => ∃ (kq : Nat) (x121_55 : Bool), v121 = .bool x121_55 ∧ Aside0 (hucksterlaw29_StableLearns.j2 kq l0 t257 t260 x121_55 l1_0 a1_1 l1_2 = some r) ∧ Aside0 (kq ≤ kj17) ∧ Aside0 (Kd.N (Kd.slice 3 (Kd.int .i64)) 23 wc w.heap.size (fun k_ => ((P1_0_ k_ ∨ P1_2_ k_) ∨ w.heap.size ≤ k_) ∧ k_ ≠ gb246) v258 t257) ∧ Aside0 (Kd.V (Kd.int .i64) 3 wc w.heap.size (fun k_ => ((P1_0_ k_ ∨ P1_2_ k_) ∨ w.heap.size ≤ k_) ∧ some k_ ≠ (v258 : Value).ownBlock ∧ k_ ≠ gb246) (.slice A1_0 l1_0.length c1_0) l1_0) ∧ Aside0 (Kd.V (Kd.int .i64) 3 wc w.heap.size (fun k_ => ((P1_0_ k_ ∨ P1_2_ k_) ∨ w.heap.size ≤ k_) ∧ some k_ ≠ (v258 : Value).ownBlock ∧ k_ ≠ gb246) (.slice A1_2 l1_2.length c1_2) l1_2) ∧ Aside0 (wc.heap[gb246]? = some (.cells #[(.slice A1_0 l1_0.length c1_0), .int .i64 a1_1, (.slice A1_2 l1_2.length c1_2)] 43 (0, 0))) ∧ Aside0 (Below w.heap.size w wc))
                  case first =>
                    have H := HC56.out
                    clear HC56
                    replace H := Option.bind_eq_some_iff.mp H
                    obtain ⟨t270, A610, H⟩ := H
                    replace H : (if t270 = true then (if a1_1 < 1 then (hucksterlaw29_StableLearns.j2 kj17 l0 t257 t260 true l1_0 a1_1 l1_2) else (hucksterlaw29_StableLearns.j2 kj17 l0 t257 t260 (decide (a1_1 > (l0.length : Int))) l1_0 a1_1 l1_2)) else (hucksterlaw29_StableLearns.j2 kj17 l0 t257 t260 true l1_0 a1_1 l1_2)) = some r := H
                    have A61 := Aside0.mk A610
                    clear A610
                    by_cases c62 : t270 = true
                    · subst c62
                      have H1 : (if a1_1 < 1 then (hucksterlaw29_StableLearns.j2 kj17 l0 t257 t260 true l1_0 a1_1 l1_2) else (hucksterlaw29_StableLearns.j2 kj17 l0 t257 t260 (decide (a1_1 > (l0.length : Int))) l1_0 a1_1 l1_2)) = some r := by rw [if_pos rfl] at H; exact H
                      clear H
                      have H := H1
                      clear H1
                      by_cases c63 : a1_1 < 1
                      · rw [if_pos c63] at H
                        have c63b0 : decide (a1_1 < 1) = true := decide_eq_true c63
                        clear c63
                        (first | rw [c63b0] | (simp only [i64_w, i32_w]; rw [c63b0]) | skip)
                        have H' := Aside0.mk H
                        clear H
                        have hcz64_0 : w58.cell? ⟨gb246, 0, none⟩ = some (.slice A1_0 l1_0.length c1_0) := (blk_cell BK246.out 0).trans rfl
                        have hcz64_1 : w58.cell? ⟨gb246, 1, none⟩ = some (.int .i64 a1_1) := (blk_cell BK246.out 1).trans rfl
                        have hcz64_2 : w58.cell? ⟨gb246, 2, none⟩ = some (.slice A1_2 l1_2.length c1_2) := (blk_cell BK246.out 2).trans rfl
                        have hfz64_0 := blk_frozen BK246.out 0
                        have hfz64_1 := blk_frozen BK246.out 1
                        have hfz64_2 := blk_frozen BK246.out 2
                        go_wp2_with (first | ((with_reducible refine gate_callee (f := 27) rfl ?_); refine goesL_ (some 108) rfl rfl Try.func27 (by kernel_rfl) rfl #[.slice A1_2 l1_2.length c1_2] rfl (by (try simp only [List.map_toArray, List.map_cons, List.map_nil]); first | done | rfl | (simp only [List.length_drop, List.length_take]; rfl)) ?_; (with_reducible refine (hucksterref03_May.calls kj17 _ _ l1_2 true _ ?side1 ?side2 A61.out).mono ?_); (case side1 => repeat (first | exact (Kd.V_reads' HO_247002.out).2.2 | (with_reducible refine Kd.C_alloc ?_ _) | (with_reducible refine Kd.C_drewN ?_ _) | (with_reducible refine Kd.C_drew ?_))); (case side2 => exact (Kd.V_reads' HO_247002.out).2.1); rintro e w' ⟨rfl, ⟨nd, rfl⟩⟩; refine ⟨_, rfl, ?_⟩))
                        go_meet
                        case rel => exact ⟨_, (true), (by first | rfl | (simp; done) | (simp [*]; done)), H', ⟨by have := HJ2.out; have := HJ17.out; first | omega | exact Nat.le_refl _⟩, ⟨by (with_reducible repeat (first | apply Kd.N_alloc | apply Kd.N_drewN | apply Kd.N_drew)); exact Kd.N_mono HO_7.out (fun _ hk => ⟨hk.1.1, hk.1.2.2⟩)⟩, ⟨by (with_reducible repeat (first | apply Kd.V_alloc | apply Kd.V_drewN | apply Kd.V_drew)); exact Kd.V_mono HO_247000.out (fun _ hk => ⟨hk.1.1, ⟨hk.1.2.1, hk.1.2.2.2⟩⟩)⟩, ⟨by (with_reducible repeat (first | apply Kd.V_alloc | apply Kd.V_drewN | apply Kd.V_drew)); exact Kd.V_mono HO_247002.out (fun _ hk => ⟨hk.1.1, ⟨hk.1.2.1, hk.1.2.2.2⟩⟩)⟩, ⟨by (with_reducible repeat (first | refine blk_drewN ?_ _ | refine blk_drew ?_ | refine blk_alloc ?_ _)); exact BK246.out⟩, ⟨by repeat (first | (with_reducible first | exact HB.out | apply below_alloc | apply pw_below_drewN | apply below_drew1 | refine below_set ?_ GE246.out) | exact HB.out)⟩⟩
                      · rw [if_neg c63] at H
                        have c63b0 : decide (a1_1 < 1) = false := decide_eq_false c63
                        clear c63
                        (first | rw [c63b0] | (simp only [i64_w, i32_w]; rw [c63b0]) | skip)
                        have H' := Aside0.mk H
                        clear H
                        have hcz65_0 : w58.cell? ⟨gb246, 0, none⟩ = some (.slice A1_0 l1_0.length c1_0) := (blk_cell BK246.out 0).trans rfl
                        have hcz65_1 : w58.cell? ⟨gb246, 1, none⟩ = some (.int .i64 a1_1) := (blk_cell BK246.out 1).trans rfl
                        have hcz65_2 : w58.cell? ⟨gb246, 2, none⟩ = some (.slice A1_2 l1_2.length c1_2) := (blk_cell BK246.out 2).trans rfl
                        have hfz65_0 := blk_frozen BK246.out 0
                        have hfz65_1 := blk_frozen BK246.out 1
                        have hfz65_2 := blk_frozen BK246.out 2
                        go_wp2_with (first | ((with_reducible refine gate_callee (f := 27) rfl ?_); refine goesL_ (some 108) rfl rfl Try.func27 (by kernel_rfl) rfl #[.slice A1_2 l1_2.length c1_2] rfl (by (try simp only [List.map_toArray, List.map_cons, List.map_nil]); first | done | rfl | (simp only [List.length_drop, List.length_take]; rfl)) ?_; (with_reducible refine (hucksterref03_May.calls kj17 _ _ l1_2 true _ ?side1 ?side2 A61.out).mono ?_); (case side1 => repeat (first | exact (Kd.V_reads' HO_247002.out).2.2 | (with_reducible refine Kd.C_alloc ?_ _) | (with_reducible refine Kd.C_drewN ?_ _) | (with_reducible refine Kd.C_drew ?_))); (case side2 => exact (Kd.V_reads' HO_247002.out).2.1); rintro e w' ⟨rfl, ⟨nd, rfl⟩⟩; refine ⟨_, rfl, ?_⟩))
                        go_meet
                        case rel => exact ⟨_, (decide (a1_1 > (l0.length : Int))), (by first | rfl | (simp; done) | (simp [*]; done)), H', ⟨by have := HJ2.out; have := HJ17.out; first | omega | exact Nat.le_refl _⟩, ⟨by (with_reducible repeat (first | apply Kd.N_alloc | apply Kd.N_drewN | apply Kd.N_drew)); exact Kd.N_mono HO_7.out (fun _ hk => ⟨hk.1.1, hk.1.2.2⟩)⟩, ⟨by (with_reducible repeat (first | apply Kd.V_alloc | apply Kd.V_drewN | apply Kd.V_drew)); exact Kd.V_mono HO_247000.out (fun _ hk => ⟨hk.1.1, ⟨hk.1.2.1, hk.1.2.2.2⟩⟩)⟩, ⟨by (with_reducible repeat (first | apply Kd.V_alloc | apply Kd.V_drewN | apply Kd.V_drew)); exact Kd.V_mono HO_247002.out (fun _ hk => ⟨hk.1.1, ⟨hk.1.2.1, hk.1.2.2.2⟩⟩)⟩, ⟨by (with_reducible repeat (first | refine blk_drewN ?_ _ | refine blk_drew ?_ | refine blk_alloc ?_ _)); exact BK246.out⟩, ⟨by repeat (first | (with_reducible first | exact HB.out | apply below_alloc | apply pw_below_drewN | apply below_drew1 | refine below_set ?_ GE246.out) | exact HB.out)⟩⟩
                    · replace c62 := Bool.eq_false_iff.mpr c62
                      subst c62
                      have H1 : (hucksterlaw29_StableLearns.j2 kj17 l0 t257 t260 true l1_0 a1_1 l1_2) = some r := by rw [if_neg (show ¬ (false = true) by decide)] at H; exact H
                      clear H
                      have H := H1
                      clear H1
                      have H' := Aside0.mk H
                      clear H
                      have hcz66_0 : w58.cell? ⟨gb246, 0, none⟩ = some (.slice A1_0 l1_0.length c1_0) := (blk_cell BK246.out 0).trans rfl
                      have hcz66_1 : w58.cell? ⟨gb246, 1, none⟩ = some (.int .i64 a1_1) := (blk_cell BK246.out 1).trans rfl
                      have hcz66_2 : w58.cell? ⟨gb246, 2, none⟩ = some (.slice A1_2 l1_2.length c1_2) := (blk_cell BK246.out 2).trans rfl
                      have hfz66_0 := blk_frozen BK246.out 0
                      have hfz66_1 := blk_frozen BK246.out 1
                      have hfz66_2 := blk_frozen BK246.out 2
                      go_wp2_with (first | ((with_reducible refine gate_callee (f := 27) rfl ?_); refine goesL_ (some 108) rfl rfl Try.func27 (by kernel_rfl) rfl #[.slice A1_2 l1_2.length c1_2] rfl (by (try simp only [List.map_toArray, List.map_cons, List.map_nil]); first | done | rfl | (simp only [List.length_drop, List.length_take]; rfl)) ?_; (with_reducible refine (hucksterref03_May.calls kj17 _ _ l1_2 false _ ?side1 ?side2 A61.out).mono ?_); (case side1 => repeat (first | exact (Kd.V_reads' HO_247002.out).2.2 | (with_reducible refine Kd.C_alloc ?_ _) | (with_reducible refine Kd.C_drewN ?_ _) | (with_reducible refine Kd.C_drew ?_))); (case side2 => exact (Kd.V_reads' HO_247002.out).2.1); rintro e w' ⟨rfl, ⟨nd, rfl⟩⟩; refine ⟨_, rfl, ?_⟩))
                      go_meet
                      case rel => exact ⟨_, (true), (by first | rfl | (simp; done) | (simp [*]; done)), H', ⟨by have := HJ2.out; have := HJ17.out; first | omega | exact Nat.le_refl _⟩, ⟨by (with_reducible repeat (first | apply Kd.N_alloc | apply Kd.N_drewN | apply Kd.N_drew)); exact Kd.N_mono HO_7.out (fun _ hk => ⟨hk.1.1, hk.1.2.2⟩)⟩, ⟨by (with_reducible repeat (first | apply Kd.V_alloc | apply Kd.V_drewN | apply Kd.V_drew)); exact Kd.V_mono HO_247000.out (fun _ hk => ⟨hk.1.1, ⟨hk.1.2.1, hk.1.2.2.2⟩⟩)⟩, ⟨by (with_reducible repeat (first | apply Kd.V_alloc | apply Kd.V_drewN | apply Kd.V_drew)); exact Kd.V_mono HO_247002.out (fun _ hk => ⟨hk.1.1, ⟨hk.1.2.1, hk.1.2.2.2⟩⟩)⟩, ⟨by (with_reducible repeat (first | refine blk_drewN ?_ _ | refine blk_drew ?_ | refine blk_alloc ?_ _)); exact BK246.out⟩, ⟨by repeat (first | (with_reducible first | exact HB.out | apply below_alloc | apply pw_below_drewN | apply below_drew1 | refine below_set ?_ GE246.out) | exact HB.out)⟩⟩
                  case rest =>
                    clear HC56
                    try clear c1
                    try clear c2
                    try clear p2
                    try clear c3
                    try clear c4
                    try clear c5
                    try clear c6
                    try clear c7
                    try clear c12
                    try clear c16
                    try clear c25
                    try clear c25b0
                    try clear c26
                    try clear c26b0
                    try clear c26b1
                    try clear c26b2
                    try clear c27
                    try clear c28
                    try clear c28b0
                    try clear c28b1
                    try clear c29
                    try clear c29b0
                    try clear c29b1
                    try clear c33
                    try clear c34
                    try clear c34b0
                    try clear c34b1
                    try clear c35
                    try clear c36
                    try clear c37
                    try clear c38
                    try clear c38b0
                    try clear c38b1
                    try clear c38b2
                    try clear c39
                    try clear c40
                    try clear c40b0
                    try clear c40b1
                    try clear c41
                    try clear c41b0
                    try clear c41b1
                    try clear c46
                    try clear c46b0
                    try clear c46b1
                    try clear c50
                    try clear c52
                    try clear c55
                    try clear c62
                    try clear c63
                    try clear c63b0
                    try clear hcz19_0
                    try clear hcz19_1
                    try clear hcz19_2
                    try clear hcz21_0
                    try clear hcz21_1
                    try clear hcz21_2
                    try clear hcz23_0
                    try clear hcz23_1
                    try clear hcz23_2
                    try clear hcz27_0
                    try clear hcz27_1
                    try clear hcz27_2
                    try clear hcz30_0
                    try clear hcz30_1
                    try clear hcz30_2
                    try clear hcz32_0
                    try clear hcz32_1
                    try clear hcz32_2
                    try clear hcz35_0
                    try clear hcz35_1
                    try clear hcz35_2
                    try clear hcz37_0
                    try clear hcz37_1
                    try clear hcz37_2
                    try clear hcz39_0
                    try clear hcz39_1
                    try clear hcz39_2
                    try clear hcz42_0
                    try clear hcz42_1
                    try clear hcz42_2
                    try clear hcz44_0
                    try clear hcz44_1
                    try clear hcz44_2
                    try clear hcz47_0
                    try clear hcz47_1
                    try clear hcz47_2
                    try clear hcz49_0
                    try clear hcz49_1
                    try clear hcz49_2
                    try clear hcz57_0
                    try clear hcz57_1
                    try clear hcz57_2
                    try clear hcz64_0
                    try clear hcz64_1
                    try clear hcz64_2
                    try clear hcz65_0
                    try clear hcz65_1
                    try clear hcz65_2
                    try clear hcz66_0
                    try clear hcz66_1
                    try clear hcz66_2
                    try clear hcz8_0
                    try clear hcz8_1
                    try clear hcz8_2
                    try clear hfz19_0
                    try clear hfz19_1
                    try clear hfz19_2
                    try clear hfz21_0
                    try clear hfz21_1
                    try clear hfz21_2
                    try clear hfz23_0
                    try clear hfz23_1
                    try clear hfz23_2
                    try clear hfz27_0
                    try clear hfz27_1
                    try clear hfz27_2
                    try clear hfz30_0
                    try clear hfz30_1
                    try clear hfz30_2
                    try clear hfz32_0
                    try clear hfz32_1
                    try clear hfz32_2
                    try clear hfz35_0
                    try clear hfz35_1
                    try clear hfz35_2
                    try clear hfz37_0
                    try clear hfz37_1
                    try clear hfz37_2
                    try clear hfz39_0
                    try clear hfz39_1
                    try clear hfz39_2
                    try clear hfz42_0
                    try clear hfz42_1
                    try clear hfz42_2
                    try clear hfz44_0
                    try clear hfz44_1
                    try clear hfz44_2
                    try clear hfz47_0
                    try clear hfz47_1
                    try clear hfz47_2
                    try clear hfz49_0
                    try clear hfz49_1
                    try clear hfz49_2
                    try clear hfz57_0
                    try clear hfz57_1
                    try clear hfz57_2
                    try clear hfz64_0
                    try clear hfz64_1
                    try clear hfz64_2
                    try clear hfz65_0
                    try clear hfz65_1
                    try clear hfz65_2
                    try clear hfz66_0
                    try clear hfz66_1
                    try clear hfz66_2
                    try clear hfz8_0
                    try clear hfz8_1
                    try clear hfz8_2
                    try clear p2
                    obtain ⟨kq, x121_55, rfl, HA, HJ55, HO_7, HO_247000, HO_247002, BK246, HB⟩ := hcut
                    cases kq with
                    | zero => exact absurd HA.out (by simp [hucksterlaw29_StableLearns.j2])
                    | succ kj55 =>
                      have H := HA.out
                      clear HA
                      simp only [hucksterlaw29_StableLearns.j2] at H
                      by_cases c67 : x121_55 = true
                      · subst c67
                        have H1 : (if t260 = 1 then (if (t257.length : Int) = 0 then ((hucksterlaw29_awake.f kj55).bind fun t271 => (some t271)) else (some false)) else (some false)) = some r := by rw [if_pos rfl] at H; exact H
                        clear H
                        have H := H1
                        clear H1
                        by_cases c68 : t260 = 1
                        · rw [if_pos c68] at H
                          have c68b0 : (t260 == 1) = true := beq_iff_eq.mpr c68
                          have c68b1 : (t260 != 1) = false := bne_eq_false_iff_eq.mpr c68
                          clear c68
                          by_cases c69 : (t257.length : Int) = 0
                          · rw [if_pos c69] at H
                            have c69b0 : ((t257.length : Int) == 0) = true := beq_iff_eq.mpr c69
                            have c69b1 : ((t257.length : Int) != 0) = false := bne_eq_false_iff_eq.mpr c69
                            clear c69
                            replace H := Option.bind_eq_some_iff.mp H
                            obtain ⟨t271, A700, H⟩ := H
                            replace H : (some t271) = some r := H
                            have A70 := Aside0.mk A700
                            clear A700
                            obtain rfl := Option.some.inj H
                            obtain ⟨Ao71, co71, eo71⟩ := Kd.N_slice HO_7.out
                            subst eo71
                            go_wp2_with (first | (go_at_call 34; (with_reducible refine (hucksterlaw29_awake.calls kj55  t271 _ A70.out).mono ?_); rintro e w72 ⟨rfl, hb⟩; have n0_ := Aside0.mk (Kd.N_below (by (with_reducible repeat (first | apply Kd.N_alloc | apply Kd.N_drewN | apply Kd.N_drew)); exact HO_7.out) hb); have n1_ := Aside0.mk (Kd.V_below (by (with_reducible repeat (first | apply Kd.V_alloc | apply Kd.V_drewN | apply Kd.V_drew)); exact HO_247000.out) hb); have n2_ := Aside0.mk (Kd.V_below (by (with_reducible repeat (first | apply Kd.V_alloc | apply Kd.V_drewN | apply Kd.V_drew)); exact HO_247002.out) hb); have n3_ := Aside0.mk (blk_below (g := gb246) (o := .cells #[.slice A1_0 l1_0.length c1_0, .int .i64 a1_1, .slice A1_2 l1_2.length c1_2] 43 (0, 0)) (by (with_reducible repeat (first | refine blk_drewN ?_ _ | refine blk_drew ?_ | refine blk_alloc ?_ _)); exact BK246.out) hb); have n4_ := Aside0.mk (below_step (by repeat (first | (with_reducible first | exact HB.out | apply below_alloc | apply pw_below_drewN | apply below_drew1 | refine below_set ?_ GE246.out) | exact HB.out)) hb); clear HO_7; clear HO_247000; clear HO_247002; clear BK246; clear HB; have HO_7 := n0_; have HO_247000 := n1_; have HO_247002 := n2_; have BK246 := n3_; have HB := n4_; clear n0_ n1_ n2_ n3_ n4_; (try clear hb); (try clear hb2); (try clear hk); (try clear hi)))
                            go_ret
                            exact ⟨by first | rfl | (simp [errW_none, errW_some] <;> rfl) | (simp [*, errW_none, errW_some] <;> rfl), by repeat (first | (with_reducible first | exact HB.out | apply below_alloc | apply pw_below_drewN | apply below_drew1 | refine below_set ?_ GE246.out) | exact HB.out)⟩
                          · rw [if_neg c69] at H
                            have c69b0 : ((t257.length : Int) == 0) = false := beq_eq_false_iff_ne.mpr c69
                            have c69b1 : ((t257.length : Int) != 0) = true := bne_iff_ne.mpr c69
                            have c69b2 : ¬ (t257 = []) := fun h_ => c69 (by rw [h_]; rfl)
                            obtain rfl := Option.some.inj H
                            obtain ⟨Ao73, co73, eo73⟩ := Kd.N_slice HO_7.out
                            subst eo73
                            go_wp2
                            go_ret
                            exact ⟨by first | rfl | (simp [errW_none, errW_some] <;> rfl) | (simp [*, errW_none, errW_some] <;> rfl), by repeat (first | (with_reducible first | exact HB.out | apply below_alloc | apply pw_below_drewN | apply below_drew1 | refine below_set ?_ GE246.out) | exact HB.out)⟩
                        · rw [if_neg c68] at H
                          have c68b0 : (t260 == 1) = false := beq_eq_false_iff_ne.mpr c68
                          have c68b1 : (t260 != 1) = true := bne_iff_ne.mpr c68
                          obtain rfl := Option.some.inj H
                          go_wp2
                          go_ret
                          exact ⟨by first | rfl | (simp [errW_none, errW_some] <;> rfl) | (simp [*, errW_none, errW_some] <;> rfl), by repeat (first | (with_reducible first | exact HB.out | apply below_alloc | apply pw_below_drewN | apply below_drew1 | refine below_set ?_ GE246.out) | exact HB.out)⟩
                      · replace c67 := Bool.eq_false_iff.mpr c67
                        subst c67
                        have H1 : (if t260 = 0 then ((hucksterref29_Learn.f kj55 l0 l1_0 a1_1 l1_2).bind fun t272 => ((hucksterref29_Same.f kj55 t257 t272).bind fun t275 => (if t275 = true then ((hucksterlaw29_awake.f kj55).bind fun t276 => (some t276)) else (some false)))) else (some false)) = some r := by rw [if_neg (show ¬ (false = true) by decide)] at H; exact H
                        clear H
                        have H := H1
                        clear H1
                        by_cases c74 : t260 = 0
                        · rw [if_pos c74] at H
                          have c74b0 : (t260 == 0) = true := beq_iff_eq.mpr c74
                          have c74b1 : (t260 != 0) = false := bne_eq_false_iff_eq.mpr c74
                          clear c74
                          replace H := Option.bind_eq_some_iff.mp H
                          obtain ⟨t272, A750, H⟩ := H
                          replace H : ((hucksterref29_Same.f kj55 t257 t272).bind fun t275 => (if t275 = true then ((hucksterlaw29_awake.f kj55).bind fun t276 => (some t276)) else (some false))) = some r := H
                          have A75 := Aside0.mk A750
                          clear A750
                          replace H := Option.bind_eq_some_iff.mp H
                          obtain ⟨t275, A760, H⟩ := H
                          replace H : (if t275 = true then ((hucksterlaw29_awake.f kj55).bind fun t276 => (some t276)) else (some false)) = some r := H
                          have A76 := Aside0.mk A760
                          clear A760
                          by_cases c77 : t275 = true
                          · subst c77
                            have H1 : ((hucksterlaw29_awake.f kj55).bind fun t276 => (some t276)) = some r := by rw [if_pos rfl] at H; exact H
                            clear H
                            have H := H1
                            clear H1
                            replace H := Option.bind_eq_some_iff.mp H
                            obtain ⟨t276, A780, H⟩ := H
                            replace H : (some t276) = some r := H
                            have A78 := Aside0.mk A780
                            clear A780
                            obtain rfl := Option.some.inj H
                            have hcz79_0 : wc.cell? ⟨gb246, 0, none⟩ = some (.slice A1_0 l1_0.length c1_0) := (blk_cell BK246.out 0).trans rfl
                            have hcz79_1 : wc.cell? ⟨gb246, 1, none⟩ = some (.int .i64 a1_1) := (blk_cell BK246.out 1).trans rfl
                            have hcz79_2 : wc.cell? ⟨gb246, 2, none⟩ = some (.slice A1_2 l1_2.length c1_2) := (blk_cell BK246.out 2).trans rfl
                            have hfz79_0 := blk_frozen BK246.out 0
                            have hfz79_1 := blk_frozen BK246.out 1
                            have hfz79_2 := blk_frozen BK246.out 2
                            go_wp2_with (first | (go_at_call 41; (with_reducible refine (hucksterref29_Learn.calls kj55 _ _ l0 _ _ l1_0 a1_1 _ _ l1_2 t272 _ ?side1 ?side2 ?side3 ?side4 ?side5 ?side6 A75.out).mono ?_); (case side1 => repeat (first | exact (Kd.C_below HR0.out HB.out) | (with_reducible refine Kd.C_alloc ?_ _) | (with_reducible refine Kd.C_drewN ?_ _) | (with_reducible refine Kd.C_drew ?_))); (case side2 => exact HC0.out); (case side3 => repeat (first | exact (Kd.V_reads' HO_247000.out).2.2 | (with_reducible refine Kd.C_alloc ?_ _) | (with_reducible refine Kd.C_drewN ?_ _) | (with_reducible refine Kd.C_drew ?_))); (case side4 => exact (Kd.V_reads' HO_247000.out).2.1); (case side5 => repeat (first | exact (Kd.V_reads' HO_247002.out).2.2 | (with_reducible refine Kd.C_alloc ?_ _) | (with_reducible refine Kd.C_drewN ?_ _) | (with_reducible refine Kd.C_drew ?_))); (case side6 => exact (Kd.V_reads' HO_247002.out).2.1); rintro e w80 ⟨v273, rfl, ho0, hb⟩; have n0_ := Aside0.mk (Kd.N_elder' (by (with_reducible repeat (first | apply Kd.N_alloc | apply Kd.N_drewN | apply Kd.N_drew)); exact HO_7.out) (Kd.N_base (Kd.S_N ho0)) hb); have n1_ := Aside0.mk (Kd.V_elder' (by (with_reducible repeat (first | apply Kd.V_alloc | apply Kd.V_drewN | apply Kd.V_drew)); exact HO_247000.out) (Kd.N_base (Kd.S_N ho0)) hb); have n2_ := Aside0.mk (Kd.V_elder' (by (with_reducible repeat (first | apply Kd.V_alloc | apply Kd.V_drewN | apply Kd.V_drew)); exact HO_247002.out) (Kd.N_base (Kd.S_N ho0)) hb); have n3_ := Aside0.mk (Kd.N_lower (Kd.N_mono (ok' := fun k_ => ((P1_0_ k_ ∨ P1_2_ k_) ∨ w.heap.size ≤ k_) ∧ some k_ ≠ (v258 : Value).ownBlock ∧ k_ ≠ gb246) (Kd.S_N (Kd.S_bound ho0)) (fun k_ hk_ => ⟨(.inr (Nat.le_trans (below_size (by repeat (first | (with_reducible first | exact HB.out | apply below_alloc | apply pw_below_drewN | apply below_drew1 | refine below_set ?_ GE246.out) | exact HB.out))) hk_.2.1)), (Kd.fresh' (Kd.N_lt (by (with_reducible repeat (first | apply Kd.N_alloc | apply Kd.N_drewN | apply Kd.N_drew)); exact HO_7.out)) k_ hk_.2.1), (Kd.freshB (g := gb246) (o := .cells #[.slice A1_0 l1_0.length c1_0, .int .i64 a1_1, .slice A1_2 l1_2.length c1_2] 43 (0, 0)) (by (with_reducible repeat (first | refine blk_drewN ?_ _ | refine blk_drew ?_ | refine blk_alloc ?_ _)); exact BK246.out) k_ hk_.2.1)⟩)) (below_size (by repeat (first | (with_reducible first | exact HB.out | apply below_alloc | apply pw_below_drewN | apply below_drew1 | refine below_set ?_ GE246.out) | exact HB.out)))); have n4_ := Aside0.mk (blk_below (g := gb246) (o := .cells #[.slice A1_0 l1_0.length c1_0, .int .i64 a1_1, .slice A1_2 l1_2.length c1_2] 43 (0, 0)) (by (with_reducible repeat (first | refine blk_drewN ?_ _ | refine blk_drew ?_ | refine blk_alloc ?_ _)); exact BK246.out) hb); have n5_ := Aside0.mk (below_step (by repeat (first | (with_reducible first | exact HB.out | apply below_alloc | apply pw_below_drewN | apply below_drew1 | refine below_set ?_ GE246.out) | exact HB.out)) hb); clear HO_7; clear HO_247000; clear HO_247002; clear BK246; clear HB; have HO_7 := n0_; have HO_247000 := n1_; have HO_247002 := n2_; have HO274 := n3_; have BK246 := n4_; have HB := n5_; clear n0_ n1_ n2_ n3_ n4_ n5_; (try clear hb); (try clear hb2); (try clear hk); (try clear hi); (try clear ho0); obtain ⟨Ao81, co81, eo81⟩ := Kd.N_slice HO_7.out; subst eo81; obtain ⟨Ao82, co82, eo82⟩ := Kd.N_slice HO274.out; subst eo82) | (go_at_call 40; (with_reducible refine (hucksterref29_Same.calls kj55 _ _ t257 _ _ t272 true _ ?side1 ?side2 ?side3 ?side4 A76.out).mono ?_); (case side1 => repeat (first | exact (Kd.N_reads' HO_7.out).2.2 | (with_reducible refine Kd.C_alloc ?_ _) | (with_reducible refine Kd.C_drewN ?_ _) | (with_reducible refine Kd.C_drew ?_))); (case side2 => exact (Kd.N_reads' HO_7.out).2.1); (case side3 => repeat (first | exact (Kd.N_reads' HO274.out).2.2 | (with_reducible refine Kd.C_alloc ?_ _) | (with_reducible refine Kd.C_drewN ?_ _) | (with_reducible refine Kd.C_drew ?_))); (case side4 => exact (Kd.N_reads' HO274.out).2.1); rintro e w' ⟨rfl, ⟨nd, rfl⟩⟩) | (go_at_call 34; (with_reducible refine (hucksterlaw29_awake.calls kj55  t276 _ A78.out).mono ?_); rintro e w83 ⟨rfl, hb⟩; have n0_ := Aside0.mk (Kd.N_below (by (with_reducible repeat (first | apply Kd.N_alloc | apply Kd.N_drewN | apply Kd.N_drew)); exact HO_7.out) hb); have n1_ := Aside0.mk (Kd.V_below (by (with_reducible repeat (first | apply Kd.V_alloc | apply Kd.V_drewN | apply Kd.V_drew)); exact HO_247000.out) hb); have n2_ := Aside0.mk (Kd.V_below (by (with_reducible repeat (first | apply Kd.V_alloc | apply Kd.V_drewN | apply Kd.V_drew)); exact HO_247002.out) hb); have n3_ := Aside0.mk (Kd.N_below (by (with_reducible repeat (first | apply Kd.N_alloc | apply Kd.N_drewN | apply Kd.N_drew)); exact HO274.out) hb); have n4_ := Aside0.mk (blk_below (g := gb246) (o := .cells #[.slice A1_0 l1_0.length c1_0, .int .i64 a1_1, .slice A1_2 l1_2.length c1_2] 43 (0, 0)) (by (with_reducible repeat (first | refine blk_drewN ?_ _ | refine blk_drew ?_ | refine blk_alloc ?_ _)); exact BK246.out) hb); have n5_ := Aside0.mk (below_step (by repeat (first | (with_reducible first | exact HB.out | apply below_alloc | apply pw_below_drewN | apply below_drew1 | refine below_set ?_ GE246.out) | exact HB.out)) hb); clear HO_7; clear HO_247000; clear HO_247002; clear HO274; clear BK246; clear HB; have HO_7 := n0_; have HO_247000 := n1_; have HO_247002 := n2_; have HO274 := n3_; have BK246 := n4_; have HB := n5_; clear n0_ n1_ n2_ n3_ n4_ n5_; (try clear hb); (try clear hb2); (try clear hk); (try clear hi)))
                            go_ret
                            exact ⟨by first | rfl | (simp [errW_none, errW_some] <;> rfl) | (simp [*, errW_none, errW_some] <;> rfl), by repeat (first | (with_reducible first | exact HB.out | apply below_alloc | apply pw_below_drewN | apply below_drew1 | refine below_set ?_ GE246.out) | exact HB.out)⟩
                          · replace c77 := Bool.eq_false_iff.mpr c77
                            subst c77
                            have H1 : (some false) = some r := by rw [if_neg (show ¬ (false = true) by decide)] at H; exact H
                            clear H
                            have H := H1
                            clear H1
                            obtain rfl := Option.some.inj H
                            have hcz84_0 : wc.cell? ⟨gb246, 0, none⟩ = some (.slice A1_0 l1_0.length c1_0) := (blk_cell BK246.out 0).trans rfl
                            have hcz84_1 : wc.cell? ⟨gb246, 1, none⟩ = some (.int .i64 a1_1) := (blk_cell BK246.out 1).trans rfl
                            have hcz84_2 : wc.cell? ⟨gb246, 2, none⟩ = some (.slice A1_2 l1_2.length c1_2) := (blk_cell BK246.out 2).trans rfl
                            have hfz84_0 := blk_frozen BK246.out 0
                            have hfz84_1 := blk_frozen BK246.out 1
                            have hfz84_2 := blk_frozen BK246.out 2
                            go_wp2_with (first | (go_at_call 41; (with_reducible refine (hucksterref29_Learn.calls kj55 _ _ l0 _ _ l1_0 a1_1 _ _ l1_2 t272 _ ?side1 ?side2 ?side3 ?side4 ?side5 ?side6 A75.out).mono ?_); (case side1 => repeat (first | exact (Kd.C_below HR0.out HB.out) | (with_reducible refine Kd.C_alloc ?_ _) | (with_reducible refine Kd.C_drewN ?_ _) | (with_reducible refine Kd.C_drew ?_))); (case side2 => exact HC0.out); (case side3 => repeat (first | exact (Kd.V_reads' HO_247000.out).2.2 | (with_reducible refine Kd.C_alloc ?_ _) | (with_reducible refine Kd.C_drewN ?_ _) | (with_reducible refine Kd.C_drew ?_))); (case side4 => exact (Kd.V_reads' HO_247000.out).2.1); (case side5 => repeat (first | exact (Kd.V_reads' HO_247002.out).2.2 | (with_reducible refine Kd.C_alloc ?_ _) | (with_reducible refine Kd.C_drewN ?_ _) | (with_reducible refine Kd.C_drew ?_))); (case side6 => exact (Kd.V_reads' HO_247002.out).2.1); rintro e w85 ⟨v273, rfl, ho0, hb⟩; have n0_ := Aside0.mk (Kd.N_elder' (by (with_reducible repeat (first | apply Kd.N_alloc | apply Kd.N_drewN | apply Kd.N_drew)); exact HO_7.out) (Kd.N_base (Kd.S_N ho0)) hb); have n1_ := Aside0.mk (Kd.V_elder' (by (with_reducible repeat (first | apply Kd.V_alloc | apply Kd.V_drewN | apply Kd.V_drew)); exact HO_247000.out) (Kd.N_base (Kd.S_N ho0)) hb); have n2_ := Aside0.mk (Kd.V_elder' (by (with_reducible repeat (first | apply Kd.V_alloc | apply Kd.V_drewN | apply Kd.V_drew)); exact HO_247002.out) (Kd.N_base (Kd.S_N ho0)) hb); have n3_ := Aside0.mk (Kd.N_lower (Kd.N_mono (ok' := fun k_ => ((P1_0_ k_ ∨ P1_2_ k_) ∨ w.heap.size ≤ k_) ∧ some k_ ≠ (v258 : Value).ownBlock ∧ k_ ≠ gb246) (Kd.S_N (Kd.S_bound ho0)) (fun k_ hk_ => ⟨(.inr (Nat.le_trans (below_size (by repeat (first | (with_reducible first | exact HB.out | apply below_alloc | apply pw_below_drewN | apply below_drew1 | refine below_set ?_ GE246.out) | exact HB.out))) hk_.2.1)), (Kd.fresh' (Kd.N_lt (by (with_reducible repeat (first | apply Kd.N_alloc | apply Kd.N_drewN | apply Kd.N_drew)); exact HO_7.out)) k_ hk_.2.1), (Kd.freshB (g := gb246) (o := .cells #[.slice A1_0 l1_0.length c1_0, .int .i64 a1_1, .slice A1_2 l1_2.length c1_2] 43 (0, 0)) (by (with_reducible repeat (first | refine blk_drewN ?_ _ | refine blk_drew ?_ | refine blk_alloc ?_ _)); exact BK246.out) k_ hk_.2.1)⟩)) (below_size (by repeat (first | (with_reducible first | exact HB.out | apply below_alloc | apply pw_below_drewN | apply below_drew1 | refine below_set ?_ GE246.out) | exact HB.out)))); have n4_ := Aside0.mk (blk_below (g := gb246) (o := .cells #[.slice A1_0 l1_0.length c1_0, .int .i64 a1_1, .slice A1_2 l1_2.length c1_2] 43 (0, 0)) (by (with_reducible repeat (first | refine blk_drewN ?_ _ | refine blk_drew ?_ | refine blk_alloc ?_ _)); exact BK246.out) hb); have n5_ := Aside0.mk (below_step (by repeat (first | (with_reducible first | exact HB.out | apply below_alloc | apply pw_below_drewN | apply below_drew1 | refine below_set ?_ GE246.out) | exact HB.out)) hb); clear HO_7; clear HO_247000; clear HO_247002; clear BK246; clear HB; have HO_7 := n0_; have HO_247000 := n1_; have HO_247002 := n2_; have HO274 := n3_; have BK246 := n4_; have HB := n5_; clear n0_ n1_ n2_ n3_ n4_ n5_; (try clear hb); (try clear hb2); (try clear hk); (try clear hi); (try clear ho0); obtain ⟨Ao86, co86, eo86⟩ := Kd.N_slice HO_7.out; subst eo86; obtain ⟨Ao87, co87, eo87⟩ := Kd.N_slice HO274.out; subst eo87) | (go_at_call 40; (with_reducible refine (hucksterref29_Same.calls kj55 _ _ t257 _ _ t272 false _ ?side1 ?side2 ?side3 ?side4 A76.out).mono ?_); (case side1 => repeat (first | exact (Kd.N_reads' HO_7.out).2.2 | (with_reducible refine Kd.C_alloc ?_ _) | (with_reducible refine Kd.C_drewN ?_ _) | (with_reducible refine Kd.C_drew ?_))); (case side2 => exact (Kd.N_reads' HO_7.out).2.1); (case side3 => repeat (first | exact (Kd.N_reads' HO274.out).2.2 | (with_reducible refine Kd.C_alloc ?_ _) | (with_reducible refine Kd.C_drewN ?_ _) | (with_reducible refine Kd.C_drew ?_))); (case side4 => exact (Kd.N_reads' HO274.out).2.1); rintro e w' ⟨rfl, ⟨nd, rfl⟩⟩))
                            go_ret
                            exact ⟨by first | rfl | (simp [errW_none, errW_some] <;> rfl) | (simp [*, errW_none, errW_some] <;> rfl), by repeat (first | (with_reducible first | exact HB.out | apply below_alloc | apply pw_below_drewN | apply below_drew1 | refine below_set ?_ GE246.out) | exact HB.out)⟩
                        · rw [if_neg c74] at H
                          have c74b0 : (t260 == 0) = false := beq_eq_false_iff_ne.mpr c74
                          have c74b1 : (t260 != 0) = true := bne_iff_ne.mpr c74
                          obtain rfl := Option.some.inj H
                          go_wp2
                          go_ret
                          exact ⟨by first | rfl | (simp [errW_none, errW_some] <;> rfl) | (simp [*, errW_none, errW_some] <;> rfl), by repeat (first | (with_reducible first | exact HB.out | apply below_alloc | apply pw_below_drewN | apply below_drew1 | refine below_set ?_ GE246.out) | exact HB.out)⟩
                · replace c55 := Bool.eq_false_iff.mpr c55
                  subst c55
                  have H1 : (some false) = some r := by rw [if_neg (show ¬ (false = true) by decide)] at H; exact H
                  clear H
                  have H := H1
                  clear H1
                  obtain rfl := Option.some.inj H
                  have hcz88_0 : wc.cell? ⟨gb246, 0, none⟩ = some (.slice A1_0 l1_0.length c1_0) := (blk_cell BK246.out 0).trans rfl
                  have hcz88_1 : wc.cell? ⟨gb246, 1, none⟩ = some (.int .i64 a1_1) := (blk_cell BK246.out 1).trans rfl
                  have hcz88_2 : wc.cell? ⟨gb246, 2, none⟩ = some (.slice A1_2 l1_2.length c1_2) := (blk_cell BK246.out 2).trans rfl
                  have hfz88_0 := blk_frozen BK246.out 0
                  have hfz88_1 := blk_frozen BK246.out 1
                  have hfz88_2 := blk_frozen BK246.out 2
                  go_wp2_with (first | ((with_reducible refine gate_callee (f := 38) rfl ?_); refine goesL_ (some 82) rfl rfl Try.func38 (by kernel_rfl) rfl #[.slice A0 l0.length c0, .slice A1_0 l1_0.length c1_0] rfl (by (try simp only [List.map_toArray, List.map_cons, List.map_nil]); first | done | rfl | (simp only [List.length_drop, List.length_take]; rfl)) ?_; (with_reducible refine (hucksterref29_May.calls kj17 _ _ l0 _ _ l1_0 true _ ?side1 ?side2 ?side3 ?side4 A51.out).mono ?_); (case side1 => repeat (first | exact (Kd.C_below HR0.out HB.out) | (with_reducible refine Kd.C_alloc ?_ _) | (with_reducible refine Kd.C_drewN ?_ _) | (with_reducible refine Kd.C_drew ?_))); (case side2 => exact HC0.out); (case side3 => repeat (first | exact (Kd.V_reads' HO_247000.out).2.2 | (with_reducible refine Kd.C_alloc ?_ _) | (with_reducible refine Kd.C_drewN ?_ _) | (with_reducible refine Kd.C_drew ?_))); (case side4 => exact (Kd.V_reads' HO_247000.out).2.1); rintro e w' ⟨rfl, ⟨nd, rfl⟩⟩; refine ⟨_, rfl, ?_⟩) | ((with_reducible refine gate_callee (f := 39) rfl ?_); refine goesL_ (some 103) rfl rfl Try.func39 (by kernel_rfl) rfl #[.slice A0 l0.length c0, .slice A1_0 l1_0.length c1_0] rfl (by (try simp only [List.map_toArray, List.map_cons, List.map_nil]); first | done | rfl | (simp only [List.length_drop, List.length_take]; rfl)) ?_; (with_reducible refine (hucksterref29_Stable.calls kj17 _ _ l0 _ _ l1_0 t266 _ ?side1 ?side2 ?side3 ?side4 A53.out).mono ?_); (case side1 => repeat (first | exact (Kd.C_below HR0.out (by repeat (first | (with_reducible first | exact HB.out | apply below_alloc | apply pw_below_drewN | apply below_drew1 | refine below_set ?_ GE246.out) | exact HB.out))) | (with_reducible refine Kd.C_alloc ?_ _) | (with_reducible refine Kd.C_drewN ?_ _) | (with_reducible refine Kd.C_drew ?_))); (case side2 => exact HC0.out); (case side3 => repeat (first | exact (Kd.V_reads' HO_247000.out).2.2 | (with_reducible refine Kd.C_alloc ?_ _) | (with_reducible refine Kd.C_drewN ?_ _) | (with_reducible refine Kd.C_drew ?_))); (case side4 => exact (Kd.V_reads' HO_247000.out).2.1); rintro e w89 ⟨v267, rfl, ho0, hb⟩; refine ⟨_, rfl, ?_⟩; have n0_ := Aside0.mk (Kd.N_elder' (by (with_reducible repeat (first | apply Kd.N_alloc | apply Kd.N_drewN | apply Kd.N_drew)); exact HO_7.out) (Kd.R_base ho0) hb); have n1_ := Aside0.mk (Kd.R_elder' (by (with_reducible repeat (first | apply Kd.R_alloc | apply Kd.R_drewN | apply Kd.R_drew)); exact HO_9.out) (Kd.R_base ho0) hb); have n2_ := Aside0.mk (Kd.V_elder' (by (with_reducible repeat (first | apply Kd.V_alloc | apply Kd.V_drewN | apply Kd.V_drew)); exact HO_247000.out) (Kd.R_base ho0) hb); have n3_ := Aside0.mk (Kd.V_elder' (by (with_reducible repeat (first | apply Kd.V_alloc | apply Kd.V_drewN | apply Kd.V_drew)); exact HO_247002.out) (Kd.R_base ho0) hb); have n4_ := Aside0.mk (Kd.R_lower (Kd.R_new' (Kd.R_newM (M := fun k_ => (w.heap.size ≤ k_)) ho0 (below_size (by repeat (first | (with_reducible first | exact HB.out | apply below_alloc | apply pw_below_drewN | apply below_drew1 | refine below_set ?_ GE246.out) | exact HB.out))) (fun k_ h_ => h_)) (Kd.R_lt (by (with_reducible repeat (first | apply Kd.R_alloc | apply Kd.R_drewN | apply Kd.R_drew)); exact HO_9.out))) (below_size (by repeat (first | (with_reducible first | exact HB.out | apply below_alloc | apply pw_below_drewN | apply below_drew1 | refine below_set ?_ GE246.out) | exact HB.out)))); have n5_ := Aside0.mk (blk_below (g := gb246) (o := .cells #[.slice A1_0 l1_0.length c1_0, .int .i64 a1_1, .slice A1_2 l1_2.length c1_2] 43 (0, 0)) (by (with_reducible repeat (first | refine blk_drewN ?_ _ | refine blk_drew ?_ | refine blk_alloc ?_ _)); exact BK246.out) hb); have n6_ := Aside0.mk (below_step (by repeat (first | (with_reducible first | exact HB.out | apply below_alloc | apply pw_below_drewN | apply below_drew1 | refine below_set ?_ GE246.out) | exact HB.out)) hb); clear HO_7; clear HO_9; clear HO_247000; clear HO_247002; clear BK246; clear HB; have HO_7 := n0_; have HO_9 := n1_; have HO_247000 := n2_; have HO_247002 := n3_; have HO268 := n4_; have BK246 := n5_; have HB := n6_; clear n0_ n1_ n2_ n3_ n4_ n5_ n6_; (try clear hb); (try clear hb2); (try clear hk); (try clear hi); (try clear ho0); obtain ⟨Ao90, co90, eo90⟩ := Kd.R_slice HO_9.out; subst eo90; obtain ⟨Ao91, co91, eo91⟩ := Kd.R_slice HO268.out; subst eo91) | ((with_reducible refine gate_callee (f := 16) rfl ?_); refine goesL_ (some 104) rfl rfl Try.func16 (by kernel_rfl) rfl #[.slice Ao90 t261.length co90, .slice Ao91 t266.length co91] rfl (by (try simp only [List.map_toArray, List.map_cons, List.map_nil]); first | done | rfl | (simp only [List.length_drop, List.length_take]; rfl)) ?_; (with_reducible refine (hucksterref03_Same.calls kj17 _ _ t261 _ _ t266 false _ ?side1 ?side2 ?side3 ?side4 A54.out).mono ?_); (case side1 => repeat (first | exact (Kd.R_reads' HO_9.out).2.2 | (with_reducible refine Kd.C_alloc ?_ _) | (with_reducible refine Kd.C_drewN ?_ _) | (with_reducible refine Kd.C_drew ?_))); (case side2 => exact (Kd.R_reads' HO_9.out).2.1); (case side3 => repeat (first | exact (Kd.R_reads' HO268.out).2.2 | (with_reducible refine Kd.C_alloc ?_ _) | (with_reducible refine Kd.C_drewN ?_ _) | (with_reducible refine Kd.C_drew ?_))); (case side4 => exact (Kd.R_reads' HO268.out).2.1); rintro e w' ⟨rfl, ⟨nd, rfl⟩⟩; refine ⟨_, rfl, ?_⟩))
                  go_ret
                  exact ⟨by first | rfl | (simp [errW_none, errW_some] <;> rfl) | (simp [*, errW_none, errW_some] <;> rfl), by repeat (first | (with_reducible first | exact HB.out | apply below_alloc | apply pw_below_drewN | apply below_drew1 | refine below_set ?_ GE246.out) | exact HB.out)⟩
              · replace c52 := Bool.eq_false_iff.mpr c52
                subst c52
                have H1 : (if t260 = 1 then (if (t257.length : Int) = 0 then (if (t261.length : Int) = 0 then ((hucksterlaw29_awake.f kj17).bind fun t265 => (some t265)) else (some false)) else (some false)) else (some false)) = some r := by rw [if_neg (show ¬ (false = true) by decide)] at H; exact H
                clear H
                have H := H1
                clear H1
                by_cases c92 : t260 = 1
                · rw [if_pos c92] at H
                  have c92b0 : (t260 == 1) = true := beq_iff_eq.mpr c92
                  have c92b1 : (t260 != 1) = false := bne_eq_false_iff_eq.mpr c92
                  clear c92
                  by_cases c93 : (t257.length : Int) = 0
                  · rw [if_pos c93] at H
                    have c93b0 : ((t257.length : Int) == 0) = true := beq_iff_eq.mpr c93
                    have c93b1 : ((t257.length : Int) != 0) = false := bne_eq_false_iff_eq.mpr c93
                    clear c93
                    by_cases c94 : (t261.length : Int) = 0
                    · rw [if_pos c94] at H
                      have c94b0 : ((t261.length : Int) == 0) = true := beq_iff_eq.mpr c94
                      have c94b1 : ((t261.length : Int) != 0) = false := bne_eq_false_iff_eq.mpr c94
                      clear c94
                      replace H := Option.bind_eq_some_iff.mp H
                      obtain ⟨t265, A950, H⟩ := H
                      replace H : (some t265) = some r := H
                      have A95 := Aside0.mk A950
                      clear A950
                      obtain rfl := Option.some.inj H
                      have hcz96_0 : wc.cell? ⟨gb246, 0, none⟩ = some (.slice A1_0 l1_0.length c1_0) := (blk_cell BK246.out 0).trans rfl
                      have hcz96_1 : wc.cell? ⟨gb246, 1, none⟩ = some (.int .i64 a1_1) := (blk_cell BK246.out 1).trans rfl
                      have hcz96_2 : wc.cell? ⟨gb246, 2, none⟩ = some (.slice A1_2 l1_2.length c1_2) := (blk_cell BK246.out 2).trans rfl
                      have hfz96_0 := blk_frozen BK246.out 0
                      have hfz96_1 := blk_frozen BK246.out 1
                      have hfz96_2 := blk_frozen BK246.out 2
                      go_wp2_with (first | ((with_reducible refine gate_callee (f := 38) rfl ?_); refine goesL_ (some 82) rfl rfl Try.func38 (by kernel_rfl) rfl #[.slice A0 l0.length c0, .slice A1_0 l1_0.length c1_0] rfl (by (try simp only [List.map_toArray, List.map_cons, List.map_nil]); first | done | rfl | (simp only [List.length_drop, List.length_take]; rfl)) ?_; (with_reducible refine (hucksterref29_May.calls kj17 _ _ l0 _ _ l1_0 false _ ?side1 ?side2 ?side3 ?side4 A51.out).mono ?_); (case side1 => repeat (first | exact (Kd.C_below HR0.out HB.out) | (with_reducible refine Kd.C_alloc ?_ _) | (with_reducible refine Kd.C_drewN ?_ _) | (with_reducible refine Kd.C_drew ?_))); (case side2 => exact HC0.out); (case side3 => repeat (first | exact (Kd.V_reads' HO_247000.out).2.2 | (with_reducible refine Kd.C_alloc ?_ _) | (with_reducible refine Kd.C_drewN ?_ _) | (with_reducible refine Kd.C_drew ?_))); (case side4 => exact (Kd.V_reads' HO_247000.out).2.1); rintro e w' ⟨rfl, ⟨nd, rfl⟩⟩; refine ⟨_, rfl, ?_⟩; obtain ⟨Ao97, co97, eo97⟩ := Kd.N_slice HO_7.out; subst eo97; obtain ⟨Ao98, co98, eo98⟩ := Kd.R_slice HO_9.out; subst eo98) | (go_at_call 34; (with_reducible refine (hucksterlaw29_awake.calls kj17  t265 _ A95.out).mono ?_); rintro e w99 ⟨rfl, hb⟩; have n0_ := Aside0.mk (Kd.N_below (by (with_reducible repeat (first | apply Kd.N_alloc | apply Kd.N_drewN | apply Kd.N_drew)); exact HO_7.out) hb); have n1_ := Aside0.mk (Kd.R_below (by (with_reducible repeat (first | apply Kd.R_alloc | apply Kd.R_drewN | apply Kd.R_drew)); exact HO_9.out) hb); have n2_ := Aside0.mk (Kd.V_below (by (with_reducible repeat (first | apply Kd.V_alloc | apply Kd.V_drewN | apply Kd.V_drew)); exact HO_247000.out) hb); have n3_ := Aside0.mk (Kd.V_below (by (with_reducible repeat (first | apply Kd.V_alloc | apply Kd.V_drewN | apply Kd.V_drew)); exact HO_247002.out) hb); have n4_ := Aside0.mk (blk_below (g := gb246) (o := .cells #[.slice A1_0 l1_0.length c1_0, .int .i64 a1_1, .slice A1_2 l1_2.length c1_2] 43 (0, 0)) (by (with_reducible repeat (first | refine blk_drewN ?_ _ | refine blk_drew ?_ | refine blk_alloc ?_ _)); exact BK246.out) hb); have n5_ := Aside0.mk (below_step (by repeat (first | (with_reducible first | exact HB.out | apply below_alloc | apply pw_below_drewN | apply below_drew1 | refine below_set ?_ GE246.out) | exact HB.out)) hb); clear HO_7; clear HO_9; clear HO_247000; clear HO_247002; clear BK246; clear HB; have HO_7 := n0_; have HO_9 := n1_; have HO_247000 := n2_; have HO_247002 := n3_; have BK246 := n4_; have HB := n5_; clear n0_ n1_ n2_ n3_ n4_ n5_; (try clear hb); (try clear hb2); (try clear hk); (try clear hi)))
                      go_ret
                      exact ⟨by first | rfl | (simp [errW_none, errW_some] <;> rfl) | (simp [*, errW_none, errW_some] <;> rfl), by repeat (first | (with_reducible first | exact HB.out | apply below_alloc | apply pw_below_drewN | apply below_drew1 | refine below_set ?_ GE246.out) | exact HB.out)⟩
                    · rw [if_neg c94] at H
                      have c94b0 : ((t261.length : Int) == 0) = false := beq_eq_false_iff_ne.mpr c94
                      have c94b1 : ((t261.length : Int) != 0) = true := bne_iff_ne.mpr c94
                      have c94b2 : ¬ (t261 = []) := fun h_ => c94 (by rw [h_]; rfl)
                      obtain rfl := Option.some.inj H
                      have hcz100_0 : wc.cell? ⟨gb246, 0, none⟩ = some (.slice A1_0 l1_0.length c1_0) := (blk_cell BK246.out 0).trans rfl
                      have hcz100_1 : wc.cell? ⟨gb246, 1, none⟩ = some (.int .i64 a1_1) := (blk_cell BK246.out 1).trans rfl
                      have hcz100_2 : wc.cell? ⟨gb246, 2, none⟩ = some (.slice A1_2 l1_2.length c1_2) := (blk_cell BK246.out 2).trans rfl
                      have hfz100_0 := blk_frozen BK246.out 0
                      have hfz100_1 := blk_frozen BK246.out 1
                      have hfz100_2 := blk_frozen BK246.out 2
                      go_wp2_with (first | ((with_reducible refine gate_callee (f := 38) rfl ?_); refine goesL_ (some 82) rfl rfl Try.func38 (by kernel_rfl) rfl #[.slice A0 l0.length c0, .slice A1_0 l1_0.length c1_0] rfl (by (try simp only [List.map_toArray, List.map_cons, List.map_nil]); first | done | rfl | (simp only [List.length_drop, List.length_take]; rfl)) ?_; (with_reducible refine (hucksterref29_May.calls kj17 _ _ l0 _ _ l1_0 false _ ?side1 ?side2 ?side3 ?side4 A51.out).mono ?_); (case side1 => repeat (first | exact (Kd.C_below HR0.out HB.out) | (with_reducible refine Kd.C_alloc ?_ _) | (with_reducible refine Kd.C_drewN ?_ _) | (with_reducible refine Kd.C_drew ?_))); (case side2 => exact HC0.out); (case side3 => repeat (first | exact (Kd.V_reads' HO_247000.out).2.2 | (with_reducible refine Kd.C_alloc ?_ _) | (with_reducible refine Kd.C_drewN ?_ _) | (with_reducible refine Kd.C_drew ?_))); (case side4 => exact (Kd.V_reads' HO_247000.out).2.1); rintro e w' ⟨rfl, ⟨nd, rfl⟩⟩; refine ⟨_, rfl, ?_⟩; obtain ⟨Ao101, co101, eo101⟩ := Kd.N_slice HO_7.out; subst eo101; obtain ⟨Ao102, co102, eo102⟩ := Kd.R_slice HO_9.out; subst eo102))
                      go_ret
                      exact ⟨by first | rfl | (simp [errW_none, errW_some] <;> rfl) | (simp [*, errW_none, errW_some] <;> rfl), by repeat (first | (with_reducible first | exact HB.out | apply below_alloc | apply pw_below_drewN | apply below_drew1 | refine below_set ?_ GE246.out) | exact HB.out)⟩
                  · rw [if_neg c93] at H
                    have c93b0 : ((t257.length : Int) == 0) = false := beq_eq_false_iff_ne.mpr c93
                    have c93b1 : ((t257.length : Int) != 0) = true := bne_iff_ne.mpr c93
                    have c93b2 : ¬ (t257 = []) := fun h_ => c93 (by rw [h_]; rfl)
                    obtain rfl := Option.some.inj H
                    have hcz103_0 : wc.cell? ⟨gb246, 0, none⟩ = some (.slice A1_0 l1_0.length c1_0) := (blk_cell BK246.out 0).trans rfl
                    have hcz103_1 : wc.cell? ⟨gb246, 1, none⟩ = some (.int .i64 a1_1) := (blk_cell BK246.out 1).trans rfl
                    have hcz103_2 : wc.cell? ⟨gb246, 2, none⟩ = some (.slice A1_2 l1_2.length c1_2) := (blk_cell BK246.out 2).trans rfl
                    have hfz103_0 := blk_frozen BK246.out 0
                    have hfz103_1 := blk_frozen BK246.out 1
                    have hfz103_2 := blk_frozen BK246.out 2
                    go_wp2_with (first | ((with_reducible refine gate_callee (f := 38) rfl ?_); refine goesL_ (some 82) rfl rfl Try.func38 (by kernel_rfl) rfl #[.slice A0 l0.length c0, .slice A1_0 l1_0.length c1_0] rfl (by (try simp only [List.map_toArray, List.map_cons, List.map_nil]); first | done | rfl | (simp only [List.length_drop, List.length_take]; rfl)) ?_; (with_reducible refine (hucksterref29_May.calls kj17 _ _ l0 _ _ l1_0 false _ ?side1 ?side2 ?side3 ?side4 A51.out).mono ?_); (case side1 => repeat (first | exact (Kd.C_below HR0.out HB.out) | (with_reducible refine Kd.C_alloc ?_ _) | (with_reducible refine Kd.C_drewN ?_ _) | (with_reducible refine Kd.C_drew ?_))); (case side2 => exact HC0.out); (case side3 => repeat (first | exact (Kd.V_reads' HO_247000.out).2.2 | (with_reducible refine Kd.C_alloc ?_ _) | (with_reducible refine Kd.C_drewN ?_ _) | (with_reducible refine Kd.C_drew ?_))); (case side4 => exact (Kd.V_reads' HO_247000.out).2.1); rintro e w' ⟨rfl, ⟨nd, rfl⟩⟩; refine ⟨_, rfl, ?_⟩; obtain ⟨Ao104, co104, eo104⟩ := Kd.N_slice HO_7.out; subst eo104))
                    go_ret
                    exact ⟨by first | rfl | (simp [errW_none, errW_some] <;> rfl) | (simp [*, errW_none, errW_some] <;> rfl), by repeat (first | (with_reducible first | exact HB.out | apply below_alloc | apply pw_below_drewN | apply below_drew1 | refine below_set ?_ GE246.out) | exact HB.out)⟩
                · rw [if_neg c92] at H
                  have c92b0 : (t260 == 1) = false := beq_eq_false_iff_ne.mpr c92
                  have c92b1 : (t260 != 1) = true := bne_iff_ne.mpr c92
                  obtain rfl := Option.some.inj H
                  have hcz105_0 : wc.cell? ⟨gb246, 0, none⟩ = some (.slice A1_0 l1_0.length c1_0) := (blk_cell BK246.out 0).trans rfl
                  have hcz105_1 : wc.cell? ⟨gb246, 1, none⟩ = some (.int .i64 a1_1) := (blk_cell BK246.out 1).trans rfl
                  have hcz105_2 : wc.cell? ⟨gb246, 2, none⟩ = some (.slice A1_2 l1_2.length c1_2) := (blk_cell BK246.out 2).trans rfl
                  have hfz105_0 := blk_frozen BK246.out 0
                  have hfz105_1 := blk_frozen BK246.out 1
                  have hfz105_2 := blk_frozen BK246.out 2
                  go_wp2_with (first | ((with_reducible refine gate_callee (f := 38) rfl ?_); refine goesL_ (some 82) rfl rfl Try.func38 (by kernel_rfl) rfl #[.slice A0 l0.length c0, .slice A1_0 l1_0.length c1_0] rfl (by (try simp only [List.map_toArray, List.map_cons, List.map_nil]); first | done | rfl | (simp only [List.length_drop, List.length_take]; rfl)) ?_; (with_reducible refine (hucksterref29_May.calls kj17 _ _ l0 _ _ l1_0 false _ ?side1 ?side2 ?side3 ?side4 A51.out).mono ?_); (case side1 => repeat (first | exact (Kd.C_below HR0.out HB.out) | (with_reducible refine Kd.C_alloc ?_ _) | (with_reducible refine Kd.C_drewN ?_ _) | (with_reducible refine Kd.C_drew ?_))); (case side2 => exact HC0.out); (case side3 => repeat (first | exact (Kd.V_reads' HO_247000.out).2.2 | (with_reducible refine Kd.C_alloc ?_ _) | (with_reducible refine Kd.C_drewN ?_ _) | (with_reducible refine Kd.C_drew ?_))); (case side4 => exact (Kd.V_reads' HO_247000.out).2.1); rintro e w' ⟨rfl, ⟨nd, rfl⟩⟩; refine ⟨_, rfl, ?_⟩))
                  go_ret
                  exact ⟨by first | rfl | (simp [errW_none, errW_some] <;> rfl) | (simp [*, errW_none, errW_some] <;> rfl), by repeat (first | (with_reducible first | exact HB.out | apply below_alloc | apply pw_below_drewN | apply below_drew1 | refine below_set ?_ GE246.out) | exact HB.out)⟩

end Go.Proofs.Ytjpjdipdhakjnaa.PStab

/- Small facts that this session's texts use: rows that lie in a block known whole. -/
import Derived.Lib.SliceRun
import Derived.Deep.RegionWith
import Derived.Lib.SlBytesConst
import Derived.Test.YtpahdlgpiecdkaaWMore
import Derived.Test.YtpahdlgpiecdkaaWFoot
import Derived.Test.YtpahdlgpiecdkaaWShare
namespace Go.Proofs.Ytpahdlgpiecdkaa
open Go.RowKit Go.Proofs.YtpahdlgpiecdkaaW.PrintWords Go.Proofs.YtpahdlgpiecdkaaW.PrintLast Go.Proofs.YtpahdlgpiecdkaaW.PrintMore
set_option linter.unusedVariables false
set_option linter.unusedSimpArgs false

/-- Whole numbers in a block known whole. -/
theorem mw_ints {W : World} {g : Nat} {e : Nat} {fr : Nat × Nat} (k : IntKind) (xs : List Int) (hm : xs.length ≤ 9223372036854775807) (hb : W.heap[g]? = some (.cells (xs.map (Value.int k)).toArray e fr)) :
    Kd.C (Kd.int k) W (some ⟨g, 0, none⟩) xs.length xs := by
  refine ⟨rfl, hm, fun _ => ⟨_, rfl, fun j p hj => ⟨[.int k p], rfl, rfl, fun i u hu => ?_⟩⟩⟩
  have hi0 : i = 0 := by
    have := (List.getElem?_eq_some_iff.1 hu).1
    simp at this
    omega
  subst hi0
  have hu' : Value.int k p = u := by simpa using hu
  subst hu'
  have hs : (Kd.int k).sz = 1 := rfl
  rw [hs, Nat.mul_one, Nat.add_zero, add_plain]
  simp [World.cell?, hb, hj]
/-- Rows in a block known whole. -/
theorem mw_rows {W : World} {g : Nat} {e e' : Nat} {fr : Nat × Nat} {α : Type} (d : Kd α) (cs : List Value) (ys : List (List α)) (hm : ys.length ≤ 9223372036854775807) (hb : W.heap[g]? = some (.cells cs.toArray e fr))
    (h : ∀ (j : Nat) (p : List α), ys[j]? = some p → ∃ (A : Option Addr) (c : Nat), cs[j]? = some (Value.slice A p.length c) ∧ p.length ≤ c ∧ d.C W A p.length p) :
    Kd.C (Kd.slice e' d) W (some ⟨g, 0, none⟩) ys.length ys := by
  refine ⟨rfl, hm, fun _ => ⟨_, rfl, fun j p hj => ?_⟩⟩
  obtain ⟨A, c, h1, h2, h3⟩ := h j p hj
  refine ⟨[.slice A p.length c], rfl, ⟨A, c, rfl, h2, h3⟩, fun i u hu => ?_⟩
  have hi0 : i = 0 := by
    have := (List.getElem?_eq_some_iff.1 hu).1
    simp at this
    omega
  subst hi0
  have hu' : Value.slice A p.length c = u := by simpa using hu
  subst hu'
  have hs : (Kd.slice e' d).sz = 1 := rfl
  rw [hs, Nat.mul_one, Nat.add_zero, add_plain]
  simp [World.cell?, hb, h1]
/-- A block looked up behind what was laid since. -/
theorem mw_last (W : World) (o : Obj) (g : Nat) (hg : g = W.heap.size) : (W.alloc o).heap[g]? = some o := by
  subst hg
  exact heap_alloc_new W o
theorem mw_look {W : World} {o x : Obj} {g : Nat} (hg : g = W.heap.size) (ho : o = x) : (W.alloc o).heap[g]? = some x := by
  subst ho
  exact mw_last W o g hg
theorem mw_prev {W : World} {g : Nat} {x : Obj} (o : Obj) (h : W.heap[g]? = some x) : (W.alloc o).heap[g]? = some x := by
  have hlt : g < W.heap.size := (Array.getElem?_eq_some_iff.1 h).1
  rw [← h]
  exact Below.heap_alloc W o g hlt
theorem mw_drewN {W : World} {g : Nat} {x : Obj} (n : Nat) (h : W.heap[g]? = some x) : (W.drewN n).heap[g]? = some x := h
theorem mw_drew {W : World} {g : Nat} {x : Obj} (h : W.heap[g]? = some x) : W.drew.heap[g]? = some x := h
end Go.Proofs.Ytpahdlgpiecdkaa

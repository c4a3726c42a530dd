/- The sum of bytes: what its statements share. -/
import Derived.OpenShut
import Derived.Test.YtpahdlgpiecdkaaCrcLink
import Derived.Test.YtpahdlgpiecdkaaPSumCx1
namespace Go.Proofs.Ytpahdlgpiecdkaa.PSumC
open Go.RowKit Go.Proofs.YtpahdlgpiecdkaaW.PrintWords Go.Proofs.YtpahdlgpiecdkaaW.PrintLast Go.Proofs.Ytpahdlgpiecdkaa.Crc
set_option linter.unusedVariables false

theorem bytes_of {l : List Int} (h : ∀ x ∈ l, (Lit.int .u8 x).wf = true) : Bytes l := fun x hx => by
  have := bounds_u8 (h x hx)
  omega
theorem u32_of {x : Int} (h : (Lit.int .u32 x).wf = true) : 0 ≤ x ∧ x < 4294967296 := by
  simp [Lit.wf, IntKind.min, IntKind.max, IntKind.signed, IntKind.bits] at h
  omega
theorem u16_of {x : Int} (h : (Lit.int .u16 x).wf = true) : 0 ≤ x ∧ x < 65536 := by
  simp [Lit.wf, IntKind.min, IntKind.max, IntKind.signed, IntKind.bits] at h
  omega
theorem awake_ev : Ev (fun k => hucksterlaw01_awake.f k) true := by
  unfold hucksterlaw01_awake.f
  have h := of_ev [[49, 50, 51, 52], [53, 54, 55, 56, 57]] (by unfold Bytes; decide) (by decide)
  refine Ev.bind h ?_
  have e : (rg (crcOn 0#32 [[49, 50, 51, 52], [53, 54, 55, 56, 57]].flatten) == 4236843288) = true := by decide +kernel
  rw [e]
  exact Ev.now _
theorem Bytes.take {l : List Int} (h : Bytes l) (n : Nat) : Bytes (l.take n) := fun x hx => h x (List.mem_of_mem_take hx)
theorem Bytes.drop {l : List Int} (h : Bytes l) (n : Nat) : Bytes (l.drop n) := fun x hx => h x (List.mem_of_mem_drop hx)
theorem ev_if {α : Type} {c : Prop} [Decidable c] {f g : Nat → Option α} {r : α} (hc : c) (h : Ev f r) : Ev (fun k => if c then f k else g k) r := Ev.congr (fun k => if_pos hc) h
theorem ev_else {α : Type} {c : Prop} [Decidable c] {f g : Nat → Option α} {r : α} (hc : ¬ c) (h : Ev g r) : Ev (fun k => if c then f k else g k) r := Ev.congr (fun k => if_neg hc) h
end Go.Proofs.Ytpahdlgpiecdkaa.PSumC

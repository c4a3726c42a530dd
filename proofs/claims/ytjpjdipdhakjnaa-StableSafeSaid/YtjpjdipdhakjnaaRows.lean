/-
  No cell of these rows narrows 'for every input' (looked for: loops, veiled, ifaces, maps, wideKeys, modest, calm, conditions, laid).
  DERIVED. THE GIVEN ROWS OF THIS SEAT. 8 by the template 'for every input the law returns true; each argument reads behind the call as it read before'; 0 by the template 'total and deterministic' (their statements: YtjpjdipdhakjnaaTotals.lean).
  GIVEN WITH THE SEED: the statements are not yours to turn. If you find one false, say at which input.
  Laid BY PROGRAM, IN A SANDBOX (cutbox-rows.mjs): the forced cells as the released guide's own fill.sh prints them over the translation 0fe83ce13e1f105b… (all of the seat's roots in one cut). By AI agents, Wed Nov 11 2026. No macro, syntax, notation, axiom, sorry.
-/
import Derived.Test.YtjpjdipdhakjnaaChecked
import GoSem.Claim
import GoSem.ClaimJoined
import GoSem.ClaimMapViews
import Derived.JoinedTies
import Derived.KernelRfl
namespace Go.Proofs.Ytjpjdipdhakjnaa
/- THE CELL 'sum', in the pinned program and in every row, IS THE sha256 OF THE DUMP (.gsa) THAT YtjpjdipdhakjnaaProg.lean LOADS. Nothing in Lean hashes anything: it is a label: what it is worth is what the hold of that sum in a sandbox is worth. -/
noncomputable def Try.pinned : Pinned := { name := "ytjpjdipdhakjnaa", sum := "0fe83ce13e1f105bfe59318d4d5e14f94ed008982978bd2f1df04c9356fafb42", checked := Try.checked }
namespace Rows
def none {H : Type} : Left H := { results := [], args := [] }

/-- 'hucksterlaw03.ClockBounds': WHATEVER THE INPUT: true; the input reads as it did. -/
def clockBoundsSpec : ChangeSpec := { name := "clockBounds", fn := fun _ => fun
  | [d1, d2, d3] => { results := [.lit (.bool true)], args := [d1, d2, d3] }
  | _ => none }
def clockBoundsRow : OpenClaim := { program := "ytjpjdipdhakjnaa", sum := "0fe83ce13e1f105bfe59318d4d5e14f94ed008982978bd2f1df04c9356fafb42", func := "huckster/hucksterlaw03.ClockBounds", spec := "clockBounds", unfollowed := true, recurses := true, apart := false }
def ClockBoundsSaid : Prop := clockBoundsRow.holds Try.pinned (OpenSpec.ofChange clockBoundsSpec)

/-- ITS FALSE NEIGHBOUR: 'it returns false'. Refute it at one input. -/
def clockBoundsWrong : ChangeSpec := { name := "clockBounds", fn := fun _ => fun
  | [d1, d2, d3] => { results := [.lit (.bool false)], args := [d1, d2, d3] }
  | _ => none }
def ClockBoundsWrongFalsely : Prop := clockBoundsRow.holds Try.pinned (OpenSpec.ofChange clockBoundsWrong)

/-- 'hucksterlaw03.ClockOrders': WHATEVER THE INPUT: true; the input reads as it did. -/
def clockOrdersSpec : ChangeSpec := { name := "clockOrders", fn := fun _ => fun
  | [d1, d2] => { results := [.lit (.bool true)], args := [d1, d2] }
  | _ => none }
def clockOrdersRow : OpenClaim := { program := "ytjpjdipdhakjnaa", sum := "0fe83ce13e1f105bfe59318d4d5e14f94ed008982978bd2f1df04c9356fafb42", func := "huckster/hucksterlaw03.ClockOrders", spec := "clockOrders", unfollowed := true, recurses := true, apart := false }
def ClockOrdersSaid : Prop := clockOrdersRow.holds Try.pinned (OpenSpec.ofChange clockOrdersSpec)

/-- ITS FALSE NEIGHBOUR: 'it returns false'. Refute it at one input. -/
def clockOrdersWrong : ChangeSpec := { name := "clockOrders", fn := fun _ => fun
  | [d1, d2] => { results := [.lit (.bool false)], args := [d1, d2] }
  | _ => none }
def ClockOrdersWrongFalsely : Prop := clockOrdersRow.holds Try.pinned (OpenSpec.ofChange clockOrdersWrong)

/-- 'hucksterlaw03.ClockChains': WHATEVER THE INPUT: true; the input reads as it did. -/
def clockChainsSpec : ChangeSpec := { name := "clockChains", fn := fun _ => fun
  | [d1, d2, d3] => { results := [.lit (.bool true)], args := [d1, d2, d3] }
  | _ => none }
def clockChainsRow : OpenClaim := { program := "ytjpjdipdhakjnaa", sum := "0fe83ce13e1f105bfe59318d4d5e14f94ed008982978bd2f1df04c9356fafb42", func := "huckster/hucksterlaw03.ClockChains", spec := "clockChains", unfollowed := true, recurses := true, apart := false }
def ClockChainsSaid : Prop := clockChainsRow.holds Try.pinned (OpenSpec.ofChange clockChainsSpec)

/-- ITS FALSE NEIGHBOUR: 'it returns false'. Refute it at one input. -/
def clockChainsWrong : ChangeSpec := { name := "clockChains", fn := fun _ => fun
  | [d1, d2, d3] => { results := [.lit (.bool false)], args := [d1, d2, d3] }
  | _ => none }
def ClockChainsWrongFalsely : Prop := clockChainsRow.holds Try.pinned (OpenSpec.ofChange clockChainsWrong)

/-- 'hucksterlaw03.ClockTurns': WHATEVER THE INPUT: true; the input reads as it did. -/
def clockTurnsSpec : ChangeSpec := { name := "clockTurns", fn := fun _ => fun
  | [d1, d2, d3] => { results := [.lit (.bool true)], args := [d1, d2, d3] }
  | _ => none }
def clockTurnsRow : OpenClaim := { program := "ytjpjdipdhakjnaa", sum := "0fe83ce13e1f105bfe59318d4d5e14f94ed008982978bd2f1df04c9356fafb42", func := "huckster/hucksterlaw03.ClockTurns", spec := "clockTurns", unfollowed := true, recurses := true, apart := false }
def ClockTurnsSaid : Prop := clockTurnsRow.holds Try.pinned (OpenSpec.ofChange clockTurnsSpec)

/-- ITS FALSE NEIGHBOUR: 'it returns false'. Refute it at one input. -/
def clockTurnsWrong : ChangeSpec := { name := "clockTurns", fn := fun _ => fun
  | [d1, d2, d3] => { results := [.lit (.bool false)], args := [d1, d2, d3] }
  | _ => none }
def ClockTurnsWrongFalsely : Prop := clockTurnsRow.holds Try.pinned (OpenSpec.ofChange clockTurnsWrong)

/-- 'hucksterlaw29.StableLearns': WHATEVER THE INPUT: true; the input reads as it did. -/
def stableLearnsSpec : ChangeSpec := { name := "stableLearns", fn := fun _ => fun
  | [d1, d2] => { results := [.lit (.bool true)], args := [d1, d2] }
  | _ => none }
def stableLearnsRow : OpenClaim := { program := "ytjpjdipdhakjnaa", sum := "0fe83ce13e1f105bfe59318d4d5e14f94ed008982978bd2f1df04c9356fafb42", func := "huckster/hucksterlaw29.StableLearns", spec := "stableLearns", unfollowed := true, recurses := true, apart := false }
def StableLearnsSaid : Prop := stableLearnsRow.holds Try.pinned (OpenSpec.ofChange stableLearnsSpec)

/-- ITS FALSE NEIGHBOUR: 'it returns false'. Refute it at one input. -/
def stableLearnsWrong : ChangeSpec := { name := "stableLearns", fn := fun _ => fun
  | [d1, d2] => { results := [.lit (.bool false)], args := [d1, d2] }
  | _ => none }
def StableLearnsWrongFalsely : Prop := stableLearnsRow.holds Try.pinned (OpenSpec.ofChange stableLearnsWrong)

/-- 'hucksterlaw29.StableSafe': WHATEVER THE INPUT: true; the input reads as it did. -/
def stableSafeSpec : ChangeSpec := { name := "stableSafe", fn := fun _ => fun
  | [d] => { results := [.lit (.bool true)], args := [d] }
  | _ => none }
def stableSafeRow : OpenClaim := { program := "ytjpjdipdhakjnaa", sum := "0fe83ce13e1f105bfe59318d4d5e14f94ed008982978bd2f1df04c9356fafb42", func := "huckster/hucksterlaw29.StableSafe", spec := "stableSafe", unfollowed := true, recurses := true, apart := false }
def StableSafeSaid : Prop := stableSafeRow.holds Try.pinned (OpenSpec.ofChange stableSafeSpec)

/-- ITS FALSE NEIGHBOUR: 'it returns false'. Refute it at one input. -/
def stableSafeWrong : ChangeSpec := { name := "stableSafe", fn := fun _ => fun
  | [d] => { results := [.lit (.bool false)], args := [d] }
  | _ => none }
def StableSafeWrongFalsely : Prop := stableSafeRow.holds Try.pinned (OpenSpec.ofChange stableSafeWrong)

/-- 'hucksterlaw29.StableGrows': WHATEVER THE INPUT: true; the input reads as it did. -/
def stableGrowsSpec : ChangeSpec := { name := "stableGrows", fn := fun _ => fun
  | [d1, d2] => { results := [.lit (.bool true)], args := [d1, d2] }
  | _ => none }
def stableGrowsRow : OpenClaim := { program := "ytjpjdipdhakjnaa", sum := "0fe83ce13e1f105bfe59318d4d5e14f94ed008982978bd2f1df04c9356fafb42", func := "huckster/hucksterlaw29.StableGrows", spec := "stableGrows", unfollowed := true, recurses := true, apart := false }
def StableGrowsSaid : Prop := stableGrowsRow.holds Try.pinned (OpenSpec.ofChange stableGrowsSpec)

/-- ITS FALSE NEIGHBOUR: 'it returns false'. Refute it at one input. -/
def stableGrowsWrong : ChangeSpec := { name := "stableGrows", fn := fun _ => fun
  | [d1, d2] => { results := [.lit (.bool false)], args := [d1, d2] }
  | _ => none }
def StableGrowsWrongFalsely : Prop := stableGrowsRow.holds Try.pinned (OpenSpec.ofChange stableGrowsWrong)

/-- 'hucksterlaw03.ClockReads': WHATEVER THE INPUT: true; the input reads as it did. -/
def clockReadsSpec : ChangeSpec := { name := "clockReads", fn := fun _ => fun
  | [d1, d2] => { results := [.lit (.bool true)], args := [d1, d2] }
  | _ => none }
def clockReadsRow : OpenClaim := { program := "ytjpjdipdhakjnaa", sum := "0fe83ce13e1f105bfe59318d4d5e14f94ed008982978bd2f1df04c9356fafb42", func := "huckster/hucksterlaw03.ClockReads", spec := "clockReads", unfollowed := true, recurses := true, apart := false }
def ClockReadsSaid : Prop := clockReadsRow.holds Try.pinned (OpenSpec.ofChange clockReadsSpec)

/-- ITS FALSE NEIGHBOUR: 'it returns false'. Refute it at one input. -/
def clockReadsWrong : ChangeSpec := { name := "clockReads", fn := fun _ => fun
  | [d1, d2] => { results := [.lit (.bool false)], args := [d1, d2] }
  | _ => none }
def ClockReadsWrongFalsely : Prop := clockReadsRow.holds Try.pinned (OpenSpec.ofChange clockReadsWrong)

/- THE SECOND FORM. 'bulk': how many values and letters a reading holds, each counted each time it is reached (what is shared counts as often as it is met; a slice's spare places count too). A statement '..UptoSaid' is the law's where the arguments, and the package variables that the reading takes, are together of bulk at most 1048576: NARROWER than '..Said'. Prove '..Said' where nothing that the law and all that it calls make is longer than what came in: it says more and counts as full. Else prove '..UptoSaid'. A law counts once. -/
mutual
def uptoBulk {H : Type} : DataW H → Nat
  | .lit (.string bytes) => bytes.length + 1
  | .lit _ => 1
  | .nil => 1
  | .ptr d => uptoBulk d + 1
  | .slice elems spare => uptoBulkAll elems + uptoBulkAll spare + 1
  | .agg parts => uptoBulkAll parts + 1
  | .iface _ d => uptoBulk d + 1
  | .map entries => uptoBulkEntries entries + 1
  | .held _ => 1
def uptoBulkAll {H : Type} : List (DataW H) → Nat
  | [] => 0
  | d :: r => uptoBulk d + uptoBulkAll r
def uptoBulkEntries {H : Type} : List (Lit × DataW H) → Nat
  | [] => 0
  | x :: r => uptoBulkEntry x + uptoBulkEntries r
def uptoBulkEntry {H : Type} : Lit × DataW H → Nat
  | (.string bytes, d) => bytes.length + uptoBulk d + 1
  | (_, d) => uptoBulk d + 1
 end
def uptoSmall : (H : Type) → List (DataW H) → Bool := fun _ ds => decide (uptoBulkAll ds ≤ 1048576)
def OpenSpec.upto (s : _root_.Go.ChangeSpec) : _root_.Go.OpenSpec := { _root_.Go.OpenSpec.ofChange s with cond := some uptoSmall }

/-- 'hucksterlaw03.ClockBounds', WHERE WHAT IT READS IS OF BULK AT MOST 1048576: true; the input reads as it did. -/
def clockBoundsUptoRow : OpenClaim := { program := "ytjpjdipdhakjnaa", sum := "0fe83ce13e1f105bfe59318d4d5e14f94ed008982978bd2f1df04c9356fafb42", func := "huckster/hucksterlaw03.ClockBounds", spec := "clockBounds", unfollowed := true, recurses := true, apart := false, narrowed := true }
def ClockBoundsUptoSaid : Prop := clockBoundsUptoRow.holds Try.pinned (OpenSpec.upto clockBoundsSpec)

/-- 'hucksterlaw03.ClockOrders', WHERE WHAT IT READS IS OF BULK AT MOST 1048576: true; the input reads as it did. -/
def clockOrdersUptoRow : OpenClaim := { program := "ytjpjdipdhakjnaa", sum := "0fe83ce13e1f105bfe59318d4d5e14f94ed008982978bd2f1df04c9356fafb42", func := "huckster/hucksterlaw03.ClockOrders", spec := "clockOrders", unfollowed := true, recurses := true, apart := false, narrowed := true }
def ClockOrdersUptoSaid : Prop := clockOrdersUptoRow.holds Try.pinned (OpenSpec.upto clockOrdersSpec)

/-- 'hucksterlaw03.ClockChains', WHERE WHAT IT READS IS OF BULK AT MOST 1048576: true; the input reads as it did. -/
def clockChainsUptoRow : OpenClaim := { program := "ytjpjdipdhakjnaa", sum := "0fe83ce13e1f105bfe59318d4d5e14f94ed008982978bd2f1df04c9356fafb42", func := "huckster/hucksterlaw03.ClockChains", spec := "clockChains", unfollowed := true, recurses := true, apart := false, narrowed := true }
def ClockChainsUptoSaid : Prop := clockChainsUptoRow.holds Try.pinned (OpenSpec.upto clockChainsSpec)

/-- 'hucksterlaw03.ClockTurns', WHERE WHAT IT READS IS OF BULK AT MOST 1048576: true; the input reads as it did. -/
def clockTurnsUptoRow : OpenClaim := { program := "ytjpjdipdhakjnaa", sum := "0fe83ce13e1f105bfe59318d4d5e14f94ed008982978bd2f1df04c9356fafb42", func := "huckster/hucksterlaw03.ClockTurns", spec := "clockTurns", unfollowed := true, recurses := true, apart := false, narrowed := true }
def ClockTurnsUptoSaid : Prop := clockTurnsUptoRow.holds Try.pinned (OpenSpec.upto clockTurnsSpec)

/-- 'hucksterlaw29.StableLearns', WHERE WHAT IT READS IS OF BULK AT MOST 1048576: true; the input reads as it did. -/
def stableLearnsUptoRow : OpenClaim := { program := "ytjpjdipdhakjnaa", sum := "0fe83ce13e1f105bfe59318d4d5e14f94ed008982978bd2f1df04c9356fafb42", func := "huckster/hucksterlaw29.StableLearns", spec := "stableLearns", unfollowed := true, recurses := true, apart := false, narrowed := true }
def StableLearnsUptoSaid : Prop := stableLearnsUptoRow.holds Try.pinned (OpenSpec.upto stableLearnsSpec)

/-- 'hucksterlaw29.StableSafe', WHERE WHAT IT READS IS OF BULK AT MOST 1048576: true; the input reads as it did. -/
def stableSafeUptoRow : OpenClaim := { program := "ytjpjdipdhakjnaa", sum := "0fe83ce13e1f105bfe59318d4d5e14f94ed008982978bd2f1df04c9356fafb42", func := "huckster/hucksterlaw29.StableSafe", spec := "stableSafe", unfollowed := true, recurses := true, apart := false, narrowed := true }
def StableSafeUptoSaid : Prop := stableSafeUptoRow.holds Try.pinned (OpenSpec.upto stableSafeSpec)

/-- 'hucksterlaw29.StableGrows', WHERE WHAT IT READS IS OF BULK AT MOST 1048576: true; the input reads as it did. -/
def stableGrowsUptoRow : OpenClaim := { program := "ytjpjdipdhakjnaa", sum := "0fe83ce13e1f105bfe59318d4d5e14f94ed008982978bd2f1df04c9356fafb42", func := "huckster/hucksterlaw29.StableGrows", spec := "stableGrows", unfollowed := true, recurses := true, apart := false, narrowed := true }
def StableGrowsUptoSaid : Prop := stableGrowsUptoRow.holds Try.pinned (OpenSpec.upto stableGrowsSpec)

/-- 'hucksterlaw03.ClockReads', WHERE WHAT IT READS IS OF BULK AT MOST 1048576: true; the input reads as it did. -/
def clockReadsUptoRow : OpenClaim := { program := "ytjpjdipdhakjnaa", sum := "0fe83ce13e1f105bfe59318d4d5e14f94ed008982978bd2f1df04c9356fafb42", func := "huckster/hucksterlaw03.ClockReads", spec := "clockReads", unfollowed := true, recurses := true, apart := false, narrowed := true }
def ClockReadsUptoSaid : Prop := clockReadsUptoRow.holds Try.pinned (OpenSpec.upto clockReadsSpec)

end Rows
end Go.Proofs.Ytjpjdipdhakjnaa

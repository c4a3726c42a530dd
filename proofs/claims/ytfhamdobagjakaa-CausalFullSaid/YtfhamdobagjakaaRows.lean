/-
  No cell of these rows narrows 'for every input' (looked for: loops, veiled, ifaces, maps, wideKeys, modest, calm, conditions, laid).
  DERIVED. THE GIVEN ROWS OF THIS SEAT. 7 by the template 'for every input the law returns true; each argument reads behind the call as it read before'; 0 by the template 'total and deterministic' (their statements: YtfhamdobagjakaaTotals.lean).
  GIVEN WITH THE SEED: the statements are not yours to turn. If you find one false, say at which input.
  Laid BY PROGRAM, IN A SANDBOX (cutbox-rows.mjs): the forced cells as the released guide's own fill.sh prints them over the translation 4ad3861ee4ab3eb4… (all of the seat's roots in one cut). By AI agents, Wed Nov 11 2026. No macro, syntax, notation, axiom, sorry.
-/
import Derived.Test.YtfhamdobagjakaaChecked
import GoSem.Claim
import GoSem.ClaimJoined
import GoSem.ClaimMapViews
import Derived.JoinedTies
import Derived.KernelRfl
namespace Go.Proofs.Ytfhamdobagjakaa
/- THE CELL 'sum', in the pinned program and in every row, IS THE sha256 OF THE DUMP (.gsa) THAT YtfhamdobagjakaaProg.lean LOADS. Nothing in Lean hashes anything: it is a label: what it is worth is what the hold of that sum in a sandbox is worth. -/
noncomputable def Try.pinned : Pinned := { name := "ytfhamdobagjakaa", sum := "4ad3861ee4ab3eb473b31ae1f763186fb68d496bd62856df295fca7053b2b60a", checked := Try.checked }
namespace Rows
def none {H : Type} : Left H := { results := [], args := [] }

/-- 'hucksterlaw07.JournalFull': WHATEVER THE INPUT: true; the input reads as it did. -/
def journalFullSpec : ChangeSpec := { name := "journalFull", fn := fun _ => fun
  | [d1, d2] => { results := [.lit (.bool true)], args := [d1, d2] }
  | _ => none }
def journalFullRow : OpenClaim := { program := "ytfhamdobagjakaa", sum := "4ad3861ee4ab3eb473b31ae1f763186fb68d496bd62856df295fca7053b2b60a", func := "huckster/hucksterlaw07.JournalFull", spec := "journalFull", unfollowed := true, recurses := true, plainKeys := false, apart := false }
def JournalFullSaid : Prop := journalFullRow.holds Try.pinned (OpenSpec.ofChange journalFullSpec)

/-- ITS FALSE NEIGHBOUR: 'it returns false'. Refute it at one input. -/
def journalFullWrong : ChangeSpec := { name := "journalFull", fn := fun _ => fun
  | [d1, d2] => { results := [.lit (.bool false)], args := [d1, d2] }
  | _ => none }
def JournalFullWrongFalsely : Prop := journalFullRow.holds Try.pinned (OpenSpec.ofChange journalFullWrong)

/-- 'hucksterlaw26.CausalFull': WHATEVER THE INPUT: true; the input reads as it did. -/
def causalFullSpec : ChangeSpec := { name := "causalFull", fn := fun _ => fun
  | [d] => { results := [.lit (.bool true)], args := [d] }
  | _ => none }
def causalFullRow : OpenClaim := { program := "ytfhamdobagjakaa", sum := "4ad3861ee4ab3eb473b31ae1f763186fb68d496bd62856df295fca7053b2b60a", func := "huckster/hucksterlaw26.CausalFull", spec := "causalFull", unfollowed := true, recurses := true, plainKeys := false, apart := false }
def CausalFullSaid : Prop := causalFullRow.holds Try.pinned (OpenSpec.ofChange causalFullSpec)

/-- ITS FALSE NEIGHBOUR: 'it returns false'. Refute it at one input. -/
def causalFullWrong : ChangeSpec := { name := "causalFull", fn := fun _ => fun
  | [d] => { results := [.lit (.bool false)], args := [d] }
  | _ => none }
def CausalFullWrongFalsely : Prop := causalFullRow.holds Try.pinned (OpenSpec.ofChange causalFullWrong)

/-- 'hucksterlaw07.JournalNobody': WHATEVER THE INPUT: true; the input reads as it did. -/
def journalNobodySpec : ChangeSpec := { name := "journalNobody", fn := fun _ => fun
  | [d] => { results := [.lit (.bool true)], args := [d] }
  | _ => none }
def journalNobodyRow : OpenClaim := { program := "ytfhamdobagjakaa", sum := "4ad3861ee4ab3eb473b31ae1f763186fb68d496bd62856df295fca7053b2b60a", func := "huckster/hucksterlaw07.JournalNobody", spec := "journalNobody", unfollowed := true, recurses := true, plainKeys := false, apart := false }
def JournalNobodySaid : Prop := journalNobodyRow.holds Try.pinned (OpenSpec.ofChange journalNobodySpec)

/-- ITS FALSE NEIGHBOUR: 'it returns false'. Refute it at one input. -/
def journalNobodyWrong : ChangeSpec := { name := "journalNobody", fn := fun _ => fun
  | [d] => { results := [.lit (.bool false)], args := [d] }
  | _ => none }
def JournalNobodyWrongFalsely : Prop := journalNobodyRow.holds Try.pinned (OpenSpec.ofChange journalNobodyWrong)

/-- 'hucksterlaw26.CausalGives': WHATEVER THE INPUT: true; the input reads as it did. -/
def causalGivesSpec : ChangeSpec := { name := "causalGives", fn := fun _ => fun
  | [d1, d2] => { results := [.lit (.bool true)], args := [d1, d2] }
  | _ => none }
def causalGivesRow : OpenClaim := { program := "ytfhamdobagjakaa", sum := "4ad3861ee4ab3eb473b31ae1f763186fb68d496bd62856df295fca7053b2b60a", func := "huckster/hucksterlaw26.CausalGives", spec := "causalGives", unfollowed := true, recurses := true, plainKeys := false, apart := false }
def CausalGivesSaid : Prop := causalGivesRow.holds Try.pinned (OpenSpec.ofChange causalGivesSpec)

/-- ITS FALSE NEIGHBOUR: 'it returns false'. Refute it at one input. -/
def causalGivesWrong : ChangeSpec := { name := "causalGives", fn := fun _ => fun
  | [d1, d2] => { results := [.lit (.bool false)], args := [d1, d2] }
  | _ => none }
def CausalGivesWrongFalsely : Prop := causalGivesRow.holds Try.pinned (OpenSpec.ofChange causalGivesWrong)

/-- 'hucksterlaw26.CausalAll': WHATEVER THE INPUT: true; the input reads as it did. -/
def causalAllSpec : ChangeSpec := { name := "causalAll", fn := fun _ => fun
  | [d1, d2] => { results := [.lit (.bool true)], args := [d1, d2] }
  | _ => none }
def causalAllRow : OpenClaim := { program := "ytfhamdobagjakaa", sum := "4ad3861ee4ab3eb473b31ae1f763186fb68d496bd62856df295fca7053b2b60a", func := "huckster/hucksterlaw26.CausalAll", spec := "causalAll", unfollowed := true, recurses := true, plainKeys := false, apart := false }
def CausalAllSaid : Prop := causalAllRow.holds Try.pinned (OpenSpec.ofChange causalAllSpec)

/-- ITS FALSE NEIGHBOUR: 'it returns false'. Refute it at one input. -/
def causalAllWrong : ChangeSpec := { name := "causalAll", fn := fun _ => fun
  | [d1, d2] => { results := [.lit (.bool false)], args := [d1, d2] }
  | _ => none }
def CausalAllWrongFalsely : Prop := causalAllRow.holds Try.pinned (OpenSpec.ofChange causalAllWrong)

/-- 'hucksterlaw26.CausalAgain': WHATEVER THE INPUT: true; the input reads as it did. -/
def causalAgainSpec : ChangeSpec := { name := "causalAgain", fn := fun _ => fun
  | [d1, d2] => { results := [.lit (.bool true)], args := [d1, d2] }
  | _ => none }
def causalAgainRow : OpenClaim := { program := "ytfhamdobagjakaa", sum := "4ad3861ee4ab3eb473b31ae1f763186fb68d496bd62856df295fca7053b2b60a", func := "huckster/hucksterlaw26.CausalAgain", spec := "causalAgain", unfollowed := true, recurses := true, plainKeys := false, apart := false }
def CausalAgainSaid : Prop := causalAgainRow.holds Try.pinned (OpenSpec.ofChange causalAgainSpec)

/-- ITS FALSE NEIGHBOUR: 'it returns false'. Refute it at one input. -/
def causalAgainWrong : ChangeSpec := { name := "causalAgain", fn := fun _ => fun
  | [d1, d2] => { results := [.lit (.bool false)], args := [d1, d2] }
  | _ => none }
def CausalAgainWrongFalsely : Prop := causalAgainRow.holds Try.pinned (OpenSpec.ofChange causalAgainWrong)

/-- 'hucksterlaw26.CausalClones': WHATEVER THE INPUT: true; the input reads as it did. -/
def causalClonesSpec : ChangeSpec := { name := "causalClones", fn := fun _ => fun
  | [d1, d2] => { results := [.lit (.bool true)], args := [d1, d2] }
  | _ => none }
def causalClonesRow : OpenClaim := { program := "ytfhamdobagjakaa", sum := "4ad3861ee4ab3eb473b31ae1f763186fb68d496bd62856df295fca7053b2b60a", func := "huckster/hucksterlaw26.CausalClones", spec := "causalClones", unfollowed := true, recurses := true, plainKeys := false, apart := false }
def CausalClonesSaid : Prop := causalClonesRow.holds Try.pinned (OpenSpec.ofChange causalClonesSpec)

/-- ITS FALSE NEIGHBOUR: 'it returns false'. Refute it at one input. -/
def causalClonesWrong : ChangeSpec := { name := "causalClones", fn := fun _ => fun
  | [d1, d2] => { results := [.lit (.bool false)], args := [d1, d2] }
  | _ => none }
def CausalClonesWrongFalsely : Prop := causalClonesRow.holds Try.pinned (OpenSpec.ofChange causalClonesWrong)

/- THE SECOND FORM. 'bulk': how many values and letters a reading holds, each counted each time it is reached (what is shared counts as often as it is met; a slice's spare places count too). A statement '..UptoSaid' is the law's where the arguments, and the package variables that the reading takes, are together of bulk at most 1048576: NARROWER than '..Said'. Prove '..Said' where nothing that the law and all that it calls make is longer than what came in: it says more and counts as full. Else prove '..UptoSaid'. A law counts once. -/
mutual
def uptoBulk {H : Type} : DataW H → Nat
  | .lit (.string bytes) => bytes.length + 1
  | .lit _ => 1
  | .nil => 1
  | .ptr d => uptoBulk d + 1
  | .slice elems spare => uptoBulkAll elems + uptoBulkAll spare + 1
  | .agg parts => uptoBulkAll parts + 1
  | .iface _ d => uptoBulk d + 1
  | .map entries => uptoBulkEntries entries + 1
  | .held _ => 1
def uptoBulkAll {H : Type} : List (DataW H) → Nat
  | [] => 0
  | d :: r => uptoBulk d + uptoBulkAll r
def uptoBulkEntries {H : Type} : List (Lit × DataW H) → Nat
  | [] => 0
  | x :: r => uptoBulkEntry x + uptoBulkEntries r
def uptoBulkEntry {H : Type} : Lit × DataW H → Nat
  | (.string bytes, d) => bytes.length + uptoBulk d + 1
  | (_, d) => uptoBulk d + 1
 end
def uptoSmall : (H : Type) → List (DataW H) → Bool := fun _ ds => decide (uptoBulkAll ds ≤ 1048576)
def OpenSpec.upto (s : _root_.Go.ChangeSpec) : _root_.Go.OpenSpec := { _root_.Go.OpenSpec.ofChange s with cond := some uptoSmall }

/-- 'hucksterlaw07.JournalFull', WHERE WHAT IT READS IS OF BULK AT MOST 1048576: true; the input reads as it did. -/
def journalFullUptoRow : OpenClaim := { program := "ytfhamdobagjakaa", sum := "4ad3861ee4ab3eb473b31ae1f763186fb68d496bd62856df295fca7053b2b60a", func := "huckster/hucksterlaw07.JournalFull", spec := "journalFull", unfollowed := true, recurses := true, plainKeys := false, apart := false, narrowed := true }
def JournalFullUptoSaid : Prop := journalFullUptoRow.holds Try.pinned (OpenSpec.upto journalFullSpec)

/-- 'hucksterlaw26.CausalFull', WHERE WHAT IT READS IS OF BULK AT MOST 1048576: true; the input reads as it did. -/
def causalFullUptoRow : OpenClaim := { program := "ytfhamdobagjakaa", sum := "4ad3861ee4ab3eb473b31ae1f763186fb68d496bd62856df295fca7053b2b60a", func := "huckster/hucksterlaw26.CausalFull", spec := "causalFull", unfollowed := true, recurses := true, plainKeys := false, apart := false, narrowed := true }
def CausalFullUptoSaid : Prop := causalFullUptoRow.holds Try.pinned (OpenSpec.upto causalFullSpec)

/-- 'hucksterlaw07.JournalNobody', WHERE WHAT IT READS IS OF BULK AT MOST 1048576: true; the input reads as it did. -/
def journalNobodyUptoRow : OpenClaim := { program := "ytfhamdobagjakaa", sum := "4ad3861ee4ab3eb473b31ae1f763186fb68d496bd62856df295fca7053b2b60a", func := "huckster/hucksterlaw07.JournalNobody", spec := "journalNobody", unfollowed := true, recurses := true, plainKeys := false, apart := false, narrowed := true }
def JournalNobodyUptoSaid : Prop := journalNobodyUptoRow.holds Try.pinned (OpenSpec.upto journalNobodySpec)

/-- 'hucksterlaw26.CausalGives', WHERE WHAT IT READS IS OF BULK AT MOST 1048576: true; the input reads as it did. -/
def causalGivesUptoRow : OpenClaim := { program := "ytfhamdobagjakaa", sum := "4ad3861ee4ab3eb473b31ae1f763186fb68d496bd62856df295fca7053b2b60a", func := "huckster/hucksterlaw26.CausalGives", spec := "causalGives", unfollowed := true, recurses := true, plainKeys := false, apart := false, narrowed := true }
def CausalGivesUptoSaid : Prop := causalGivesUptoRow.holds Try.pinned (OpenSpec.upto causalGivesSpec)

/-- 'hucksterlaw26.CausalAll', WHERE WHAT IT READS IS OF BULK AT MOST 1048576: true; the input reads as it did. -/
def causalAllUptoRow : OpenClaim := { program := "ytfhamdobagjakaa", sum := "4ad3861ee4ab3eb473b31ae1f763186fb68d496bd62856df295fca7053b2b60a", func := "huckster/hucksterlaw26.CausalAll", spec := "causalAll", unfollowed := true, recurses := true, plainKeys := false, apart := false, narrowed := true }
def CausalAllUptoSaid : Prop := causalAllUptoRow.holds Try.pinned (OpenSpec.upto causalAllSpec)

/-- 'hucksterlaw26.CausalAgain', WHERE WHAT IT READS IS OF BULK AT MOST 1048576: true; the input reads as it did. -/
def causalAgainUptoRow : OpenClaim := { program := "ytfhamdobagjakaa", sum := "4ad3861ee4ab3eb473b31ae1f763186fb68d496bd62856df295fca7053b2b60a", func := "huckster/hucksterlaw26.CausalAgain", spec := "causalAgain", unfollowed := true, recurses := true, plainKeys := false, apart := false, narrowed := true }
def CausalAgainUptoSaid : Prop := causalAgainUptoRow.holds Try.pinned (OpenSpec.upto causalAgainSpec)

/-- 'hucksterlaw26.CausalClones', WHERE WHAT IT READS IS OF BULK AT MOST 1048576: true; the input reads as it did. -/
def causalClonesUptoRow : OpenClaim := { program := "ytfhamdobagjakaa", sum := "4ad3861ee4ab3eb473b31ae1f763186fb68d496bd62856df295fca7053b2b60a", func := "huckster/hucksterlaw26.CausalClones", spec := "causalClones", unfollowed := true, recurses := true, plainKeys := false, apart := false, narrowed := true }
def CausalClonesUptoSaid : Prop := causalClonesUptoRow.holds Try.pinned (OpenSpec.upto causalClonesSpec)

end Rows
end Go.Proofs.Ytfhamdobagjakaa

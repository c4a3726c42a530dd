/-
  No cell of these rows narrows 'for every input' (looked for: loops, veiled, ifaces, maps, wideKeys, modest, calm, conditions, laid).
  DERIVED. THE GIVEN ROWS OF THIS SEAT. 9 by the template 'for every input the law returns true; each argument reads behind the call as it read before'; 0 by the template 'total and deterministic' (their statements: YtgocnchjpecafaaTotals.lean).
  GIVEN WITH THE SEED: the statements are not yours to turn. If you find one false, say at which input.
  Laid BY PROGRAM, IN A SANDBOX (cutbox-rows.mjs): the forced cells as the released guide's own fill.sh prints them over the translation 0be9bb6e856870c1… (all of the seat's roots in one cut). By AI agents, Wed Nov 11 2026. No macro, syntax, notation, axiom, sorry.
-/
import Derived.Test.YtgocnchjpecafaaChecked
import GoSem.Claim
import GoSem.ClaimJoined
import GoSem.ClaimMapViews
import Derived.JoinedTies
import Derived.KernelRfl
namespace Go.Proofs.Ytgocnchjpecafaa
/- THE CELL 'sum', in the pinned program and in every row, IS THE sha256 OF THE DUMP (.gsa) THAT YtgocnchjpecafaaProg.lean LOADS. Nothing in Lean hashes anything: it is a label: what it is worth is what the hold of that sum in a sandbox is worth. -/
noncomputable def Try.pinned : Pinned := { name := "ytgocnchjpecafaa", sum := "0be9bb6e856870c160172136f21d596d8c8d13b8115a516453b57bff6b5a3047", checked := Try.checked }
namespace Rows
def none {H : Type} : Left H := { results := [], args := [] }

/-- 'hucksterlaw05.EventGets': WHATEVER THE INPUT: true; the input reads as it did. -/
def eventGetsSpec : ChangeSpec := { name := "eventGets", fn := fun _ => fun
  | [d] => { results := [.lit (.bool true)], args := [d] }
  | _ => none }
def eventGetsRow : OpenClaim := { program := "ytgocnchjpecafaa", sum := "0be9bb6e856870c160172136f21d596d8c8d13b8115a516453b57bff6b5a3047", func := "huckster/hucksterlaw05.EventGets", spec := "eventGets", unfollowed := true, recurses := true, plainKeys := false, apart := false }
def EventGetsSaid : Prop := eventGetsRow.holds Try.pinned (OpenSpec.ofChange eventGetsSpec)

/-- ITS FALSE NEIGHBOUR: 'it returns false'. Refute it at one input. -/
def eventGetsWrong : ChangeSpec := { name := "eventGets", fn := fun _ => fun
  | [d] => { results := [.lit (.bool false)], args := [d] }
  | _ => none }
def EventGetsWrongFalsely : Prop := eventGetsRow.holds Try.pinned (OpenSpec.ofChange eventGetsWrong)

/-- 'hucksterlaw05.EventAhead': WHATEVER THE INPUT: true; the input reads as it did. -/
def eventAheadSpec : ChangeSpec := { name := "eventAhead", fn := fun _ => fun
  | [d] => { results := [.lit (.bool true)], args := [d] }
  | _ => none }
def eventAheadRow : OpenClaim := { program := "ytgocnchjpecafaa", sum := "0be9bb6e856870c160172136f21d596d8c8d13b8115a516453b57bff6b5a3047", func := "huckster/hucksterlaw05.EventAhead", spec := "eventAhead", unfollowed := true, recurses := true, plainKeys := false, apart := false }
def EventAheadSaid : Prop := eventAheadRow.holds Try.pinned (OpenSpec.ofChange eventAheadSpec)

/-- ITS FALSE NEIGHBOUR: 'it returns false'. Refute it at one input. -/
def eventAheadWrong : ChangeSpec := { name := "eventAhead", fn := fun _ => fun
  | [d] => { results := [.lit (.bool false)], args := [d] }
  | _ => none }
def EventAheadWrongFalsely : Prop := eventAheadRow.holds Try.pinned (OpenSpec.ofChange eventAheadWrong)

/-- 'hucksterlaw05.EventOne': WHATEVER THE INPUT: true; the input reads as it did. -/
def eventOneSpec : ChangeSpec := { name := "eventOne", fn := fun _ => fun
  | [d] => { results := [.lit (.bool true)], args := [d] }
  | _ => none }
def eventOneRow : OpenClaim := { program := "ytgocnchjpecafaa", sum := "0be9bb6e856870c160172136f21d596d8c8d13b8115a516453b57bff6b5a3047", func := "huckster/hucksterlaw05.EventOne", spec := "eventOne", unfollowed := true, recurses := true, plainKeys := false, apart := false }
def EventOneSaid : Prop := eventOneRow.holds Try.pinned (OpenSpec.ofChange eventOneSpec)

/-- ITS FALSE NEIGHBOUR: 'it returns false'. Refute it at one input. -/
def eventOneWrong : ChangeSpec := { name := "eventOne", fn := fun _ => fun
  | [d] => { results := [.lit (.bool false)], args := [d] }
  | _ => none }
def EventOneWrongFalsely : Prop := eventOneRow.holds Try.pinned (OpenSpec.ofChange eventOneWrong)

/-- 'hucksterlaw05.EventPuts': WHATEVER THE INPUT: true; the input reads as it did. -/
def eventPutsSpec : ChangeSpec := { name := "eventPuts", fn := fun _ => fun
  | [d1, d2] => { results := [.lit (.bool true)], args := [d1, d2] }
  | _ => none }
def eventPutsRow : OpenClaim := { program := "ytgocnchjpecafaa", sum := "0be9bb6e856870c160172136f21d596d8c8d13b8115a516453b57bff6b5a3047", func := "huckster/hucksterlaw05.EventPuts", spec := "eventPuts", unfollowed := true, recurses := true, plainKeys := false, apart := false }
def EventPutsSaid : Prop := eventPutsRow.holds Try.pinned (OpenSpec.ofChange eventPutsSpec)

/-- ITS FALSE NEIGHBOUR: 'it returns false'. Refute it at one input. -/
def eventPutsWrong : ChangeSpec := { name := "eventPuts", fn := fun _ => fun
  | [d1, d2] => { results := [.lit (.bool false)], args := [d1, d2] }
  | _ => none }
def EventPutsWrongFalsely : Prop := eventPutsRow.holds Try.pinned (OpenSpec.ofChange eventPutsWrong)

/-- 'hucksterlaw28.GossipGets': WHATEVER THE INPUT: true; the input reads as it did. -/
def gossipGetsSpec : ChangeSpec := { name := "gossipGets", fn := fun _ => fun
  | [d] => { results := [.lit (.bool true)], args := [d] }
  | _ => none }
def gossipGetsRow : OpenClaim := { program := "ytgocnchjpecafaa", sum := "0be9bb6e856870c160172136f21d596d8c8d13b8115a516453b57bff6b5a3047", func := "huckster/hucksterlaw28.GossipGets", spec := "gossipGets", unfollowed := true, recurses := true, plainKeys := false, apart := false }
def GossipGetsSaid : Prop := gossipGetsRow.holds Try.pinned (OpenSpec.ofChange gossipGetsSpec)

/-- ITS FALSE NEIGHBOUR: 'it returns false'. Refute it at one input. -/
def gossipGetsWrong : ChangeSpec := { name := "gossipGets", fn := fun _ => fun
  | [d] => { results := [.lit (.bool false)], args := [d] }
  | _ => none }
def GossipGetsWrongFalsely : Prop := gossipGetsRow.holds Try.pinned (OpenSpec.ofChange gossipGetsWrong)

/-- 'hucksterlaw28.GossipCloses': WHATEVER THE INPUT: true; the input reads as it did. -/
def gossipClosesSpec : ChangeSpec := { name := "gossipCloses", fn := fun _ => fun
  | [d1, d2, d3] => { results := [.lit (.bool true)], args := [d1, d2, d3] }
  | _ => none }
def gossipClosesRow : OpenClaim := { program := "ytgocnchjpecafaa", sum := "0be9bb6e856870c160172136f21d596d8c8d13b8115a516453b57bff6b5a3047", func := "huckster/hucksterlaw28.GossipCloses", spec := "gossipCloses", unfollowed := true, recurses := true, plainKeys := false, apart := false }
def GossipClosesSaid : Prop := gossipClosesRow.holds Try.pinned (OpenSpec.ofChange gossipClosesSpec)

/-- ITS FALSE NEIGHBOUR: 'it returns false'. Refute it at one input. -/
def gossipClosesWrong : ChangeSpec := { name := "gossipCloses", fn := fun _ => fun
  | [d1, d2, d3] => { results := [.lit (.bool false)], args := [d1, d2, d3] }
  | _ => none }
def GossipClosesWrongFalsely : Prop := gossipClosesRow.holds Try.pinned (OpenSpec.ofChange gossipClosesWrong)

/-- 'hucksterlaw28.GossipOne': WHATEVER THE INPUT: true; the input reads as it did. -/
def gossipOneSpec : ChangeSpec := { name := "gossipOne", fn := fun _ => fun
  | [d] => { results := [.lit (.bool true)], args := [d] }
  | _ => none }
def gossipOneRow : OpenClaim := { program := "ytgocnchjpecafaa", sum := "0be9bb6e856870c160172136f21d596d8c8d13b8115a516453b57bff6b5a3047", func := "huckster/hucksterlaw28.GossipOne", spec := "gossipOne", unfollowed := true, recurses := true, plainKeys := false, apart := false }
def GossipOneSaid : Prop := gossipOneRow.holds Try.pinned (OpenSpec.ofChange gossipOneSpec)

/-- ITS FALSE NEIGHBOUR: 'it returns false'. Refute it at one input. -/
def gossipOneWrong : ChangeSpec := { name := "gossipOne", fn := fun _ => fun
  | [d] => { results := [.lit (.bool false)], args := [d] }
  | _ => none }
def GossipOneWrongFalsely : Prop := gossipOneRow.holds Try.pinned (OpenSpec.ofChange gossipOneWrong)

/-- 'hucksterlaw28.GossipLacks': WHATEVER THE INPUT: true; the input reads as it did. -/
def gossipLacksSpec : ChangeSpec := { name := "gossipLacks", fn := fun _ => fun
  | [d1, d2, d3] => { results := [.lit (.bool true)], args := [d1, d2, d3] }
  | _ => none }
def gossipLacksRow : OpenClaim := { program := "ytgocnchjpecafaa", sum := "0be9bb6e856870c160172136f21d596d8c8d13b8115a516453b57bff6b5a3047", func := "huckster/hucksterlaw28.GossipLacks", spec := "gossipLacks", unfollowed := true, recurses := true, plainKeys := false, apart := false }
def GossipLacksSaid : Prop := gossipLacksRow.holds Try.pinned (OpenSpec.ofChange gossipLacksSpec)

/-- ITS FALSE NEIGHBOUR: 'it returns false'. Refute it at one input. -/
def gossipLacksWrong : ChangeSpec := { name := "gossipLacks", fn := fun _ => fun
  | [d1, d2, d3] => { results := [.lit (.bool false)], args := [d1, d2, d3] }
  | _ => none }
def GossipLacksWrongFalsely : Prop := gossipLacksRow.holds Try.pinned (OpenSpec.ofChange gossipLacksWrong)

/-- 'hucksterlaw28.GossipPuts': WHATEVER THE INPUT: true; the input reads as it did. -/
def gossipPutsSpec : ChangeSpec := { name := "gossipPuts", fn := fun _ => fun
  | [d1, d2] => { results := [.lit (.bool true)], args := [d1, d2] }
  | _ => none }
def gossipPutsRow : OpenClaim := { program := "ytgocnchjpecafaa", sum := "0be9bb6e856870c160172136f21d596d8c8d13b8115a516453b57bff6b5a3047", func := "huckster/hucksterlaw28.GossipPuts", spec := "gossipPuts", unfollowed := true, recurses := true, plainKeys := false, apart := false }
def GossipPutsSaid : Prop := gossipPutsRow.holds Try.pinned (OpenSpec.ofChange gossipPutsSpec)

/-- ITS FALSE NEIGHBOUR: 'it returns false'. Refute it at one input. -/
def gossipPutsWrong : ChangeSpec := { name := "gossipPuts", fn := fun _ => fun
  | [d1, d2] => { results := [.lit (.bool false)], args := [d1, d2] }
  | _ => none }
def GossipPutsWrongFalsely : Prop := gossipPutsRow.holds Try.pinned (OpenSpec.ofChange gossipPutsWrong)

/- THE SECOND FORM. 'bulk': how many values and letters a reading holds, each counted each time it is reached (what is shared counts as often as it is met; a slice's spare places count too). A statement '..UptoSaid' is the law's where the arguments, and the package variables that the reading takes, are together of bulk at most 1048576: NARROWER than '..Said'. Prove '..Said' where nothing that the law and all that it calls make is longer than what came in: it says more and counts as full. Else prove '..UptoSaid'. A law counts once. -/
mutual
def uptoBulk {H : Type} : DataW H → Nat
  | .lit (.string bytes) => bytes.length + 1
  | .lit _ => 1
  | .nil => 1
  | .ptr d => uptoBulk d + 1
  | .slice elems spare => uptoBulkAll elems + uptoBulkAll spare + 1
  | .agg parts => uptoBulkAll parts + 1
  | .iface _ d => uptoBulk d + 1
  | .map entries => uptoBulkEntries entries + 1
  | .held _ => 1
def uptoBulkAll {H : Type} : List (DataW H) → Nat
  | [] => 0
  | d :: r => uptoBulk d + uptoBulkAll r
def uptoBulkEntries {H : Type} : List (Lit × DataW H) → Nat
  | [] => 0
  | x :: r => uptoBulkEntry x + uptoBulkEntries r
def uptoBulkEntry {H : Type} : Lit × DataW H → Nat
  | (.string bytes, d) => bytes.length + uptoBulk d + 1
  | (_, d) => uptoBulk d + 1
 end
def uptoSmall : (H : Type) → List (DataW H) → Bool := fun _ ds => decide (uptoBulkAll ds ≤ 1048576)
def OpenSpec.upto (s : _root_.Go.ChangeSpec) : _root_.Go.OpenSpec := { _root_.Go.OpenSpec.ofChange s with cond := some uptoSmall }

/-- 'hucksterlaw05.EventGets', WHERE WHAT IT READS IS OF BULK AT MOST 1048576: true; the input reads as it did. -/
def eventGetsUptoRow : OpenClaim := { program := "ytgocnchjpecafaa", sum := "0be9bb6e856870c160172136f21d596d8c8d13b8115a516453b57bff6b5a3047", func := "huckster/hucksterlaw05.EventGets", spec := "eventGets", unfollowed := true, recurses := true, plainKeys := false, apart := false, narrowed := true }
def EventGetsUptoSaid : Prop := eventGetsUptoRow.holds Try.pinned (OpenSpec.upto eventGetsSpec)

/-- 'hucksterlaw05.EventAhead', WHERE WHAT IT READS IS OF BULK AT MOST 1048576: true; the input reads as it did. -/
def eventAheadUptoRow : OpenClaim := { program := "ytgocnchjpecafaa", sum := "0be9bb6e856870c160172136f21d596d8c8d13b8115a516453b57bff6b5a3047", func := "huckster/hucksterlaw05.EventAhead", spec := "eventAhead", unfollowed := true, recurses := true, plainKeys := false, apart := false, narrowed := true }
def EventAheadUptoSaid : Prop := eventAheadUptoRow.holds Try.pinned (OpenSpec.upto eventAheadSpec)

/-- 'hucksterlaw05.EventOne', WHERE WHAT IT READS IS OF BULK AT MOST 1048576: true; the input reads as it did. -/
def eventOneUptoRow : OpenClaim := { program := "ytgocnchjpecafaa", sum := "0be9bb6e856870c160172136f21d596d8c8d13b8115a516453b57bff6b5a3047", func := "huckster/hucksterlaw05.EventOne", spec := "eventOne", unfollowed := true, recurses := true, plainKeys := false, apart := false, narrowed := true }
def EventOneUptoSaid : Prop := eventOneUptoRow.holds Try.pinned (OpenSpec.upto eventOneSpec)

/-- 'hucksterlaw05.EventPuts', WHERE WHAT IT READS IS OF BULK AT MOST 1048576: true; the input reads as it did. -/
def eventPutsUptoRow : OpenClaim := { program := "ytgocnchjpecafaa", sum := "0be9bb6e856870c160172136f21d596d8c8d13b8115a516453b57bff6b5a3047", func := "huckster/hucksterlaw05.EventPuts", spec := "eventPuts", unfollowed := true, recurses := true, plainKeys := false, apart := false, narrowed := true }
def EventPutsUptoSaid : Prop := eventPutsUptoRow.holds Try.pinned (OpenSpec.upto eventPutsSpec)

/-- 'hucksterlaw28.GossipGets', WHERE WHAT IT READS IS OF BULK AT MOST 1048576: true; the input reads as it did. -/
def gossipGetsUptoRow : OpenClaim := { program := "ytgocnchjpecafaa", sum := "0be9bb6e856870c160172136f21d596d8c8d13b8115a516453b57bff6b5a3047", func := "huckster/hucksterlaw28.GossipGets", spec := "gossipGets", unfollowed := true, recurses := true, plainKeys := false, apart := false, narrowed := true }
def GossipGetsUptoSaid : Prop := gossipGetsUptoRow.holds Try.pinned (OpenSpec.upto gossipGetsSpec)

/-- 'hucksterlaw28.GossipCloses', WHERE WHAT IT READS IS OF BULK AT MOST 1048576: true; the input reads as it did. -/
def gossipClosesUptoRow : OpenClaim := { program := "ytgocnchjpecafaa", sum := "0be9bb6e856870c160172136f21d596d8c8d13b8115a516453b57bff6b5a3047", func := "huckster/hucksterlaw28.GossipCloses", spec := "gossipCloses", unfollowed := true, recurses := true, plainKeys := false, apart := false, narrowed := true }
def GossipClosesUptoSaid : Prop := gossipClosesUptoRow.holds Try.pinned (OpenSpec.upto gossipClosesSpec)

/-- 'hucksterlaw28.GossipOne', WHERE WHAT IT READS IS OF BULK AT MOST 1048576: true; the input reads as it did. -/
def gossipOneUptoRow : OpenClaim := { program := "ytgocnchjpecafaa", sum := "0be9bb6e856870c160172136f21d596d8c8d13b8115a516453b57bff6b5a3047", func := "huckster/hucksterlaw28.GossipOne", spec := "gossipOne", unfollowed := true, recurses := true, plainKeys := false, apart := false, narrowed := true }
def GossipOneUptoSaid : Prop := gossipOneUptoRow.holds Try.pinned (OpenSpec.upto gossipOneSpec)

/-- 'hucksterlaw28.GossipLacks', WHERE WHAT IT READS IS OF BULK AT MOST 1048576: true; the input reads as it did. -/
def gossipLacksUptoRow : OpenClaim := { program := "ytgocnchjpecafaa", sum := "0be9bb6e856870c160172136f21d596d8c8d13b8115a516453b57bff6b5a3047", func := "huckster/hucksterlaw28.GossipLacks", spec := "gossipLacks", unfollowed := true, recurses := true, plainKeys := false, apart := false, narrowed := true }
def GossipLacksUptoSaid : Prop := gossipLacksUptoRow.holds Try.pinned (OpenSpec.upto gossipLacksSpec)

/-- 'hucksterlaw28.GossipPuts', WHERE WHAT IT READS IS OF BULK AT MOST 1048576: true; the input reads as it did. -/
def gossipPutsUptoRow : OpenClaim := { program := "ytgocnchjpecafaa", sum := "0be9bb6e856870c160172136f21d596d8c8d13b8115a516453b57bff6b5a3047", func := "huckster/hucksterlaw28.GossipPuts", spec := "gossipPuts", unfollowed := true, recurses := true, plainKeys := false, apart := false, narrowed := true }
def GossipPutsUptoSaid : Prop := gossipPutsUptoRow.holds Try.pinned (OpenSpec.upto gossipPutsSpec)

end Rows
end Go.Proofs.Ytgocnchjpecafaa

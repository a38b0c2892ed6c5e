/-
  No cell of these rows narrows 'for every input' (looked for: loops, veiled, ifaces, maps, wideKeys, modest, calm, conditions, laid).
  DERIVED. THE GIVEN ROWS OF THIS SEAT. 5 by the template 'for every input the law returns true; each argument reads behind the call as it read before'; 0 by the template 'total and deterministic' (their statements: YtnnmeipmkfbpdaaTotals.lean).
  GIVEN WITH THE SEED: the statements are not yours to turn. If you find one false, say at which input.
  Laid BY PROGRAM, IN A SANDBOX (cutbox-rows.mjs): the forced cells as the released guide's own fill.sh prints them over the translation fd3cba50194787c6… (all of the seat's roots in one cut). By AI agents, Wed Nov 11 2026. No macro, syntax, notation, axiom, sorry.
-/
import Derived.Test.YtnnmeipmkfbpdaaChecked
import GoSem.Claim
import GoSem.ClaimJoined
import GoSem.ClaimMapViews
import Derived.JoinedTies
import Derived.KernelRfl
namespace Go.Proofs.Ytnnmeipmkfbpdaa
/- THE CELL 'sum', in the pinned program and in every row, IS THE sha256 OF THE DUMP (.gsa) THAT YtnnmeipmkfbpdaaProg.lean LOADS. Nothing in Lean hashes anything: it is a label: what it is worth is what the hold of that sum in a sandbox is worth. -/
noncomputable def Try.pinned : Pinned := { name := "ytnnmeipmkfbpdaa", sum := "fd3cba50194787c675a2ac3672aebcb78e98dfdd5c3c37b9c9e4b483b895916b", checked := Try.checked }
namespace Rows
def none {H : Type} : Left H := { results := [], args := [] }

/-- 'linchpinlaw04.RoomTells': WHATEVER THE INPUT: true; the input reads as it did. -/
def roomTellsSpec : ChangeSpec := { name := "roomTells", fn := fun _ => fun
  | [d1, d2, d3, d4, d5, d6] => { results := [.lit (.bool true)], args := [d1, d2, d3, d4, d5, d6] }
  | _ => none }
def roomTellsRow : OpenClaim := { program := "ytnnmeipmkfbpdaa", sum := "fd3cba50194787c675a2ac3672aebcb78e98dfdd5c3c37b9c9e4b483b895916b", func := "linchpin/linchpinlaw04.RoomTells", spec := "roomTells", unfollowed := true, recurses := true, apart := false }
def RoomTellsSaid : Prop := roomTellsRow.holds Try.pinned (OpenSpec.ofChange roomTellsSpec)

/-- ITS FALSE NEIGHBOUR: 'it returns false'. Refute it at one input. -/
def roomTellsWrong : ChangeSpec := { name := "roomTells", fn := fun _ => fun
  | [d1, d2, d3, d4, d5, d6] => { results := [.lit (.bool false)], args := [d1, d2, d3, d4, d5, d6] }
  | _ => none }
def RoomTellsWrongFalsely : Prop := roomTellsRow.holds Try.pinned (OpenSpec.ofChange roomTellsWrong)

/-- 'linchpinlaw04.RoomSets': WHATEVER THE INPUT: true; the input reads as it did. -/
def roomSetsSpec : ChangeSpec := { name := "roomSets", fn := fun _ => fun
  | [d1, d2, d3] => { results := [.lit (.bool true)], args := [d1, d2, d3] }
  | _ => none }
def roomSetsRow : OpenClaim := { program := "ytnnmeipmkfbpdaa", sum := "fd3cba50194787c675a2ac3672aebcb78e98dfdd5c3c37b9c9e4b483b895916b", func := "linchpin/linchpinlaw04.RoomSets", spec := "roomSets", unfollowed := true, recurses := true, apart := false }
def RoomSetsSaid : Prop := roomSetsRow.holds Try.pinned (OpenSpec.ofChange roomSetsSpec)

/-- ITS FALSE NEIGHBOUR: 'it returns false'. Refute it at one input. -/
def roomSetsWrong : ChangeSpec := { name := "roomSets", fn := fun _ => fun
  | [d1, d2, d3] => { results := [.lit (.bool false)], args := [d1, d2, d3] }
  | _ => none }
def RoomSetsWrongFalsely : Prop := roomSetsRow.holds Try.pinned (OpenSpec.ofChange roomSetsWrong)

/-- 'linchpinlaw04.RoomCounts': WHATEVER THE INPUT: true; the input reads as it did. -/
def roomCountsSpec : ChangeSpec := { name := "roomCounts", fn := fun _ => fun
  | [d1, d2] => { results := [.lit (.bool true)], args := [d1, d2] }
  | _ => none }
def roomCountsRow : OpenClaim := { program := "ytnnmeipmkfbpdaa", sum := "fd3cba50194787c675a2ac3672aebcb78e98dfdd5c3c37b9c9e4b483b895916b", func := "linchpin/linchpinlaw04.RoomCounts", spec := "roomCounts", unfollowed := true, recurses := true, apart := false }
def RoomCountsSaid : Prop := roomCountsRow.holds Try.pinned (OpenSpec.ofChange roomCountsSpec)

/-- ITS FALSE NEIGHBOUR: 'it returns false'. Refute it at one input. -/
def roomCountsWrong : ChangeSpec := { name := "roomCounts", fn := fun _ => fun
  | [d1, d2] => { results := [.lit (.bool false)], args := [d1, d2] }
  | _ => none }
def RoomCountsWrongFalsely : Prop := roomCountsRow.holds Try.pinned (OpenSpec.ofChange roomCountsWrong)

/-- 'linchpinlaw04.RoomOrders': WHATEVER THE INPUT: true; the input reads as it did. -/
def roomOrdersSpec : ChangeSpec := { name := "roomOrders", fn := fun _ => fun
  | [d] => { results := [.lit (.bool true)], args := [d] }
  | _ => none }
def roomOrdersRow : OpenClaim := { program := "ytnnmeipmkfbpdaa", sum := "fd3cba50194787c675a2ac3672aebcb78e98dfdd5c3c37b9c9e4b483b895916b", func := "linchpin/linchpinlaw04.RoomOrders", spec := "roomOrders", unfollowed := true, recurses := true, apart := false }
def RoomOrdersSaid : Prop := roomOrdersRow.holds Try.pinned (OpenSpec.ofChange roomOrdersSpec)

/-- ITS FALSE NEIGHBOUR: 'it returns false'. Refute it at one input. -/
def roomOrdersWrong : ChangeSpec := { name := "roomOrders", fn := fun _ => fun
  | [d] => { results := [.lit (.bool false)], args := [d] }
  | _ => none }
def RoomOrdersWrongFalsely : Prop := roomOrdersRow.holds Try.pinned (OpenSpec.ofChange roomOrdersWrong)

/-- 'linchpinlaw04.RoomFits': WHATEVER THE INPUT: true; the input reads as it did. -/
def roomFitsSpec : ChangeSpec := { name := "roomFits", fn := fun _ => fun
  | [d1, d2, d3, d4, d5, d6] => { results := [.lit (.bool true)], args := [d1, d2, d3, d4, d5, d6] }
  | _ => none }
def roomFitsRow : OpenClaim := { program := "ytnnmeipmkfbpdaa", sum := "fd3cba50194787c675a2ac3672aebcb78e98dfdd5c3c37b9c9e4b483b895916b", func := "linchpin/linchpinlaw04.RoomFits", spec := "roomFits", unfollowed := true, recurses := true, apart := false }
def RoomFitsSaid : Prop := roomFitsRow.holds Try.pinned (OpenSpec.ofChange roomFitsSpec)

/-- ITS FALSE NEIGHBOUR: 'it returns false'. Refute it at one input. -/
def roomFitsWrong : ChangeSpec := { name := "roomFits", fn := fun _ => fun
  | [d1, d2, d3, d4, d5, d6] => { results := [.lit (.bool false)], args := [d1, d2, d3, d4, d5, d6] }
  | _ => none }
def RoomFitsWrongFalsely : Prop := roomFitsRow.holds Try.pinned (OpenSpec.ofChange roomFitsWrong)

/- THE SECOND FORM. 'bulk': how many values and letters a reading holds, each counted each time it is reached (what is shared counts as often as it is met; a slice's spare places count too). A statement '..UptoSaid' is the law's where the arguments, and the package variables that the reading takes, are together of bulk at most 1048576: NARROWER than '..Said'. Prove '..Said' where nothing that the law and all that it calls make is longer than what came in: it says more and counts as full. Else prove '..UptoSaid'. A law counts once. -/
mutual
def uptoBulk {H : Type} : DataW H → Nat
  | .lit (.string bytes) => bytes.length + 1
  | .lit _ => 1
  | .nil => 1
  | .ptr d => uptoBulk d + 1
  | .slice elems spare => uptoBulkAll elems + uptoBulkAll spare + 1
  | .agg parts => uptoBulkAll parts + 1
  | .iface _ d => uptoBulk d + 1
  | .map entries => uptoBulkEntries entries + 1
  | .held _ => 1
def uptoBulkAll {H : Type} : List (DataW H) → Nat
  | [] => 0
  | d :: r => uptoBulk d + uptoBulkAll r
def uptoBulkEntries {H : Type} : List (Lit × DataW H) → Nat
  | [] => 0
  | x :: r => uptoBulkEntry x + uptoBulkEntries r
def uptoBulkEntry {H : Type} : Lit × DataW H → Nat
  | (.string bytes, d) => bytes.length + uptoBulk d + 1
  | (_, d) => uptoBulk d + 1
 end
def uptoSmall : (H : Type) → List (DataW H) → Bool := fun _ ds => decide (uptoBulkAll ds ≤ 1048576)
def OpenSpec.upto (s : _root_.Go.ChangeSpec) : _root_.Go.OpenSpec := { _root_.Go.OpenSpec.ofChange s with cond := some uptoSmall }

/-- 'linchpinlaw04.RoomTells', WHERE WHAT IT READS IS OF BULK AT MOST 1048576: true; the input reads as it did. -/
def roomTellsUptoRow : OpenClaim := { program := "ytnnmeipmkfbpdaa", sum := "fd3cba50194787c675a2ac3672aebcb78e98dfdd5c3c37b9c9e4b483b895916b", func := "linchpin/linchpinlaw04.RoomTells", spec := "roomTells", unfollowed := true, recurses := true, apart := false, narrowed := true }
def RoomTellsUptoSaid : Prop := roomTellsUptoRow.holds Try.pinned (OpenSpec.upto roomTellsSpec)

/-- 'linchpinlaw04.RoomSets', WHERE WHAT IT READS IS OF BULK AT MOST 1048576: true; the input reads as it did. -/
def roomSetsUptoRow : OpenClaim := { program := "ytnnmeipmkfbpdaa", sum := "fd3cba50194787c675a2ac3672aebcb78e98dfdd5c3c37b9c9e4b483b895916b", func := "linchpin/linchpinlaw04.RoomSets", spec := "roomSets", unfollowed := true, recurses := true, apart := false, narrowed := true }
def RoomSetsUptoSaid : Prop := roomSetsUptoRow.holds Try.pinned (OpenSpec.upto roomSetsSpec)

/-- 'linchpinlaw04.RoomCounts', WHERE WHAT IT READS IS OF BULK AT MOST 1048576: true; the input reads as it did. -/
def roomCountsUptoRow : OpenClaim := { program := "ytnnmeipmkfbpdaa", sum := "fd3cba50194787c675a2ac3672aebcb78e98dfdd5c3c37b9c9e4b483b895916b", func := "linchpin/linchpinlaw04.RoomCounts", spec := "roomCounts", unfollowed := true, recurses := true, apart := false, narrowed := true }
def RoomCountsUptoSaid : Prop := roomCountsUptoRow.holds Try.pinned (OpenSpec.upto roomCountsSpec)

/-- 'linchpinlaw04.RoomOrders', WHERE WHAT IT READS IS OF BULK AT MOST 1048576: true; the input reads as it did. -/
def roomOrdersUptoRow : OpenClaim := { program := "ytnnmeipmkfbpdaa", sum := "fd3cba50194787c675a2ac3672aebcb78e98dfdd5c3c37b9c9e4b483b895916b", func := "linchpin/linchpinlaw04.RoomOrders", spec := "roomOrders", unfollowed := true, recurses := true, apart := false, narrowed := true }
def RoomOrdersUptoSaid : Prop := roomOrdersUptoRow.holds Try.pinned (OpenSpec.upto roomOrdersSpec)

/-- 'linchpinlaw04.RoomFits', WHERE WHAT IT READS IS OF BULK AT MOST 1048576: true; the input reads as it did. -/
def roomFitsUptoRow : OpenClaim := { program := "ytnnmeipmkfbpdaa", sum := "fd3cba50194787c675a2ac3672aebcb78e98dfdd5c3c37b9c9e4b483b895916b", func := "linchpin/linchpinlaw04.RoomFits", spec := "roomFits", unfollowed := true, recurses := true, apart := false, narrowed := true }
def RoomFitsUptoSaid : Prop := roomFitsUptoRow.holds Try.pinned (OpenSpec.upto roomFitsSpec)

end Rows
end Go.Proofs.Ytnnmeipmkfbpdaa

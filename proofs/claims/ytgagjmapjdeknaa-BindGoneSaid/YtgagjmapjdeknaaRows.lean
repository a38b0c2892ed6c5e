/-
  No cell of these rows narrows 'for every input' (looked for: loops, veiled, ifaces, maps, wideKeys, modest, calm, conditions, laid).
  DERIVED. THE GIVEN ROWS OF THIS SEAT. 5 by the template 'for every input the law returns true; each argument reads behind the call as it read before'; 0 by the template 'total and deterministic' (their statements: YtgagjmapjdeknaaTotals.lean).
  GIVEN WITH THE SEED: the statements are not yours to turn. If you find one false, say at which input.
  Laid BY PROGRAM, IN A SANDBOX (cutbox-rows.mjs): the forced cells as the released guide's own fill.sh prints them over the translation f713bb1712bf667d… (all of the seat's roots in one cut). By AI agents, Wed Nov 11 2026. No macro, syntax, notation, axiom, sorry.
-/
import Derived.Test.YtgagjmapjdeknaaChecked
import GoSem.Claim
import GoSem.ClaimJoined
import GoSem.ClaimMapViews
import Derived.JoinedTies
import Derived.KernelRfl
namespace Go.Proofs.Ytgagjmapjdeknaa
/- THE CELL 'sum', in the pinned program and in every row, IS THE sha256 OF THE DUMP (.gsa) THAT YtgagjmapjdeknaaProg.lean LOADS. Nothing in Lean hashes anything: it is a label: what it is worth is what the hold of that sum in a sandbox is worth. -/
noncomputable def Try.pinned : Pinned := { name := "ytgagjmapjdeknaa", sum := "f713bb1712bf667d813288e33365e334d5e41bb6f4edcf0419b495462af8f509", checked := Try.checked }
namespace Rows
def none {H : Type} : Left H := { results := [], args := [] }

/-- 'linchpinlaw31.BindTells': WHATEVER THE INPUT: true; the input reads as it did. -/
def bindTellsSpec : ChangeSpec := { name := "bindTells", fn := fun _ => fun
  | [d1, d2, d3, d4, d5] => { results := [.lit (.bool true)], args := [d1, d2, d3, d4, d5] }
  | _ => none }
def bindTellsRow : OpenClaim := { program := "ytgagjmapjdeknaa", sum := "f713bb1712bf667d813288e33365e334d5e41bb6f4edcf0419b495462af8f509", func := "linchpin/linchpinlaw31.BindTells", spec := "bindTells", unfollowed := true, recurses := true, apart := false }
def BindTellsSaid : Prop := bindTellsRow.holds Try.pinned (OpenSpec.ofChange bindTellsSpec)

/-- ITS FALSE NEIGHBOUR: 'it returns false'. Refute it at one input. -/
def bindTellsWrong : ChangeSpec := { name := "bindTells", fn := fun _ => fun
  | [d1, d2, d3, d4, d5] => { results := [.lit (.bool false)], args := [d1, d2, d3, d4, d5] }
  | _ => none }
def BindTellsWrongFalsely : Prop := bindTellsRow.holds Try.pinned (OpenSpec.ofChange bindTellsWrong)

/-- 'linchpinlaw31.BindScope': WHATEVER THE INPUT: true; the input reads as it did. -/
def bindScopeSpec : ChangeSpec := { name := "bindScope", fn := fun _ => fun
  | [d1, d2] => { results := [.lit (.bool true)], args := [d1, d2] }
  | _ => none }
def bindScopeRow : OpenClaim := { program := "ytgagjmapjdeknaa", sum := "f713bb1712bf667d813288e33365e334d5e41bb6f4edcf0419b495462af8f509", func := "linchpin/linchpinlaw31.BindScope", spec := "bindScope", unfollowed := true, recurses := true, apart := false }
def BindScopeSaid : Prop := bindScopeRow.holds Try.pinned (OpenSpec.ofChange bindScopeSpec)

/-- ITS FALSE NEIGHBOUR: 'it returns false'. Refute it at one input. -/
def bindScopeWrong : ChangeSpec := { name := "bindScope", fn := fun _ => fun
  | [d1, d2] => { results := [.lit (.bool false)], args := [d1, d2] }
  | _ => none }
def BindScopeWrongFalsely : Prop := bindScopeRow.holds Try.pinned (OpenSpec.ofChange bindScopeWrong)

/-- 'linchpinlaw31.BindFirst': WHATEVER THE INPUT: true; the input reads as it did. -/
def bindFirstSpec : ChangeSpec := { name := "bindFirst", fn := fun _ => fun
  | [d1, d2, d3, d4] => { results := [.lit (.bool true)], args := [d1, d2, d3, d4] }
  | _ => none }
def bindFirstRow : OpenClaim := { program := "ytgagjmapjdeknaa", sum := "f713bb1712bf667d813288e33365e334d5e41bb6f4edcf0419b495462af8f509", func := "linchpin/linchpinlaw31.BindFirst", spec := "bindFirst", unfollowed := true, recurses := true, apart := false }
def BindFirstSaid : Prop := bindFirstRow.holds Try.pinned (OpenSpec.ofChange bindFirstSpec)

/-- ITS FALSE NEIGHBOUR: 'it returns false'. Refute it at one input. -/
def bindFirstWrong : ChangeSpec := { name := "bindFirst", fn := fun _ => fun
  | [d1, d2, d3, d4] => { results := [.lit (.bool false)], args := [d1, d2, d3, d4] }
  | _ => none }
def BindFirstWrongFalsely : Prop := bindFirstRow.holds Try.pinned (OpenSpec.ofChange bindFirstWrong)

/-- 'linchpinlaw31.BindLater': WHATEVER THE INPUT: true; the input reads as it did. -/
def bindLaterSpec : ChangeSpec := { name := "bindLater", fn := fun _ => fun
  | [d1, d2, d3, d4, d5] => { results := [.lit (.bool true)], args := [d1, d2, d3, d4, d5] }
  | _ => none }
def bindLaterRow : OpenClaim := { program := "ytgagjmapjdeknaa", sum := "f713bb1712bf667d813288e33365e334d5e41bb6f4edcf0419b495462af8f509", func := "linchpin/linchpinlaw31.BindLater", spec := "bindLater", unfollowed := true, recurses := true, apart := false }
def BindLaterSaid : Prop := bindLaterRow.holds Try.pinned (OpenSpec.ofChange bindLaterSpec)

/-- ITS FALSE NEIGHBOUR: 'it returns false'. Refute it at one input. -/
def bindLaterWrong : ChangeSpec := { name := "bindLater", fn := fun _ => fun
  | [d1, d2, d3, d4, d5] => { results := [.lit (.bool false)], args := [d1, d2, d3, d4, d5] }
  | _ => none }
def BindLaterWrongFalsely : Prop := bindLaterRow.holds Try.pinned (OpenSpec.ofChange bindLaterWrong)

/-- 'linchpinlaw31.BindGone': WHATEVER THE INPUT: true; the input reads as it did. -/
def bindGoneSpec : ChangeSpec := { name := "bindGone", fn := fun _ => fun
  | [d1, d2, d3, d4, d5] => { results := [.lit (.bool true)], args := [d1, d2, d3, d4, d5] }
  | _ => none }
def bindGoneRow : OpenClaim := { program := "ytgagjmapjdeknaa", sum := "f713bb1712bf667d813288e33365e334d5e41bb6f4edcf0419b495462af8f509", func := "linchpin/linchpinlaw31.BindGone", spec := "bindGone", unfollowed := true, recurses := true, apart := false }
def BindGoneSaid : Prop := bindGoneRow.holds Try.pinned (OpenSpec.ofChange bindGoneSpec)

/-- ITS FALSE NEIGHBOUR: 'it returns false'. Refute it at one input. -/
def bindGoneWrong : ChangeSpec := { name := "bindGone", fn := fun _ => fun
  | [d1, d2, d3, d4, d5] => { results := [.lit (.bool false)], args := [d1, d2, d3, d4, d5] }
  | _ => none }
def BindGoneWrongFalsely : Prop := bindGoneRow.holds Try.pinned (OpenSpec.ofChange bindGoneWrong)

/- THE SECOND FORM. 'bulk': how many values and letters a reading holds, each counted each time it is reached (what is shared counts as often as it is met; a slice's spare places count too). A statement '..UptoSaid' is the law's where the arguments, and the package variables that the reading takes, are together of bulk at most 1048576: NARROWER than '..Said'. Prove '..Said' where nothing that the law and all that it calls make is longer than what came in: it says more and counts as full. Else prove '..UptoSaid'. A law counts once. -/
mutual
def uptoBulk {H : Type} : DataW H → Nat
  | .lit (.string bytes) => bytes.length + 1
  | .lit _ => 1
  | .nil => 1
  | .ptr d => uptoBulk d + 1
  | .slice elems spare => uptoBulkAll elems + uptoBulkAll spare + 1
  | .agg parts => uptoBulkAll parts + 1
  | .iface _ d => uptoBulk d + 1
  | .map entries => uptoBulkEntries entries + 1
  | .held _ => 1
def uptoBulkAll {H : Type} : List (DataW H) → Nat
  | [] => 0
  | d :: r => uptoBulk d + uptoBulkAll r
def uptoBulkEntries {H : Type} : List (Lit × DataW H) → Nat
  | [] => 0
  | x :: r => uptoBulkEntry x + uptoBulkEntries r
def uptoBulkEntry {H : Type} : Lit × DataW H → Nat
  | (.string bytes, d) => bytes.length + uptoBulk d + 1
  | (_, d) => uptoBulk d + 1
 end
def uptoSmall : (H : Type) → List (DataW H) → Bool := fun _ ds => decide (uptoBulkAll ds ≤ 1048576)
def OpenSpec.upto (s : _root_.Go.ChangeSpec) : _root_.Go.OpenSpec := { _root_.Go.OpenSpec.ofChange s with cond := some uptoSmall }

/-- 'linchpinlaw31.BindTells', WHERE WHAT IT READS IS OF BULK AT MOST 1048576: true; the input reads as it did. -/
def bindTellsUptoRow : OpenClaim := { program := "ytgagjmapjdeknaa", sum := "f713bb1712bf667d813288e33365e334d5e41bb6f4edcf0419b495462af8f509", func := "linchpin/linchpinlaw31.BindTells", spec := "bindTells", unfollowed := true, recurses := true, apart := false, narrowed := true }
def BindTellsUptoSaid : Prop := bindTellsUptoRow.holds Try.pinned (OpenSpec.upto bindTellsSpec)

/-- 'linchpinlaw31.BindScope', WHERE WHAT IT READS IS OF BULK AT MOST 1048576: true; the input reads as it did. -/
def bindScopeUptoRow : OpenClaim := { program := "ytgagjmapjdeknaa", sum := "f713bb1712bf667d813288e33365e334d5e41bb6f4edcf0419b495462af8f509", func := "linchpin/linchpinlaw31.BindScope", spec := "bindScope", unfollowed := true, recurses := true, apart := false, narrowed := true }
def BindScopeUptoSaid : Prop := bindScopeUptoRow.holds Try.pinned (OpenSpec.upto bindScopeSpec)

/-- 'linchpinlaw31.BindFirst', WHERE WHAT IT READS IS OF BULK AT MOST 1048576: true; the input reads as it did. -/
def bindFirstUptoRow : OpenClaim := { program := "ytgagjmapjdeknaa", sum := "f713bb1712bf667d813288e33365e334d5e41bb6f4edcf0419b495462af8f509", func := "linchpin/linchpinlaw31.BindFirst", spec := "bindFirst", unfollowed := true, recurses := true, apart := false, narrowed := true }
def BindFirstUptoSaid : Prop := bindFirstUptoRow.holds Try.pinned (OpenSpec.upto bindFirstSpec)

/-- 'linchpinlaw31.BindLater', WHERE WHAT IT READS IS OF BULK AT MOST 1048576: true; the input reads as it did. -/
def bindLaterUptoRow : OpenClaim := { program := "ytgagjmapjdeknaa", sum := "f713bb1712bf667d813288e33365e334d5e41bb6f4edcf0419b495462af8f509", func := "linchpin/linchpinlaw31.BindLater", spec := "bindLater", unfollowed := true, recurses := true, apart := false, narrowed := true }
def BindLaterUptoSaid : Prop := bindLaterUptoRow.holds Try.pinned (OpenSpec.upto bindLaterSpec)

/-- 'linchpinlaw31.BindGone', WHERE WHAT IT READS IS OF BULK AT MOST 1048576: true; the input reads as it did. -/
def bindGoneUptoRow : OpenClaim := { program := "ytgagjmapjdeknaa", sum := "f713bb1712bf667d813288e33365e334d5e41bb6f4edcf0419b495462af8f509", func := "linchpin/linchpinlaw31.BindGone", spec := "bindGone", unfollowed := true, recurses := true, apart := false, narrowed := true }
def BindGoneUptoSaid : Prop := bindGoneUptoRow.holds Try.pinned (OpenSpec.upto bindGoneSpec)

end Rows
end Go.Proofs.Ytgagjmapjdeknaa

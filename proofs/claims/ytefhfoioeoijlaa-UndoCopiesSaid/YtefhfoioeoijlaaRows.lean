/-
  No cell of these rows narrows 'for every input' (looked for: loops, veiled, ifaces, maps, wideKeys, modest, calm, conditions, laid).
  DERIVED. THE GIVEN ROWS OF THIS SEAT. 9 by the template 'for every input the law returns true; each argument reads behind the call as it read before'; 0 by the template 'total and deterministic' (their statements: YtefhfoioeoijlaaTotals.lean).
  GIVEN WITH THE SEED: the statements are not yours to turn. If you find one false, say at which input.
  Laid BY PROGRAM, IN A SANDBOX (cutbox-rows.mjs): the forced cells as the released guide's own fill.sh prints them over the translation 38811015abc2acaf… (all of the seat's roots in one cut). By AI agents, Wed Nov 11 2026. No macro, syntax, notation, axiom, sorry.
-/
import Derived.Test.YtefhfoioeoijlaaChecked
import GoSem.Claim
import GoSem.ClaimJoined
import GoSem.ClaimMapViews
import Derived.JoinedTies
import Derived.KernelRfl
namespace Go.Proofs.Ytefhfoioeoijlaa
/- THE CELL 'sum', in the pinned program and in every row, IS THE sha256 OF THE DUMP (.gsa) THAT YtefhfoioeoijlaaProg.lean LOADS. Nothing in Lean hashes anything: it is a label: what it is worth is what the hold of that sum in a sandbox is worth. -/
noncomputable def Try.pinned : Pinned := { name := "ytefhfoioeoijlaa", sum := "38811015abc2acaf8a5b3675a7b5b5a3919e581204cca1ebbc36dd4c8de548fd", checked := Try.checked }
namespace Rows
def none {H : Type} : Left H := { results := [], args := [] }

/-- 'cachettelaw16.TreePlays': WHATEVER THE INPUT: true; the input reads as it did. -/
def treePlaysSpec : ChangeSpec := { name := "treePlays", fn := fun _ => fun
  | [d1, d2, d3] => { results := [.lit (.bool true)], args := [d1, d2, d3] }
  | _ => none }
def treePlaysRow : OpenClaim := { program := "ytefhfoioeoijlaa", sum := "38811015abc2acaf8a5b3675a7b5b5a3919e581204cca1ebbc36dd4c8de548fd", func := "cachette/cachettelaw16.TreePlays", spec := "treePlays", unfollowed := true, recurses := true, plainKeys := false, apart := false }
def TreePlaysSaid : Prop := treePlaysRow.holds Try.pinned (OpenSpec.ofChange treePlaysSpec)

/-- ITS FALSE NEIGHBOUR: 'it returns false'. Refute it at one input. -/
def treePlaysWrong : ChangeSpec := { name := "treePlays", fn := fun _ => fun
  | [d1, d2, d3] => { results := [.lit (.bool false)], args := [d1, d2, d3] }
  | _ => none }
def TreePlaysWrongFalsely : Prop := treePlaysRow.holds Try.pinned (OpenSpec.ofChange treePlaysWrong)

/-- 'cachettelaw17.UndoLast': WHATEVER THE INPUT: true; the input reads as it did. -/
def undoLastSpec : ChangeSpec := { name := "undoLast", fn := fun _ => fun
  | [d1, d2] => { results := [.lit (.bool true)], args := [d1, d2] }
  | _ => none }
def undoLastRow : OpenClaim := { program := "ytefhfoioeoijlaa", sum := "38811015abc2acaf8a5b3675a7b5b5a3919e581204cca1ebbc36dd4c8de548fd", func := "cachette/cachettelaw17.UndoLast", spec := "undoLast", inPlace := ["slices.overlaps[cachette/undo.step]"], unfollowed := true, recurses := true, plainKeys := false, apart := false }
def UndoLastSaid : Prop := undoLastRow.holds Try.pinned (OpenSpec.ofChange undoLastSpec)

/-- ITS FALSE NEIGHBOUR: 'it returns false'. Refute it at one input. -/
def undoLastWrong : ChangeSpec := { name := "undoLast", fn := fun _ => fun
  | [d1, d2] => { results := [.lit (.bool false)], args := [d1, d2] }
  | _ => none }
def UndoLastWrongFalsely : Prop := undoLastRow.holds Try.pinned (OpenSpec.ofChange undoLastWrong)

/-- 'cachettelaw17.UndoSame': WHATEVER THE INPUT: true; the input reads as it did. -/
def undoSameSpec : ChangeSpec := { name := "undoSame", fn := fun _ => fun
  | [d1, d2, d3] => { results := [.lit (.bool true)], args := [d1, d2, d3] }
  | _ => none }
def undoSameRow : OpenClaim := { program := "ytefhfoioeoijlaa", sum := "38811015abc2acaf8a5b3675a7b5b5a3919e581204cca1ebbc36dd4c8de548fd", func := "cachette/cachettelaw17.UndoSame", spec := "undoSame", inPlace := ["slices.overlaps[cachette/undo.step]"], unfollowed := true, recurses := true, plainKeys := false, apart := false }
def UndoSameSaid : Prop := undoSameRow.holds Try.pinned (OpenSpec.ofChange undoSameSpec)

/-- ITS FALSE NEIGHBOUR: 'it returns false'. Refute it at one input. -/
def undoSameWrong : ChangeSpec := { name := "undoSame", fn := fun _ => fun
  | [d1, d2, d3] => { results := [.lit (.bool false)], args := [d1, d2, d3] }
  | _ => none }
def UndoSameWrongFalsely : Prop := undoSameRow.holds Try.pinned (OpenSpec.ofChange undoSameWrong)

/-- 'cachettelaw16.TreeUndoes': WHATEVER THE INPUT: true; the input reads as it did. -/
def treeUndoesSpec : ChangeSpec := { name := "treeUndoes", fn := fun _ => fun
  | [d1, d2] => { results := [.lit (.bool true)], args := [d1, d2] }
  | _ => none }
def treeUndoesRow : OpenClaim := { program := "ytefhfoioeoijlaa", sum := "38811015abc2acaf8a5b3675a7b5b5a3919e581204cca1ebbc36dd4c8de548fd", func := "cachette/cachettelaw16.TreeUndoes", spec := "treeUndoes", unfollowed := true, recurses := true, plainKeys := false, apart := false }
def TreeUndoesSaid : Prop := treeUndoesRow.holds Try.pinned (OpenSpec.ofChange treeUndoesSpec)

/-- ITS FALSE NEIGHBOUR: 'it returns false'. Refute it at one input. -/
def treeUndoesWrong : ChangeSpec := { name := "treeUndoes", fn := fun _ => fun
  | [d1, d2] => { results := [.lit (.bool false)], args := [d1, d2] }
  | _ => none }
def TreeUndoesWrongFalsely : Prop := treeUndoesRow.holds Try.pinned (OpenSpec.ofChange treeUndoesWrong)

/-- 'cachettelaw16.TreeRooted': WHATEVER THE INPUT: true; the input reads as it did. -/
def treeRootedSpec : ChangeSpec := { name := "treeRooted", fn := fun _ => fun
  | [d] => { results := [.lit (.bool true)], args := [d] }
  | _ => none }
def treeRootedRow : OpenClaim := { program := "ytefhfoioeoijlaa", sum := "38811015abc2acaf8a5b3675a7b5b5a3919e581204cca1ebbc36dd4c8de548fd", func := "cachette/cachettelaw16.TreeRooted", spec := "treeRooted", unfollowed := true, recurses := true, plainKeys := false, apart := false }
def TreeRootedSaid : Prop := treeRootedRow.holds Try.pinned (OpenSpec.ofChange treeRootedSpec)

/-- ITS FALSE NEIGHBOUR: 'it returns false'. Refute it at one input. -/
def treeRootedWrong : ChangeSpec := { name := "treeRooted", fn := fun _ => fun
  | [d] => { results := [.lit (.bool false)], args := [d] }
  | _ => none }
def TreeRootedWrongFalsely : Prop := treeRootedRow.holds Try.pinned (OpenSpec.ofChange treeRootedWrong)

/-- 'cachettelaw16.TreeBuilds': WHATEVER THE INPUT: true; the input reads as it did. -/
def treeBuildsSpec : ChangeSpec := { name := "treeBuilds", fn := fun _ => fun
  | [d1, d2] => { results := [.lit (.bool true)], args := [d1, d2] }
  | _ => none }
def treeBuildsRow : OpenClaim := { program := "ytefhfoioeoijlaa", sum := "38811015abc2acaf8a5b3675a7b5b5a3919e581204cca1ebbc36dd4c8de548fd", func := "cachette/cachettelaw16.TreeBuilds", spec := "treeBuilds", unfollowed := true, recurses := true, plainKeys := false, apart := false }
def TreeBuildsSaid : Prop := treeBuildsRow.holds Try.pinned (OpenSpec.ofChange treeBuildsSpec)

/-- ITS FALSE NEIGHBOUR: 'it returns false'. Refute it at one input. -/
def treeBuildsWrong : ChangeSpec := { name := "treeBuilds", fn := fun _ => fun
  | [d1, d2] => { results := [.lit (.bool false)], args := [d1, d2] }
  | _ => none }
def TreeBuildsWrongFalsely : Prop := treeBuildsRow.holds Try.pinned (OpenSpec.ofChange treeBuildsWrong)

/-- 'cachettelaw16.TreeNils': WHATEVER THE INPUT: true; the input reads as it did. -/
def treeNilsSpec : ChangeSpec := { name := "treeNils", fn := fun _ => fun
  | [d1, d2] => { results := [.lit (.bool true)], args := [d1, d2] }
  | _ => none }
def treeNilsRow : OpenClaim := { program := "ytefhfoioeoijlaa", sum := "38811015abc2acaf8a5b3675a7b5b5a3919e581204cca1ebbc36dd4c8de548fd", func := "cachette/cachettelaw16.TreeNils", spec := "treeNils", unfollowed := true, recurses := true, plainKeys := false, apart := false }
def TreeNilsSaid : Prop := treeNilsRow.holds Try.pinned (OpenSpec.ofChange treeNilsSpec)

/-- ITS FALSE NEIGHBOUR: 'it returns false'. Refute it at one input. -/
def treeNilsWrong : ChangeSpec := { name := "treeNils", fn := fun _ => fun
  | [d1, d2] => { results := [.lit (.bool false)], args := [d1, d2] }
  | _ => none }
def TreeNilsWrongFalsely : Prop := treeNilsRow.holds Try.pinned (OpenSpec.ofChange treeNilsWrong)

/-- 'cachettelaw17.UndoCopies': WHATEVER THE INPUT: true; the input reads as it did. -/
def undoCopiesSpec : ChangeSpec := { name := "undoCopies", fn := fun _ => fun
  | [d1, d2] => { results := [.lit (.bool true)], args := [d1, d2] }
  | _ => none }
def undoCopiesRow : OpenClaim := { program := "ytefhfoioeoijlaa", sum := "38811015abc2acaf8a5b3675a7b5b5a3919e581204cca1ebbc36dd4c8de548fd", func := "cachette/cachettelaw17.UndoCopies", spec := "undoCopies", inPlace := ["slices.overlaps[cachette/undo.step]"], unfollowed := true, recurses := true, plainKeys := false, apart := false }
def UndoCopiesSaid : Prop := undoCopiesRow.holds Try.pinned (OpenSpec.ofChange undoCopiesSpec)

/-- ITS FALSE NEIGHBOUR: 'it returns false'. Refute it at one input. -/
def undoCopiesWrong : ChangeSpec := { name := "undoCopies", fn := fun _ => fun
  | [d1, d2] => { results := [.lit (.bool false)], args := [d1, d2] }
  | _ => none }
def UndoCopiesWrongFalsely : Prop := undoCopiesRow.holds Try.pinned (OpenSpec.ofChange undoCopiesWrong)

/-- 'cachettelaw25.ViewMatches': WHATEVER THE INPUT: true; the input reads as it did. -/
def viewMatchesSpec : ChangeSpec := { name := "viewMatches", fn := fun _ => fun
  | [d1, d2] => { results := [.lit (.bool true)], args := [d1, d2] }
  | _ => none }
def viewMatchesRow : OpenClaim := { program := "ytefhfoioeoijlaa", sum := "38811015abc2acaf8a5b3675a7b5b5a3919e581204cca1ebbc36dd4c8de548fd", func := "cachette/cachettelaw25.ViewMatches", spec := "viewMatches", inPlace := ["internal/bytealg.IndexByteString", "internal/bytealg.IndexString"], recurses := true, named := ["internal/bytealg.MaxLen"], plainKeys := false, apart := false }
def ViewMatchesSaid : Prop := viewMatchesRow.holds Try.pinned (OpenSpec.ofChange viewMatchesSpec)

/-- ITS FALSE NEIGHBOUR: 'it returns false'. Refute it at one input. -/
def viewMatchesWrong : ChangeSpec := { name := "viewMatches", fn := fun _ => fun
  | [d1, d2] => { results := [.lit (.bool false)], args := [d1, d2] }
  | _ => none }
def ViewMatchesWrongFalsely : Prop := viewMatchesRow.holds Try.pinned (OpenSpec.ofChange viewMatchesWrong)

/- THE SECOND FORM. 'bulk': how many values and letters a reading holds, each counted each time it is reached (what is shared counts as often as it is met; a slice's spare places count too). A statement '..UptoSaid' is the law's where the arguments, and the package variables that the reading takes, are together of bulk at most 1048576: NARROWER than '..Said'. Prove '..Said' where nothing that the law and all that it calls make is longer than what came in: it says more and counts as full. Else prove '..UptoSaid'. A law counts once. -/
mutual
def uptoBulk {H : Type} : DataW H → Nat
  | .lit (.string bytes) => bytes.length + 1
  | .lit _ => 1
  | .nil => 1
  | .ptr d => uptoBulk d + 1
  | .slice elems spare => uptoBulkAll elems + uptoBulkAll spare + 1
  | .agg parts => uptoBulkAll parts + 1
  | .iface _ d => uptoBulk d + 1
  | .map entries => uptoBulkEntries entries + 1
  | .held _ => 1
def uptoBulkAll {H : Type} : List (DataW H) → Nat
  | [] => 0
  | d :: r => uptoBulk d + uptoBulkAll r
def uptoBulkEntries {H : Type} : List (Lit × DataW H) → Nat
  | [] => 0
  | x :: r => uptoBulkEntry x + uptoBulkEntries r
def uptoBulkEntry {H : Type} : Lit × DataW H → Nat
  | (.string bytes, d) => bytes.length + uptoBulk d + 1
  | (_, d) => uptoBulk d + 1
 end
def uptoSmall : (H : Type) → List (DataW H) → Bool := fun _ ds => decide (uptoBulkAll ds ≤ 1048576)
def OpenSpec.upto (s : _root_.Go.ChangeSpec) : _root_.Go.OpenSpec := { _root_.Go.OpenSpec.ofChange s with cond := some uptoSmall }

/-- 'cachettelaw16.TreePlays', WHERE WHAT IT READS IS OF BULK AT MOST 1048576: true; the input reads as it did. -/
def treePlaysUptoRow : OpenClaim := { program := "ytefhfoioeoijlaa", sum := "38811015abc2acaf8a5b3675a7b5b5a3919e581204cca1ebbc36dd4c8de548fd", func := "cachette/cachettelaw16.TreePlays", spec := "treePlays", unfollowed := true, recurses := true, plainKeys := false, apart := false, narrowed := true }
def TreePlaysUptoSaid : Prop := treePlaysUptoRow.holds Try.pinned (OpenSpec.upto treePlaysSpec)

/-- 'cachettelaw17.UndoLast', WHERE WHAT IT READS IS OF BULK AT MOST 1048576: true; the input reads as it did. -/
def undoLastUptoRow : OpenClaim := { program := "ytefhfoioeoijlaa", sum := "38811015abc2acaf8a5b3675a7b5b5a3919e581204cca1ebbc36dd4c8de548fd", func := "cachette/cachettelaw17.UndoLast", spec := "undoLast", inPlace := ["slices.overlaps[cachette/undo.step]"], unfollowed := true, recurses := true, plainKeys := false, apart := false, narrowed := true }
def UndoLastUptoSaid : Prop := undoLastUptoRow.holds Try.pinned (OpenSpec.upto undoLastSpec)

/-- 'cachettelaw17.UndoSame', WHERE WHAT IT READS IS OF BULK AT MOST 1048576: true; the input reads as it did. -/
def undoSameUptoRow : OpenClaim := { program := "ytefhfoioeoijlaa", sum := "38811015abc2acaf8a5b3675a7b5b5a3919e581204cca1ebbc36dd4c8de548fd", func := "cachette/cachettelaw17.UndoSame", spec := "undoSame", inPlace := ["slices.overlaps[cachette/undo.step]"], unfollowed := true, recurses := true, plainKeys := false, apart := false, narrowed := true }
def UndoSameUptoSaid : Prop := undoSameUptoRow.holds Try.pinned (OpenSpec.upto undoSameSpec)

/-- 'cachettelaw16.TreeUndoes', WHERE WHAT IT READS IS OF BULK AT MOST 1048576: true; the input reads as it did. -/
def treeUndoesUptoRow : OpenClaim := { program := "ytefhfoioeoijlaa", sum := "38811015abc2acaf8a5b3675a7b5b5a3919e581204cca1ebbc36dd4c8de548fd", func := "cachette/cachettelaw16.TreeUndoes", spec := "treeUndoes", unfollowed := true, recurses := true, plainKeys := false, apart := false, narrowed := true }
def TreeUndoesUptoSaid : Prop := treeUndoesUptoRow.holds Try.pinned (OpenSpec.upto treeUndoesSpec)

/-- 'cachettelaw16.TreeRooted', WHERE WHAT IT READS IS OF BULK AT MOST 1048576: true; the input reads as it did. -/
def treeRootedUptoRow : OpenClaim := { program := "ytefhfoioeoijlaa", sum := "38811015abc2acaf8a5b3675a7b5b5a3919e581204cca1ebbc36dd4c8de548fd", func := "cachette/cachettelaw16.TreeRooted", spec := "treeRooted", unfollowed := true, recurses := true, plainKeys := false, apart := false, narrowed := true }
def TreeRootedUptoSaid : Prop := treeRootedUptoRow.holds Try.pinned (OpenSpec.upto treeRootedSpec)

/-- 'cachettelaw16.TreeBuilds', WHERE WHAT IT READS IS OF BULK AT MOST 1048576: true; the input reads as it did. -/
def treeBuildsUptoRow : OpenClaim := { program := "ytefhfoioeoijlaa", sum := "38811015abc2acaf8a5b3675a7b5b5a3919e581204cca1ebbc36dd4c8de548fd", func := "cachette/cachettelaw16.TreeBuilds", spec := "treeBuilds", unfollowed := true, recurses := true, plainKeys := false, apart := false, narrowed := true }
def TreeBuildsUptoSaid : Prop := treeBuildsUptoRow.holds Try.pinned (OpenSpec.upto treeBuildsSpec)

/-- 'cachettelaw16.TreeNils', WHERE WHAT IT READS IS OF BULK AT MOST 1048576: true; the input reads as it did. -/
def treeNilsUptoRow : OpenClaim := { program := "ytefhfoioeoijlaa", sum := "38811015abc2acaf8a5b3675a7b5b5a3919e581204cca1ebbc36dd4c8de548fd", func := "cachette/cachettelaw16.TreeNils", spec := "treeNils", unfollowed := true, recurses := true, plainKeys := false, apart := false, narrowed := true }
def TreeNilsUptoSaid : Prop := treeNilsUptoRow.holds Try.pinned (OpenSpec.upto treeNilsSpec)

/-- 'cachettelaw17.UndoCopies', WHERE WHAT IT READS IS OF BULK AT MOST 1048576: true; the input reads as it did. -/
def undoCopiesUptoRow : OpenClaim := { program := "ytefhfoioeoijlaa", sum := "38811015abc2acaf8a5b3675a7b5b5a3919e581204cca1ebbc36dd4c8de548fd", func := "cachette/cachettelaw17.UndoCopies", spec := "undoCopies", inPlace := ["slices.overlaps[cachette/undo.step]"], unfollowed := true, recurses := true, plainKeys := false, apart := false, narrowed := true }
def UndoCopiesUptoSaid : Prop := undoCopiesUptoRow.holds Try.pinned (OpenSpec.upto undoCopiesSpec)

/-- 'cachettelaw25.ViewMatches', WHERE WHAT IT READS IS OF BULK AT MOST 1048576: true; the input reads as it did. -/
def viewMatchesUptoRow : OpenClaim := { program := "ytefhfoioeoijlaa", sum := "38811015abc2acaf8a5b3675a7b5b5a3919e581204cca1ebbc36dd4c8de548fd", func := "cachette/cachettelaw25.ViewMatches", spec := "viewMatches", inPlace := ["internal/bytealg.IndexByteString", "internal/bytealg.IndexString"], recurses := true, named := ["internal/bytealg.MaxLen"], plainKeys := false, apart := false, narrowed := true }
def ViewMatchesUptoSaid : Prop := viewMatchesUptoRow.holds Try.pinned (OpenSpec.upto viewMatchesSpec)

end Rows
end Go.Proofs.Ytefhfoioeoijlaa

/- GN: printed by gen.py -/
import Derived.Test.YtefhfoioeoijlaaGreatGL
import Derived.Test.YtefhfoioeoijlaaGreatOrd
import Derived.Test.YtefhfoioeoijlaaGreatBas
import Derived.Test.YtefhfoioeoijlaaGreatArg
set_option linter.unusedVariables false
set_option linter.unusedSimpArgs false
namespace Go.Proofs.YtefhfoioeoijlaaGreat
open Go Go.RowKit Go.Sort
theorem tkO {L : List OpD} {k : Nat} {x : OpD} (h : L[k]? = some x) : L.take (k + 1) = L.take k ++ [x] := by rw [List.take_add_one, h]; rfl
def playI (L : List Item) (o : OpD) : List Item := (doI L o).2
/-- The tree of any operations. -/
def buildI (os : List OpD) : List Item := (sortO os).foldl playI []
theorem orow_sl {P : Program} {f : FuncId} {args : Array Value} {w : World} {T : TypeId} {B base : Nat} {L : List OpD} (h : Calls P f args w fun e w' => ∃ v, e = .returned v ∧ ORow T B base w' v L ∧ Up w w') :
    Calls P f args w fun e w' => ∃ A c, e = .returned (.slice A L.length c) ∧ ORow T B base w' (.slice A L.length c) L ∧ Up w w' := by
  refine h.mono ?_
  rintro e w' ⟨v, rfl, hr, u⟩
  obtain ⟨A, c, rfl⟩ := hr.form
  exact ⟨A, c, rfl, hr, u⟩
theorem OpRow.names {B : Nat} {w : World} {A : Option Addr} {os : List OpD} (h : OpRow B w A os) : ∀ o ∈ sortO os, o.name.size ≤ 9223372036854775807 := fun o ho => by
  obtain ⟨i, hi⟩ := List.mem_iff_getElem?.1 (sortO_mem ho)
  obtain ⟨_, _, _, _, _, _, _, _, _, hs⟩ := h i o hi
  exact hs
end Go.Proofs.YtefhfoioeoijlaaGreat

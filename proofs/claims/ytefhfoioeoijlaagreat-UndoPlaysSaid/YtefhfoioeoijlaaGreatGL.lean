/- GL: printed by gen.py -/
import Derived.Test.YtefhfoioeoijlaaGreatOrd
import Derived.Test.YtefhfoioeoijlaaGreatBas
set_option linter.unusedVariables false
set_option linter.unusedSimpArgs false
namespace Go.Proofs.YtefhfoioeoijlaaGreat
open Go Go.RowKit Go.Sort
theorem same_el {I : List Nat} {ia x y : Nat} (h : I[ia]? = some x) (k : I[ia]? = some y) : x = y := Option.some.inj (h.symm.trans k)
end Go.Proofs.YtefhfoioeoijlaaGreat

/- GF: printed by gen.py -/
import Derived.Test.YtefhfoioeoijlaaGreatDoorGE
import Derived.Test.YtefhfoioeoijlaaGreatDoorArg
set_option linter.unusedVariables false
set_option linter.unusedSimpArgs false
namespace Go.Proofs.YtefhfoioeoijlaaGreatDoor
open Go Go.RowKit Go.Sort
end Go.Proofs.YtefhfoioeoijlaaGreatDoor

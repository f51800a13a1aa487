/- PathTexts: the row. -/
import Derived.Stop.Joined
import Derived.Test.YtefhfoioeoijlaaGreatDoorQaa
import Derived.Test.YtefhfoioeoijlaaGreatDoorQab
import Derived.Test.YtefhfoioeoijlaaGreatDoorQac
import Derived.Test.YtefhfoioeoijlaaGreatDoorQad
import Derived.Test.YtefhfoioeoijlaaGreatDoorQae
import Derived.Test.YtefhfoioeoijlaaGreatDoorQaf
import Derived.Test.YtefhfoioeoijlaaGreatDoorQag
import Derived.Test.YtefhfoioeoijlaaGreatDoorQah
import Derived.Test.YtefhfoioeoijlaaGreatDoorQai
import Derived.Test.YtefhfoioeoijlaaGreatDoorQaj
import Derived.Test.YtefhfoioeoijlaaGreatDoorQak
import Derived.Test.YtefhfoioeoijlaaGreatDoorQal
import Derived.Test.YtefhfoioeoijlaaGreatDoorQam
import Derived.Test.YtefhfoioeoijlaaGreatDoorQan
import Derived.Test.YtefhfoioeoijlaaGreatDoorQao
import Derived.Test.YtefhfoioeoijlaaGreatDoorQap
import Derived.Test.YtefhfoioeoijlaaGreatDoorQaq
import Derived.Test.YtefhfoioeoijlaaGreatDoorQar
import Derived.Test.YtefhfoioeoijlaaGreatDoorQas
import Derived.Test.YtefhfoioeoijlaaGreatDoorQat
import Derived.Test.YtefhfoioeoijlaaGreatDoorQau
import Derived.Test.YtefhfoioeoijlaaGreatDoorQav
import Derived.Test.YtefhfoioeoijlaaGreatDoorQPathTextsa
import Derived.Test.YtefhfoioeoijlaaGreatDoorQPathTextsb
import Derived.Test.YtefhfoioeoijlaaGreatDoorQPathTextsc
import Derived.Test.YtefhfoioeoijlaaGreatDoorQPathTextsLift
namespace Go.Proofs.YtefhfoioeoijlaaGreatDoor.pathTexts
open Go Go.RowKit Go.Joins Go.ChangeShapes Go.WideShapes Go.ChangeAt
open Go.ChangeMaps (open_string shut_string)
theorem j1 : Tryz.prog.inPlace 9 = Rows.pathTextsRow.inPlace := by kernel_rfl
theorem j2 : Tryz.prog.unfollowed 9 = Rows.pathTextsRow.unfollowed := by kernel_rfl
theorem j3 : Tryz.prog.recurses 9 = Rows.pathTextsRow.recurses := by kernel_rfl
theorem j4 : Tryz.prog.varsNamed 9 = Rows.pathTextsRow.named := by kernel_rfl
theorem closed : joinedFacts Tryz.prog 9 Tryz.f9 Rows.pathTextsSpec Rows.pathTextsRow = true := by
  unfold joinedFacts
  rw [j1, j2, j3, j4]
  kernel_rfl
theorem over : Rows.PathTextsSaid :=
  OpenClaim.holds_of_wide 9 Tryz.f9 rfl rfl rfl rfl rfl rfl rfl ⟨rfl, rfl, rfl, rfl, rfl⟩ rfl rfl rfl rfl rfl (by kernel_rfl) Tryz.func9 closed
    (of_decide_eq_true (by kernel_rfl)) (by unfold Func.isWrapper; first | (rw [if_pos (by decide +kernel)]; kernel_rfl) | (rw [if_neg (by decide +kernel)]; exact ⟨rfl, rfl⟩))
    (fun os started H enc _ => lifted os started H enc)
end Go.Proofs.YtefhfoioeoijlaaGreatDoor.pathTexts

/- PathWalks: the row. -/
import Derived.Stop.Joined
import Derived.Test.YtefhfoioeoijlaaGreatDoorUaa
import Derived.Test.YtefhfoioeoijlaaGreatDoorUab
import Derived.Test.YtefhfoioeoijlaaGreatDoorUac
import Derived.Test.YtefhfoioeoijlaaGreatDoorUad
import Derived.Test.YtefhfoioeoijlaaGreatDoorUae
import Derived.Test.YtefhfoioeoijlaaGreatDoorUaf
import Derived.Test.YtefhfoioeoijlaaGreatDoorUag
import Derived.Test.YtefhfoioeoijlaaGreatDoorUah
import Derived.Test.YtefhfoioeoijlaaGreatDoorUai
import Derived.Test.YtefhfoioeoijlaaGreatDoorUaj
import Derived.Test.YtefhfoioeoijlaaGreatDoorUak
import Derived.Test.YtefhfoioeoijlaaGreatDoorUal
import Derived.Test.YtefhfoioeoijlaaGreatDoorUam
import Derived.Test.YtefhfoioeoijlaaGreatDoorUan
import Derived.Test.YtefhfoioeoijlaaGreatDoorUao
import Derived.Test.YtefhfoioeoijlaaGreatDoorUap
import Derived.Test.YtefhfoioeoijlaaGreatDoorUaq
import Derived.Test.YtefhfoioeoijlaaGreatDoorUar
import Derived.Test.YtefhfoioeoijlaaGreatDoorUas
import Derived.Test.YtefhfoioeoijlaaGreatDoorUat
import Derived.Test.YtefhfoioeoijlaaGreatDoorUau
import Derived.Test.YtefhfoioeoijlaaGreatDoorUav
import Derived.Test.YtefhfoioeoijlaaGreatDoorUaw
import Derived.Test.YtefhfoioeoijlaaGreatDoorUax
import Derived.Test.YtefhfoioeoijlaaGreatDoorUay
import Derived.Test.YtefhfoioeoijlaaGreatDoorUaz
import Derived.Test.YtefhfoioeoijlaaGreatDoorUba
import Derived.Test.YtefhfoioeoijlaaGreatDoorUbb
import Derived.Test.YtefhfoioeoijlaaGreatDoorUbc
import Derived.Test.YtefhfoioeoijlaaGreatDoorUPathWalksLift
namespace Go.Proofs.YtefhfoioeoijlaaGreatDoor.pathWalks
open Go Go.RowKit Go.Joins Go.ChangeShapes Go.WideShapes Go.ChangeAt
open Go.ChangeMaps (open_string shut_string)
theorem j1 : Tryz.prog.inPlace 11 = Rows.pathWalksRow.inPlace := by kernel_rfl
theorem j2 : Tryz.prog.unfollowed 11 = Rows.pathWalksRow.unfollowed := by kernel_rfl
theorem j3 : Tryz.prog.recurses 11 = Rows.pathWalksRow.recurses := by kernel_rfl
theorem j4 : Tryz.prog.varsNamed 11 = Rows.pathWalksRow.named := by kernel_rfl
theorem closed : joinedFacts Tryz.prog 11 Tryz.f11 Rows.pathWalksSpec Rows.pathWalksRow = true := by
  unfold joinedFacts
  rw [j1, j2, j3, j4]
  kernel_rfl
theorem over : Rows.PathWalksSaid :=
  OpenClaim.holds_of_wide 11 Tryz.f11 rfl rfl rfl rfl rfl rfl rfl ⟨rfl, rfl, rfl, rfl, rfl⟩ rfl rfl rfl rfl rfl (by kernel_rfl) Tryz.func11 closed
    (of_decide_eq_true (by kernel_rfl)) (by unfold Func.isWrapper; first | (rw [if_pos (by decide +kernel)]; kernel_rfl) | (rw [if_neg (by decide +kernel)]; exact ⟨rfl, rfl⟩))
    (fun os started H enc _ => lifted os started H enc)
end Go.Proofs.YtefhfoioeoijlaaGreatDoor.pathWalks

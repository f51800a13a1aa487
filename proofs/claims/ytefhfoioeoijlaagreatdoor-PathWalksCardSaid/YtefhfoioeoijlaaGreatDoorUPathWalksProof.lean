/- where any path leads in any tree, the path of any node, and all paths are as the document has them -/
import Derived.SevenTiedAt
import Derived.Stop.Joined
import Derived.Test.YtefhfoioeoijlaaGreatDoorCards
import Derived.Test.YtefhfoioeoijlaaGreatDoorRows
import Derived.Test.YtefhfoioeoijlaaGreatDoorTie
import Derived.Test.YtefhfoioeoijlaaGreatDoorUaa
import Derived.Test.YtefhfoioeoijlaaGreatDoorUab
import Derived.Test.YtefhfoioeoijlaaGreatDoorUac
import Derived.Test.YtefhfoioeoijlaaGreatDoorUad
import Derived.Test.YtefhfoioeoijlaaGreatDoorUae
import Derived.Test.YtefhfoioeoijlaaGreatDoorUaf
import Derived.Test.YtefhfoioeoijlaaGreatDoorUag
import Derived.Test.YtefhfoioeoijlaaGreatDoorUah
import Derived.Test.YtefhfoioeoijlaaGreatDoorUai
import Derived.Test.YtefhfoioeoijlaaGreatDoorUaj
import Derived.Test.YtefhfoioeoijlaaGreatDoorUak
import Derived.Test.YtefhfoioeoijlaaGreatDoorUal
import Derived.Test.YtefhfoioeoijlaaGreatDoorUam
import Derived.Test.YtefhfoioeoijlaaGreatDoorUan
import Derived.Test.YtefhfoioeoijlaaGreatDoorUao
import Derived.Test.YtefhfoioeoijlaaGreatDoorUap
import Derived.Test.YtefhfoioeoijlaaGreatDoorUaq
import Derived.Test.YtefhfoioeoijlaaGreatDoorUar
import Derived.Test.YtefhfoioeoijlaaGreatDoorUas
import Derived.Test.YtefhfoioeoijlaaGreatDoorUat
import Derived.Test.YtefhfoioeoijlaaGreatDoorUau
import Derived.Test.YtefhfoioeoijlaaGreatDoorUav
import Derived.Test.YtefhfoioeoijlaaGreatDoorUaw
import Derived.Test.YtefhfoioeoijlaaGreatDoorUax
import Derived.Test.YtefhfoioeoijlaaGreatDoorUay
import Derived.Test.YtefhfoioeoijlaaGreatDoorUaz
import Derived.Test.YtefhfoioeoijlaaGreatDoorUba
import Derived.Test.YtefhfoioeoijlaaGreatDoorUbb
import Derived.Test.YtefhfoioeoijlaaGreatDoorUbc
import Derived.Test.YtefhfoioeoijlaaGreatDoorUPathWalksLift
import Derived.Test.YtefhfoioeoijlaaGreatDoorUPathWalksOver
namespace Go.Proofs.YtefhfoioeoijlaaGreatDoor.pathWalks
open Go Go.RowKit Go.Joins Go.ChangeShapes Go.WideShapes Go.ChangeAt
open Go.ChangeMaps (open_string shut_string)
/-- ████ THE STATEMENT: THE TIED CARD ████ -/
theorem proved : Rows.PathWalksCardSaid :=
  Claim7.holds_tied_plain_at .later [] [.data, .data, .data, .data, .pinned] true (true, "04f8ca48b93739549b576f7517537d228ab879fd35304f54ad5197f904ade082") false
    over (fun _ h => by cases h) (by kernel_rfl) (fun _ h => by cases h) pathWalks_row_tie rfl ⟨rfl, rfl⟩ (by kernel_rfl) rfl
    (fun f fn hf hfn => by
      obtain rfl : f = 11 := Option.some.inj ((show Tryz.prog.funcNamed "cachette/cachettelaw19.PathWalks" = some 11 by kernel_rfl).symm.trans hf) |>.symm
      obtain rfl : fn = Tryz.f11 := (Option.some.inj (Tryz.func11.symm.trans hfn)).symm
      exact ⟨by kernel_rfl, fun j t ht => by
        rw [Tryz.params11] at ht
        have hm : t ∈ [22, 9, 24] := by simpa using Array.mem_of_getElem? ht
        have hall : ([22, 9, 24].all fun u => !Tryz.prog.wantsStandIn u) = true := by kernel_rfl
        exact (show Tryz.prog.wantsStandIn t = false by simpa using List.all_eq_true.1 hall t hm)⟩)
    (by kernel_rfl)
#print axioms proved
end Go.Proofs.YtefhfoioeoijlaaGreatDoor.pathWalks

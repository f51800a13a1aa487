/- 'cachettelaw19.PathAll' returns true for every list of operations, and its argument reads as before. Condition: what Go's own tables (bits, strconv, utf8) hold is as the card lists it. -/
import Derived.SevenTiedAt
import Derived.Stop.Joined
import Derived.Test.YtefhfoioeoijlaaGreatDoorCards
import Derived.Test.YtefhfoioeoijlaaGreatDoorRows
import Derived.Test.YtefhfoioeoijlaaGreatDoorTie
import Derived.Test.YtefhfoioeoijlaaGreatDoorQaa
import Derived.Test.YtefhfoioeoijlaaGreatDoorQab
import Derived.Test.YtefhfoioeoijlaaGreatDoorQac
import Derived.Test.YtefhfoioeoijlaaGreatDoorQad
import Derived.Test.YtefhfoioeoijlaaGreatDoorQae
import Derived.Test.YtefhfoioeoijlaaGreatDoorQaf
import Derived.Test.YtefhfoioeoijlaaGreatDoorQag
import Derived.Test.YtefhfoioeoijlaaGreatDoorQah
import Derived.Test.YtefhfoioeoijlaaGreatDoorQai
import Derived.Test.YtefhfoioeoijlaaGreatDoorQaj
import Derived.Test.YtefhfoioeoijlaaGreatDoorQak
import Derived.Test.YtefhfoioeoijlaaGreatDoorQal
import Derived.Test.YtefhfoioeoijlaaGreatDoorQam
import Derived.Test.YtefhfoioeoijlaaGreatDoorQan
import Derived.Test.YtefhfoioeoijlaaGreatDoorQao
import Derived.Test.YtefhfoioeoijlaaGreatDoorQap
import Derived.Test.YtefhfoioeoijlaaGreatDoorQaq
import Derived.Test.YtefhfoioeoijlaaGreatDoorQar
import Derived.Test.YtefhfoioeoijlaaGreatDoorQas
import Derived.Test.YtefhfoioeoijlaaGreatDoorQat
import Derived.Test.YtefhfoioeoijlaaGreatDoorQau
import Derived.Test.YtefhfoioeoijlaaGreatDoorQav
import Derived.Test.YtefhfoioeoijlaaGreatDoorQPathAlla
import Derived.Test.YtefhfoioeoijlaaGreatDoorQPathAllb
import Derived.Test.YtefhfoioeoijlaaGreatDoorQPathAllc
import Derived.Test.YtefhfoioeoijlaaGreatDoorQPathAllLift
import Derived.Test.YtefhfoioeoijlaaGreatDoorQPathAllOver
namespace Go.Proofs.YtefhfoioeoijlaaGreatDoor.pathAll
open Go Go.RowKit Go.Joins Go.ChangeShapes Go.WideShapes Go.ChangeAt
open Go.ChangeMaps (open_string shut_string)
/-- ████ THE STATEMENT: THE TIED CARD ████ -/
theorem proved : Rows.PathAllCardSaid :=
  Claim7.holds_tied_plain_at .later [] [.data, .data, .data, .data, .pinned] true (true, "04f8ca48b93739549b576f7517537d228ab879fd35304f54ad5197f904ade082") false
    over (fun _ h => by cases h) (by kernel_rfl) (fun _ h => by cases h) pathAll_row_tie rfl ⟨rfl, rfl⟩ (by kernel_rfl) rfl
    (fun f fn hf hfn => by
      obtain rfl : f = 12 := Option.some.inj ((show Tryz.prog.funcNamed "cachette/cachettelaw19.PathAll" = some 12 by kernel_rfl).symm.trans hf) |>.symm
      obtain rfl : fn = Tryz.f12 := (Option.some.inj (Tryz.func12.symm.trans hfn)).symm
      exact ⟨by kernel_rfl, fun j t ht => by
        rw [Tryz.params12] at ht
        have hm : t ∈ [22] := by simpa using Array.mem_of_getElem? ht
        have hall : ([22].all fun u => !Tryz.prog.wantsStandIn u) = true := by kernel_rfl
        exact (show Tryz.prog.wantsStandIn t = false by simpa using List.all_eq_true.1 hall t hm)⟩)
    (by kernel_rfl)
#print axioms proved
end Go.Proofs.YtefhfoioeoijlaaGreatDoor.pathAll

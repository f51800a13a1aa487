/- Pieces for rows of operations. -/
import Derived.Test.YtefhfoioeoijlaaTreeA
import Derived.Test.YtefhfoioeoijlaaIRow
set_option linter.unusedVariables false
set_option linter.unusedSimpArgs false
namespace Go.Proofs.Ytefhfoioeoijlaa
open Go Go.RowKit Go.Sort

theorem clone_sl {B : Nat} {w : World} {d : Value} {xs : List Int} (h : Dat B w d xs) :
    Calls Try.prog 66 #[d] w fun e w' => ∃ A n c, e = .returned (.slice A n c) ∧ Dat B w' (.slice A n c) xs ∧ Up w w' := by
  refine (clone_any h).mono ?_
  rintro e w' ⟨d', rfl, hD, u⟩
  obtain ⟨A, n, c, rfl⟩ := hD.form
  exact ⟨A, n, c, rfl, hD, u⟩
end Go.Proofs.Ytefhfoioeoijlaa

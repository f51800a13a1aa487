/- GF: printed by gen.py -/
import Derived.Test.YtefhfoioeoijlaaGE
import Derived.Test.YtefhfoioeoijlaaArgs
set_option linter.unusedVariables false
set_option linter.unusedSimpArgs false
namespace Go.Proofs.Ytefhfoioeoijlaa
open Go Go.RowKit Go.Sort
set_option maxHeartbeats 2000000 in
theorem all_at {B : Nat} {w : World} {tb r : Nat} {L : List Item} (h : TreeIs B w tb r L) (hB : B ≤ w.heap.size) : Calls Try.prog 21 #[trP tb] w fun e w' => ∃ v, e = .returned v ∧ IRow 35 B w.heap.size w' v L ∧ Up w w' := by
  go_enter Try.func21, Try.ntmps21
  refine wp_seq (rg_lit ?_)
  refine was (v := .slice none 0 0) ?_
  refine wnil (then_n (wp_seq (rg_lit ?_)))
  refine wmv (v := .pointer (some ⟨tb, 0, none⟩)) ?_
  refine wl (sc rfl (r_callv (caps := []) (all := [.pointer (some ⟨tb, 0, none⟩), .func (.func 62) #[] #[]]) En.f61 (by kernel_rfl) (by kernel_rfl)) (row_sl (some_all_at h (Nat.le_trans hB (Mod.refl [] w).size))) ?_)
  rintro e w1 ⟨A2, c3, rfl, h4, u5⟩
  refine ⟨.slice A2 L.length c3, rfl, ?_⟩
  have M6 := Mod.trans (Mod.refl [] w) (Mod.of_up u5)
  refine was (v := .slice A2 L.length c3) ?_
  refine wnil (then_n (wp_ret ?_))
  refine bodyPost_ret (v := .slice A2 L.length c3) (res1 rfl (rv_t (by kernel_rfl))) (by kernel_rfl) ?_
  exact ⟨_, rfl, IRow.base h4 (by first | exact Nat.le_refl _ | exact M6.size), (Mod.up M6)⟩
end Go.Proofs.Ytefhfoioeoijlaa

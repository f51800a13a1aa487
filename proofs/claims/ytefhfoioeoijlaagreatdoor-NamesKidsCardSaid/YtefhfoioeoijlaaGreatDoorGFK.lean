/- GFK: printed by gen.py -/
import Derived.Test.YtefhfoioeoijlaaGreatDoorGF
import Derived.Test.YtefhfoioeoijlaaGreatDoorGEK
set_option linter.unusedVariables false
set_option linter.unusedSimpArgs false
namespace Go.Proofs.YtefhfoioeoijlaaGreatDoor
open Go Go.RowKit Go.Sort
set_option maxHeartbeats 2000000 in
theorem kids_at {B : Nat} {w : World} {tb r : Nat} {L : List Item} (h : TreeIs B w tb r L) (hB : B ≤ w.heap.size) (m1 m2 : Int) : Calls Tryz.prog 38 #[trP tb, .agg #[.int .i64 m1, .int .i64 m2]] w fun e w' => ∃ v, e = .returned v ∧ IRow 42 B w.heap.size w' v (kidsI ⟨m1, m2⟩ L) ∧ Up w w' := by
  go_enter Tryz.func38, Tryz.ntmps38
  refine wp_seq (rg_lit ?_)
  refine wl (sn rfl (cs := #[.int .i64 m1, .int .i64 m2]) (T := 24) (V := fun b => .pointer (some ⟨b, 0, none⟩)) (r_box (v := .agg #[.int .i64 m1, .int .i64 m2]) (by kernel_rfl) rfl) ?_)
  intro b1 w2 e3 h4 u5
  have l6 : tb < b1 := by rw [e3]; exact lt_ob h.1
  have g7 : w.heap.size ≤ b1 := by rw [e3]; exact (Mod.refl [] w).size
  have M8 := Mod.trans (Mod.refl [] w) (Mod.of_up u5)
  refine was (v := .slice none 0 0) ?_
  refine wnil (then_n (wp_seq (rg_lit ?_)))
  refine wmv (v := .pointer (some ⟨tb, 0, none⟩)) ?_
  refine wl (sv rfl (v := .func (.func 98) #[] #[.pointer (some ⟨b1, 0, none⟩)]) (r_makeFunc (us := []) (vs := [.pointer (some ⟨b1, 0, none⟩)]) rfl (by kernel_rfl)) ?_)
  have h14 := (TreeIs.up h (Mod.up M8))
  refine wl (sc rfl (r_callv (caps := []) (all := [.pointer (some ⟨tb, 0, none⟩), .func (.func 98) #[] #[.pointer (some ⟨b1, 0, none⟩)]]) En.f97 (by kernel_rfl) (by kernel_rfl)) (row_sl (some_kids_at h14 (Nat.le_trans hB M8.size) b1 m1 m2 h4)) ?_)
  rintro e w9 ⟨A10, c11, rfl, h12, u13⟩
  refine ⟨.slice A10 (((kidsI ⟨m1, m2⟩ L)).length) c11, rfl, ?_⟩
  have M15 := Mod.trans M8 (Mod.of_up u13)
  refine was (v := .slice A10 (((kidsI ⟨m1, m2⟩ L)).length) c11) ?_
  refine wnil (then_n (wp_ret ?_))
  refine bodyPost_ret (v := .slice A10 (((kidsI ⟨m1, m2⟩ L)).length) c11) (res1 rfl (rv_t (by kernel_rfl))) (by kernel_rfl) ?_
  exact ⟨_, rfl, IRow.base h12 (by first | exact Nat.le_refl _ | exact M15.size | exact up_sz u5), (Mod.up M15)⟩
end Go.Proofs.YtefhfoioeoijlaaGreatDoor

/- stamp.Compare and what it calls: it answers cmpS, and makes new blocks alone. -/
import Derived.Test.YtefhfoioeoijlaaBase
import Derived.Test.YtefhfoioeoijlaaReg
import Derived.Test.YtefhfoioeoijlaaProg
import Derived.WalkSpells
import Derived.WalkLawsBesides
import Derived.Deep.LoopGhost
import Derived.Deep.QuietTactic
import Derived.Deep.RegionWith
import Derived.BigQuiet
import Derived.StillTailTactics
import Derived.Handy
set_option linter.unusedVariables false
set_option linter.unusedSimpArgs false
namespace Go.Proofs.Ytefhfoioeoijlaa
open Go.RowKit Go.Sort

theorem isNaN64_any (x : Int) (w : World) : Calls Try.prog 122 #[.int .i64 x] w fun e w' => e = .returned (.bool false) ∧ w' = w := by
  go_enter Try.func122, Try.ntmps122
  go_wp2
  go_ret
  exact ⟨by simp, rfl⟩
theorem isNaN_any (x : Int) (w : World) : Calls Try.prog 123 #[.int .i64 x] w fun e w' => e = .returned (.bool false) ∧ w' = w := by
  go_enter Try.func123, Try.ntmps123
  go_wp2
  go_ret
  exact ⟨by simp, rfl⟩
theorem compare64_any (x y : Int) (w : World) : Calls Try.prog 112 #[.int .i64 x, .int .i64 y] w fun e w' => e = .returned (.int .i64 (cmpI x y)) ∧ w' = w := by
  by_cases h1 : x < y
  · have H := Lib.hid (show cmpI x y = -1 by unfold cmpI; rw [if_pos h1])
    go_enter Try.func112, Try.ntmps112
    go_wp2_with (go_at_call 122; refine (isNaN64_any _ _).mono ?_; rintro e w' ⟨rfl, rfl⟩)
    go_ret
    exact ⟨by rw [H.out]; rfl, rfl⟩
  · by_cases h2 : y < x
    · have H := Lib.hid (show cmpI x y = 1 by unfold cmpI; rw [if_neg h1, if_pos h2])
      go_enter Try.func112, Try.ntmps112
      go_wp2_with (go_at_call 122; refine (isNaN64_any _ _).mono ?_; rintro e w' ⟨rfl, rfl⟩)
      go_ret
      exact ⟨by rw [H.out]; rfl, rfl⟩
    · have H := Lib.hid (show cmpI x y = 0 by unfold cmpI; rw [if_neg h1, if_neg h2])
      go_enter Try.func112, Try.ntmps112
      go_wp2_with (go_at_call 122; refine (isNaN64_any _ _).mono ?_; rintro e w' ⟨rfl, rfl⟩)
      go_ret
      exact ⟨by rw [H.out]; rfl, rfl⟩
theorem compareI_any (x y : Int) (w : World) : Calls Try.prog 113 #[.int .i64 x, .int .i64 y] w fun e w' => e = .returned (.int .i64 (cmpI x y)) ∧ w' = w := by
  by_cases h1 : x < y
  · have H := Lib.hid (show cmpI x y = -1 by unfold cmpI; rw [if_pos h1])
    go_enter Try.func113, Try.ntmps113
    go_wp2_with (go_at_call 123; refine (isNaN_any _ _).mono ?_; rintro e w' ⟨rfl, rfl⟩)
    go_ret
    exact ⟨by rw [H.out]; rfl, rfl⟩
  · by_cases h2 : y < x
    · have H := Lib.hid (show cmpI x y = 1 by unfold cmpI; rw [if_neg h1, if_pos h2])
      go_enter Try.func113, Try.ntmps113
      go_wp2_with (go_at_call 123; refine (isNaN_any _ _).mono ?_; rintro e w' ⟨rfl, rfl⟩)
      go_ret
      exact ⟨by rw [H.out]; rfl, rfl⟩
    · have H := Lib.hid (show cmpI x y = 0 by unfold cmpI; rw [if_neg h1, if_neg h2])
      go_enter Try.func113, Try.ntmps113
      go_wp2_with (go_at_call 123; refine (isNaN_any _ _).mono ?_; rintro e w' ⟨rfl, rfl⟩)
      go_ret
      exact ⟨by rw [H.out]; rfl, rfl⟩

/-- cmp.Or of two: the first that is not nought. -/
theorem or_any (a b : Int) (g : Nat) (w : World) (h0 : w.cell? ⟨g, 0, none⟩ = some (.int .i64 a)) (h1 : w.cell? ⟨g, 1, none⟩ = some (.int .i64 b)) :
    Calls Try.prog 111 #[.slice (some ⟨g, 0, none⟩) 2 2] w fun e w' => e = .returned (.int .i64 (orI a b)) ∧ w' = w := by
  by_cases ha : a = 0
  · by_cases hb : b = 0
    · subst ha; subst hb
      go_enter Try.func111, Try.ntmps111
      go_wp2
      go_rounds 3
      go_ret
      exact ⟨ret_int (by simp [orI]), rfl⟩
    · subst ha
      have hb' : (b == 0) = false := beq_eq_false_iff_ne.2 hb
      go_enter Try.func111, Try.ntmps111
      go_wp2
      go_rounds 3
      go_ret
      exact ⟨ret_int (by simp [orI]), rfl⟩
  · have ha' : (a == 0) = false := beq_eq_false_iff_ne.2 ha
    go_enter Try.func111, Try.ntmps111
    go_wp2
    go_rounds 3
    go_ret
    exact ⟨ret_int (by simp [orI, ha]), rfl⟩

set_option maxHeartbeats 1000000 in
theorem scompare_ups (x y : Stamp) (w : World) :
    Calls Try.prog 89 #[stV x, stV y] w fun e w' => e = .returned (.int .i64 (cmpS x y)) ∧ Ups w w' := by
  unfold stV
  go_enter Try.func89, Try.ntmps89
  go_wp2_with fail
  have U0 : Ups w ((w.alloc (.cells #[.int .i64 x.t, .int .i64 x.w] 24)).alloc (.cells #[.int .i64 y.t, .int .i64 y.w] 24)) := (Ups.alloc _ _).trans (Ups.alloc _ _)
  have c0 : ((w.alloc (.cells #[.int .i64 x.t, .int .i64 x.w] 24)).alloc (.cells #[.int .i64 y.t, .int .i64 y.w] 24)).cell? ⟨w.heap.size, 0, none⟩ = some (.int .i64 x.t) := by go_simp
  have c1 : ((w.alloc (.cells #[.int .i64 x.t, .int .i64 x.w] 24)).alloc (.cells #[.int .i64 y.t, .int .i64 y.w] 24)).cell? ⟨w.heap.size, 1, none⟩ = some (.int .i64 x.w) := by go_simp
  have c2 : ((w.alloc (.cells #[.int .i64 x.t, .int .i64 x.w] 24)).alloc (.cells #[.int .i64 y.t, .int .i64 y.w] 24)).cell? ⟨w.heap.size + 1, 0, none⟩ = some (.int .i64 y.t) := by go_simp
  have c3 : ((w.alloc (.cells #[.int .i64 x.t, .int .i64 x.w] 24)).alloc (.cells #[.int .i64 y.t, .int .i64 y.w] 24)).cell? ⟨w.heap.size + 1, 1, none⟩ = some (.int .i64 y.w) := by go_simp
  generalize ((w.alloc (.cells #[.int .i64 x.t, .int .i64 x.w] 24)).alloc (.cells #[.int .i64 y.t, .int .i64 y.w] 24)) = W at U0 c0 c1 c2 c3 ⊢
  have d0 := grown_cell c0
  have d1 := grown_cell c1
  have d2 := grown_cell c2
  have d3 := grown_cell c3
  clear c0 c1 c2 c3
  refine wp_region_grown_tail 10 (by kernel_rfl) (by kernel_rfl) ?_
  simp only [List.take_succ_cons, List.take_zero, List.drop_succ_cons, List.drop_zero]
  repeat (quiet_step ((first | exact grown_same (compare64_any _ _) | exact grown_same (compareI_any _ _))))
  refine wpQuiet_nil ?_
  rintro _ ⟨⟨nq, osq⟩, rfl⟩
  have U1 := U0.trans (ups_grow W nq osq)
  generalize grow (W.drewN nq) osq = W1 at U1 ⊢
  clear d0 d1 d2 d3 U0
  go_wp2_with fail
  refine (or_any (cmpI x.t y.t) (cmpI x.w y.w) W1.heap.size _ (by go_simp) (by go_simp)).mono ?_
  rintro e w' ⟨rfl, rfl⟩
  go_wp2_with fail
  go_ret
  exact ⟨rfl, U1.trans (Ups.alloc _ _)⟩
end Go.Proofs.Ytefhfoioeoijlaa

/- Stamps and places: which are right. The program's and the document's functions, each by one contract. -/
import Derived.Test.YtefhfoioeoijlaaCmp
set_option linter.unusedVariables false
set_option linter.unusedSimpArgs false
namespace Go.Proofs.Ytefhfoioeoijlaa
open Go.RowKit Go.Sort

def stR (s : Stamp) : Bool := decide (1 ≤ s.t ∧ s.t ≤ 1099511627776 ∧ 0 ≤ s.w ∧ s.w < 8)
def mbB (x : Int) : Bool := decide (0 ≤ x ∧ x < 8)
def lessS (a b : Stamp) : Bool := decide (a.t < b.t ∨ a.t = b.t ∧ a.w < b.w)
def zeroS : Stamp := ⟨0, 0⟩
def placeB (s : Stamp) : Bool := decide (s = zeroS) || stR s

theorem member_any (x : Int) (w : World) : Calls Try.prog 103 #[.int .i64 x] w fun e w' => e = .returned (.bool (mbB x)) ∧ w' = w := by
  go_enter Try.func103, Try.ntmps103
  go_wp2
  all_goals (go_ret; exact ⟨ret_bool (by rw [Bool.eq_iff_iff]; simp [mbB]; try omega), rfl⟩)

theorem sright_any (s : Stamp) (w : World) : Calls Try.prog 78 #[stV s] w fun e w' => e = .returned (.bool (stR s)) ∧ Ups w w' := by
  unfold stV
  go_enter Try.func78, Try.ntmps78
  go_wp2_with (go_at_call 103; refine (member_any _ _).mono ?_; rintro e w' ⟨rfl, rfl⟩)
  all_goals (go_ret; exact ⟨ret_bool (by rw [Bool.eq_iff_iff]; simp [stR, mbB]; try omega), Ups.alloc _ _⟩)

theorem r04right_any (s : Stamp) (w : World) : Calls Try.prog 84 #[stV s] w fun e w' => e = .returned (.bool (stR s)) ∧ Ups w w' := by
  unfold stV
  go_enter Try.func84, Try.ntmps84
  go_wp2
  all_goals (go_ret; exact ⟨ret_bool (by rw [Bool.eq_iff_iff]; simp [stR, mbB]; try omega), Ups.alloc _ _⟩)

theorem r04less_any (a b : Stamp) (w : World) : Calls Try.prog 77 #[stV a, stV b] w fun e w' => e = .returned (.bool (lessS a b)) ∧ Ups w w' := by
  unfold stV
  go_enter Try.func77, Try.ntmps77
  go_wp2
  all_goals (go_ret; exact ⟨ret_bool (by rw [Bool.eq_iff_iff]; simp [lessS]; try omega), (Ups.alloc _ _).trans (Ups.alloc _ _)⟩)

theorem root_any (w : World) : Calls Try.prog 64 #[] w fun e w' => e = .returned (stV zeroS) ∧ Ups w w' := by
  unfold stV zeroS
  go_enter Try.func64, Try.ntmps64
  go_wp2
  exact bodyPost_ret (v := .agg #[.int .i64 0, .int .i64 0]) (by simp [results, Try.results64, go_sem]) rfl ⟨rfl, Ups.alloc _ _⟩

theorem sright_at (t u : Int) (w : World) : Calls Try.prog 78 #[.agg #[.int .i64 t, .int .i64 u]] w fun e w' => e = .returned (.bool (stR ⟨t, u⟩)) ∧ Ups w w' := sright_any ⟨t, u⟩ w
theorem r04right_at (t u : Int) (w : World) : Calls Try.prog 84 #[.agg #[.int .i64 t, .int .i64 u]] w fun e w' => e = .returned (.bool (stR ⟨t, u⟩)) ∧ Ups w w' := r04right_any ⟨t, u⟩ w
theorem root_at (w : World) : Calls Try.prog 64 #[] w fun e w' => e = .returned (.agg #[.int .i64 0, .int .i64 0]) ∧ Ups w w' := root_any w

theorem placeB_zero : placeB ⟨0, 0⟩ = true := by decide
theorem placeB_t {t u : Int} (h : ¬ t = 0) : placeB ⟨t, u⟩ = stR ⟨t, u⟩ := by simp [placeB, zeroS, h]
theorem placeB_w {t u : Int} (h : ¬ u = 0) : placeB ⟨t, u⟩ = stR ⟨t, u⟩ := by simp [placeB, zeroS, h]

theorem r15place_at (t u : Int) (w : World) : Calls Try.prog 85 #[.agg #[.int .i64 t, .int .i64 u]] w fun e w' => e = .returned (.bool (placeB ⟨t, u⟩)) ∧ Ups w w' := by
  by_cases ht : t = 0
  · by_cases hu : u = 0
    · subst ht; subst hu
      have HP := Lib.hid placeB_zero
      go_enter Try.func85, Try.ntmps85
      go_wp2_with fail
      go_ret
      exact ⟨ret_bool HP.out.symm, Ups.alloc _ _⟩
    · have HP := Lib.hid (placeB_w (t := t) hu)
      subst ht
      have hu' : (u == 0) = false := beq_eq_false_iff_ne.2 hu
      go_enter Try.func85, Try.ntmps85
      go_wp2_with fail
      refine (r04right_at _ _ _).mono ?_
      rintro e w' ⟨rfl, hu⟩
      go_wp2_with fail
      go_ret
      exact ⟨ret_bool HP.out.symm, (Ups.alloc _ _).trans hu⟩
  · have HP := Lib.hid (placeB_t (u := u) ht)
    have ht' : (t == 0) = false := beq_eq_false_iff_ne.2 ht
    go_enter Try.func85, Try.ntmps85
    go_wp2_with fail
    refine (r04right_at _ _ _).mono ?_
    rintro e w' ⟨rfl, hu⟩
    go_wp2_with fail
    go_ret
    exact ⟨ret_bool HP.out.symm, (Ups.alloc _ _).trans hu⟩

theorem place_at (t u : Int) (w : World) : Calls Try.prog 81 #[.agg #[.int .i64 t, .int .i64 u]] w fun e w' => e = .returned (.bool (placeB ⟨t, u⟩)) ∧ Ups w w' := by
  have hr := fun (W : World) n os => grown_ups (root_at (grow (W.drewN n) os))
  have hs := fun (W : World) n os => grown_ups (sright_at t u (grow (W.drewN n) os))
  have HR := Lib.hid hr
  have HS := Lib.hid hs
  clear hr hs
  have U0 := Ups.alloc w (.cells #[.int .i64 t, .int .i64 u] 24)
  have c0 : (w.alloc (.cells #[.int .i64 t, .int .i64 u] 24)).cell? ⟨w.heap.size, 0, none⟩ = some (.int .i64 t) := by go_simp
  have c1 : (w.alloc (.cells #[.int .i64 t, .int .i64 u] 24)).cell? ⟨w.heap.size, 1, none⟩ = some (.int .i64 u) := by go_simp
  by_cases ht : t = 0
  · by_cases hu : u = 0
    · subst ht; subst hu
      have HP := Lib.hid placeB_zero
      go_enter Try.func81, Try.ntmps81
      go_wp2_with fail
      generalize (w.alloc (.cells #[.int .i64 0, .int .i64 0] 24)) = W at U0 c0 c1 ⊢
      have d0 := grown_cell c0
      have d1 := grown_cell c1
      refine wp_region_grown_all (by kernel_rfl) (by kernel_rfl) ?_
      repeat (quiet_step ((exact HR.out _ _ _)))
      refine wpQuiet_nil ?_
      rintro _ ⟨⟨nq, osq⟩, rfl⟩
      go_wp2_with fail
      go_ret
      exact ⟨ret_bool HP.out.symm, U0.trans (ups_grow _ _ _)⟩
    · have HP := Lib.hid (placeB_w (t := t) hu)
      subst ht
      have hu' : (u == 0) = false := beq_eq_false_iff_ne.2 hu
      go_enter Try.func81, Try.ntmps81
      go_wp2_with fail
      generalize (w.alloc (.cells #[.int .i64 0, .int .i64 u] 24)) = W at U0 c0 c1 ⊢
      have d0 := grown_cell c0
      have d1 := grown_cell c1
      refine wp_region_grown_all (by kernel_rfl) (by kernel_rfl) ?_
      repeat (quiet_step ((first | exact HR.out _ _ _ | exact HS.out _ _ _)))
      refine wpQuiet_nil ?_
      rintro _ ⟨⟨nq, osq⟩, rfl⟩
      go_wp2_with fail
      go_ret
      exact ⟨ret_bool HP.out.symm, U0.trans (ups_grow _ _ _)⟩
  · have HP := Lib.hid (placeB_t (u := u) ht)
    have ht' : (t == 0) = false := beq_eq_false_iff_ne.2 ht
    go_enter Try.func81, Try.ntmps81
    go_wp2_with fail
    generalize (w.alloc (.cells #[.int .i64 t, .int .i64 u] 24)) = W at U0 c0 c1 ⊢
    have d0 := grown_cell c0
    have d1 := grown_cell c1
    refine wp_region_grown_all (by kernel_rfl) (by kernel_rfl) ?_
    repeat (quiet_step ((first | exact HR.out _ _ _ | exact HS.out _ _ _)))
    refine wpQuiet_nil ?_
    rintro _ ⟨⟨nq, osq⟩, rfl⟩
    go_wp2_with fail
    go_ret
    exact ⟨ret_bool HP.out.symm, U0.trans (ups_grow _ _ _)⟩
end Go.Proofs.Ytefhfoioeoijlaa

/- The tree: holds, Within, Hangs. -/
import Derived.Test.YtefhfoioeoijlaaTreeB
set_option linter.unusedVariables false
set_option linter.unusedSimpArgs false
namespace Go.Proofs.Ytefhfoioeoijlaa
open Go.RowKit Go.Sort

theorem dirI_zero (L : List Item) : dirI L ⟨0, 0⟩ = true := by simp [dirI, nilS]
theorem dirI_t (L : List Item) {t u : Int} (h : ¬ t = 0) : dirI L ⟨t, u⟩ = (gotI L ⟨t, u⟩).dir := by simp [dirI, nilS, h]
theorem dirI_w (L : List Item) {t u : Int} (h : ¬ u = 0) : dirI L ⟨t, u⟩ = (gotI L ⟨t, u⟩).dir := by simp [dirI, nilS, h]

theorem grow_block {w : World} {b : Nat} (h : b < w.heap.size) (n : Nat) (os : Array Obj) : (grow (w.drewN n) os).heap[b]? = w.heap[b]? := (ups_grow w n os).below.block b h

theorem field_dir (v0 v1 v2 v3 v4 : Value) (dir : Bool) (v6 v7 v8 v9 : Value) (w : World) : (Instr.field 35 (.agg #[v0, v1, v2, v3, v4, .bool dir, v6, v7, v8, v9]) 3).run Try.prog w = .ok (.bool dir) w := by kernel_rfl

set_option maxRecDepth 20000 in
theorem holds_at {B : Nat} {w : World} {tb r : Nat} {L : List Item} (h : TreeIs B w tb r L) (t u : Int) : Calls Try.prog 83 #[trP tb, .agg #[.int .i64 t, .int .i64 u]] w fun e w' => e = .returned (.bool (dirI L ⟨t, u⟩)) ∧ Ups w w' := by
  have hlt := h.lt
  have hc := h.cell
  have hrl := h.2.2.2.1.lt
  obtain ⟨d, hd, hlk⟩ := h.2.2.2.1.look ⟨t, u⟩
  obtain ⟨dA, dn, dc, rfl⟩ := hd.form
  clear hd h
  have HR := Lib.hid (fun (W : World) n os => grown_ups (root_at (grow (W.drewN n) os)))
  have U0 := Ups.alloc w (.cells #[.int .i64 t, .int .i64 u] 24)
  have c0 : (w.alloc (.cells #[.int .i64 t, .int .i64 u] 24)).cell? ⟨w.heap.size, 0, none⟩ = some (.int .i64 t) := by go_simp
  have c1 : (w.alloc (.cells #[.int .i64 t, .int .i64 u] 24)).cell? ⟨w.heap.size, 1, none⟩ = some (.int .i64 u) := by go_simp
  have ct : (w.alloc (.cells #[.int .i64 t, .int .i64 u] 24)).cell? ⟨tb, 0, none⟩ = some (.map (some r)) := by rw [(up_alloc w _).cell (p := ⟨tb, 0, none⟩) hlt]; exact hc
  have hl := fun n os => (hlk (grow ((w.alloc (.cells #[.int .i64 t, .int .i64 u] 24)).drewN n) os) (by rw [grow_block (by simp; omega)]; exact (up_alloc w _).block r hrl)).2
  unfold itV stV at hl
  unfold trP
  have key : ∀ b, dirI L ⟨t, u⟩ = b → ((t = 0 ∧ u = 0) ∧ b = true ∨ (¬ (t = 0 ∧ u = 0)) ∧ b = (gotI L ⟨t, u⟩).dir) := by
    rintro b rfl
    by_cases ht : t = 0
    · by_cases hu : u = 0
      · subst ht hu; exact .inl ⟨⟨rfl, rfl⟩, dirI_zero L⟩
      · exact .inr ⟨by simp [hu], dirI_w L hu⟩
    · exact .inr ⟨by simp [ht], dirI_t L ht⟩
  have HK := Lib.hid (key _ rfl)
  have hfd := field_dir
  clear key hlk
  generalize dirI L ⟨t, u⟩ = b at HK ⊢
  generalize gotI L ⟨t, u⟩ = x at *
  obtain ⟨⟨n1, n2⟩, ⟨p1, p2⟩, name, dir, gone, data, ⟨b1, b2⟩⟩ := x
  simp only at hl HK
  by_cases ht : t = 0
  · by_cases hu : u = 0
    · subst ht; subst hu
      go_enter Try.func83, Try.ntmps83
      go_wp2_with fail
      generalize (w.alloc (.cells #[.int .i64 0, .int .i64 0] 24)) = W at U0 c0 c1 ct hl ⊢
      have d0 := grown_cell c0
      have d1 := grown_cell c1
      have d2 := grown_cell ct
      refine wp_region_grown_all (by kernel_rfl) (by kernel_rfl) ?_
      repeat (quiet_step ((exact HR.out _ _ _)))
      refine wpQuiet_nil ?_
      rintro _ ⟨⟨nq, osq⟩, rfl⟩
      go_wp2_with fail
      go_ret
      refine ⟨ret_bool ?_, U0.trans (ups_grow _ _ _)⟩
      rcases HK.out with ⟨_, h⟩ | ⟨h, _⟩
      · exact h.symm
      · exact absurd (by decide) h
    · subst ht
      have hu' : (u == 0) = false := beq_eq_false_iff_ne.2 hu
      go_enter Try.func83, Try.ntmps83
      go_wp2_with fail
      generalize (w.alloc (.cells #[.int .i64 0, .int .i64 u] 24)) = W at U0 c0 c1 ct hl ⊢
      have d0 := grown_cell c0
      have d1 := grown_cell c1
      have d2 := grown_cell ct
      refine wp_region_grown_all (by kernel_rfl) (by kernel_rfl) ?_
      repeat (quiet_step ((exact HR.out _ _ _)))
      refine wpQuiet_nil ?_
      rintro _ ⟨⟨nq, osq⟩, rfl⟩
      go_wp2_with fail
      go_ret
      refine ⟨ret_bool ?_, U0.trans (ups_grow _ _ _)⟩
      rcases HK.out with ⟨h, _⟩ | ⟨_, h⟩
      · exact absurd h.2 hu
      · exact h.symm
  · have ht' : (t == 0) = false := beq_eq_false_iff_ne.2 ht
    go_enter Try.func83, Try.ntmps83
    go_wp2_with fail
    generalize (w.alloc (.cells #[.int .i64 t, .int .i64 u] 24)) = W at U0 c0 c1 ct hl ⊢
    have d0 := grown_cell c0
    have d1 := grown_cell c1
    have d2 := grown_cell ct
    refine wp_region_grown_all (by kernel_rfl) (by kernel_rfl) ?_
    repeat (quiet_step ((exact HR.out _ _ _)))
    refine wpQuiet_nil ?_
    rintro _ ⟨⟨nq, osq⟩, rfl⟩
    go_wp2_with fail
    go_ret
    refine ⟨ret_bool ?_, U0.trans (ups_grow _ _ _)⟩
    rcases HK.out with ⟨h, _⟩ | ⟨_, h⟩
    · exact absurd h.1 ht
    · exact h.symm
end Go.Proofs.Ytefhfoioeoijlaa

/- The tree: move. -/
import Derived.Test.YtefhfoioeoijlaaTreeE
set_option linter.unusedVariables false
set_option linter.unusedSimpArgs false
namespace Go.Proofs.Ytefhfoioeoijlaa
open Go.RowKit Go.Sort

set_option maxRecDepth 20000 in
set_option maxHeartbeats 4000000 in
theorem move_at {B : Nat} {w : World} {tb r : Nat} {L : List Item} (h : TreeIs B w tb r L) (x : Item) (o : OpD) (xA : Option Addr) (xn xc : Nat) (oA : Option Addr) (on oc : Nat) :
    Calls Try.prog 54 #[trP tb, itV x (.slice xA xn xc), opV o (.slice oA on oc)] w fun e w' =>
      e = .returned (.tuple #[itV { x with parent := o.parent, name := o.name, gone := false } (.slice xA xn xc), .bool (decide (x.node = o.node) && (dirI L o.parent && !withinI L o.node 301 o.parent))]) ∧ Below w.heap.size w w' := by
  obtain ⟨⟨i1, i2⟩, ⟨p1, p2⟩, name, dir, gone, data, ⟨b1, b2⟩⟩ := x
  obtain ⟨kind, ⟨a1, a2⟩, ⟨n1, n2⟩, ⟨q1, q2⟩, odir, oname, odata⟩ := o
  have HH := Lib.hid (fun (W : World) (hW : Below w.heap.size w W) => holds_at (h.up hW) q1 q2)
  have HW := Lib.hid (fun (W : World) (hW : Below w.heap.size w W) => within_at (h.up hW) n1 n2 q1 q2)
  clear h
  unfold itV opV trP
  unfold trP at HH HW
  simp only
  generalize dirI L ⟨q1, q2⟩ = hd at HH ⊢
  generalize withinI L ⟨n1, n2⟩ 301 ⟨q1, q2⟩ = hw at HW ⊢
  rcases stamp_cases i1 i2 n1 n2 with ⟨h1, h2⟩ | ⟨h1, h2⟩ | h1
  · subst h1; subst h2
    rw [stamp_eq_tt]
    cases hd
    · -- nothing holds there
      go_enter Try.func54, Try.ntmps54
      go_wp2_with fail
      refine (HH.out _ (up_trans (up_trans (up_alloc _ _) (up_alloc _ _)) (up_alloc _ _))).mono ?_
      rintro e w1 ⟨rfl, hu⟩
      have hb1 := hu.below
      obtain ⟨hc1, hf1⟩ := bcell hb1
      have hz := hb1.size
      have hbw := up_trans (up_trans (up_trans (up_alloc w _) (up_alloc _ _)) (up_alloc _ _)) hb1
      have x0 : w1.cell? ⟨w.heap.size, 0, none⟩ = some (.int .i64 i1) := by go_simp
      have z0 : w1.cell? ⟨w.heap.size + 1 + 1, 0, none⟩ = some (.int .i64 0) := by go_simp
      have fz0 : w1.frozen? ⟨w.heap.size + 1 + 1, 0, none⟩ = false := by go_simp
      have x1 : w1.cell? ⟨w.heap.size, 1, none⟩ = some (.int .i64 i2) := by go_simp
      have z1 : w1.cell? ⟨w.heap.size + 1 + 1, 1, none⟩ = some (.int .i64 0) := by go_simp
      have fz1 : w1.frozen? ⟨w.heap.size + 1 + 1, 1, none⟩ = false := by go_simp
      have x2 : w1.cell? ⟨w.heap.size, 2, none⟩ = some (.int .i64 p1) := by go_simp
      have z2 : w1.cell? ⟨w.heap.size + 1 + 1, 2, none⟩ = some (.int .i64 0) := by go_simp
      have fx2 : w1.frozen? ⟨w.heap.size, 2, none⟩ = false := by go_simp
      have fz2 : w1.frozen? ⟨w.heap.size + 1 + 1, 2, none⟩ = false := by go_simp
      have x3 : w1.cell? ⟨w.heap.size, 3, none⟩ = some (.int .i64 p2) := by go_simp
      have z3 : w1.cell? ⟨w.heap.size + 1 + 1, 3, none⟩ = some (.int .i64 0) := by go_simp
      have fx3 : w1.frozen? ⟨w.heap.size, 3, none⟩ = false := by go_simp
      have fz3 : w1.frozen? ⟨w.heap.size + 1 + 1, 3, none⟩ = false := by go_simp
      have x4 : w1.cell? ⟨w.heap.size, 4, none⟩ = some (.string name) := by go_simp
      have z4 : w1.cell? ⟨w.heap.size + 1 + 1, 4, none⟩ = some (.string ⟨#[]⟩) := by go_simp
      have fx4 : w1.frozen? ⟨w.heap.size, 4, none⟩ = false := by go_simp
      have fz4 : w1.frozen? ⟨w.heap.size + 1 + 1, 4, none⟩ = false := by go_simp
      have x5 : w1.cell? ⟨w.heap.size, 5, none⟩ = some (.bool dir) := by go_simp
      have z5 : w1.cell? ⟨w.heap.size + 1 + 1, 5, none⟩ = some (.bool false) := by go_simp
      have fz5 : w1.frozen? ⟨w.heap.size + 1 + 1, 5, none⟩ = false := by go_simp
      have x6 : w1.cell? ⟨w.heap.size, 6, none⟩ = some (.bool gone) := by go_simp
      have z6 : w1.cell? ⟨w.heap.size + 1 + 1, 6, none⟩ = some (.bool false) := by go_simp
      have fx6 : w1.frozen? ⟨w.heap.size, 6, none⟩ = false := by go_simp
      have fz6 : w1.frozen? ⟨w.heap.size + 1 + 1, 6, none⟩ = false := by go_simp
      have x7 : w1.cell? ⟨w.heap.size, 7, none⟩ = some (.slice xA xn xc) := by go_simp
      have z7 : w1.cell? ⟨w.heap.size + 1 + 1, 7, none⟩ = some (.slice none 0 0) := by go_simp
      have fz7 : w1.frozen? ⟨w.heap.size + 1 + 1, 7, none⟩ = false := by go_simp
      have x8 : w1.cell? ⟨w.heap.size, 8, none⟩ = some (.int .i64 b1) := by go_simp
      have z8 : w1.cell? ⟨w.heap.size + 1 + 1, 8, none⟩ = some (.int .i64 0) := by go_simp
      have fz8 : w1.frozen? ⟨w.heap.size + 1 + 1, 8, none⟩ = false := by go_simp
      have x9 : w1.cell? ⟨w.heap.size, 9, none⟩ = some (.int .i64 b2) := by go_simp
      have z9 : w1.cell? ⟨w.heap.size + 1 + 1, 9, none⟩ = some (.int .i64 0) := by go_simp
      have fz9 : w1.frozen? ⟨w.heap.size + 1 + 1, 9, none⟩ = false := by go_simp
      have y5 : w1.cell? ⟨w.heap.size + 1, 5, none⟩ = some (.int .i64 q1) := by go_simp
      have y6 : w1.cell? ⟨w.heap.size + 1, 6, none⟩ = some (.int .i64 q2) := by go_simp
      have y8 : w1.cell? ⟨w.heap.size + 1, 8, none⟩ = some (.string oname) := by go_simp
      go_wp2_with fail
      go_region
      go_wp2_with fail
      refine bodyPost_ret (v := .tuple #[.agg #[.int .i64 i1, .int .i64 i2, .int .i64 q1, .int .i64 q2, .string oname, .bool dir, .bool false, .slice xA xn xc, .int .i64 b1, .int .i64 b2], .bool false]) (by simp [results, Try.results54, go_sem, *]) rfl ⟨by simp, ?_⟩
      ((repeat (first | (with_reducible exact hbw) | (with_reducible refine up_set ?_ ?_ _) | (with_reducible refine up_trans ?_ (up_drew _)))); all_goals ((try dsimp only); omega))
    · -- something does
      go_enter Try.func54, Try.ntmps54
      go_wp2_with fail
      refine (HH.out _ (up_trans (up_trans (up_alloc _ _) (up_alloc _ _)) (up_alloc _ _))).mono ?_
      rintro e w1 ⟨rfl, hu⟩
      have hb1 := hu.below
      obtain ⟨hc1, hf1⟩ := bcell hb1
      have hz := hb1.size
      have hbw := up_trans (up_trans (up_trans (up_alloc w _) (up_alloc _ _)) (up_alloc _ _)) hb1
      go_wp2_with fail
      refine (HW.out _ hbw).mono ?_
      rintro e w2 ⟨rfl, hb2⟩
      obtain ⟨hc2, hf2⟩ := bcell (up_trans hb1 hb2)
      have hbw2 := up_trans hbw hb2
      have hz2 := (up_trans hb1 hb2).size
      clear hc1 hf1
      have x0 : w2.cell? ⟨w.heap.size, 0, none⟩ = some (.int .i64 i1) := by go_simp
      have z0 : w2.cell? ⟨w.heap.size + 1 + 1, 0, none⟩ = some (.int .i64 0) := by go_simp
      have fz0 : w2.frozen? ⟨w.heap.size + 1 + 1, 0, none⟩ = false := by go_simp
      have x1 : w2.cell? ⟨w.heap.size, 1, none⟩ = some (.int .i64 i2) := by go_simp
      have z1 : w2.cell? ⟨w.heap.size + 1 + 1, 1, none⟩ = some (.int .i64 0) := by go_simp
      have fz1 : w2.frozen? ⟨w.heap.size + 1 + 1, 1, none⟩ = false := by go_simp
      have x2 : w2.cell? ⟨w.heap.size, 2, none⟩ = some (.int .i64 p1) := by go_simp
      have z2 : w2.cell? ⟨w.heap.size + 1 + 1, 2, none⟩ = some (.int .i64 0) := by go_simp
      have fx2 : w2.frozen? ⟨w.heap.size, 2, none⟩ = false := by go_simp
      have fz2 : w2.frozen? ⟨w.heap.size + 1 + 1, 2, none⟩ = false := by go_simp
      have x3 : w2.cell? ⟨w.heap.size, 3, none⟩ = some (.int .i64 p2) := by go_simp
      have z3 : w2.cell? ⟨w.heap.size + 1 + 1, 3, none⟩ = some (.int .i64 0) := by go_simp
      have fx3 : w2.frozen? ⟨w.heap.size, 3, none⟩ = false := by go_simp
      have fz3 : w2.frozen? ⟨w.heap.size + 1 + 1, 3, none⟩ = false := by go_simp
      have x4 : w2.cell? ⟨w.heap.size, 4, none⟩ = some (.string name) := by go_simp
      have z4 : w2.cell? ⟨w.heap.size + 1 + 1, 4, none⟩ = some (.string ⟨#[]⟩) := by go_simp
      have fx4 : w2.frozen? ⟨w.heap.size, 4, none⟩ = false := by go_simp
      have fz4 : w2.frozen? ⟨w.heap.size + 1 + 1, 4, none⟩ = false := by go_simp
      have x5 : w2.cell? ⟨w.heap.size, 5, none⟩ = some (.bool dir) := by go_simp
      have z5 : w2.cell? ⟨w.heap.size + 1 + 1, 5, none⟩ = some (.bool false) := by go_simp
      have fz5 : w2.frozen? ⟨w.heap.size + 1 + 1, 5, none⟩ = false := by go_simp
      have x6 : w2.cell? ⟨w.heap.size, 6, none⟩ = some (.bool gone) := by go_simp
      have z6 : w2.cell? ⟨w.heap.size + 1 + 1, 6, none⟩ = some (.bool false) := by go_simp
      have fx6 : w2.frozen? ⟨w.heap.size, 6, none⟩ = false := by go_simp
      have fz6 : w2.frozen? ⟨w.heap.size + 1 + 1, 6, none⟩ = false := by go_simp
      have x7 : w2.cell? ⟨w.heap.size, 7, none⟩ = some (.slice xA xn xc) := by go_simp
      have z7 : w2.cell? ⟨w.heap.size + 1 + 1, 7, none⟩ = some (.slice none 0 0) := by go_simp
      have fz7 : w2.frozen? ⟨w.heap.size + 1 + 1, 7, none⟩ = false := by go_simp
      have x8 : w2.cell? ⟨w.heap.size, 8, none⟩ = some (.int .i64 b1) := by go_simp
      have z8 : w2.cell? ⟨w.heap.size + 1 + 1, 8, none⟩ = some (.int .i64 0) := by go_simp
      have fz8 : w2.frozen? ⟨w.heap.size + 1 + 1, 8, none⟩ = false := by go_simp
      have x9 : w2.cell? ⟨w.heap.size, 9, none⟩ = some (.int .i64 b2) := by go_simp
      have z9 : w2.cell? ⟨w.heap.size + 1 + 1, 9, none⟩ = some (.int .i64 0) := by go_simp
      have fz9 : w2.frozen? ⟨w.heap.size + 1 + 1, 9, none⟩ = false := by go_simp
      have y5 : w2.cell? ⟨w.heap.size + 1, 5, none⟩ = some (.int .i64 q1) := by go_simp
      have y6 : w2.cell? ⟨w.heap.size + 1, 6, none⟩ = some (.int .i64 q2) := by go_simp
      have y8 : w2.cell? ⟨w.heap.size + 1, 8, none⟩ = some (.string oname) := by go_simp
      go_wp2_with fail
      go_region
      go_wp2_with fail
      refine bodyPost_ret (v := .tuple #[.agg #[.int .i64 i1, .int .i64 i2, .int .i64 q1, .int .i64 q2, .string oname, .bool dir, .bool false, .slice xA xn xc, .int .i64 b1, .int .i64 b2], .bool (!hw)]) (by simp [results, Try.results54, go_sem, *]) rfl ⟨by simp, ?_⟩
      ((repeat (first | (with_reducible exact hbw2) | (with_reducible refine up_set ?_ ?_ _) | (with_reducible refine up_trans ?_ (up_drew _)))); all_goals ((try dsimp only); omega))
  · obtain rfl := h1
    rw [stamp_eq_ff2 _ _ h2]
    go_enter Try.func54, Try.ntmps54
    go_wp2_with fail
    go_region
    go_wp2_with fail
    refine bodyPost_ret (v := .tuple #[.agg #[.int .i64 i1, .int .i64 i2, .int .i64 q1, .int .i64 q2, .string oname, .bool dir, .bool false, .slice xA xn xc, .int .i64 b1, .int .i64 b2], .bool false]) (by simp [results, Try.results54, go_sem, *]) rfl ⟨by simp, ?_⟩
    exact up_trans (up_trans (up_trans (up_alloc _ _) (up_alloc _ _)) (up_alloc _ _)) (up_drew _)
  · rw [stamp_eq_ff1 _ _ h1]
    go_enter Try.func54, Try.ntmps54
    go_wp2_with fail
    go_region
    go_wp2_with fail
    refine bodyPost_ret (v := .tuple #[.agg #[.int .i64 i1, .int .i64 i2, .int .i64 q1, .int .i64 q2, .string oname, .bool dir, .bool false, .slice xA xn xc, .int .i64 b1, .int .i64 b2], .bool false]) (by simp [results, Try.results54, go_sem, *]) rfl ⟨by simp, ?_⟩
    exact up_trans (up_trans (up_trans (up_alloc _ _) (up_alloc _ _)) (up_alloc _ _)) (up_drew _)
end Go.Proofs.Ytefhfoioeoijlaa

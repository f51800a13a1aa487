/- The tree: write. -/
import Derived.Test.YtefhfoioeoijlaaTreeE
set_option linter.unusedVariables false
set_option linter.unusedSimpArgs false
namespace Go.Proofs.Ytefhfoioeoijlaa
open Go.RowKit Go.Sort

set_option maxRecDepth 20000 in
set_option maxHeartbeats 4000000 in
theorem write_at {B : Nat} {w : World} (hB : B ≤ w.heap.size) (tb : Nat) (x : Item) (o : OpD) (xA : Option Addr) (xn xc : Nat) (oA : Option Addr) (on oc : Nat) (hD : Dat B w (.slice oA on oc) o.data) :
    Calls Try.prog 52 #[trP tb, itV x (.slice xA xn xc), opV o (.slice oA on oc)] w fun e w' =>
      ∃ d', e = .returned (.tuple #[itV { x with data := o.data, by_ := o.at_ } d', .bool (decide (x.node = o.node) && !x.dir)]) ∧ Dat B w' d' o.data ∧ Below w.heap.size w w' := by
  obtain ⟨⟨i1, i2⟩, ⟨p1, p2⟩, name, dir, gone, data, ⟨b1, b2⟩⟩ := x
  obtain ⟨kind, ⟨a1, a2⟩, ⟨n1, n2⟩, ⟨q1, q2⟩, odir, oname, odata⟩ := o
  have HC := Lib.hid (fun (W : World) (hb : Below w.heap.size w W) => clone_any (hD.up hb))
  clear hD
  unfold itV opV trP
  simp only at HC ⊢
  rcases stamp_cases i1 i2 n1 n2 with ⟨h1, h2⟩ | ⟨h1, h2⟩ | h1
  · subst h1; subst h2
    rw [stamp_eq_tt]
    go_enter Try.func52, Try.ntmps52
    go_wp2_with fail
    first | go_region_held3 (fun W => W.cell? ⟨w.heap.size + 1, 9, none⟩ = some (.slice oA on oc) ∧ W.cell? ⟨w.heap.size + 1, 1, none⟩ = some (.int .i64 a1) ∧ W.cell? ⟨w.heap.size + 1, 2, none⟩ = some (.int .i64 a2)) (go_simp) ((go_at_call 66; refine (HC.out _ (up_trans (up_trans (up_trans (up_alloc _ _) (up_alloc _ _)) (up_alloc _ _)) (up_drew _))).mono ?_; rintro e w1 ⟨d', rfl, hDd, hb1⟩; obtain ⟨A', n', c', rfl⟩ := hDd.form; obtain ⟨hc1, hf1⟩ := bcell hb1; have hz := hb1.size)) | fail "no"
    all_goals (clear HC)
    all_goals (have g7 : w1.cell? ⟨w.heap.size, 7, none⟩ = some (.slice xA xn xc) := by go_simp)
    all_goals (have gs7 : ∀ u, (w1.setCell ⟨w.heap.size, 7, none⟩ u).cell? ⟨w.heap.size, 7, none⟩ = some u := fun u => World.cell?_setCell_same _ _ _ g7)
    all_goals (have g8 : w1.cell? ⟨w.heap.size, 8, none⟩ = some (.int .i64 b1) := by go_simp)
    all_goals (have g9 : w1.cell? ⟨w.heap.size, 9, none⟩ = some (.int .i64 b2) := by go_simp)
    all_goals (have h7 : w1.cell? ⟨w.heap.size + 1 + 1, 7, none⟩ = some (.slice none 0 0) := by go_simp)
    all_goals (have hs7 : ∀ u, (w1.setCell ⟨w.heap.size + 1 + 1, 7, none⟩ u).cell? ⟨w.heap.size + 1 + 1, 7, none⟩ = some u := fun u => World.cell?_setCell_same _ _ _ h7)
    all_goals go_wp2_with fail
    all_goals (refine bodyPost_ret (v := .tuple #[.agg #[.int .i64 i1, .int .i64 i2, .int .i64 p1, .int .i64 p2, .string name, .bool dir, .bool gone, .slice A' n' c', .int .i64 a1, .int .i64 a2], .bool (!dir)]) (by simp [results, Try.results52, go_sem, hc1, hz, h7, hs7, g7, gs7]) rfl ⟨.slice A' n' c', by simp, ?_, ?_⟩)
    all_goals (have hbb := up_trans (up_trans (up_trans (up_alloc w (.cells #[.int .i64 i1, .int .i64 i2, .int .i64 p1, .int .i64 p2, .string name, .bool dir, .bool gone, .slice xA xn xc, .int .i64 b1, .int .i64 b2] 35)) (up_alloc _ (.cells #[.int .i64 kind, .int .i64 a1, .int .i64 a2, .int .i64 i1, .int .i64 i2, .int .i64 q1, .int .i64 q2, .bool odir, .string oname, .slice oA on oc] 40))) (up_alloc _ (.cells #[.int .i64 0, .int .i64 0, .int .i64 0, .int .i64 0, .string ⟨#[]⟩, .bool false, .bool false, .slice none 0 0, .int .i64 0, .int .i64 0] 35))) (up_drew _))
    all_goals (have N0 : NotU8 w1 w.heap.size := NotU8.later (w := w.alloc _) (alloc_get0 w _) (by decide) (up_trans (up_trans (up_trans (up_alloc _ _) (up_alloc _ _)) (up_drew _)) hb1))
    all_goals (have N2 : NotU8 w1 (w.heap.size + 1 + 1) := NotU8.later (w := ((w.alloc _).alloc _).alloc _) (alloc_get2 w _ _ _) (by decide) (up_trans (up_drew _) hb1))
    all_goals (have hbw := up_trans hbb hb1)
    all_goals first | ((repeat (first | (with_reducible exact hDd) | (with_reducible refine Dat.set ?_ ?_ ?_ _))); all_goals first | ((try dsimp only); omega) | ((repeat (with_reducible refine NotU8.set ?_ _ _)); first | (with_reducible exact N0) | (with_reducible exact N2))) | ((repeat (first | (with_reducible exact hbw) | (with_reducible refine up_set ?_ ?_ _) | (with_reducible refine up_trans ?_ (up_drew _)))); all_goals ((try dsimp only); omega))
  · obtain rfl := h1
    rw [stamp_eq_ff2 _ _ h2]
    go_enter Try.func52, Try.ntmps52
    go_wp2_with fail
    first | go_region_held3 (fun W => W.cell? ⟨w.heap.size + 1, 9, none⟩ = some (.slice oA on oc) ∧ W.cell? ⟨w.heap.size + 1, 1, none⟩ = some (.int .i64 a1) ∧ W.cell? ⟨w.heap.size + 1, 2, none⟩ = some (.int .i64 a2)) (go_simp) ((go_at_call 66; refine (HC.out _ (up_trans (up_trans (up_trans (up_alloc _ _) (up_alloc _ _)) (up_alloc _ _)) (up_drew _))).mono ?_; rintro e w1 ⟨d', rfl, hDd, hb1⟩; obtain ⟨A', n', c', rfl⟩ := hDd.form; obtain ⟨hc1, hf1⟩ := bcell hb1; have hz := hb1.size)) | fail "no"
    all_goals (clear HC)
    all_goals (have g7 : w1.cell? ⟨w.heap.size, 7, none⟩ = some (.slice xA xn xc) := by go_simp)
    all_goals (have gs7 : ∀ u, (w1.setCell ⟨w.heap.size, 7, none⟩ u).cell? ⟨w.heap.size, 7, none⟩ = some u := fun u => World.cell?_setCell_same _ _ _ g7)
    all_goals (have g8 : w1.cell? ⟨w.heap.size, 8, none⟩ = some (.int .i64 b1) := by go_simp)
    all_goals (have g9 : w1.cell? ⟨w.heap.size, 9, none⟩ = some (.int .i64 b2) := by go_simp)
    all_goals (have h7 : w1.cell? ⟨w.heap.size + 1 + 1, 7, none⟩ = some (.slice none 0 0) := by go_simp)
    all_goals (have hs7 : ∀ u, (w1.setCell ⟨w.heap.size + 1 + 1, 7, none⟩ u).cell? ⟨w.heap.size + 1 + 1, 7, none⟩ = some u := fun u => World.cell?_setCell_same _ _ _ h7)
    all_goals go_wp2_with fail
    all_goals (refine bodyPost_ret (v := .tuple #[.agg #[.int .i64 i1, .int .i64 i2, .int .i64 p1, .int .i64 p2, .string name, .bool dir, .bool gone, .slice A' n' c', .int .i64 a1, .int .i64 a2], .bool (false)]) (by simp [results, Try.results52, go_sem, hc1, hz, h7, hs7, g7, gs7]) rfl ⟨.slice A' n' c', by simp, ?_, ?_⟩)
    all_goals (have hbb := up_trans (up_trans (up_trans (up_alloc w (.cells #[.int .i64 i1, .int .i64 i2, .int .i64 p1, .int .i64 p2, .string name, .bool dir, .bool gone, .slice xA xn xc, .int .i64 b1, .int .i64 b2] 35)) (up_alloc _ (.cells #[.int .i64 kind, .int .i64 a1, .int .i64 a2, .int .i64 i1, .int .i64 n2, .int .i64 q1, .int .i64 q2, .bool odir, .string oname, .slice oA on oc] 40))) (up_alloc _ (.cells #[.int .i64 0, .int .i64 0, .int .i64 0, .int .i64 0, .string ⟨#[]⟩, .bool false, .bool false, .slice none 0 0, .int .i64 0, .int .i64 0] 35))) (up_drew _))
    all_goals (have N0 : NotU8 w1 w.heap.size := NotU8.later (w := w.alloc _) (alloc_get0 w _) (by decide) (up_trans (up_trans (up_trans (up_alloc _ _) (up_alloc _ _)) (up_drew _)) hb1))
    all_goals (have N2 : NotU8 w1 (w.heap.size + 1 + 1) := NotU8.later (w := ((w.alloc _).alloc _).alloc _) (alloc_get2 w _ _ _) (by decide) (up_trans (up_drew _) hb1))
    all_goals (have hbw := up_trans hbb hb1)
    all_goals first | ((repeat (first | (with_reducible exact hDd) | (with_reducible refine Dat.set ?_ ?_ ?_ _))); all_goals first | ((try dsimp only); omega) | ((repeat (with_reducible refine NotU8.set ?_ _ _)); first | (with_reducible exact N0) | (with_reducible exact N2))) | ((repeat (first | (with_reducible exact hbw) | (with_reducible refine up_set ?_ ?_ _) | (with_reducible refine up_trans ?_ (up_drew _)))); all_goals ((try dsimp only); omega))
  · rw [stamp_eq_ff1 _ _ h1]
    go_enter Try.func52, Try.ntmps52
    go_wp2_with fail
    first | go_region_held3 (fun W => W.cell? ⟨w.heap.size + 1, 9, none⟩ = some (.slice oA on oc) ∧ W.cell? ⟨w.heap.size + 1, 1, none⟩ = some (.int .i64 a1) ∧ W.cell? ⟨w.heap.size + 1, 2, none⟩ = some (.int .i64 a2)) (go_simp) ((go_at_call 66; refine (HC.out _ (up_trans (up_trans (up_trans (up_alloc _ _) (up_alloc _ _)) (up_alloc _ _)) (up_drew _))).mono ?_; rintro e w1 ⟨d', rfl, hDd, hb1⟩; obtain ⟨A', n', c', rfl⟩ := hDd.form; obtain ⟨hc1, hf1⟩ := bcell hb1; have hz := hb1.size)) | fail "no"
    all_goals (clear HC)
    all_goals (have g7 : w1.cell? ⟨w.heap.size, 7, none⟩ = some (.slice xA xn xc) := by go_simp)
    all_goals (have gs7 : ∀ u, (w1.setCell ⟨w.heap.size, 7, none⟩ u).cell? ⟨w.heap.size, 7, none⟩ = some u := fun u => World.cell?_setCell_same _ _ _ g7)
    all_goals (have g8 : w1.cell? ⟨w.heap.size, 8, none⟩ = some (.int .i64 b1) := by go_simp)
    all_goals (have g9 : w1.cell? ⟨w.heap.size, 9, none⟩ = some (.int .i64 b2) := by go_simp)
    all_goals (have h7 : w1.cell? ⟨w.heap.size + 1 + 1, 7, none⟩ = some (.slice none 0 0) := by go_simp)
    all_goals (have hs7 : ∀ u, (w1.setCell ⟨w.heap.size + 1 + 1, 7, none⟩ u).cell? ⟨w.heap.size + 1 + 1, 7, none⟩ = some u := fun u => World.cell?_setCell_same _ _ _ h7)
    all_goals go_wp2_with fail
    all_goals (refine bodyPost_ret (v := .tuple #[.agg #[.int .i64 i1, .int .i64 i2, .int .i64 p1, .int .i64 p2, .string name, .bool dir, .bool gone, .slice A' n' c', .int .i64 a1, .int .i64 a2], .bool (false)]) (by simp [results, Try.results52, go_sem, hc1, hz, h7, hs7, g7, gs7]) rfl ⟨.slice A' n' c', by simp, ?_, ?_⟩)
    all_goals (have hbb := up_trans (up_trans (up_trans (up_alloc w (.cells #[.int .i64 i1, .int .i64 i2, .int .i64 p1, .int .i64 p2, .string name, .bool dir, .bool gone, .slice xA xn xc, .int .i64 b1, .int .i64 b2] 35)) (up_alloc _ (.cells #[.int .i64 kind, .int .i64 a1, .int .i64 a2, .int .i64 n1, .int .i64 n2, .int .i64 q1, .int .i64 q2, .bool odir, .string oname, .slice oA on oc] 40))) (up_alloc _ (.cells #[.int .i64 0, .int .i64 0, .int .i64 0, .int .i64 0, .string ⟨#[]⟩, .bool false, .bool false, .slice none 0 0, .int .i64 0, .int .i64 0] 35))) (up_drew _))
    all_goals (have N0 : NotU8 w1 w.heap.size := NotU8.later (w := w.alloc _) (alloc_get0 w _) (by decide) (up_trans (up_trans (up_trans (up_alloc _ _) (up_alloc _ _)) (up_drew _)) hb1))
    all_goals (have N2 : NotU8 w1 (w.heap.size + 1 + 1) := NotU8.later (w := ((w.alloc _).alloc _).alloc _) (alloc_get2 w _ _ _) (by decide) (up_trans (up_drew _) hb1))
    all_goals (have hbw := up_trans hbb hb1)
    all_goals first | ((repeat (first | (with_reducible exact hDd) | (with_reducible refine Dat.set ?_ ?_ ?_ _))); all_goals first | ((try dsimp only); omega) | ((repeat (with_reducible refine NotU8.set ?_ _ _)); first | (with_reducible exact N0) | (with_reducible exact N2))) | ((repeat (first | (with_reducible exact hbw) | (with_reducible refine up_set ?_ ?_ _) | (with_reducible refine up_trans ?_ (up_drew _)))); all_goals ((try dsimp only); omega))
end Go.Proofs.Ytefhfoioeoijlaa

/- The tree's small functions: copies of items, look-ups, paths to the root. -/
import Derived.Test.YtefhfoioeoijlaaMapB
import Derived.Test.YtefhfoioeoijlaaOpA
import Derived.Test.YtefhfoioeoijlaaLib
import Derived.Deep.RegionWith
set_option linter.unusedVariables false
set_option linter.unusedSimpArgs false
namespace Go.Proofs.Ytefhfoioeoijlaa
open Go.RowKit Go.Sort

theorem Dat.of_own {B base : Nat} {w : World} {v : Value} {xs : List Int} (h : w.ownsRow base 5 1 v xs.length (xs.map (Value.int .u8))) (hx : ∀ x ∈ xs, 0 ≤ x ∧ x < 256) (hn : xs.length ≤ 140737488351232) : Dat B w v xs := by
  rcases h.2 with ⟨rfl, h0⟩ | ⟨g, cap, cur, rfl, hb, hg, hc, hm, hcs, htk⟩
  · have : xs = [] := List.eq_nil_of_length_eq_zero h0
    subst this
    exact Dat.nil B w
  · refine ⟨some ⟨g, 0, none⟩, xs.length, cap, rfl, rfl, hc, hn, hx, fun h0 => ⟨g, 0, rfl, (Array.getElem?_eq_some_iff.1 hg).1, .inr ⟨cur, (0, 0), hg⟩, fun i hi => ?_⟩⟩
    have h1 : cur.toList[i]? = some (.int .u8 (xs.getD i 0)) := by
      have h2 : (xs.map (Value.int .u8))[i]? = some (.int .u8 (xs.getD i 0)) := by
        rw [List.getElem?_map, List.getElem?_eq_getElem hi]
        simp [List.getD_eq_getElem?_getD, List.getElem?_eq_getElem hi]
      rw [← htk, List.getElem?_take] at h2
      rw [if_pos (by omega)] at h2
      exact h2
    rw [Nat.zero_add]
    simp only [World.cell?, hg]
    rw [← Array.getElem?_toList]
    simpa using h1

theorem clone_any {B : Nat} {w : World} {d : Value} {xs : List Int} (h : Dat B w d xs) :
    Calls Try.prog 66 #[d] w fun e w' => ∃ d', e = .returned d' ∧ Dat B w' d' xs ∧ Below w.heap.size w w' := by
  obtain ⟨A, n, c, rfl, h1, h2, h3, h4, h5⟩ := h
  cases A with
  | none =>
    have h0 : n = 0 := by
      rcases Nat.eq_zero_or_pos n with h0 | h0
      · exact h0
      · obtain ⟨b, o, e, _⟩ := h5 h0; cases e
    subst h0
    obtain rfl : xs = [] := List.eq_nil_of_length_eq_zero h1
    refine (Try.bytes_Clone_nil 0 c w).mono ?_
    rintro e w' ⟨rfl, rfl⟩
    exact ⟨_, rfl, Dat.nil B _, Below.refl _ _⟩
  | some a =>
    refine (Try.bytes_Clone_at a n c xs w h1 (by omega) (fun i hi => ?_)).mono ?_
    · obtain ⟨b, o, e, _, _, hc⟩ := h5 (by omega)
      injection e with e
      subst e
      rw [show (⟨b, o, none⟩ : Addr).add i = ⟨b, o + i, none⟩ by unfold Addr.add; split <;> simp_all]
      exact hc i hi
    · rintro e w' ⟨v', rfl, hown, _, hb⟩
      subst h1
      exact ⟨v', rfl, Dat.of_own hown h4 h3, hb⟩

theorem own_any {B : Nat} {w : World} {x : Item} {d : Value} (hB : B ≤ w.heap.size) (h : Dat B w d x.data) :
    Calls Try.prog 56 #[itV x d] w fun e w' => ∃ d', e = .returned (itV x d') ∧ Dat B w' d' x.data ∧ Below w.heap.size w w' := by
  have HC := Lib.hid (fun (W : World) (hb : Below w.heap.size w W) => clone_any (h.up hb))
  clear h
  obtain ⟨⟨n1, n2⟩, ⟨p1, p2⟩, name, dir, gone, data, ⟨b1, b2⟩⟩ := x
  unfold itV
  simp only at HC
  go_enter Try.func56, Try.ntmps56
  go_wp2_with fail
  refine (HC.out _ (up_trans (up_alloc _ _) (up_alloc _ _))).mono ?_
  rintro e w1 ⟨d', rfl, hD, hb⟩
  obtain ⟨A', n', c', rfl⟩ := hD.form
  obtain ⟨hc1, hf1⟩ := bcell hb
  have hz : w.heap.size + 1 < w1.heap.size := by have := hb.size; simp at this; omega
  have h7 : w1.cell? ⟨w.heap.size, 7, none⟩ = some d := by go_simp
  have hs7 : ∀ u, (w1.setCell ⟨w.heap.size, 7, none⟩ u).cell? ⟨w.heap.size, 7, none⟩ = some u := fun u => World.cell?_setCell_same _ _ _ h7
  go_wp2_with fail
  refine bodyPost_ret (v := .agg #[.int .i64 n1, .int .i64 n2, .int .i64 p1, .int .i64 p2, .string name, .bool dir, .bool gone, .slice A' n' c', .int .i64 b1, .int .i64 b2]) (by simp [results, Try.results56, go_sem, hc1, hz, h7, hs7]) rfl ?_
  have N0 : NotU8 w1 w.heap.size := ((NotU8.new (w := w) (by decide)).up (up_alloc _ _) (by simp)).up hb (by simp; omega)
  have N1 : NotU8 w1 (w.heap.size + 1) := NotU8.up (w := (w.alloc _).alloc _) (by have := NotU8.new (w := w.alloc (.cells #[.int .i64 n1, .int .i64 n2, .int .i64 p1, .int .i64 p2, .string name, .bool dir, .bool gone, d, .int .i64 b1, .int .i64 b2] 35)) (cs := #[.int .i64 0, .int .i64 0, .int .i64 0, .int .i64 0, .string ⟨#[]⟩, .bool false, .bool false, .slice none 0 0, .int .i64 0, .int .i64 0]) (e := 35) (by decide); simpa using this) hb (by simp)
  have hb0 := up_trans (up_trans (up_alloc w _) (up_alloc _ _)) hb
  refine ⟨.slice A' n' c', rfl, ?_, ?_⟩
  · repeat (first | (with_reducible exact hD) | (with_reducible refine Dat.set ?_ ?_ ?_ _))
    all_goals first | (dsimp only; omega) | (repeat (with_reducible refine NotU8.set ?_ _ _)); first | (with_reducible exact N0) | (with_reducible exact N1)
  · repeat (first | (with_reducible exact hb0) | (with_reducible refine up_set ?_ ?_ _))
    all_goals simp
end Go.Proofs.Ytefhfoioeoijlaa

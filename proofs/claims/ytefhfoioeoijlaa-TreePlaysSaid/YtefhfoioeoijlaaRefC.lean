/- The document's tree: Get. -/
import Derived.Test.YtefhfoioeoijlaaRefB
set_option linter.unusedVariables false
set_option linter.unusedSimpArgs false
namespace Go.Proofs.Ytefhfoioeoijlaa
open Go.RowKit Go.Sort

theorem placeI_get {L : List Item} (n : Stamp) : (placeI L n = -1 ∧ getI L n = none) ∨ ∃ (k : Nat) (x : Item), placeI L n = k ∧ L[k]? = some x ∧ getI L n = some x := by
  unfold placeI
  by_cases h : idxI L n < L.length
  · rw [if_pos h]
    refine .inr ⟨idxI L n, L[idxI L n], rfl, List.getElem?_eq_getElem h, ?_⟩
    unfold getI idxI
    rw [List.find?_eq_some_iff_getElem]
    refine ⟨List.findIdx_getElem (w := h), _, h, rfl, fun j hj => ?_⟩
    have := List.not_of_lt_findIdx hj
    simpa using this
  · rw [if_neg h]
    refine .inl ⟨rfl, getI_none.2 fun x hx e => h ?_⟩
    exact List.findIdx_lt_length_of_exists ⟨x, hx, by simp [e]⟩

set_option maxRecDepth 4000 in
set_option maxHeartbeats 2000000 in
theorem rget_at {B : Nat} {w : World} {ub : Nat} {L : List Item} (h : RIs B w ub L) (m1 m2 : Int) : Calls Try.prog 24 #[trP ub, .agg #[.int .i64 m1, .int .i64 m2]] w fun e w' =>
    ∃ d, e = .returned (.tuple #[itV (gotI L ⟨m1, m2⟩) d, .bool (hasI L ⟨m1, m2⟩)]) ∧ Dat B w' d (gotI L ⟨m1, m2⟩).data ∧ Below w.heap.size w w' := by
  have HF := Lib.hid (fun (W : World) (hb : Below w.heap.size w W) => rfind_at (h.up hb) m1 m2)
  have hlt : ub < w.heap.size := by obtain ⟨_, v, hv, _⟩ := h; exact (Array.getElem?_eq_some_iff.1 hv).1
  unfold trP at HF ⊢
  rcases placeI_get (L := L) ⟨m1, m2⟩ with ⟨hp, hg⟩ | ⟨k, x, hp, hk, hg⟩
  · rw [show gotI L ⟨m1, m2⟩ = nilI by unfold gotI; rw [hg]; rfl, show hasI L ⟨m1, m2⟩ = false by unfold hasI; rw [hg]; rfl]
    rw [hp] at HF
    clear h hp hg
    go_enter Try.func24, Try.ntmps24
    go_wp2_with fail
    refine (HF.out _ (up_trans (up_alloc _ _) (up_alloc _ _))).mono ?_
    rintro e w1 ⟨rfl, hb1⟩
    have hbw := up_trans (up_trans (up_alloc w _) (up_alloc _ _)) hb1
    have hZ := (hb1.block (w.heap.size + 1) (by simp)).trans (alloc_get1 w _ _)
    obtain ⟨⟨m0, m1', m2', m3, m4, m5, m6, m7, m8, m9⟩, fm⟩ := item_cells hZ
    have ms7 : ∀ u, (w1.setCell ⟨w.heap.size + 1, 7, none⟩ u).cell? ⟨w.heap.size + 1, 7, none⟩ = some u := fun u => World.cell?_setCell_same _ _ _ m7
    go_wp2_with fail
    refine bodyPost_ret (v := .tuple #[itV nilI (.slice none 0 0), .bool false]) (by simp [results, Try.results24, go_sem, itV, nilI, nilS, m0, m1', m2', m3, m4, m5, m6, m7, m8, m9, ms7]) rfl ?_
    refine ⟨_, rfl, Dat.nil B _, ?_⟩
    ((repeat (first | (with_reducible exact hbw) | (with_reducible refine up_set ?_ ?_ _) | (with_reducible refine up_trans ?_ (up_drew _)))); all_goals ((try dsimp only); omega))
  · rw [show gotI L ⟨m1, m2⟩ = x by unfold gotI; rw [hg]; rfl, show hasI L ⟨m1, m2⟩ = true by unfold hasI; rw [hg]; rfl]
    rw [hp] at HF
    have HG := Lib.hid (fun (W : World) (hb : Below w.heap.size w W) => h.up hb)
    have hkl := (List.getElem?_eq_some_iff.1 hk).1
    have HK := Lib.hid hk
    clear h hp hg hk
    go_enter Try.func24, Try.ntmps24
    go_wp2_with fail
    refine (HF.out _ (up_trans (up_alloc _ _) (up_alloc _ _))).mono ?_
    rintro e w1 ⟨rfl, hb1⟩
    have hbw := up_trans (up_trans (up_alloc w _) (up_alloc _ _)) hb1
    have hZ := (hb1.block (w.heap.size + 1) (by simp)).trans (alloc_get1 w _ _)
    obtain ⟨⟨z0, z1, z2, z3, z4, z5, z6, z7, z8, z9⟩, fm⟩ := item_cells hZ
    have ms7 : ∀ u, (w1.setCell ⟨w.heap.size + 1, 7, none⟩ u).cell? ⟨w.heap.size + 1, 7, none⟩ = some u := fun u => World.cell?_setCell_same _ _ _ z7
    have NZ : NotU8 w1 (w.heap.size + 1) := NotU8.of hZ (by decide)
    obtain ⟨hub, v, hv, hR, _⟩ := HG.out w1 hbw
    obtain ⟨g, cap, dA, dn, dc, rfl, hcap, hgb, hglt, hD, hcell⟩ := hR.get HK.out
    have hcv : w1.cell? ⟨ub, 0, none⟩ = some (.slice (some ⟨g, 0, none⟩) L.length cap) := by simp [World.cell?, hv]
    obtain ⟨⟨i1, i2⟩, ⟨p1, p2⟩, name, dir, gone, data, ⟨b1, b2⟩⟩ := x
    have x0 := hcell 0 _ rfl
    have x1 := hcell 1 _ rfl
    have x2 := hcell 2 _ rfl
    have x3 := hcell 3 _ rfl
    have x4 := hcell 4 _ rfl
    have x5 := hcell 5 _ rfl
    have x6 := hcell 6 _ rfl
    have x7 := hcell 7 _ rfl
    have x8 := hcell 8 _ rfl
    have x9 := hcell 9 _ rfl
    rw [Nat.add_zero] at x0
    clear hcell HF HG hR hv hZ
    have hkI : (k : Int) < (L.length : Int) := by omega
    have hk0 : (0 : Int) ≤ (k : Int) := by omega
    have hkn : decide ((k : Int) < 0) = false := decide_eq_false (by omega)
    go_wp2_with fail
    refine bodyPost_ret (v := .tuple #[.agg #[.int .i64 i1, .int .i64 i2, .int .i64 p1, .int .i64 p2, .string name, .bool dir, .bool gone, .slice dA dn dc, .int .i64 b1, .int .i64 b2], .bool true]) (by simp [results, Try.results24, go_sem, z0, z1, z2, z3, z4, z5, z6, z7, z8, z9, ms7]) rfl ?_
    refine ⟨.slice dA dn dc, rfl, ?_, ?_⟩
    · ((repeat (first | (with_reducible exact hD) | (with_reducible refine Dat.set ?_ ?_ ?_ _))); all_goals first | ((try dsimp only); omega) | ((repeat (with_reducible refine NotU8.set ?_ _ _)); (with_reducible exact NZ)))
    · ((repeat (first | (with_reducible exact hbw) | (with_reducible refine up_set ?_ ?_ _) | (with_reducible refine up_trans ?_ (up_drew _)))); all_goals ((try dsimp only); omega))
end Go.Proofs.Ytefhfoioeoijlaa

/- The document's tree: find, Get, Within, Hangs, dir. -/
import Derived.Test.YtefhfoioeoijlaaGreatRws
import Derived.Test.YtefhfoioeoijlaaGreatTrA
import Derived.BigQuiet
import Derived.Test.YtefhfoioeoijlaaGreatEx1
set_option linter.unusedVariables false
set_option linter.unusedSimpArgs false
namespace Go.Proofs.YtefhfoioeoijlaaGreat
open Go.RowKit Go.Sort

set_option maxRecDepth 4000 in
set_option maxHeartbeats 2000000 in
theorem rfind_at {B : Nat} {w : World} {ub : Nat} {L : List Item} (h : RIs B w ub L) (m1 m2 : Int) : Calls Tryz.prog 71 #[trP ub, .agg #[.int .i64 m1, .int .i64 m2]] w fun e w' => e = .returned (.int .i64 (placeI L ⟨m1, m2⟩)) ∧ Below w.heap.size w w' := by
  obtain ⟨_, v, hv, hR, _, hL⟩ := h
  obtain ⟨A, c, rfl⟩ := hR.form
  have hlt := (Array.getElem?_eq_some_iff.1 hv).1
  have hc : w.cell? ⟨ub, 0, none⟩ = some (.slice A L.length c) := by simp [World.cell?, hv]
  have HG := Lib.hid (fun (i : Nat) (x : Item) (hi : L[i]? = some x) => hR.get hi)
  have HP := Lib.hid (fun (k : Nat) (x : Item) hx e h => placeI_at (L := L) (n := ⟨m1, m2⟩) (k := k) (x := x) hx e h)
  have HN := Lib.hid (fun h => placeI_none (L := L) (n := ⟨m1, m2⟩) h)
  clear hR hv
  generalize placeI L ⟨m1, m2⟩ = res at *
  unfold trP
  go_enter Tryz.func71, Tryz.ntmps71
  go_wp2_with fail
  go_loopw [5] (fun i wr => ∃ (k n : Nat), k ≤ L.length ∧ i = .int .i64 k ∧ wr = (w.alloc (.cells #[.int .i64 m1, .int .i64 m2] 35)).drewN n ∧ Hid (∀ (j : Nat) (y : Item), j < k → L[j]? = some y → y.node ≠ ⟨m1, m2⟩)) (fun i _ => L.length - (intOf i).toNat)
  case atStart => exact ⟨0, 0, by omega, rfl, rfl, fun j y hj => by omega⟩
  case round =>
    obtain ⟨k, n, hk, rfl, rfl, H⟩ := hrel
    rcases Nat.lt_or_ge k L.length with hk1 | hk1
    · obtain ⟨g, cap, dA, dn, dc, hA, hcap, hgb, hglt, hD, hcell⟩ := HG.out k L[k] (List.getElem?_eq_getElem hk1)
      injection hA with hA1 hA2 hA3
      subst hA1
      have x0 := hcell 0 _ rfl
      have x1 := hcell 1 _ rfl
      clear hcell hD
      have HX := Lib.hid (List.getElem?_eq_getElem hk1)
      generalize L[k] = x at *
      obtain ⟨⟨i1, i2⟩, par, name, dir, gone, data, by_⟩ := x
      simp only at x0 x1
      rw [Nat.add_zero] at x0
      have hgs : g < w.heap.size + 1 := by omega
      have hul : ub < w.heap.size + 1 := by omega
      have hkI : (k : Int) < (L.length : Int) := by omega
      have hk0 : (0 : Int) ≤ (k : Int) := by omega
      clear HG
      rcases stamp_cases i1 i2 m1 m2 with ⟨h1, h2⟩ | ⟨h1, h2⟩ | h1
      · subst h1; subst h2
        go_wp2_with fail
        go_quiet (fail)
        go_wp2_with fail
        go_ret
        exact ⟨ret_int (HP.out k _ HX.out rfl H.out).symm, up_trans (up_alloc _ _) (by rw [World.drewN_drewN]; exact up_drewN _ _)⟩
      · subst h1
        go_wp2_with fail
        go_quiet (fail)
        go_wp2_with fail
        go_roundw
        case rel =>
          refine ⟨k + 1, n + nq, by omega, by go_num, rfl, fun j y hj hy => ?_⟩
          rcases Nat.lt_or_ge j k with h | h
          · exact H.out j y h hy
          · obtain rfl : j = k := by omega
            rw [HX.out] at hy
            injection hy with hy
            subst hy
            intro e
            injection e with e1 e2
            simp_all
        case measure => simp [intOf]; omega
      · skip
        go_wp2_with fail
        go_quiet (fail)
        go_wp2_with fail
        go_roundw
        case rel =>
          refine ⟨k + 1, n + nq, by omega, by go_num, rfl, fun j y hj hy => ?_⟩
          rcases Nat.lt_or_ge j k with h | h
          · exact H.out j y h hy
          · obtain rfl : j = k := by omega
            rw [HX.out] at hy
            injection hy with hy
            subst hy
            intro e
            injection e with e1 e2
            simp_all
        case measure => simp [intOf]; omega
    · have hk2 : k = L.length := by omega
      subst hk2
      go_wp2_with fail
      go_ret
      exact ⟨ret_int (HN.out fun j y hy => H.out j y (List.getElem?_eq_some_iff.1 hy).1 hy).symm, up_trans (up_alloc _ _) (up_drewN _ _)⟩
end Go.Proofs.YtefhfoioeoijlaaGreat

namespace Go.Proofs.YtefhfoioeoijlaaGreat
open Go.RowKit Go.Sort

theorem placeI_get {L : List Item} (n : Stamp) : (placeI L n = -1 ∧ getI L n = none) ∨ ∃ (k : Nat) (x : Item), placeI L n = k ∧ L[k]? = some x ∧ getI L n = some x := by
  unfold placeI
  by_cases h : idxI L n < L.length
  · rw [if_pos h]
    refine .inr ⟨idxI L n, L[idxI L n], rfl, List.getElem?_eq_getElem h, ?_⟩
    unfold getI idxI
    rw [List.find?_eq_some_iff_getElem]
    refine ⟨List.findIdx_getElem (w := h), _, h, rfl, fun j hj => ?_⟩
    have := List.not_of_lt_findIdx hj
    simpa using this
  · rw [if_neg h]
    refine .inl ⟨rfl, getI_none.2 fun x hx e => h ?_⟩
    exact List.findIdx_lt_length_of_exists ⟨x, hx, by simp [e]⟩

set_option maxRecDepth 4000 in
set_option maxHeartbeats 2000000 in
theorem rget_at {B : Nat} {w : World} {ub : Nat} {L : List Item} (h : RIs B w ub L) (m1 m2 : Int) : Calls Tryz.prog 50 #[trP ub, .agg #[.int .i64 m1, .int .i64 m2]] w fun e w' =>
    ∃ d, e = .returned (.tuple #[itV (gotI L ⟨m1, m2⟩) d, .bool (hasI L ⟨m1, m2⟩)]) ∧ Dat B w' d (gotI L ⟨m1, m2⟩).data ∧ Below w.heap.size w w' := by
  have HF := Lib.hid (fun (W : World) (hb : Below w.heap.size w W) => rfind_at (h.up hb) m1 m2)
  have hlt : ub < w.heap.size := by obtain ⟨_, v, hv, _⟩ := h; exact (Array.getElem?_eq_some_iff.1 hv).1
  unfold trP at HF ⊢
  rcases placeI_get (L := L) ⟨m1, m2⟩ with ⟨hp, hg⟩ | ⟨k, x, hp, hk, hg⟩
  · rw [show gotI L ⟨m1, m2⟩ = nilI by unfold gotI; rw [hg]; rfl, show hasI L ⟨m1, m2⟩ = false by unfold hasI; rw [hg]; rfl]
    rw [hp] at HF
    clear h hp hg
    go_enter Tryz.func50, Tryz.ntmps50
    go_wp2_with fail
    refine (HF.out _ (up_trans (up_alloc _ _) (up_alloc _ _))).mono ?_
    rintro e w1 ⟨rfl, hb1⟩
    have hbw := up_trans (up_trans (up_alloc w _) (up_alloc _ _)) hb1
    have hZ := (hb1.block (w.heap.size + 1) (by simp)).trans (alloc_get1 w _ _)
    obtain ⟨⟨m0, m1', m2', m3, m4, m5, m6, m7, m8, m9⟩, fm⟩ := item_cells hZ
    have ms7 : ∀ u, (w1.setCell ⟨w.heap.size + 1, 7, none⟩ u).cell? ⟨w.heap.size + 1, 7, none⟩ = some u := fun u => World.cell?_setCell_same _ _ _ m7
    go_wp2_with fail
    refine bodyPost_ret (v := .tuple #[itV nilI (.slice none 0 0), .bool false]) (by simp [results, Tryz.results24, go_sem, itV, nilI, nilS, m0, m1', m2', m3, m4, m5, m6, m7, m8, m9, ms7]) rfl ?_
    refine ⟨_, rfl, Dat.nil B _, ?_⟩
    ((repeat (first | (with_reducible exact hbw) | (with_reducible refine up_set ?_ ?_ _) | (with_reducible refine up_trans ?_ (up_drew _)))); all_goals ((try dsimp only); omega))
  · rw [show gotI L ⟨m1, m2⟩ = x by unfold gotI; rw [hg]; rfl, show hasI L ⟨m1, m2⟩ = true by unfold hasI; rw [hg]; rfl]
    rw [hp] at HF
    have HG := Lib.hid (fun (W : World) (hb : Below w.heap.size w W) => h.up hb)
    have hkl := (List.getElem?_eq_some_iff.1 hk).1
    have HK := Lib.hid hk
    clear h hp hg hk
    go_enter Tryz.func50, Tryz.ntmps50
    go_wp2_with fail
    refine (HF.out _ (up_trans (up_alloc _ _) (up_alloc _ _))).mono ?_
    rintro e w1 ⟨rfl, hb1⟩
    have hbw := up_trans (up_trans (up_alloc w _) (up_alloc _ _)) hb1
    have hZ := (hb1.block (w.heap.size + 1) (by simp)).trans (alloc_get1 w _ _)
    obtain ⟨⟨z0, z1, z2, z3, z4, z5, z6, z7, z8, z9⟩, fm⟩ := item_cells hZ
    have ms7 : ∀ u, (w1.setCell ⟨w.heap.size + 1, 7, none⟩ u).cell? ⟨w.heap.size + 1, 7, none⟩ = some u := fun u => World.cell?_setCell_same _ _ _ z7
    have NZ : NotU8 w1 (w.heap.size + 1) := NotU8.of hZ (by decide)
    obtain ⟨hub, v, hv, hR, _⟩ := HG.out w1 hbw
    obtain ⟨g, cap, dA, dn, dc, rfl, hcap, hgb, hglt, hD, hcell⟩ := hR.get HK.out
    have hcv : w1.cell? ⟨ub, 0, none⟩ = some (.slice (some ⟨g, 0, none⟩) L.length cap) := by simp [World.cell?, hv]
    obtain ⟨⟨i1, i2⟩, ⟨p1, p2⟩, name, dir, gone, data, ⟨b1, b2⟩⟩ := x
    have x0 := hcell 0 _ rfl
    have x1 := hcell 1 _ rfl
    have x2 := hcell 2 _ rfl
    have x3 := hcell 3 _ rfl
    have x4 := hcell 4 _ rfl
    have x5 := hcell 5 _ rfl
    have x6 := hcell 6 _ rfl
    have x7 := hcell 7 _ rfl
    have x8 := hcell 8 _ rfl
    have x9 := hcell 9 _ rfl
    rw [Nat.add_zero] at x0
    clear hcell HF HG hR hv hZ
    have hkI : (k : Int) < (L.length : Int) := by omega
    have hk0 : (0 : Int) ≤ (k : Int) := by omega
    have hkn : decide ((k : Int) < 0) = false := decide_eq_false (by omega)
    go_wp2_with fail
    refine bodyPost_ret (v := .tuple #[.agg #[.int .i64 i1, .int .i64 i2, .int .i64 p1, .int .i64 p2, .string name, .bool dir, .bool gone, .slice dA dn dc, .int .i64 b1, .int .i64 b2], .bool true]) (by simp [results, Tryz.results24, go_sem, z0, z1, z2, z3, z4, z5, z6, z7, z8, z9, ms7]) rfl ?_
    refine ⟨.slice dA dn dc, rfl, ?_, ?_⟩
    · ((repeat (first | (with_reducible exact hD) | (with_reducible refine Dat.set ?_ ?_ ?_ _))); all_goals first | ((try dsimp only); omega) | ((repeat (with_reducible refine NotU8.set ?_ _ _)); (with_reducible exact NZ)))
    · ((repeat (first | (with_reducible exact hbw) | (with_reducible refine up_set ?_ ?_ _) | (with_reducible refine up_trans ?_ (up_drew _)))); all_goals ((try dsimp only); omega))
end Go.Proofs.YtefhfoioeoijlaaGreat

namespace Go.Proofs.YtefhfoioeoijlaaGreat
open Go.RowKit Go.Sort

theorem cell_al {W : World} {p : Addr} {v : Value} (h : W.cell? p = some v) (o : Obj) : (W.alloc o).cell? p = some v := by
  rw [(up_alloc W o).cell (World.block_lt_of_cell? W p h)]; exact h
theorem frozen_al {W : World} {p : Addr} {b : Bool} (hlt : p.block < W.heap.size) (h : W.frozen? p = b) (o : Obj) : (W.alloc o).frozen? p = b := by
  rw [(up_alloc W o).frozen hlt]; exact h

set_option maxRecDepth 4000 in
set_option maxHeartbeats 2000000 in
theorem rwithin_at {B : Nat} {w : World} {ub : Nat} {L : List Item} (h : RIs B w ub L) (n1 n2 m1 m2 : Int) : Calls Tryz.prog 52 #[trP ub, .agg #[.int .i64 n1, .int .i64 n2], .agg #[.int .i64 m1, .int .i64 m2]] w fun e w' => e = .returned (.bool (withinI L ⟨n1, n2⟩ 301 ⟨m1, m2⟩)) ∧ Below w.heap.size w w' := by
  have HG := Lib.hid (fun (W : World) (hb : Below w.heap.size w W) a b => rget_at (h.up hb) a b)
  clear h
  unfold trP at HG ⊢
  go_enter Tryz.func52, Tryz.ntmps52
  go_wp2_with fail
  go_loopw [7] (fun i wr => ∃ (k : Nat) (a b : Int), k ≤ 301 ∧ i = .int .i64 k ∧ Below w.heap.size w wr ∧ w.heap.size + 1 < wr.heap.size ∧ wr.cell? ⟨w.heap.size, 0, none⟩ = some (.int .i64 n1) ∧ wr.cell? ⟨w.heap.size, 1, none⟩ = some (.int .i64 n2) ∧
    wr.cell? ⟨w.heap.size + 1, 0, none⟩ = some (.int .i64 a) ∧ wr.cell? ⟨w.heap.size + 1, 1, none⟩ = some (.int .i64 b) ∧ wr.frozen? ⟨w.heap.size + 1, 0, none⟩ = false ∧ wr.frozen? ⟨w.heap.size + 1, 1, none⟩ = false ∧
    Hid (withinI L ⟨n1, n2⟩ 301 ⟨m1, m2⟩ = withinI L ⟨n1, n2⟩ (301 - k) ⟨a, b⟩)) (fun i _ => 301 - (intOf i).toNat)
  case atStart => exact ⟨0, m1, m2, by omega, rfl, up_trans (up_alloc _ _) (up_alloc _ _), by simp, by go_simp, by go_simp, by go_simp, by go_simp, by go_simp, by go_simp, rfl⟩
  case round =>
    obtain ⟨k, a, b, hk, rfl, hb, hz, x0, x1, y0, y1, f0, f1, H⟩ := hrel
    rcases Nat.lt_or_ge k 301 with hk1 | hk1
    · have e0 : 301 - k = (300 - k) + 1 := by omega
      have H0 := H.out
      rw [e0] at H0
      have hle : decide ((k : Int) ≤ 300) = true := decide_eq_true (by omega)
      by_cases he : (⟨a, b⟩ : Stamp) = ⟨n1, n2⟩
      · have H' := Lib.hid (H0.trans (withinI_hit L _ _ _ he))
        clear H H0
        injection he with e1 e2
        subst e1; subst e2
        go_wp2_with fail
        go_ret
        exact ⟨ret_bool H'.out.symm, hb⟩
      · have HO := Lib.hid (fun hh => H0.trans (withinI_out L ⟨n1, n2⟩ ⟨a, b⟩ (300 - k) he hh))
        have HN := Lib.hid (fun hh => H0.trans (withinI_on L ⟨n1, n2⟩ ⟨a, b⟩ (300 - k) he hh))
        have HC := Lib.hid (HG.out wr hb a b)
        clear H H0
        generalize gotI L ⟨a, b⟩ = x at *
        generalize hasI L ⟨a, b⟩ = is at *
        obtain ⟨⟨i1, i2⟩, ⟨p1, p2⟩, name, dir, gone, data, ⟨b1, b2⟩⟩ := x
        unfold itV at HC
        simp only at HC HN
        have ht : (a = n1 ∧ (b == n2) = false) ∨ (a == n1) = false := by
          by_cases h1 : a = n1
          · refine .inl ⟨h1, beq_eq_false_iff_ne.2 ?_⟩
            intro h2; exact he (by rw [h1, h2])
          · exact .inr (beq_eq_false_iff_ne.2 h1)
        have HE := Lib.hid he
        clear he
        rcases ht with ⟨h1, h2⟩ | h1
        · subst h1
          go_wp2_with fail
          refine HC.out.mono ?_
          rintro e w2 ⟨d, rfl, hD, hb2⟩
          obtain ⟨dA, dn, dc, rfl⟩ := hD.form
          have hb3 := up_trans hb hb2
          have hz2 : w.heap.size + 1 < w2.heap.size := by have := hb2.size; omega
          have y0' : w2.cell? ⟨w.heap.size, 0, none⟩ = some (.int .i64 _) := (hb2.cell (p := ⟨w.heap.size, 0, none⟩) (by show w.heap.size < wr.heap.size; omega)).trans x0
          have y1' : w2.cell? ⟨w.heap.size, 1, none⟩ = some (.int .i64 n2) := (hb2.cell (p := ⟨w.heap.size, 1, none⟩) (by show w.heap.size < wr.heap.size; omega)).trans x1
          have z0' : w2.cell? ⟨w.heap.size + 1, 0, none⟩ = some (.int .i64 _) := (hb2.cell (p := ⟨w.heap.size + 1, 0, none⟩) hz).trans y0
          have z1' : w2.cell? ⟨w.heap.size + 1, 1, none⟩ = some (.int .i64 b) := (hb2.cell (p := ⟨w.heap.size + 1, 1, none⟩) hz).trans y1
          have g0 : w2.frozen? ⟨w.heap.size + 1, 0, none⟩ = false := (hb2.frozen (p := ⟨w.heap.size + 1, 0, none⟩) hz).trans f0
          have g1 : w2.frozen? ⟨w.heap.size + 1, 1, none⟩ = false := (hb2.frozen (p := ⟨w.heap.size + 1, 1, none⟩) hz).trans f1
          cases is
          · go_wp2_with fail
            go_ret
            exact ⟨ret_bool (HO.out (by simp)).symm, up_trans hb3 (up_alloc _ _)⟩
          · go_wp2_with fail
            go_roundw
            case rel =>
              refine ⟨k + 1, p1, p2, by omega, by go_num, ?_, ?_, cell_al (by go_simp) _, cell_al (by go_simp) _, cell_al (by go_simp) _, cell_al (by go_simp) _, frozen_al (by simp; omega) (by go_simp) _, frozen_al (by simp; omega) (by go_simp) _, ?_⟩
              · exact up_trans (up_set (up_set hb3 (by simp) _) (by simp) _) (up_alloc _ _)
              · simp; omega
              · have := HN.out (by simp)
                exact Lib.hid (by rw [this]; congr 1; omega)
            case measure => simp [intOf]; omega
        · skip
          go_wp2_with fail
          refine HC.out.mono ?_
          rintro e w2 ⟨d, rfl, hD, hb2⟩
          obtain ⟨dA, dn, dc, rfl⟩ := hD.form
          have hb3 := up_trans hb hb2
          have hz2 : w.heap.size + 1 < w2.heap.size := by have := hb2.size; omega
          have y0' : w2.cell? ⟨w.heap.size, 0, none⟩ = some (.int .i64 _) := (hb2.cell (p := ⟨w.heap.size, 0, none⟩) (by show w.heap.size < wr.heap.size; omega)).trans x0
          have y1' : w2.cell? ⟨w.heap.size, 1, none⟩ = some (.int .i64 n2) := (hb2.cell (p := ⟨w.heap.size, 1, none⟩) (by show w.heap.size < wr.heap.size; omega)).trans x1
          have z0' : w2.cell? ⟨w.heap.size + 1, 0, none⟩ = some (.int .i64 _) := (hb2.cell (p := ⟨w.heap.size + 1, 0, none⟩) hz).trans y0
          have z1' : w2.cell? ⟨w.heap.size + 1, 1, none⟩ = some (.int .i64 b) := (hb2.cell (p := ⟨w.heap.size + 1, 1, none⟩) hz).trans y1
          have g0 : w2.frozen? ⟨w.heap.size + 1, 0, none⟩ = false := (hb2.frozen (p := ⟨w.heap.size + 1, 0, none⟩) hz).trans f0
          have g1 : w2.frozen? ⟨w.heap.size + 1, 1, none⟩ = false := (hb2.frozen (p := ⟨w.heap.size + 1, 1, none⟩) hz).trans f1
          cases is
          · go_wp2_with fail
            go_ret
            exact ⟨ret_bool (HO.out (by simp)).symm, up_trans hb3 (up_alloc _ _)⟩
          · go_wp2_with fail
            go_roundw
            case rel =>
              refine ⟨k + 1, p1, p2, by omega, by go_num, ?_, ?_, cell_al (by go_simp) _, cell_al (by go_simp) _, cell_al (by go_simp) _, cell_al (by go_simp) _, frozen_al (by simp; omega) (by go_simp) _, frozen_al (by simp; omega) (by go_simp) _, ?_⟩
              · exact up_trans (up_set (up_set hb3 (by simp) _) (by simp) _) (up_alloc _ _)
              · simp; omega
              · have := HN.out (by simp)
                exact Lib.hid (by rw [this]; congr 1; omega)
            case measure => simp [intOf]; omega
    · have hk2 : k = 301 := by omega
      subst hk2
      go_wp2_with fail
      go_ret
      exact ⟨ret_bool H.out.symm, hb⟩
end Go.Proofs.YtefhfoioeoijlaaGreat

namespace Go.Proofs.YtefhfoioeoijlaaGreat
open Go.RowKit Go.Sort

theorem dirI_no {L : List Item} {n : Stamp} (h : decide (n = ⟨0, 0⟩) = false) (hh : hasI L n = false) : dirI L n = false := by
  unfold dirI
  rw [show decide (n = nilS) = false from h]
  unfold hasI at hh
  unfold gotI
  cases hg : getI L n with
  | none => rfl
  | some x => rw [hg] at hh; cases hh
theorem dirI_is {L : List Item} {n : Stamp} (h : decide (n = ⟨0, 0⟩) = false) : dirI L n = (gotI L n).dir := by
  unfold dirI
  rw [show decide (n = nilS) = false from h]
  rfl

set_option maxRecDepth 4000 in
set_option maxHeartbeats 2000000 in
theorem rdir_at {B : Nat} {w : World} {ub : Nat} {L : List Item} (h : RIs B w ub L) (m1 m2 : Int) : Calls Tryz.prog 51 #[trP ub, .agg #[.int .i64 m1, .int .i64 m2]] w fun e w' => e = .returned (.bool (dirI L ⟨m1, m2⟩)) ∧ Below w.heap.size w w' := by
  have HG := Lib.hid (fun (W : World) (hb : Below w.heap.size w W) => rget_at (h.up hb) m1 m2)
  have H0 := Lib.hid (fun h hh => dirI_no (L := L) (n := ⟨m1, m2⟩) h hh)
  have H1 := Lib.hid (fun h => dirI_is (L := L) (n := ⟨m1, m2⟩) h)
  clear h
  unfold trP at HG ⊢
  have HC : ∀ b, dirI L ⟨m1, m2⟩ = b → Hid (dirI L ⟨m1, m2⟩ = b) := fun b h => h
  rcases stamp_cases m1 m2 0 0 with ⟨h1, h2⟩ | ⟨h1, h2⟩ | h1
  · subst h1; subst h2
    rw [dirI_zero]
    clear H0 H1 HC
    generalize gotI L ⟨0, 0⟩ = x at *
    generalize hasI L ⟨0, 0⟩ = is at *
    obtain ⟨⟨i1, i2⟩, ⟨p1, p2⟩, name, dir, gone, data, ⟨b1, b2⟩⟩ := x
    unfold itV at HG
    simp only at HG
    go_enter Tryz.func51, Tryz.ntmps51
    go_wp2_with fail
    refine (HG.out _ (up_alloc _ _)).mono ?_
    rintro e w1 ⟨d, rfl, hD, hb1⟩
    obtain ⟨dA, dn, dc, rfl⟩ := hD.form
    have hb := up_trans (up_trans (up_alloc w _) hb1) (up_alloc w1 (.cells #[.int .i64 i1, .int .i64 i2, .int .i64 p1, .int .i64 p2, .string name, .bool dir, .bool gone, .slice dA dn dc, .int .i64 b1, .int .i64 b2] 76))
    obtain ⟨hc1, hf1⟩ := bcell hb1
    have hz := hb1.size
    have q0 : w1.cell? ⟨w.heap.size, 0, none⟩ = some (.int .i64 0) := by go_simp
    have q1 : w1.cell? ⟨w.heap.size, 1, none⟩ = some (.int .i64 0) := by go_simp
    have hzz : w.heap.size < w1.heap.size := by simp at hz; omega
    go_wp2_with fail
    go_ret
    exact ⟨rfl, hb⟩
  · subst h1
    have hne : decide ((⟨0, m2⟩ : Stamp) = ⟨0, 0⟩) = false := stamp_eq_ff2 _ _ h2
    have H0' := Lib.hid (H0.out hne)
    have H1' := Lib.hid (H1.out hne)
    clear H0 H1 HC hne
    generalize dirI L ⟨0, m2⟩ = res at *
    generalize gotI L ⟨0, m2⟩ = x at *
    generalize hasI L ⟨0, m2⟩ = is at *
    obtain ⟨⟨i1, i2⟩, ⟨p1, p2⟩, name, dir, gone, data, ⟨b1, b2⟩⟩ := x
    unfold itV at HG
    simp only at HG H1'
    go_enter Tryz.func51, Tryz.ntmps51
    go_wp2_with fail
    refine (HG.out _ (up_alloc _ _)).mono ?_
    rintro e w1 ⟨d, rfl, hD, hb1⟩
    obtain ⟨dA, dn, dc, rfl⟩ := hD.form
    have hb := up_trans (up_trans (up_alloc w _) hb1) (up_alloc w1 (.cells #[.int .i64 i1, .int .i64 i2, .int .i64 p1, .int .i64 p2, .string name, .bool dir, .bool gone, .slice dA dn dc, .int .i64 b1, .int .i64 b2] 76))
    obtain ⟨hc1, hf1⟩ := bcell hb1
    have hz := hb1.size
    have q0 : w1.cell? ⟨w.heap.size, 0, none⟩ = some (.int .i64 0) := by go_simp
    have q1 : w1.cell? ⟨w.heap.size, 1, none⟩ = some (.int .i64 m2) := by go_simp
    have hzz : w.heap.size < w1.heap.size := by simp at hz; omega
    cases is
    · have H2 := Lib.hid (H0'.out rfl)
      go_wp2_with fail
      go_ret
      exact ⟨ret_bool H2.out.symm, hb⟩
    · go_wp2_with fail
      go_ret
      exact ⟨ret_bool H1'.out.symm, hb⟩
  · skip
    have hne : decide ((⟨m1, m2⟩ : Stamp) = ⟨0, 0⟩) = false := stamp_eq_ff1 _ _ h1
    have H0' := Lib.hid (H0.out hne)
    have H1' := Lib.hid (H1.out hne)
    clear H0 H1 HC hne
    generalize dirI L ⟨m1, m2⟩ = res at *
    generalize gotI L ⟨m1, m2⟩ = x at *
    generalize hasI L ⟨m1, m2⟩ = is at *
    obtain ⟨⟨i1, i2⟩, ⟨p1, p2⟩, name, dir, gone, data, ⟨b1, b2⟩⟩ := x
    unfold itV at HG
    simp only at HG H1'
    go_enter Tryz.func51, Tryz.ntmps51
    go_wp2_with fail
    refine (HG.out _ (up_alloc _ _)).mono ?_
    rintro e w1 ⟨d, rfl, hD, hb1⟩
    obtain ⟨dA, dn, dc, rfl⟩ := hD.form
    have hb := up_trans (up_trans (up_alloc w _) hb1) (up_alloc w1 (.cells #[.int .i64 i1, .int .i64 i2, .int .i64 p1, .int .i64 p2, .string name, .bool dir, .bool gone, .slice dA dn dc, .int .i64 b1, .int .i64 b2] 76))
    obtain ⟨hc1, hf1⟩ := bcell hb1
    have hz := hb1.size
    have q0 : w1.cell? ⟨w.heap.size, 0, none⟩ = some (.int .i64 m1) := by go_simp
    have q1 : w1.cell? ⟨w.heap.size, 1, none⟩ = some (.int .i64 m2) := by go_simp
    have hzz : w.heap.size < w1.heap.size := by simp at hz; omega
    cases is
    · have H2 := Lib.hid (H0'.out rfl)
      go_wp2_with fail
      go_ret
      exact ⟨ret_bool H2.out.symm, hb⟩
    · go_wp2_with fail
      go_ret
      exact ⟨ret_bool H1'.out.symm, hb⟩
end Go.Proofs.YtefhfoioeoijlaaGreat

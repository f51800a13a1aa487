/- RefT, GCK, RefH, PlayR -/
import Derived.BigQuiet
import Derived.Test.YtefhfoioeoijlaaGreatDoorUac
import Derived.Test.YtefhfoioeoijlaaGreatDoorUaf
import Derived.Test.YtefhfoioeoijlaaGreatDoorUah
import Derived.Test.YtefhfoioeoijlaaGreatDoorUao
set_option linter.unusedVariables false
set_option linter.unusedSimpArgs false
namespace Go.Proofs.YtefhfoioeoijlaaGreatDoor
open Go.RowKit Go.Sort
set_option maxRecDepth 4000 in
set_option maxHeartbeats 2000000 in
theorem rfind_at {B : Nat} {w : World} {ub : Nat} {L : List Item} (h : RIs B w ub L) (m1 m2 : Int) : Calls Tryz.prog 140 #[trP ub, .agg #[.int .i64 m1, .int .i64 m2]] w fun e w' => e = .returned (.int .i64 (placeI L ⟨m1, m2⟩)) ∧ Below w.heap.size w w' := by
  obtain ⟨_, v, hv, hR, _, hL⟩ := h
  obtain ⟨A, c, rfl⟩ := hR.form
  have hlt := (Array.getElem?_eq_some_iff.1 hv).1
  have hc : w.cell? ⟨ub, 0, none⟩ = some (.slice A L.length c) := by simp [World.cell?, hv]
  have HG := Lib.hid (fun (i : Nat) (x : Item) (hi : L[i]? = some x) => hR.get hi)
  have HP := Lib.hid (fun (k : Nat) (x : Item) hx e h => placeI_at (L := L) (n := ⟨m1, m2⟩) (k := k) (x := x) hx e h)
  have HN := Lib.hid (fun h => placeI_none (L := L) (n := ⟨m1, m2⟩) h)
  clear hR hv
  generalize placeI L ⟨m1, m2⟩ = res at *
  unfold trP
  go_enter Tryz.func140, Tryz.ntmps140
  go_wp2_with fail
  go_loopw [5] (fun i wr => ∃ (k n : Nat), k ≤ L.length ∧ i = .int .i64 k ∧ wr = (w.alloc (.cells #[.int .i64 m1, .int .i64 m2] 24)).drewN n ∧ Hid (∀ (j : Nat) (y : Item), j < k → L[j]? = some y → y.node ≠ ⟨m1, m2⟩)) (fun i _ => L.length - (intOf i).toNat)
  case atStart => exact ⟨0, 0, by omega, rfl, rfl, fun j y hj => by omega⟩
  case round =>
    obtain ⟨k, n, hk, rfl, rfl, H⟩ := hrel
    rcases Nat.lt_or_ge k L.length with hk1 | hk1
    · obtain ⟨g, cap, dA, dn, dc, hA, hcap, hgb, hglt, hD, hcell⟩ := HG.out k L[k] (List.getElem?_eq_getElem hk1)
      injection hA with hA1 hA2 hA3
      subst hA1
      have x0 := hcell 0 _ rfl
      have x1 := hcell 1 _ rfl
      clear hcell hD
      have HX := Lib.hid (List.getElem?_eq_getElem hk1)
      generalize L[k] = x at *
      obtain ⟨⟨i1, i2⟩, par, name, dir, gone, data, by_⟩ := x
      simp only at x0 x1
      rw [Nat.add_zero] at x0
      have hgs : g < w.heap.size + 1 := by omega
      have hul : ub < w.heap.size + 1 := by omega
      have hkI : (k : Int) < (L.length : Int) := by omega
      have hk0 : (0 : Int) ≤ (k : Int) := by omega
      clear HG
      rcases stamp_cases i1 i2 m1 m2 with ⟨h1, h2⟩ | ⟨h1, h2⟩ | h1
      · subst h1; subst h2
        go_wp2_with fail
        go_quiet (fail)
        go_wp2_with fail
        go_ret
        exact ⟨ret_int (HP.out k _ HX.out rfl H.out).symm, up_trans (up_alloc _ _) (by rw [World.drewN_drewN]; exact up_drewN _ _)⟩
      · subst h1
        go_wp2_with fail
        go_quiet (fail)
        go_wp2_with fail
        go_roundw
        case rel =>
          refine ⟨k + 1, n + nq, by omega, by go_num, rfl, fun j y hj hy => ?_⟩
          rcases Nat.lt_or_ge j k with h | h
          · exact H.out j y h hy
          · obtain rfl : j = k := by omega
            rw [HX.out] at hy
            injection hy with hy
            subst hy
            intro e
            injection e with e1 e2
            simp_all
        case measure => simp [intOf]; omega
      · skip
        go_wp2_with fail
        go_quiet (fail)
        go_wp2_with fail
        go_roundw
        case rel =>
          refine ⟨k + 1, n + nq, by omega, by go_num, rfl, fun j y hj hy => ?_⟩
          rcases Nat.lt_or_ge j k with h | h
          · exact H.out j y h hy
          · obtain rfl : j = k := by omega
            rw [HX.out] at hy
            injection hy with hy
            subst hy
            intro e
            injection e with e1 e2
            simp_all
        case measure => simp [intOf]; omega
    · have hk2 : k = L.length := by omega
      subst hk2
      go_wp2_with fail
      go_ret
      exact ⟨ret_int (HN.out fun j y hy => H.out j y (List.getElem?_eq_some_iff.1 hy).1 hy).symm, up_trans (up_alloc _ _) (up_drewN _ _)⟩
end Go.Proofs.YtefhfoioeoijlaaGreatDoor
namespace Go.Proofs.YtefhfoioeoijlaaGreatDoor
open Go.RowKit Go.Sort
theorem placeI_get {L : List Item} (n : Stamp) : (placeI L n = -1 ∧ getI L n = none) ∨ ∃ (k : Nat) (x : Item), placeI L n = k ∧ L[k]? = some x ∧ getI L n = some x := by
  unfold placeI
  by_cases h : idxI L n < L.length
  · rw [if_pos h]
    refine .inr ⟨idxI L n, L[idxI L n], rfl, List.getElem?_eq_getElem h, ?_⟩
    unfold getI idxI
    rw [List.find?_eq_some_iff_getElem]
    refine ⟨List.findIdx_getElem (w := h), _, h, rfl, fun j hj => ?_⟩
    have := List.not_of_lt_findIdx hj
    simpa using this
  · rw [if_neg h]
    refine .inl ⟨rfl, getI_none.2 fun x hx e => h ?_⟩
    exact List.findIdx_lt_length_of_exists ⟨x, hx, by simp [e]⟩
set_option maxRecDepth 4000 in
set_option maxHeartbeats 2000000 in
theorem rget_at {B : Nat} {w : World} {ub : Nat} {L : List Item} (h : RIs B w ub L) (m1 m2 : Int) : Calls Tryz.prog 79 #[trP ub, .agg #[.int .i64 m1, .int .i64 m2]] w fun e w' =>
    ∃ d, e = .returned (.tuple #[itV (gotI L ⟨m1, m2⟩) d, .bool (hasI L ⟨m1, m2⟩)]) ∧ Dat B w' d (gotI L ⟨m1, m2⟩).data ∧ Below w.heap.size w w' := by
  have HF := Lib.hid (fun (W : World) (hb : Below w.heap.size w W) => rfind_at (h.up hb) m1 m2)
  have hlt : ub < w.heap.size := by obtain ⟨_, v, hv, _⟩ := h; exact (Array.getElem?_eq_some_iff.1 hv).1
  unfold trP at HF ⊢
  rcases placeI_get (L := L) ⟨m1, m2⟩ with ⟨hp, hg⟩ | ⟨k, x, hp, hk, hg⟩
  · rw [show gotI L ⟨m1, m2⟩ = nilI by unfold gotI; rw [hg]; rfl, show hasI L ⟨m1, m2⟩ = false by unfold hasI; rw [hg]; rfl]
    rw [hp] at HF
    clear h hp hg
    go_enter Tryz.func79, Tryz.ntmps79
    go_wp2_with fail
    refine (HF.out _ (up_trans (up_alloc _ _) (up_alloc _ _))).mono ?_
    rintro e w1 ⟨rfl, hb1⟩
    have hbw := up_trans (up_trans (up_alloc w _) (up_alloc _ _)) hb1
    have hZ := (hb1.block (w.heap.size + 1) (by simp)).trans (alloc_get1 w _ _)
    obtain ⟨⟨m0, m1', m2', m3, m4, m5, m6, m7, m8, m9⟩, fm⟩ := item_cells hZ
    have ms7 : ∀ u, (w1.setCell ⟨w.heap.size + 1, 7, none⟩ u).cell? ⟨w.heap.size + 1, 7, none⟩ = some u := fun u => World.cell?_setCell_same _ _ _ m7
    go_wp2_with fail
    refine bodyPost_ret (v := .tuple #[itV nilI (.slice none 0 0), .bool false]) (by simp [results, Tryz.results24, go_sem, itV, nilI, nilS, m0, m1', m2', m3, m4, m5, m6, m7, m8, m9, ms7]) rfl ?_
    refine ⟨_, rfl, Dat.nil B _, ?_⟩
    ((repeat (first | (with_reducible exact hbw) | (with_reducible refine up_set ?_ ?_ _) | (with_reducible refine up_trans ?_ (up_drew _)))); all_goals ((try dsimp only); omega))
  · rw [show gotI L ⟨m1, m2⟩ = x by unfold gotI; rw [hg]; rfl, show hasI L ⟨m1, m2⟩ = true by unfold hasI; rw [hg]; rfl]
    rw [hp] at HF
    have HG := Lib.hid (fun (W : World) (hb : Below w.heap.size w W) => h.up hb)
    have hkl := (List.getElem?_eq_some_iff.1 hk).1
    have HK := Lib.hid hk
    clear h hp hg hk
    go_enter Tryz.func79, Tryz.ntmps79
    go_wp2_with fail
    refine (HF.out _ (up_trans (up_alloc _ _) (up_alloc _ _))).mono ?_
    rintro e w1 ⟨rfl, hb1⟩
    have hbw := up_trans (up_trans (up_alloc w _) (up_alloc _ _)) hb1
    have hZ := (hb1.block (w.heap.size + 1) (by simp)).trans (alloc_get1 w _ _)
    obtain ⟨⟨z0, z1, z2, z3, z4, z5, z6, z7, z8, z9⟩, fm⟩ := item_cells hZ
    have ms7 : ∀ u, (w1.setCell ⟨w.heap.size + 1, 7, none⟩ u).cell? ⟨w.heap.size + 1, 7, none⟩ = some u := fun u => World.cell?_setCell_same _ _ _ z7
    have NZ : NotU8 w1 (w.heap.size + 1) := NotU8.of hZ (by decide)
    obtain ⟨hub, v, hv, hR, _⟩ := HG.out w1 hbw
    obtain ⟨g, cap, dA, dn, dc, rfl, hcap, hgb, hglt, hD, hcell⟩ := hR.get HK.out
    have hcv : w1.cell? ⟨ub, 0, none⟩ = some (.slice (some ⟨g, 0, none⟩) L.length cap) := by simp [World.cell?, hv]
    obtain ⟨⟨i1, i2⟩, ⟨p1, p2⟩, name, dir, gone, data, ⟨b1, b2⟩⟩ := x
    have x0 := hcell 0 _ rfl
    have x1 := hcell 1 _ rfl
    have x2 := hcell 2 _ rfl
    have x3 := hcell 3 _ rfl
    have x4 := hcell 4 _ rfl
    have x5 := hcell 5 _ rfl
    have x6 := hcell 6 _ rfl
    have x7 := hcell 7 _ rfl
    have x8 := hcell 8 _ rfl
    have x9 := hcell 9 _ rfl
    rw [Nat.add_zero] at x0
    clear hcell HF HG hR hv hZ
    have hkI : (k : Int) < (L.length : Int) := by omega
    have hk0 : (0 : Int) ≤ (k : Int) := by omega
    have hkn : decide ((k : Int) < 0) = false := decide_eq_false (by omega)
    go_wp2_with fail
    refine bodyPost_ret (v := .tuple #[.agg #[.int .i64 i1, .int .i64 i2, .int .i64 p1, .int .i64 p2, .string name, .bool dir, .bool gone, .slice dA dn dc, .int .i64 b1, .int .i64 b2], .bool true]) (by simp [results, Tryz.results24, go_sem, z0, z1, z2, z3, z4, z5, z6, z7, z8, z9, ms7]) rfl ?_
    refine ⟨.slice dA dn dc, rfl, ?_, ?_⟩
    · ((repeat (first | (with_reducible exact hD) | (with_reducible refine Dat.set ?_ ?_ ?_ _))); all_goals first | ((try dsimp only); omega) | ((repeat (with_reducible refine NotU8.set ?_ _ _)); (with_reducible exact NZ)))
    · ((repeat (first | (with_reducible exact hbw) | (with_reducible refine up_set ?_ ?_ _) | (with_reducible refine up_trans ?_ (up_drew _)))); all_goals ((try dsimp only); omega))
end Go.Proofs.YtefhfoioeoijlaaGreatDoor
namespace Go.Proofs.YtefhfoioeoijlaaGreatDoor
open Go.RowKit Go.Sort
theorem cell_al {W : World} {p : Addr} {v : Value} (h : W.cell? p = some v) (o : Obj) : (W.alloc o).cell? p = some v := by
  rw [(up_alloc W o).cell (World.block_lt_of_cell? W p h)]; exact h
theorem frozen_al {W : World} {p : Addr} {b : Bool} (hlt : p.block < W.heap.size) (h : W.frozen? p = b) (o : Obj) : (W.alloc o).frozen? p = b := by
  rw [(up_alloc W o).frozen hlt]; exact h
set_option maxRecDepth 4000 in
set_option maxHeartbeats 2000000 in
theorem rwithin_at {B : Nat} {w : World} {ub : Nat} {L : List Item} (h : RIs B w ub L) (n1 n2 m1 m2 : Int) : Calls Tryz.prog 143 #[trP ub, .agg #[.int .i64 n1, .int .i64 n2], .agg #[.int .i64 m1, .int .i64 m2]] w fun e w' => e = .returned (.bool (withinI L ⟨n1, n2⟩ 301 ⟨m1, m2⟩)) ∧ Below w.heap.size w w' := by
  have HG := Lib.hid (fun (W : World) (hb : Below w.heap.size w W) a b => rget_at (h.up hb) a b)
  clear h
  unfold trP at HG ⊢
  go_enter Tryz.func143, Tryz.ntmps143
  go_wp2_with fail
  go_loopw [7] (fun i wr => ∃ (k : Nat) (a b : Int), k ≤ 301 ∧ i = .int .i64 k ∧ Below w.heap.size w wr ∧ w.heap.size + 1 < wr.heap.size ∧ wr.cell? ⟨w.heap.size, 0, none⟩ = some (.int .i64 n1) ∧ wr.cell? ⟨w.heap.size, 1, none⟩ = some (.int .i64 n2) ∧
    wr.cell? ⟨w.heap.size + 1, 0, none⟩ = some (.int .i64 a) ∧ wr.cell? ⟨w.heap.size + 1, 1, none⟩ = some (.int .i64 b) ∧ wr.frozen? ⟨w.heap.size + 1, 0, none⟩ = false ∧ wr.frozen? ⟨w.heap.size + 1, 1, none⟩ = false ∧
    Hid (withinI L ⟨n1, n2⟩ 301 ⟨m1, m2⟩ = withinI L ⟨n1, n2⟩ (301 - k) ⟨a, b⟩)) (fun i _ => 301 - (intOf i).toNat)
  case atStart => exact ⟨0, m1, m2, by omega, rfl, up_trans (up_alloc _ _) (up_alloc _ _), by simp, by go_simp, by go_simp, by go_simp, by go_simp, by go_simp, by go_simp, rfl⟩
  case round =>
    obtain ⟨k, a, b, hk, rfl, hb, hz, x0, x1, y0, y1, f0, f1, H⟩ := hrel
    rcases Nat.lt_or_ge k 301 with hk1 | hk1
    · have e0 : 301 - k = (300 - k) + 1 := by omega
      have H0 := H.out
      rw [e0] at H0
      have hle : decide ((k : Int) ≤ 300) = true := decide_eq_true (by omega)
      by_cases he : (⟨a, b⟩ : Stamp) = ⟨n1, n2⟩
      · have H' := Lib.hid (H0.trans (withinI_hit L _ _ _ he))
        clear H H0
        injection he with e1 e2
        subst e1; subst e2
        go_wp2_with fail
        go_ret
        exact ⟨ret_bool H'.out.symm, hb⟩
      · have HO := Lib.hid (fun hh => H0.trans (withinI_out L ⟨n1, n2⟩ ⟨a, b⟩ (300 - k) he hh))
        have HN := Lib.hid (fun hh => H0.trans (withinI_on L ⟨n1, n2⟩ ⟨a, b⟩ (300 - k) he hh))
        have HC := Lib.hid (HG.out wr hb a b)
        clear H H0
        generalize gotI L ⟨a, b⟩ = x at *
        generalize hasI L ⟨a, b⟩ = is at *
        obtain ⟨⟨i1, i2⟩, ⟨p1, p2⟩, name, dir, gone, data, ⟨b1, b2⟩⟩ := x
        unfold itV at HC
        simp only at HC HN
        have ht : (a = n1 ∧ (b == n2) = false) ∨ (a == n1) = false := by
          by_cases h1 : a = n1
          · refine .inl ⟨h1, beq_eq_false_iff_ne.2 ?_⟩
            intro h2; exact he (by rw [h1, h2])
          · exact .inr (beq_eq_false_iff_ne.2 h1)
        have HE := Lib.hid he
        clear he
        rcases ht with ⟨h1, h2⟩ | h1
        · subst h1
          go_wp2_with fail
          refine HC.out.mono ?_
          rintro e w2 ⟨d, rfl, hD, hb2⟩
          obtain ⟨dA, dn, dc, rfl⟩ := hD.form
          have hb3 := up_trans hb hb2
          have hz2 : w.heap.size + 1 < w2.heap.size := by have := hb2.size; omega
          have y0' : w2.cell? ⟨w.heap.size, 0, none⟩ = some (.int .i64 _) := (hb2.cell (p := ⟨w.heap.size, 0, none⟩) (by show w.heap.size < wr.heap.size; omega)).trans x0
          have y1' : w2.cell? ⟨w.heap.size, 1, none⟩ = some (.int .i64 n2) := (hb2.cell (p := ⟨w.heap.size, 1, none⟩) (by show w.heap.size < wr.heap.size; omega)).trans x1
          have z0' : w2.cell? ⟨w.heap.size + 1, 0, none⟩ = some (.int .i64 _) := (hb2.cell (p := ⟨w.heap.size + 1, 0, none⟩) hz).trans y0
          have z1' : w2.cell? ⟨w.heap.size + 1, 1, none⟩ = some (.int .i64 b) := (hb2.cell (p := ⟨w.heap.size + 1, 1, none⟩) hz).trans y1
          have g0 : w2.frozen? ⟨w.heap.size + 1, 0, none⟩ = false := (hb2.frozen (p := ⟨w.heap.size + 1, 0, none⟩) hz).trans f0
          have g1 : w2.frozen? ⟨w.heap.size + 1, 1, none⟩ = false := (hb2.frozen (p := ⟨w.heap.size + 1, 1, none⟩) hz).trans f1
          cases is
          · go_wp2_with fail
            go_ret
            exact ⟨ret_bool (HO.out (by simp)).symm, up_trans hb3 (up_alloc _ _)⟩
          · go_wp2_with fail
            go_roundw
            case rel =>
              refine ⟨k + 1, p1, p2, by omega, by go_num, ?_, ?_, cell_al (by go_simp) _, cell_al (by go_simp) _, cell_al (by go_simp) _, cell_al (by go_simp) _, frozen_al (by simp; omega) (by go_simp) _, frozen_al (by simp; omega) (by go_simp) _, ?_⟩
              · exact up_trans (up_set (up_set hb3 (by simp) _) (by simp) _) (up_alloc _ _)
              · simp; omega
              · have := HN.out (by simp)
                exact Lib.hid (by rw [this]; congr 1; omega)
            case measure => simp [intOf]; omega
        · skip
          go_wp2_with fail
          refine HC.out.mono ?_
          rintro e w2 ⟨d, rfl, hD, hb2⟩
          obtain ⟨dA, dn, dc, rfl⟩ := hD.form
          have hb3 := up_trans hb hb2
          have hz2 : w.heap.size + 1 < w2.heap.size := by have := hb2.size; omega
          have y0' : w2.cell? ⟨w.heap.size, 0, none⟩ = some (.int .i64 _) := (hb2.cell (p := ⟨w.heap.size, 0, none⟩) (by show w.heap.size < wr.heap.size; omega)).trans x0
          have y1' : w2.cell? ⟨w.heap.size, 1, none⟩ = some (.int .i64 n2) := (hb2.cell (p := ⟨w.heap.size, 1, none⟩) (by show w.heap.size < wr.heap.size; omega)).trans x1
          have z0' : w2.cell? ⟨w.heap.size + 1, 0, none⟩ = some (.int .i64 _) := (hb2.cell (p := ⟨w.heap.size + 1, 0, none⟩) hz).trans y0
          have z1' : w2.cell? ⟨w.heap.size + 1, 1, none⟩ = some (.int .i64 b) := (hb2.cell (p := ⟨w.heap.size + 1, 1, none⟩) hz).trans y1
          have g0 : w2.frozen? ⟨w.heap.size + 1, 0, none⟩ = false := (hb2.frozen (p := ⟨w.heap.size + 1, 0, none⟩) hz).trans f0
          have g1 : w2.frozen? ⟨w.heap.size + 1, 1, none⟩ = false := (hb2.frozen (p := ⟨w.heap.size + 1, 1, none⟩) hz).trans f1
          cases is
          · go_wp2_with fail
            go_ret
            exact ⟨ret_bool (HO.out (by simp)).symm, up_trans hb3 (up_alloc _ _)⟩
          · go_wp2_with fail
            go_roundw
            case rel =>
              refine ⟨k + 1, p1, p2, by omega, by go_num, ?_, ?_, cell_al (by go_simp) _, cell_al (by go_simp) _, cell_al (by go_simp) _, cell_al (by go_simp) _, frozen_al (by simp; omega) (by go_simp) _, frozen_al (by simp; omega) (by go_simp) _, ?_⟩
              · exact up_trans (up_set (up_set hb3 (by simp) _) (by simp) _) (up_alloc _ _)
              · simp; omega
              · have := HN.out (by simp)
                exact Lib.hid (by rw [this]; congr 1; omega)
            case measure => simp [intOf]; omega
    · have hk2 : k = 301 := by omega
      subst hk2
      go_wp2_with fail
      go_ret
      exact ⟨ret_bool H.out.symm, hb⟩
end Go.Proofs.YtefhfoioeoijlaaGreatDoor
namespace Go.Proofs.YtefhfoioeoijlaaGreatDoor
open Go.RowKit Go.Sort
theorem dirI_no {L : List Item} {n : Stamp} (h : decide (n = ⟨0, 0⟩) = false) (hh : hasI L n = false) : dirI L n = false := by
  unfold dirI
  rw [show decide (n = nilS) = false from h]
  unfold hasI at hh
  unfold gotI
  cases hg : getI L n with
  | none => rfl
  | some x => rw [hg] at hh; cases hh
theorem dirI_is {L : List Item} {n : Stamp} (h : decide (n = ⟨0, 0⟩) = false) : dirI L n = (gotI L n).dir := by
  unfold dirI
  rw [show decide (n = nilS) = false from h]
  rfl
set_option maxRecDepth 4000 in
set_option maxHeartbeats 2000000 in
theorem rdir_at {B : Nat} {w : World} {ub : Nat} {L : List Item} (h : RIs B w ub L) (m1 m2 : Int) : Calls Tryz.prog 142 #[trP ub, .agg #[.int .i64 m1, .int .i64 m2]] w fun e w' => e = .returned (.bool (dirI L ⟨m1, m2⟩)) ∧ Below w.heap.size w w' := by
  have HG := Lib.hid (fun (W : World) (hb : Below w.heap.size w W) => rget_at (h.up hb) m1 m2)
  have H0 := Lib.hid (fun h hh => dirI_no (L := L) (n := ⟨m1, m2⟩) h hh)
  have H1 := Lib.hid (fun h => dirI_is (L := L) (n := ⟨m1, m2⟩) h)
  clear h
  unfold trP at HG ⊢
  have HC : ∀ b, dirI L ⟨m1, m2⟩ = b → Hid (dirI L ⟨m1, m2⟩ = b) := fun b h => h
  rcases stamp_cases m1 m2 0 0 with ⟨h1, h2⟩ | ⟨h1, h2⟩ | h1
  · subst h1; subst h2
    rw [dirI_zero]
    clear H0 H1 HC
    generalize gotI L ⟨0, 0⟩ = x at *
    generalize hasI L ⟨0, 0⟩ = is at *
    obtain ⟨⟨i1, i2⟩, ⟨p1, p2⟩, name, dir, gone, data, ⟨b1, b2⟩⟩ := x
    unfold itV at HG
    simp only at HG
    go_enter Tryz.func142, Tryz.ntmps142
    go_wp2_with fail
    refine (HG.out _ (up_alloc _ _)).mono ?_
    rintro e w1 ⟨d, rfl, hD, hb1⟩
    obtain ⟨dA, dn, dc, rfl⟩ := hD.form
    have hb := up_trans (up_trans (up_alloc w _) hb1) (up_alloc w1 (.cells #[.int .i64 i1, .int .i64 i2, .int .i64 p1, .int .i64 p2, .string name, .bool dir, .bool gone, .slice dA dn dc, .int .i64 b1, .int .i64 b2] 127))
    obtain ⟨hc1, hf1⟩ := bcell hb1
    have hz := hb1.size
    have q0 : w1.cell? ⟨w.heap.size, 0, none⟩ = some (.int .i64 0) := by go_simp
    have q1 : w1.cell? ⟨w.heap.size, 1, none⟩ = some (.int .i64 0) := by go_simp
    have hzz : w.heap.size < w1.heap.size := by simp at hz; omega
    go_wp2_with fail
    go_ret
    exact ⟨rfl, hb⟩
  · subst h1
    have hne : decide ((⟨0, m2⟩ : Stamp) = ⟨0, 0⟩) = false := stamp_eq_ff2 _ _ h2
    have H0' := Lib.hid (H0.out hne)
    have H1' := Lib.hid (H1.out hne)
    clear H0 H1 HC hne
    generalize dirI L ⟨0, m2⟩ = res at *
    generalize gotI L ⟨0, m2⟩ = x at *
    generalize hasI L ⟨0, m2⟩ = is at *
    obtain ⟨⟨i1, i2⟩, ⟨p1, p2⟩, name, dir, gone, data, ⟨b1, b2⟩⟩ := x
    unfold itV at HG
    simp only at HG H1'
    go_enter Tryz.func142, Tryz.ntmps142
    go_wp2_with fail
    refine (HG.out _ (up_alloc _ _)).mono ?_
    rintro e w1 ⟨d, rfl, hD, hb1⟩
    obtain ⟨dA, dn, dc, rfl⟩ := hD.form
    have hb := up_trans (up_trans (up_alloc w _) hb1) (up_alloc w1 (.cells #[.int .i64 i1, .int .i64 i2, .int .i64 p1, .int .i64 p2, .string name, .bool dir, .bool gone, .slice dA dn dc, .int .i64 b1, .int .i64 b2] 127))
    obtain ⟨hc1, hf1⟩ := bcell hb1
    have hz := hb1.size
    have q0 : w1.cell? ⟨w.heap.size, 0, none⟩ = some (.int .i64 0) := by go_simp
    have q1 : w1.cell? ⟨w.heap.size, 1, none⟩ = some (.int .i64 m2) := by go_simp
    have hzz : w.heap.size < w1.heap.size := by simp at hz; omega
    cases is
    · have H2 := Lib.hid (H0'.out rfl)
      go_wp2_with fail
      go_ret
      exact ⟨ret_bool H2.out.symm, hb⟩
    · go_wp2_with fail
      go_ret
      exact ⟨ret_bool H1'.out.symm, hb⟩
  · skip
    have hne : decide ((⟨m1, m2⟩ : Stamp) = ⟨0, 0⟩) = false := stamp_eq_ff1 _ _ h1
    have H0' := Lib.hid (H0.out hne)
    have H1' := Lib.hid (H1.out hne)
    clear H0 H1 HC hne
    generalize dirI L ⟨m1, m2⟩ = res at *
    generalize gotI L ⟨m1, m2⟩ = x at *
    generalize hasI L ⟨m1, m2⟩ = is at *
    obtain ⟨⟨i1, i2⟩, ⟨p1, p2⟩, name, dir, gone, data, ⟨b1, b2⟩⟩ := x
    unfold itV at HG
    simp only at HG H1'
    go_enter Tryz.func142, Tryz.ntmps142
    go_wp2_with fail
    refine (HG.out _ (up_alloc _ _)).mono ?_
    rintro e w1 ⟨d, rfl, hD, hb1⟩
    obtain ⟨dA, dn, dc, rfl⟩ := hD.form
    have hb := up_trans (up_trans (up_alloc w _) hb1) (up_alloc w1 (.cells #[.int .i64 i1, .int .i64 i2, .int .i64 p1, .int .i64 p2, .string name, .bool dir, .bool gone, .slice dA dn dc, .int .i64 b1, .int .i64 b2] 127))
    obtain ⟨hc1, hf1⟩ := bcell hb1
    have hz := hb1.size
    have q0 : w1.cell? ⟨w.heap.size, 0, none⟩ = some (.int .i64 m1) := by go_simp
    have q1 : w1.cell? ⟨w.heap.size, 1, none⟩ = some (.int .i64 m2) := by go_simp
    have hzz : w.heap.size < w1.heap.size := by simp at hz; omega
    cases is
    · have H2 := Lib.hid (H0'.out rfl)
      go_wp2_with fail
      go_ret
      exact ⟨ret_bool H2.out.symm, hb⟩
    · go_wp2_with fail
      go_ret
      exact ⟨ret_bool H1'.out.symm, hb⟩
end Go.Proofs.YtefhfoioeoijlaaGreatDoor
set_option linter.unusedVariables false
set_option linter.unusedSimpArgs false
namespace Go.Proofs.YtefhfoioeoijlaaGreatDoor
open Go Go.RowKit Go.Sort
set_option maxHeartbeats 2000000 in
theorem rkids_at {B : Nat} {w : World} {ub : Nat} {L : List Item} (h : RIs B w ub L) (hB : B ≤ w.heap.size) (m1 m2 : Int) :
    Calls Tryz.prog 87 #[trP ub, .agg #[.int .i64 m1, .int .i64 m2]] w fun e w' => ∃ v, e = .returned v ∧ IRow 127 B w.heap.size w' v (kidsI ⟨m1, m2⟩ L) ∧ Up w w' := by
  obtain ⟨huub, v, hv, hl, hne, hL⟩ := h
  rw [rowI_is] at hl
  obtain ⟨lA, lc, rfl⟩ := hl.form
  obtain ⟨ii_r, iz_r, hi_r, hz_r, hs_r, hb_r, hc_r⟩ := info_ritem
  go_enter Tryz.func87, Tryz.ntmps87
  refine wp_seq (rg_lit (wl (sn rfl (cs := #[I_ m1, I_ m2]) (T := 24) (V := fun b => pt b 0) (r_box (v := .agg #[I_ m1, I_ m2]) (by kernel_rfl) rfl) fun b1 w2 _ h4 u5 => ?_)))
  have M7 := mtu (Mod.refl [] w) u5
  refine was (v := .slice none 0 0) (wnil (then_n (wp_seq (rg_lit (was (v := .slice none 0 0) (wnil (then_n (wp_seq (wp_seq (rg_lit (was (v := I_ 0) (wnil (then_n (wp_block ?_))))))))))))))
  refine lp (fun n a r1 => ∃ (k : Nat) (oA : Option Addr) (on : Nat) (oc : Nat), (n = L.length - k) ∧ (HasFr a 48 [(0, pt ub 0), (1, .agg #[I_ m1, I_ m2]), (3, pt b1 0), (4, .slice none 0 0), (5, .slice oA on oc), (6, I_ k)] []) ∧ (Mod [] w2 r1) ∧ (k ≤ L.length) ∧ (IRow 127 B w2.heap.size r1 (.slice oA on oc) (kidsI ⟨m1, m2⟩ (L.take k)))) ⟨_, 0, none, 0, 0, rfl, hmk, Mod.refl _ _, Nat.zero_le _, IRow.nil _ _ _ _⟩ ?_
  rintro _ _ r1 ⟨k, oA, on, oc, rfl, h10, hM1, _, hF1_1⟩
  obtain ⟨_, rfl⟩ := h10
  have M11 := Mod.thin M7 hM1 (by simp)
  refine wp_seq (wp_seq (rg_lit (wmv (v := I_ k) (wmv (v := pt ub 0) (wlv (v := pt ub 0) (nck) (wlv (v := pt ub 0) (fa (pt ub 0)) ?_))))))
  have h12 := md_ob M11 nin0 hv
  refine wlv (v := .slice lA L.length lc) (ld 0 Ty.ag64 h12) (wlv (v := I_ L.length) (ln lA L.length lc Ty.un64) (wl (sb rfl (ltI k L.length) fun _ k14 => wnil (then_n ?_))))
  refine bcd k14 (fun v15 p16 => ?_) (fun v15 p16 => ?_)
  ·
   refine wp_cond_false (ebk v15) (wp_exit (then_x (by nofun) (then_x (by nofun) (inb_hit (then_n (wp_seq (rg_lit (wmv (v := .slice oA on oc) (was (v := .slice oA on oc) (wnil (then_n (wp_ret ?_))))))))))))
   refine br1 (v := .slice oA on oc) rfl ?_
   refine ⟨_, rfl, ?_, (Mod.up M11)⟩
   have hk : L.take k = L := List.take_of_length_le (by omega)
   rw [hk] at hF1_1; exact IRow.base hF1_1 M7.size
  have q18 : k < L.length := by omega
  refine wp_cond_true (ebk v15) (wp_skip (then_n (wp_seq (wp_block (wp_seq ?_)))))
  refine rg_all (by kernel_rfl) (by kernel_rfl) ?_
  refine qmv (v := pt ub 0) (qv rfl (v := pt ub 0) (fun _ _ => nck) (qv rfl (v := pt ub 0) (fun _ _ => fa (pt ub 0)) (qv rfl (v := .slice lA L.length lc) (fun _ uz => ld 0 Ty.ag64 (up_ob uz h12)) (qmv (v := I_ k) ?_))))
  have h19 := (IRow.up hl (Mod.up M11))
  obtain ⟨y20, hy20⟩ : ∃ x, L[k]? = some x := ⟨_, List.getElem?_eq_getElem q18⟩
  obtain ⟨g20, _, cu20, dA20, dn20, dc20, hA20, _, hb20, he20, _⟩ := h19.get hy20
  injection hA20 with hA20 _ _
  replace he20 : (cu20.toList.drop (0 + k * 10)).take 10 = (itC y20 (.slice dA20 dn20 dc20)) := by rw [Nat.zero_add]; exact he20
  refine qv rfl (v := pt g20 (0 + k * 10)) (fun _ _ => ixa L.length lc 10 k hA20 Ty.un64 Ty.sz127) (qv rfl (v := pt g20 (0 + k * 10 + 2)) (fun _ _ => fa (pt g20 (0 + k * 10))) (qv rfl (v := .agg #[I_ y20.parent.t, I_ y20.parent.w]) (fun _ uz => r_loads (k := 0 + k * 10 + 2) (by kernel_rfl) Ty.ag24 Ty.sz24 (up_ob uz hb20) (el_sub he20 2 rfl)) (qv rfl (v := .agg #[I_ m1, I_ m2]) (fun _ uz => lds 0 Ty.ag24 Ty.sz24 (up_ob uz (md_ob hM1 nin0 h4))) ?_)))
  refine qb rfl (fun _ _ => r_eqS (a := y20.parent.t) (b := y20.parent.w) (c := m1) (e := m2) (by kernel_rfl) (by kernel_rfl)) fun b22 k23 => ?_
  refine qmv (v := B_ b22) ?_
  refine bcd k23 (fun v24 p25 => ?_) (fun v24 p25 => ?_)
  ·
   iterate 9 refine qls rfl v24 ?_
   refine qv rfl (v := B_ false) (fun _ _ => pkF (ebk v24)) ?_
   refine qnil fun _ u27 => ?_
   refine then_n (wp_cond_false (by kernel_rfl) (wp_skip (inb_n (then_n (rg_lit (wmv (v := I_ k) (wlv (v := I_ ((k : Int) + 1)) (adN k 1) (was (v := I_ ((k : Int) + 1)) (wnil (then_n ?_))))))))))
   refine ⟨L.length - (k + 1), ?_, (k + 1), oA, on, oc, rfl, hmk, (mtu hM1 u27), (by omega), (by rw [kids_no hy20 (.inl p25)]; exact (IRow.up hF1_1 u27))⟩
   · omega
  refine qv (wt (b := b22) rfl (by kernel_rfl) v24) (v := pt ub 0) (fun _ _ => mv) (qv (wt (b := b22) rfl (by kernel_rfl) v24) (v := pt ub 0) (fun _ _ => nck) (qv (wt (b := b22) rfl (by kernel_rfl) v24) (v := pt ub 0) (fun _ _ => fa (pt ub 0)) (qv (wt (b := b22) rfl (by kernel_rfl) v24) (v := .slice lA L.length lc) (fun _ uz => ld 0 Ty.ag64 (up_ob uz h12)) (qv (wt (b := b22) rfl (by kernel_rfl) v24) (v := I_ k) (fun _ _ => mv) ?_))))
  obtain ⟨g26, _, cu26, dA26, dn26, dc26, hA26, _, hb26, he26, _⟩ := h19.get hy20
  injection hA26 with hA26 _ _
  replace he26 : (cu26.toList.drop (0 + k * 10)).take 10 = (itC y20 (.slice dA26 dn26 dc26)) := by rw [Nat.zero_add]; exact he26
  refine qv (wt (b := b22) rfl (by kernel_rfl) v24) (v := pt g26 (0 + k * 10)) (fun _ _ => ixa L.length lc 10 k hA26 Ty.un64 Ty.sz127) (qv (wt (b := b22) rfl (by kernel_rfl) v24) (v := pt g26 (0 + k * 10 + 6)) (fun _ _ => fa (pt g26 (0 + k * 10))) (qv (wt (b := b22) rfl (by kernel_rfl) v24) (v := B_ y20.gone) (fun _ uz => r_load (k := 0 + k * 10 + 6) (v := B_ y20.gone) (by kernel_rfl) Ty.ag4 (up_ob uz hb26) (el_get he26 6 rfl)) (qv (wt (b := b22) rfl (by kernel_rfl) v24) (v := B_ (!y20.gone)) (fun _ _ => r_not (b := y20.gone) (by kernel_rfl)) (qv rfl (v := B_ (!y20.gone)) (fun _ _ => pkT (ebk v24)) ?_))))
  refine qnil fun _ u28 => ?_
  have M29 := mtu M11 u28
  have M30 := mtu hM1 u28
  refine then_n ?_
  refine bcase y20.gone (fun v31 => ?_) (fun v31 => ?_)
  ·
   refine wp_cond_true (ebk (bneg v31)) (rg_lit (wmv (v := .slice oA on oc) (wmv (v := pt ub 0) (wlv (v := pt ub 0) (nck) (wlv (v := pt ub 0) (fa (pt ub 0)) (wlv (v := .slice lA L.length lc) (ld 0 Ty.ag64 (md_ob M29 nin0 hv)) (wmv (v := I_ k) ?_)))))))
   have h33 := (IRow.up hl (Mod.up M29))
   obtain ⟨g34, _, cu34, dA34, dn34, dc34, hA34, _, hb34, he34, hD34⟩ := h33.get hy20
   injection hA34 with hA34 _ _
   replace he34 : (cu34.toList.drop (0 + k * 10)).take 10 = (itC y20 (.slice dA34 dn34 dc34)) := by rw [Nat.zero_add]; exact he34
   refine wlv (v := pt g34 (0 + k * 10)) (ixa L.length lc 10 k hA34 Ty.un64 Ty.sz127) (wlv (v := itV y20 (.slice dA34 dn34 dc34)) (r_loads (k := 0 + k * 10) (by kernel_rfl) Ty.ag127 Ty.sz127 hb34 (el_sub0 he34 rfl)) (wl (sn rfl (cs := (itC y20 (.slice dA34 dn34 dc34)).toArray) (T := 127) (V := fun b => sl b 0 1 1) (r_buildSlice (n := 1) (ps := [(0, itV y20 (.slice dA34 dn34 dc34))]) Ty.un64 Ty.sz127 Ty.zv127 (by decide) (by decide) (by kernel_rfl) (by kernel_rfl)) fun _ _ _ h38 u39 => ?_)))
   have M43 := mtu M30 u39
   have h44 := (IRow.up (IRow.up hF1_1 u28) u39)
   refine wl (snI rfl (L := (kidsI ⟨m1, m2⟩ (L.take k))) (x := y20) (e := .slice dA34 dn34 dc34) (by kernel_rfl) (by kernel_rfl) h44 Ty.un64 hi_r hz_r hs_r hb_r hc_r h38 (Dat.up hD34 u39) (by decide) (Nat.le_trans hB M7.size) M43.size (by have := kids_len ⟨m1, m2⟩ (L.take k); simp at this; omega) fun A46 n47 c48 w49 e50 h51 u52 => was (v := .slice A46 n47 c48) (wnil (inb_n (then_n (rg_lit (wmv (v := I_ k) (wlv (v := I_ ((k : Int) + 1)) (adN k 1) (was (v := I_ ((k : Int) + 1)) (wnil (then_n ?_))))))))))
   refine ⟨L.length - (k + 1), ?_, (k + 1), A46, n47, c48, rfl, hmk, (Mod.trans' M43 u52 (fun k hk => Nat.le_trans (Nat.le_refl _) (h44.own k hk).1)), (by omega), (by rw [kids_yes hy20 p25 v31]; exact h51)⟩
   · omega
  refine wp_cond_false (ebk (bneg v31)) (wp_skip (inb_n (then_n (rg_lit (wmv (v := I_ k) (wlv (v := I_ ((k : Int) + 1)) (adN k 1) (was (v := I_ ((k : Int) + 1)) (wnil (then_n ?_)))))))))
  refine ⟨L.length - (k + 1), ?_, (k + 1), oA, on, oc, rfl, hmk, M30, (by omega), (by rw [kids_no hy20 (.inr v31)]; exact (IRow.up hF1_1 u28))⟩
  · omega
end Go.Proofs.YtefhfoioeoijlaaGreatDoor
set_option linter.unusedVariables false
set_option linter.unusedSimpArgs false
namespace Go.Proofs.YtefhfoioeoijlaaGreatDoor
open Go.RowKit Go.Sort
set_option maxRecDepth 4000 in
set_option maxHeartbeats 2000000 in
theorem rhangs_at {B : Nat} {w : World} {ub : Nat} {L : List Item} (h : RIs B w ub L) (m1 m2 : Int) : Calls Tryz.prog 78 #[trP ub, .agg #[.int .i64 m1, .int .i64 m2]] w fun e w' => e = .returned (.bool (hangsI L 301 ⟨m1, m2⟩)) ∧ Below w.heap.size w w' := by
  have HG := Lib.hid (fun (W : World) (hb : Below w.heap.size w W) a b => rget_at (h.up hb) a b)
  clear h
  unfold trP at HG ⊢
  go_enter Tryz.func78, Tryz.ntmps78
  go_wp2_with fail
  go_loopw [5] (fun i wr => ∃ (k : Nat) (a b : Int), k ≤ 301 ∧ i = .int .i64 k ∧ Below w.heap.size w wr ∧ w.heap.size < wr.heap.size ∧
    wr.cell? ⟨w.heap.size, 0, none⟩ = some (.int .i64 a) ∧ wr.cell? ⟨w.heap.size, 1, none⟩ = some (.int .i64 b) ∧ wr.frozen? ⟨w.heap.size, 0, none⟩ = false ∧ wr.frozen? ⟨w.heap.size, 1, none⟩ = false ∧
    Hid (hangsI L 301 ⟨m1, m2⟩ = hangsI L (301 - k) ⟨a, b⟩)) (fun i _ => 301 - (intOf i).toNat)
  case atStart => exact ⟨0, m1, m2, by omega, rfl, up_alloc _ _, by simp, by go_simp, by go_simp, by go_simp, by go_simp, rfl⟩
  case round =>
    obtain ⟨k, a, b, hk, rfl, hb, hz, y0, y1, f0, f1, H⟩ := hrel
    rcases Nat.lt_or_ge k 301 with hk1 | hk1
    · have e0 : 301 - k = (300 - k) + 1 := by omega
      have H0 := H.out
      rw [e0] at H0
      by_cases he : (⟨a, b⟩ : Stamp) = ⟨0, 0⟩
      · have H' := Lib.hid (H0.trans (hangsI_hit L _ _ he))
        clear H H0
        injection he with e1 e2
        subst e1; subst e2
        go_wp2_with fail
        go_ret
        exact ⟨ret_bool H'.out.symm, hb⟩
      · have HO := Lib.hid (fun hh => H0.trans (hangsI_out L ⟨a, b⟩ (300 - k) he hh))
        have HGo := Lib.hid (fun hh => H0.trans (hangsI_gone L ⟨a, b⟩ (300 - k) he hh))
        have HN := Lib.hid (fun hh hh' => H0.trans (hangsI_on L ⟨a, b⟩ (300 - k) he hh hh'))
        have HC := Lib.hid (HG.out wr hb a b)
        clear H H0
        generalize gotI L ⟨a, b⟩ = x at *
        generalize hasI L ⟨a, b⟩ = is at *
        obtain ⟨⟨i1, i2⟩, ⟨p1, p2⟩, name, dir, gone, data, ⟨b1, b2⟩⟩ := x
        unfold itV at HC
        simp only at HC HN HGo
        have ht : (a = 0 ∧ (b == 0) = false) ∨ (a == 0) = false := by
          by_cases h1 : a = 0
          · refine .inl ⟨h1, beq_eq_false_iff_ne.2 ?_⟩
            intro h2; exact he (by rw [h1, h2])
          · exact .inr (beq_eq_false_iff_ne.2 h1)
        have HE := Lib.hid he
        clear he
        rcases ht with ⟨h1, h2⟩ | h1
        · subst h1
          go_wp2_with fail
          refine HC.out.mono ?_
          rintro e w2 ⟨d, rfl, hD, hb2⟩
          obtain ⟨dA, dn, dc, rfl⟩ := hD.form
          have hb3 := up_trans hb hb2
          have hz2 : w.heap.size < w2.heap.size := by have := hb2.size; omega
          have z0' : w2.cell? ⟨w.heap.size, 0, none⟩ = some (.int .i64 _) := (hb2.cell (p := ⟨w.heap.size, 0, none⟩) hz).trans y0
          have z1' : w2.cell? ⟨w.heap.size, 1, none⟩ = some (.int .i64 b) := (hb2.cell (p := ⟨w.heap.size, 1, none⟩) hz).trans y1
          have g0 : w2.frozen? ⟨w.heap.size, 0, none⟩ = false := (hb2.frozen (p := ⟨w.heap.size, 0, none⟩) hz).trans f0
          have g1 : w2.frozen? ⟨w.heap.size, 1, none⟩ = false := (hb2.frozen (p := ⟨w.heap.size, 1, none⟩) hz).trans f1
          cases is
          · go_wp2_with fail
            go_ret
            exact ⟨ret_bool (HO.out (by simp)).symm, up_trans hb3 (up_alloc _ _)⟩
          · cases gone
            · go_wp2_with fail
              go_roundw
              case rel =>
                refine ⟨k + 1, p1, p2, by omega, by go_num, ?_, ?_, cell_al (by go_simp) _, cell_al (by go_simp) _, frozen_al (by simp; omega) (by go_simp) _, frozen_al (by simp; omega) (by go_simp) _, ?_⟩
                · exact up_trans (up_set (up_set hb3 (by simp) _) (by simp) _) (up_alloc _ _)
                · simp; omega
                · have := HN.out (by simp) (by simp)
                  exact Lib.hid (by rw [this]; congr 1; omega)
              case measure => simp [intOf]; omega
            · go_wp2_with fail
              go_ret
              exact ⟨ret_bool (HGo.out (by simp)).symm, up_trans hb3 (up_alloc _ _)⟩
        · skip
          go_wp2_with fail
          refine HC.out.mono ?_
          rintro e w2 ⟨d, rfl, hD, hb2⟩
          obtain ⟨dA, dn, dc, rfl⟩ := hD.form
          have hb3 := up_trans hb hb2
          have hz2 : w.heap.size < w2.heap.size := by have := hb2.size; omega
          have z0' : w2.cell? ⟨w.heap.size, 0, none⟩ = some (.int .i64 _) := (hb2.cell (p := ⟨w.heap.size, 0, none⟩) hz).trans y0
          have z1' : w2.cell? ⟨w.heap.size, 1, none⟩ = some (.int .i64 b) := (hb2.cell (p := ⟨w.heap.size, 1, none⟩) hz).trans y1
          have g0 : w2.frozen? ⟨w.heap.size, 0, none⟩ = false := (hb2.frozen (p := ⟨w.heap.size, 0, none⟩) hz).trans f0
          have g1 : w2.frozen? ⟨w.heap.size, 1, none⟩ = false := (hb2.frozen (p := ⟨w.heap.size, 1, none⟩) hz).trans f1
          cases is
          · go_wp2_with fail
            go_ret
            exact ⟨ret_bool (HO.out (by simp)).symm, up_trans hb3 (up_alloc _ _)⟩
          · cases gone
            · go_wp2_with fail
              go_roundw
              case rel =>
                refine ⟨k + 1, p1, p2, by omega, by go_num, ?_, ?_, cell_al (by go_simp) _, cell_al (by go_simp) _, frozen_al (by simp; omega) (by go_simp) _, frozen_al (by simp; omega) (by go_simp) _, ?_⟩
                · exact up_trans (up_set (up_set hb3 (by simp) _) (by simp) _) (up_alloc _ _)
                · simp; omega
                · have := HN.out (by simp) (by simp)
                  exact Lib.hid (by rw [this]; congr 1; omega)
              case measure => simp [intOf]; omega
            · go_wp2_with fail
              go_ret
              exact ⟨ret_bool (HGo.out (by simp)).symm, up_trans hb3 (up_alloc _ _)⟩
    · have hk2 : k = 301 := by omega
      subst hk2
      go_wp2_with fail
      go_ret
      exact ⟨ret_bool H.out.symm, hb⟩
end Go.Proofs.YtefhfoioeoijlaaGreatDoor
set_option linter.unusedVariables false
set_option linter.unusedSimpArgs false
namespace Go.Proofs.YtefhfoioeoijlaaGreatDoor
open Go Go.RowKit Go.Sort Go.Shelf
theorem rget_x {B : Nat} {w : World} {ub : Nat} {L : List Item} (h : RIs B w ub L) (m1 m2 : Int) : Calls Tryz.prog 79 #[trP ub, .agg #[.int .i64 m1, .int .i64 m2]] w fun e w' =>
    ∃ A k c, e = .returned (.tuple #[itV (gotI L ⟨m1, m2⟩) (.slice A k c), .bool (hasI L ⟨m1, m2⟩)]) ∧ Dat B w' (.slice A k c) (gotI L ⟨m1, m2⟩).data ∧ Up w w' := by
  refine (rget_at h m1 m2).mono ?_
  rintro e w' ⟨d, rfl, hD, u⟩
  obtain ⟨A, k, c, rfl⟩ := hD.form
  exact ⟨A, k, c, rfl, hD, u⟩
end Go.Proofs.YtefhfoioeoijlaaGreatDoor

/- The document's tree: Hangs, dir. -/
import Derived.Test.YtefhfoioeoijlaaRefD
set_option linter.unusedVariables false
set_option linter.unusedSimpArgs false
namespace Go.Proofs.Ytefhfoioeoijlaa
open Go.RowKit Go.Sort

set_option maxRecDepth 4000 in
set_option maxHeartbeats 2000000 in
theorem rhangs_at {B : Nat} {w : World} {ub : Nat} {L : List Item} (h : RIs B w ub L) (m1 m2 : Int) : Calls Try.prog 28 #[trP ub, .agg #[.int .i64 m1, .int .i64 m2]] w fun e w' => e = .returned (.bool (hangsI L 301 ⟨m1, m2⟩)) ∧ Below w.heap.size w w' := by
  have HG := Lib.hid (fun (W : World) (hb : Below w.heap.size w W) a b => rget_at (h.up hb) a b)
  clear h
  unfold trP at HG ⊢
  go_enter Try.func28, Try.ntmps28
  go_wp2_with fail
  go_loopw [5] (fun i wr => ∃ (k : Nat) (a b : Int), k ≤ 301 ∧ i = .int .i64 k ∧ Below w.heap.size w wr ∧ w.heap.size < wr.heap.size ∧
    wr.cell? ⟨w.heap.size, 0, none⟩ = some (.int .i64 a) ∧ wr.cell? ⟨w.heap.size, 1, none⟩ = some (.int .i64 b) ∧ wr.frozen? ⟨w.heap.size, 0, none⟩ = false ∧ wr.frozen? ⟨w.heap.size, 1, none⟩ = false ∧
    Hid (hangsI L 301 ⟨m1, m2⟩ = hangsI L (301 - k) ⟨a, b⟩)) (fun i _ => 301 - (intOf i).toNat)
  case atStart => exact ⟨0, m1, m2, by omega, rfl, up_alloc _ _, by simp, by go_simp, by go_simp, by go_simp, by go_simp, rfl⟩
  case round =>
    obtain ⟨k, a, b, hk, rfl, hb, hz, y0, y1, f0, f1, H⟩ := hrel
    rcases Nat.lt_or_ge k 301 with hk1 | hk1
    · have e0 : 301 - k = (300 - k) + 1 := by omega
      have H0 := H.out
      rw [e0] at H0
      by_cases he : (⟨a, b⟩ : Stamp) = ⟨0, 0⟩
      · have H' := Lib.hid (H0.trans (hangsI_hit L _ _ he))
        clear H H0
        injection he with e1 e2
        subst e1; subst e2
        go_wp2_with fail
        go_ret
        exact ⟨ret_bool H'.out.symm, hb⟩
      · have HO := Lib.hid (fun hh => H0.trans (hangsI_out L ⟨a, b⟩ (300 - k) he hh))
        have HGo := Lib.hid (fun hh => H0.trans (hangsI_gone L ⟨a, b⟩ (300 - k) he hh))
        have HN := Lib.hid (fun hh hh' => H0.trans (hangsI_on L ⟨a, b⟩ (300 - k) he hh hh'))
        have HC := Lib.hid (HG.out wr hb a b)
        clear H H0
        generalize gotI L ⟨a, b⟩ = x at *
        generalize hasI L ⟨a, b⟩ = is at *
        obtain ⟨⟨i1, i2⟩, ⟨p1, p2⟩, name, dir, gone, data, ⟨b1, b2⟩⟩ := x
        unfold itV at HC
        simp only at HC HN HGo
        have ht : (a = 0 ∧ (b == 0) = false) ∨ (a == 0) = false := by
          by_cases h1 : a = 0
          · refine .inl ⟨h1, beq_eq_false_iff_ne.2 ?_⟩
            intro h2; exact he (by rw [h1, h2])
          · exact .inr (beq_eq_false_iff_ne.2 h1)
        have HE := Lib.hid he
        clear he
        rcases ht with ⟨h1, h2⟩ | h1
        · subst h1
          go_wp2_with fail
          refine HC.out.mono ?_
          rintro e w2 ⟨d, rfl, hD, hb2⟩
          obtain ⟨dA, dn, dc, rfl⟩ := hD.form
          have hb3 := up_trans hb hb2
          have hz2 : w.heap.size < w2.heap.size := by have := hb2.size; omega
          have z0' : w2.cell? ⟨w.heap.size, 0, none⟩ = some (.int .i64 _) := (hb2.cell (p := ⟨w.heap.size, 0, none⟩) hz).trans y0
          have z1' : w2.cell? ⟨w.heap.size, 1, none⟩ = some (.int .i64 b) := (hb2.cell (p := ⟨w.heap.size, 1, none⟩) hz).trans y1
          have g0 : w2.frozen? ⟨w.heap.size, 0, none⟩ = false := (hb2.frozen (p := ⟨w.heap.size, 0, none⟩) hz).trans f0
          have g1 : w2.frozen? ⟨w.heap.size, 1, none⟩ = false := (hb2.frozen (p := ⟨w.heap.size, 1, none⟩) hz).trans f1
          cases is
          · go_wp2_with fail
            go_ret
            exact ⟨ret_bool (HO.out (by simp)).symm, up_trans hb3 (up_alloc _ _)⟩
          · cases gone
            · go_wp2_with fail
              go_roundw
              case rel =>
                refine ⟨k + 1, p1, p2, by omega, by go_num, ?_, ?_, cell_al (by go_simp) _, cell_al (by go_simp) _, frozen_al (by simp; omega) (by go_simp) _, frozen_al (by simp; omega) (by go_simp) _, ?_⟩
                · exact up_trans (up_set (up_set hb3 (by simp) _) (by simp) _) (up_alloc _ _)
                · simp; omega
                · have := HN.out (by simp) (by simp)
                  exact Lib.hid (by rw [this]; congr 1; omega)
              case measure => simp [intOf]; omega
            · go_wp2_with fail
              go_ret
              exact ⟨ret_bool (HGo.out (by simp)).symm, up_trans hb3 (up_alloc _ _)⟩
        · skip
          go_wp2_with fail
          refine HC.out.mono ?_
          rintro e w2 ⟨d, rfl, hD, hb2⟩
          obtain ⟨dA, dn, dc, rfl⟩ := hD.form
          have hb3 := up_trans hb hb2
          have hz2 : w.heap.size < w2.heap.size := by have := hb2.size; omega
          have z0' : w2.cell? ⟨w.heap.size, 0, none⟩ = some (.int .i64 _) := (hb2.cell (p := ⟨w.heap.size, 0, none⟩) hz).trans y0
          have z1' : w2.cell? ⟨w.heap.size, 1, none⟩ = some (.int .i64 b) := (hb2.cell (p := ⟨w.heap.size, 1, none⟩) hz).trans y1
          have g0 : w2.frozen? ⟨w.heap.size, 0, none⟩ = false := (hb2.frozen (p := ⟨w.heap.size, 0, none⟩) hz).trans f0
          have g1 : w2.frozen? ⟨w.heap.size, 1, none⟩ = false := (hb2.frozen (p := ⟨w.heap.size, 1, none⟩) hz).trans f1
          cases is
          · go_wp2_with fail
            go_ret
            exact ⟨ret_bool (HO.out (by simp)).symm, up_trans hb3 (up_alloc _ _)⟩
          · cases gone
            · go_wp2_with fail
              go_roundw
              case rel =>
                refine ⟨k + 1, p1, p2, by omega, by go_num, ?_, ?_, cell_al (by go_simp) _, cell_al (by go_simp) _, frozen_al (by simp; omega) (by go_simp) _, frozen_al (by simp; omega) (by go_simp) _, ?_⟩
                · exact up_trans (up_set (up_set hb3 (by simp) _) (by simp) _) (up_alloc _ _)
                · simp; omega
                · have := HN.out (by simp) (by simp)
                  exact Lib.hid (by rw [this]; congr 1; omega)
              case measure => simp [intOf]; omega
            · go_wp2_with fail
              go_ret
              exact ⟨ret_bool (HGo.out (by simp)).symm, up_trans hb3 (up_alloc _ _)⟩
    · have hk2 : k = 301 := by omega
      subst hk2
      go_wp2_with fail
      go_ret
      exact ⟨ret_bool H.out.symm, hb⟩
end Go.Proofs.Ytefhfoioeoijlaa

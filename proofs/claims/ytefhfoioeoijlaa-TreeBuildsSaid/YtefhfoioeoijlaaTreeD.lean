/- The tree: Within, Hangs. -/
import Derived.Test.YtefhfoioeoijlaaTreeC
set_option linter.unusedVariables false
set_option linter.unusedSimpArgs false
namespace Go.Proofs.Ytefhfoioeoijlaa
open Go.RowKit Go.Sort

theorem cell_ad {W : World} {p : Addr} {v : Value} (h : W.cell? p = some v) (o : Obj) : (W.alloc o).drew.cell? p = some v := by
  rw [(up_trans (up_alloc W o) (up_drew _)).cell (World.block_lt_of_cell? W p h)]; exact h
theorem frozen_ad {W : World} {p : Addr} {b : Bool} (hlt : p.block < W.heap.size) (h : W.frozen? p = b) (o : Obj) : (W.alloc o).drew.frozen? p = b := by
  rw [(up_trans (up_alloc W o) (up_drew _)).frozen hlt]; exact h

theorem withinI_hit (L : List Item) (n m : Stamp) (f : Nat) (h : m = n) : withinI L n (f + 1) m = true := by simp [withinI, h]
theorem withinI_out (L : List Item) (n m : Stamp) (f : Nat) (h : m ≠ n) (hh : hasI L m = false) : withinI L n (f + 1) m = false := by
  simp only [withinI, h, if_false]
  unfold hasI at hh
  cases hg : getI L m with
  | none => rfl
  | some x => rw [hg] at hh; cases hh
theorem withinI_on (L : List Item) (n m : Stamp) (f : Nat) (h : m ≠ n) (hh : hasI L m = true) : withinI L n (f + 1) m = withinI L n f (gotI L m).parent := by
  simp only [withinI, h, if_false]
  unfold hasI at hh
  cases hg : getI L m with
  | none => rw [hg] at hh; cases hh
  | some x => simp [gotI, hg]

set_option maxRecDepth 20000 in
theorem within_at {B : Nat} {w : World} {tb r : Nat} {L : List Item} (h : TreeIs B w tb r L) (n1 n2 m1 m2 : Int) : Calls Try.prog 25 #[trP tb, .agg #[.int .i64 n1, .int .i64 n2], .agg #[.int .i64 m1, .int .i64 m2]] w fun e w' => e = .returned (.bool (withinI L ⟨n1, n2⟩ 301 ⟨m1, m2⟩)) ∧ Below w.heap.size w w' := by
  have hlt := h.lt
  have hc := h.cell
  have hrl := h.2.2.2.1.lt
  have hlook := fun m => h.2.2.2.1.look m
  clear h
  unfold trP
  go_enter Try.func25, Try.ntmps25
  go_wp2_with fail
  go_loopw [11] (fun i wr => ∃ (k : Nat) (a b : Int), k ≤ 301 ∧ i = .int .i64 k ∧ Below w.heap.size w wr ∧ w.heap.size + 1 < wr.heap.size ∧ wr.cell? ⟨w.heap.size, 0, none⟩ = some (.int .i64 n1) ∧ wr.cell? ⟨w.heap.size, 1, none⟩ = some (.int .i64 n2) ∧
    wr.cell? ⟨w.heap.size + 1, 0, none⟩ = some (.int .i64 a) ∧ wr.cell? ⟨w.heap.size + 1, 1, none⟩ = some (.int .i64 b) ∧ wr.frozen? ⟨w.heap.size + 1, 0, none⟩ = false ∧ wr.frozen? ⟨w.heap.size + 1, 1, none⟩ = false ∧
    Hid (withinI L ⟨n1, n2⟩ 301 ⟨m1, m2⟩ = withinI L ⟨n1, n2⟩ (301 - k) ⟨a, b⟩)) (fun i _ => 301 - (intOf i).toNat)
  case atStart => exact ⟨0, m1, m2, by omega, rfl, up_trans (up_alloc _ _) (up_alloc _ _), by simp, by go_simp, by go_simp, by go_simp, by go_simp, by go_simp, by go_simp, rfl⟩
  case round =>
    obtain ⟨k, a, b, hk, rfl, hb, hz, x0, x1, y0, y1, f0, f1, H⟩ := hrel
    rcases Nat.lt_or_ge k 301 with hk1 | hk1
    · have e0 : 301 - k = (300 - k) + 1 := by omega
      have H0 := H.out
      rw [e0] at H0
      by_cases he : (⟨a, b⟩ : Stamp) = ⟨n1, n2⟩
      · have H' := Lib.hid (H0.trans (withinI_hit L _ _ _ he))
        clear H H0
        injection he with e1 e2
        subst e1; subst e2
        go_wp2_with fail
        go_ret
        exact ⟨ret_bool H'.out.symm, hb⟩
      · obtain ⟨d, hd, hlk⟩ := hlook ⟨a, b⟩
        obtain ⟨dA, dn, dc, rfl⟩ := hd.form
        have HO := Lib.hid (fun hh => H0.trans (withinI_out L ⟨n1, n2⟩ ⟨a, b⟩ (300 - k) he hh))
        have HN := Lib.hid (fun hh => H0.trans (withinI_on L ⟨n1, n2⟩ ⟨a, b⟩ (300 - k) he hh))
        clear hd H H0
        unfold itV stV at hlk
        generalize gotI L ⟨a, b⟩ = x at *
        generalize hasI L ⟨a, b⟩ = is at *
        obtain ⟨⟨i1, i2⟩, ⟨p1, p2⟩, name, dir, gone, data, ⟨b1, b2⟩⟩ := x
        simp only at hlk HN
        have HL0 := (hlk wr.drew ((up_trans hb (up_drew _)).block r hrl)).1
        have HL1 := fun (o : Obj) => (hlk (wr.alloc o).drew ((up_trans (up_trans hb (up_alloc _ _)) (up_drew _)).block r hrl)).1
        have HC0 : wr.drew.cell? ⟨tb, 0, none⟩ = some (.map (some r)) := by rw [(up_trans hb (up_drew _)).cell (p := ⟨tb, 0, none⟩) hlt]; exact hc
        have HC1 : ∀ o : Obj, (wr.alloc o).drew.cell? ⟨tb, 0, none⟩ = some (.map (some r)) := fun o => by rw [(up_trans (up_trans hb (up_alloc _ _)) (up_drew _)).cell (p := ⟨tb, 0, none⟩) hlt]; exact hc
        clear hlk hlook
        have ht : (a = n1 ∧ (b == n2) = false) ∨ (a == n1) = false := by
          by_cases h1 : a = n1
          · refine .inl ⟨h1, beq_eq_false_iff_ne.2 ?_⟩
            intro h2; exact he (by rw [h1, h2])
          · exact .inr (beq_eq_false_iff_ne.2 h1)
        have HE := Lib.hid he
        clear he
        rcases ht with ⟨h1, h2⟩ | h1
        · subst h1
          go_wp2_with fail
          go_region
          cases is
          · go_wp2_with fail
            go_ret
            exact ⟨ret_bool (HO.out (by simp)).symm, up_trans (up_trans hb (up_alloc _ _)) (up_drew _)⟩
          · go_wp2_with fail
            go_roundw
            case rel =>
              refine ⟨k + 1, p1, p2, by omega, by go_num, ?_, ?_, cell_ad (by go_simp) _, cell_ad (by go_simp) _, cell_ad (by go_simp) _, cell_ad (by go_simp) _, frozen_ad (by simp; omega) (by go_simp) _, frozen_ad (by simp; omega) (by go_simp) _, ?_⟩
              · exact up_trans (up_set (up_set hb (by simp) _) (by simp) _) (up_trans (up_alloc _ _) (up_drew _))
              · simp; omega
              · have := HN.out (by simp)
                exact Lib.hid (by rw [this]; congr 1; omega)
            case measure => simp [intOf]; omega
        · go_wp2_with fail
          go_region
          cases is
          · go_wp2_with fail
            go_ret
            exact ⟨ret_bool (HO.out (by simp)).symm, up_trans (up_trans hb (up_alloc _ _)) (up_drew _)⟩
          · go_wp2_with fail
            go_roundw
            case rel =>
              refine ⟨k + 1, p1, p2, by omega, by go_num, ?_, ?_, cell_ad (by go_simp) _, cell_ad (by go_simp) _, cell_ad (by go_simp) _, cell_ad (by go_simp) _, frozen_ad (by simp; omega) (by go_simp) _, frozen_ad (by simp; omega) (by go_simp) _, ?_⟩
              · exact up_trans (up_set (up_set hb (by simp) _) (by simp) _) (up_trans (up_alloc _ _) (up_drew _))
              · simp; omega
              · have := HN.out (by simp)
                exact Lib.hid (by rw [this]; congr 1; omega)
            case measure => simp [intOf]; omega
    · have hk2 : k = 301 := by omega
      subst hk2
      go_wp2_with fail
      go_ret
      exact ⟨ret_bool H.out.symm, hb⟩

theorem hangsI_hit (L : List Item) (m : Stamp) (f : Nat) (h : m = ⟨0, 0⟩) : hangsI L (f + 1) m = true := by simp [hangsI, nilS, h]
theorem hangsI_out (L : List Item) (m : Stamp) (f : Nat) (h : m ≠ ⟨0, 0⟩) (hh : hasI L m = false) : hangsI L (f + 1) m = false := by
  simp only [hangsI, nilS, h, if_false]
  unfold hasI at hh
  cases hg : getI L m with
  | none => rfl
  | some x => rw [hg] at hh; cases hh
theorem hangsI_gone (L : List Item) (m : Stamp) (f : Nat) (h : m ≠ ⟨0, 0⟩) (hh : (gotI L m).gone = true) : hangsI L (f + 1) m = false := by
  simp only [hangsI, nilS, h, if_false]
  unfold gotI at hh
  cases hg : getI L m with
  | none => rfl
  | some x => rw [hg] at hh; simp at hh; simp [hh]
theorem hangsI_on (L : List Item) (m : Stamp) (f : Nat) (h : m ≠ ⟨0, 0⟩) (hh : hasI L m = true) (hg' : (gotI L m).gone = false) : hangsI L (f + 1) m = hangsI L f (gotI L m).parent := by
  simp only [hangsI, nilS, h, if_false]
  unfold hasI at hh
  unfold gotI at hg' ⊢
  cases hg : getI L m with
  | none => rw [hg] at hh; cases hh
  | some x => rw [hg] at hg'; simp at hg'; simp [hg']

set_option maxRecDepth 20000 in
theorem hangs_at {B : Nat} {w : World} {tb r : Nat} {L : List Item} (h : TreeIs B w tb r L) (m1 m2 : Int) : Calls Try.prog 27 #[trP tb, .agg #[.int .i64 m1, .int .i64 m2]] w fun e w' => e = .returned (.bool (hangsI L 301 ⟨m1, m2⟩)) ∧ Below w.heap.size w w' := by
  have hlt := h.lt
  have hc := h.cell
  have hrl := h.2.2.2.1.lt
  have hlook := fun m => h.2.2.2.1.look m
  have HR := Lib.hid (fun (W : World) n os => grown_ups (root_at (grow (W.drewN n) os)))
  clear h
  unfold trP
  go_enter Try.func27, Try.ntmps27
  go_wp2_with fail
  go_loopw [9] (fun i wr => ∃ (k : Nat) (a b : Int), k ≤ 301 ∧ i = .int .i64 k ∧ Below w.heap.size w wr ∧ w.heap.size < wr.heap.size ∧
    wr.cell? ⟨w.heap.size, 0, none⟩ = some (.int .i64 a) ∧ wr.cell? ⟨w.heap.size, 1, none⟩ = some (.int .i64 b) ∧ wr.frozen? ⟨w.heap.size, 0, none⟩ = false ∧ wr.frozen? ⟨w.heap.size, 1, none⟩ = false ∧
    Hid (hangsI L 301 ⟨m1, m2⟩ = hangsI L (301 - k) ⟨a, b⟩)) (fun i _ => 301 - (intOf i).toNat)
  case atStart => exact ⟨0, m1, m2, by omega, rfl, up_alloc _ _, by simp, by go_simp, by go_simp, by go_simp, by go_simp, rfl⟩
  case round =>
    obtain ⟨k, a, b, hk, rfl, hb, hz, y0, y1, f0, f1, H⟩ := hrel
    have d0 := grown_cell y0
    have d1 := grown_cell y1
    rcases Nat.lt_or_ge k 301 with hk1 | hk1
    · have e0 : 301 - k = (300 - k) + 1 := by omega
      have H0 := H.out
      rw [e0] at H0
      by_cases he : (⟨a, b⟩ : Stamp) = ⟨0, 0⟩
      · have H' := Lib.hid (H0.trans (hangsI_hit L _ _ he))
        clear H H0
        injection he with e1 e2
        subst e1; subst e2
        go_wp2_with fail
        refine wp_region_grown_all (by kernel_rfl) (by kernel_rfl) ?_
        repeat (quiet_step ((exact HR.out _ _ _)))
        refine wpQuiet_nil ?_
        rintro _ ⟨⟨nq, osq⟩, rfl⟩
        go_wp2_with fail
        go_ret
        exact ⟨ret_bool H'.out.symm, up_trans hb (ups_grow _ _ _).below⟩
      · obtain ⟨d, hd, hlk⟩ := hlook ⟨a, b⟩
        obtain ⟨dA, dn, dc, rfl⟩ := hd.form
        have HO := Lib.hid (fun hh => H0.trans (hangsI_out L ⟨a, b⟩ (300 - k) he hh))
        have HG := Lib.hid (fun hh => H0.trans (hangsI_gone L ⟨a, b⟩ (300 - k) he hh))
        have HN := Lib.hid (fun hh hh' => H0.trans (hangsI_on L ⟨a, b⟩ (300 - k) he hh hh'))
        clear hd H H0
        unfold itV stV at hlk
        generalize gotI L ⟨a, b⟩ = x at *
        generalize hasI L ⟨a, b⟩ = is at *
        obtain ⟨⟨i1, i2⟩, ⟨p1, p2⟩, name, dir, gone, data, ⟨b1, b2⟩⟩ := x
        simp only at hlk HN HG
        clear hlook
        have ht : (a = 0 ∧ (b == 0) = false) ∨ (a == 0) = false := by
          by_cases h1 : a = 0
          · refine .inl ⟨h1, beq_eq_false_iff_ne.2 ?_⟩
            intro h2; exact he (by rw [h1, h2])
          · exact .inr (beq_eq_false_iff_ne.2 h1)
        have HE := Lib.hid he
        clear he
        rcases ht with ⟨h1, h2⟩ | h1
        · subst h1
          go_wp2_with fail
          refine wp_region_grown_all (by kernel_rfl) (by kernel_rfl) ?_
          repeat (quiet_step ((exact HR.out _ _ _)))
          refine wpQuiet_nil ?_
          rintro _ ⟨⟨nq, osq⟩, rfl⟩
          have hg := (ups_grow wr nq osq).below
          have z0 := d0 nq osq
          have z1 := d1 nq osq
          have hb2 := up_trans hb hg
          have hz2 : w.heap.size < (grow (wr.drewN nq) osq).heap.size := Nat.lt_of_lt_of_le hz hg.size
          have q0 : (grow (wr.drewN nq) osq).frozen? ⟨w.heap.size, 0, none⟩ = false := (hg.frozen (p := ⟨w.heap.size, 0, none⟩) hz).trans f0
          have q1 : (grow (wr.drewN nq) osq).frozen? ⟨w.heap.size, 1, none⟩ = false := (hg.frozen (p := ⟨w.heap.size, 1, none⟩) hz).trans f1
          clear hg
          generalize grow (wr.drewN nq) osq = W at *
          have HL0 := (hlk W.drew ((up_trans hb2 (up_drew _)).block r hrl)).1
          have HL1 := fun (o : Obj) => (hlk (W.alloc o).drew ((up_trans (up_trans hb2 (up_alloc _ _)) (up_drew _)).block r hrl)).1
          have HC0 : W.drew.cell? ⟨tb, 0, none⟩ = some (.map (some r)) := by rw [(up_trans hb2 (up_drew _)).cell (p := ⟨tb, 0, none⟩) hlt]; exact hc
          have HC1 : ∀ o : Obj, (W.alloc o).drew.cell? ⟨tb, 0, none⟩ = some (.map (some r)) := fun o => by rw [(up_trans (up_trans hb2 (up_alloc _ _)) (up_drew _)).cell (p := ⟨tb, 0, none⟩) hlt]; exact hc
          clear hlk
          go_wp2_with fail
          go_region
          cases is
          · go_wp2_with fail
            go_ret
            exact ⟨ret_bool (HO.out (by simp)).symm, up_trans (up_trans hb2 (up_alloc _ _)) (up_drew _)⟩
          · cases gone
            · go_wp2_with fail
              go_roundw
              case rel =>
                refine ⟨k + 1, p1, p2, by omega, by go_num, ?_, ?_, cell_ad (by go_simp) _, cell_ad (by go_simp) _, frozen_ad (by simp; omega) (by go_simp) _, frozen_ad (by simp; omega) (by go_simp) _, ?_⟩
                · exact up_trans (up_set (up_set hb2 (by simp) _) (by simp) _) (up_trans (up_alloc _ _) (up_drew _))
                · simp; omega
                · have := HN.out (by simp) (by simp)
                  exact Lib.hid (by rw [this]; congr 1; omega)
              case measure => simp [intOf]; omega
            · go_wp2_with fail
              go_ret
              exact ⟨ret_bool (HG.out (by simp)).symm, up_trans (up_trans hb2 (up_alloc _ _)) (up_drew _)⟩
        · go_wp2_with fail
          refine wp_region_grown_all (by kernel_rfl) (by kernel_rfl) ?_
          repeat (quiet_step ((exact HR.out _ _ _)))
          refine wpQuiet_nil ?_
          rintro _ ⟨⟨nq, osq⟩, rfl⟩
          have hg := (ups_grow wr nq osq).below
          have z0 := d0 nq osq
          have z1 := d1 nq osq
          have hb2 := up_trans hb hg
          have hz2 : w.heap.size < (grow (wr.drewN nq) osq).heap.size := Nat.lt_of_lt_of_le hz hg.size
          have q0 : (grow (wr.drewN nq) osq).frozen? ⟨w.heap.size, 0, none⟩ = false := (hg.frozen (p := ⟨w.heap.size, 0, none⟩) hz).trans f0
          have q1 : (grow (wr.drewN nq) osq).frozen? ⟨w.heap.size, 1, none⟩ = false := (hg.frozen (p := ⟨w.heap.size, 1, none⟩) hz).trans f1
          clear hg
          generalize grow (wr.drewN nq) osq = W at *
          have HL0 := (hlk W.drew ((up_trans hb2 (up_drew _)).block r hrl)).1
          have HL1 := fun (o : Obj) => (hlk (W.alloc o).drew ((up_trans (up_trans hb2 (up_alloc _ _)) (up_drew _)).block r hrl)).1
          have HC0 : W.drew.cell? ⟨tb, 0, none⟩ = some (.map (some r)) := by rw [(up_trans hb2 (up_drew _)).cell (p := ⟨tb, 0, none⟩) hlt]; exact hc
          have HC1 : ∀ o : Obj, (W.alloc o).drew.cell? ⟨tb, 0, none⟩ = some (.map (some r)) := fun o => by rw [(up_trans (up_trans hb2 (up_alloc _ _)) (up_drew _)).cell (p := ⟨tb, 0, none⟩) hlt]; exact hc
          clear hlk
          go_wp2_with fail
          go_region
          cases is
          · go_wp2_with fail
            go_ret
            exact ⟨ret_bool (HO.out (by simp)).symm, up_trans (up_trans hb2 (up_alloc _ _)) (up_drew _)⟩
          · cases gone
            · go_wp2_with fail
              go_roundw
              case rel =>
                refine ⟨k + 1, p1, p2, by omega, by go_num, ?_, ?_, cell_ad (by go_simp) _, cell_ad (by go_simp) _, frozen_ad (by simp; omega) (by go_simp) _, frozen_ad (by simp; omega) (by go_simp) _, ?_⟩
                · exact up_trans (up_set (up_set hb2 (by simp) _) (by simp) _) (up_trans (up_alloc _ _) (up_drew _))
                · simp; omega
                · have := HN.out (by simp) (by simp)
                  exact Lib.hid (by rw [this]; congr 1; omega)
              case measure => simp [intOf]; omega
            · go_wp2_with fail
              go_ret
              exact ⟨ret_bool (HG.out (by simp)).symm, up_trans (up_trans hb2 (up_alloc _ _)) (up_drew _)⟩
    · have hk2 : k = 301 := by omega
      subst hk2
      go_wp2_with fail
      go_ret
      exact ⟨ret_bool H.out.symm, hb⟩
end Go.Proofs.Ytefhfoioeoijlaa

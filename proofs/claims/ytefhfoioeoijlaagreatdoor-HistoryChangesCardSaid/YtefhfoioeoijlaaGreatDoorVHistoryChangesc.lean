/- GCK, RefH, PlayR, DA -/
import Derived.BigQuiet
import Derived.Test.YtefhfoioeoijlaaGreatDoorVaa
import Derived.Test.YtefhfoioeoijlaaGreatDoorVab
import Derived.Test.YtefhfoioeoijlaaGreatDoorVac
import Derived.Test.YtefhfoioeoijlaaGreatDoorVad
import Derived.Test.YtefhfoioeoijlaaGreatDoorVae
import Derived.Test.YtefhfoioeoijlaaGreatDoorVaf
import Derived.Test.YtefhfoioeoijlaaGreatDoorVag
import Derived.Test.YtefhfoioeoijlaaGreatDoorVah
import Derived.Test.YtefhfoioeoijlaaGreatDoorVai
import Derived.Test.YtefhfoioeoijlaaGreatDoorVaj
import Derived.Test.YtefhfoioeoijlaaGreatDoorVak
import Derived.Test.YtefhfoioeoijlaaGreatDoorVal
import Derived.Test.YtefhfoioeoijlaaGreatDoorVam
import Derived.Test.YtefhfoioeoijlaaGreatDoorVan
import Derived.Test.YtefhfoioeoijlaaGreatDoorVao
import Derived.Test.YtefhfoioeoijlaaGreatDoorVap
import Derived.Test.YtefhfoioeoijlaaGreatDoorVaq
import Derived.Test.YtefhfoioeoijlaaGreatDoorVar
import Derived.Test.YtefhfoioeoijlaaGreatDoorVas
import Derived.Test.YtefhfoioeoijlaaGreatDoorVat
import Derived.Test.YtefhfoioeoijlaaGreatDoorVHistoryChangesa
import Derived.Test.YtefhfoioeoijlaaGreatDoorVHistoryChangesb
set_option linter.unusedVariables false
set_option linter.unusedSimpArgs false
namespace Go.Proofs.YtefhfoioeoijlaaGreatDoor
open Go Go.RowKit Go.Sort
set_option maxHeartbeats 2000000 in
theorem rkids_at {B : Nat} {w : World} {ub : Nat} {L : List Item} (h : RIs B w ub L) (hB : B ≤ w.heap.size) (m1 m2 : Int) :
    Calls Tryz.prog 87 #[trP ub, .agg #[.int .i64 m1, .int .i64 m2]] w fun e w' => ∃ v, e = .returned v ∧ IRow 127 B w.heap.size w' v (kidsI ⟨m1, m2⟩ L) ∧ Up w w' := by
  obtain ⟨huub, v, hv, hl, hne, hL⟩ := h
  rw [rowI_is] at hl
  obtain ⟨lA, lc, rfl⟩ := hl.form
  obtain ⟨ii_r, iz_r, hi_r, hz_r, hs_r, hb_r, hc_r⟩ := info_ritem
  go_enter Tryz.func87, Tryz.ntmps87
  refine wp_seq (rg_lit (wl (sn rfl (cs := #[I_ m1, I_ m2]) (T := 24) (V := fun b => pt b 0) (r_box (v := .agg #[I_ m1, I_ m2]) (by kernel_rfl) rfl) fun b1 w2 e3 h4 u5 => ?_)))
  have M7 := mtu (Mod.refl [] w) u5
  refine was (v := .slice none 0 0) (wnil (then_n (wp_seq (rg_lit (was (v := .slice none 0 0) (wnil (then_n (wp_seq (wp_seq (rg_lit (was (v := I_ 0) (wnil (then_n (wp_block ?_))))))))))))))
  refine lp (fun n a r1 => ∃ (k : Nat) (oA : Option Addr) (on : Nat) (oc : Nat), (n = L.length - k) ∧ (HasFr a 48 [(0, pt ub 0), (1, .agg #[I_ m1, I_ m2]), (3, pt b1 0), (4, .slice none 0 0), (5, .slice oA on oc), (6, I_ k)] []) ∧ (Mod [] w2 r1) ∧ (k ≤ L.length) ∧ (IRow 127 B w2.heap.size r1 (.slice oA on oc) (kidsI ⟨m1, m2⟩ (L.take k)))) ⟨_, 0, none, 0, 0, rfl, hmk, Mod.refl _ _, Nat.zero_le _, IRow.nil _ _ _ _⟩ ?_
  rintro _ _ r1 ⟨k, oA, on, oc, rfl, h10, hM1, hF1_0, hF1_1⟩
  obtain ⟨Y4, rfl⟩ := h10
  have M11 := Mod.thin M7 hM1 (by simp)
  refine wp_seq (wp_seq (rg_lit (wmv (v := I_ k) (wmv (v := pt ub 0) (wlv (v := pt ub 0) (nck) (wlv (v := pt ub 0) (fa (pt ub 0)) ?_))))))
  have h12 := md_ob M11 nin0 hv
  refine wlv (v := .slice lA L.length lc) (ld 0 Ty.ag64 h12) (wlv (v := I_ L.length) (ln lA L.length lc Ty.un64) (wl (sb rfl (ltI k L.length) fun b13 k14 => wnil (then_n ?_))))
  refine bcd k14 (fun v15 p16 => ?_) (fun v15 p16 => ?_)
  ·
   refine wp_cond_false (eb v15) (wp_exit (then_x (by nofun) (then_x (by nofun) (inb_hit (then_n (wp_seq (rg_lit (wmv (v := .slice oA on oc) (was (v := .slice oA on oc) (wnil (then_n (wp_ret ?_))))))))))))
   refine br1 (v := .slice oA on oc) rfl ?_
   refine ⟨_, rfl, ?_, (Mod.up M11)⟩
   have hk : L.take k = L := List.take_of_length_le (by omega)
   rw [hk] at hF1_1; exact IRow.base hF1_1 M7.size
  have q18 : k < L.length := by omega
  refine wp_cond_true (eb v15) (wp_skip (then_n (wp_seq (wp_block (wp_seq ?_)))))
  refine rg_all (by kernel_rfl) (by kernel_rfl) ?_
  refine qmv (v := pt ub 0) (qv rfl (v := pt ub 0) (fun _ _ => nck) (qv rfl (v := pt ub 0) (fun _ _ => fa (pt ub 0)) (qv rfl (v := .slice lA L.length lc) (fun _ uz => ld 0 Ty.ag64 (up_ob uz h12)) (qmv (v := I_ k) ?_))))
  have h19 := (IRow.up hl (Mod.up M11))
  obtain ⟨y20, hy20⟩ : ∃ x, L[k]? = some x := ⟨_, List.getElem?_eq_getElem q18⟩
  obtain ⟨g20, cp20, cu20, dA20, dn20, dc20, hA20, hg20, hb20, he20, hD20⟩ := h19.get hy20
  injection hA20 with hA20 _ _
  replace he20 : (cu20.toList.drop (0 + k * 10)).take 10 = (itC y20 (.slice dA20 dn20 dc20)) := by rw [Nat.zero_add]; exact he20
  refine qv rfl (v := pt g20 (0 + k * 10)) (fun _ _ => ixa L.length lc 10 k hA20 Ty.un64 Ty.sz127) (qv rfl (v := pt g20 (0 + k * 10 + 2)) (fun _ _ => fa (pt g20 (0 + k * 10))) (qv rfl (v := .agg #[I_ y20.parent.t, I_ y20.parent.w]) (fun _ uz => r_loads (k := 0 + k * 10 + 2) (by kernel_rfl) Ty.ag24 Ty.sz24 (up_ob uz hb20) (el_sub he20 2 rfl)) ?_))
  have h21 := md_ob hM1 nin0 h4
  refine qv rfl (v := .agg #[I_ m1, I_ m2]) (fun _ uz => lds 0 Ty.ag24 Ty.sz24 (up_ob uz h21)) ?_
  refine qb rfl (fun _ _ => r_eqS (a := y20.parent.t) (b := y20.parent.w) (c := m1) (e := m2) (by kernel_rfl) (by kernel_rfl)) fun b22 k23 => ?_
  refine qmv (v := B_ b22) ?_
  refine bcd k23 (fun v24 p25 => ?_) (fun v24 p25 => ?_)
  ·
   iterate 9 refine qls rfl v24 ?_
   refine qv rfl (v := B_ false) (fun _ _ => pkF (eb v24)) ?_
   refine qnil fun w26 u27 => ?_
   have M29 := mtu hM1 u27
   refine then_n (wp_cond_false (by kernel_rfl) (wp_skip (inb_n (then_n (rg_lit (wmv (v := I_ k) (wlv (v := I_ ((k : Int) + 1)) (adI k 1 (IntWalk.i64_in _ (by omega))) (was (v := I_ ((k : Int) + 1)) (wnil (then_n ?_))))))))))
   have h30 := (IRow.up hF1_1 u27)
   refine ⟨L.length - (k + 1), ?_, (k + 1), oA, on, oc, rfl, hmk, M29, (by omega), (by rw [kids_no hy20 (.inl p25)]; exact h30)⟩
   · omega
  refine qv (wt (b := b22) rfl (by kernel_rfl) v24) (v := pt ub 0) (fun _ _ => mv) (qv (wt (b := b22) rfl (by kernel_rfl) v24) (v := pt ub 0) (fun _ _ => nck) (qv (wt (b := b22) rfl (by kernel_rfl) v24) (v := pt ub 0) (fun _ _ => fa (pt ub 0)) (qv (wt (b := b22) rfl (by kernel_rfl) v24) (v := .slice lA L.length lc) (fun _ uz => ld 0 Ty.ag64 (up_ob uz h12)) (qv (wt (b := b22) rfl (by kernel_rfl) v24) (v := I_ k) (fun _ _ => mv) ?_))))
  obtain ⟨g26, cp26, cu26, dA26, dn26, dc26, hA26, hg26, hb26, he26, hD26⟩ := h19.get hy20
  injection hA26 with hA26 _ _
  replace he26 : (cu26.toList.drop (0 + k * 10)).take 10 = (itC y20 (.slice dA26 dn26 dc26)) := by rw [Nat.zero_add]; exact he26
  refine qv (wt (b := b22) rfl (by kernel_rfl) v24) (v := pt g26 (0 + k * 10)) (fun _ _ => ixa L.length lc 10 k hA26 Ty.un64 Ty.sz127) (qv (wt (b := b22) rfl (by kernel_rfl) v24) (v := pt g26 (0 + k * 10 + 6)) (fun _ _ => fa (pt g26 (0 + k * 10))) (qv (wt (b := b22) rfl (by kernel_rfl) v24) (v := B_ y20.gone) (fun _ uz => r_load (k := 0 + k * 10 + 6) (v := B_ y20.gone) (by kernel_rfl) Ty.ag4 (up_ob uz hb26) (el_get he26 6 rfl)) (qv (wt (b := b22) rfl (by kernel_rfl) v24) (v := B_ (!y20.gone)) (fun _ _ => r_not (b := y20.gone) (by kernel_rfl)) (qv rfl (v := B_ (!y20.gone)) (fun _ _ => pkT (eb v24)) ?_))))
  refine qnil fun w27 u28 => ?_
  have M29 := mtu M11 u28
  have M30 := mtu hM1 u28
  refine then_n ?_
  refine bcase y20.gone (fun v31 => ?_) (fun v31 => ?_)
  ·
   refine wp_cond_true (eb (bneg v31)) (rg_lit (wmv (v := .slice oA on oc) (wmv (v := pt ub 0) (wlv (v := pt ub 0) (nck) (wlv (v := pt ub 0) (fa (pt ub 0)) ?_)))))
   have h32 := md_ob M29 nin0 hv
   refine wlv (v := .slice lA L.length lc) (ld 0 Ty.ag64 h32) (wmv (v := I_ k) ?_)
   have h33 := (IRow.up hl (Mod.up M29))
   obtain ⟨g34, cp34, cu34, dA34, dn34, dc34, hA34, hg34, hb34, he34, hD34⟩ := h33.get hy20
   injection hA34 with hA34 _ _
   replace he34 : (cu34.toList.drop (0 + k * 10)).take 10 = (itC y20 (.slice dA34 dn34 dc34)) := by rw [Nat.zero_add]; exact he34
   refine wlv (v := pt g34 (0 + k * 10)) (ixa L.length lc 10 k hA34 Ty.un64 Ty.sz127) (wlv (v := itV y20 (.slice dA34 dn34 dc34)) (r_loads (k := 0 + k * 10) (by kernel_rfl) Ty.ag127 Ty.sz127 hb34 (el_sub0 he34 rfl)) (wl (sn rfl (cs := (itC y20 (.slice dA34 dn34 dc34)).toArray) (T := 127) (V := fun b => sl b 0 1 1) (r_buildSlice (n := 1) (ps := [(0, itV y20 (.slice dA34 dn34 dc34))]) Ty.un64 Ty.sz127 Ty.zv127 (by decide) (by decide) (by kernel_rfl) (by kernel_rfl)) fun b35 w36 e37 h38 u39 => ?_)))
   have M43 := mtu M30 u39
   have h44 := (IRow.up (IRow.up hF1_1 u28) u39)
   have h45 := (Dat.up hD34 u39)
   refine wl (snI rfl (L := (kidsI ⟨m1, m2⟩ (L.take k))) (x := y20) (e := .slice dA34 dn34 dc34) (by kernel_rfl) (by kernel_rfl) h44 Ty.un64 hi_r hz_r hs_r hb_r hc_r h38 h45 (by decide) (Nat.le_trans hB M7.size) M43.size (by have := kids_len ⟨m1, m2⟩ (L.take k); simp at this; omega) fun A46 n47 c48 w49 e50 h51 u52 => ?_)
   have M54 := Mod.trans' M43 u52 (fun k hk => Nat.le_trans (Nat.le_refl _) (h44.own k hk).1)
   refine was (v := .slice A46 n47 c48) (wnil (inb_n (then_n (rg_lit (wmv (v := I_ k) (wlv (v := I_ ((k : Int) + 1)) (adI k 1 (IntWalk.i64_in _ (by omega))) (was (v := I_ ((k : Int) + 1)) (wnil (then_n ?_)))))))))
   refine ⟨L.length - (k + 1), ?_, (k + 1), A46, n47, c48, rfl, hmk, M54, (by omega), (by rw [kids_yes hy20 p25 v31]; exact h51)⟩
   · omega
  refine wp_cond_false (eb (bneg v31)) (wp_skip (inb_n (then_n (rg_lit (wmv (v := I_ k) (wlv (v := I_ ((k : Int) + 1)) (adI k 1 (IntWalk.i64_in _ (by omega))) (was (v := I_ ((k : Int) + 1)) (wnil (then_n ?_)))))))))
  have h32 := (IRow.up hF1_1 u28)
  refine ⟨L.length - (k + 1), ?_, (k + 1), oA, on, oc, rfl, hmk, M30, (by omega), (by rw [kids_no hy20 (.inr v31)]; exact h32)⟩
  · omega
end Go.Proofs.YtefhfoioeoijlaaGreatDoor
set_option linter.unusedVariables false
set_option linter.unusedSimpArgs false
namespace Go.Proofs.YtefhfoioeoijlaaGreatDoor
open Go.RowKit Go.Sort
set_option maxRecDepth 4000 in
set_option maxHeartbeats 2000000 in
theorem rhangs_at {B : Nat} {w : World} {ub : Nat} {L : List Item} (h : RIs B w ub L) (m1 m2 : Int) : Calls Tryz.prog 78 #[trP ub, .agg #[.int .i64 m1, .int .i64 m2]] w fun e w' => e = .returned (.bool (hangsI L 301 ⟨m1, m2⟩)) ∧ Below w.heap.size w w' := by
  have HG := Lib.hid (fun (W : World) (hb : Below w.heap.size w W) a b => rget_at (h.up hb) a b)
  clear h
  unfold trP at HG ⊢
  go_enter Tryz.func78, Tryz.ntmps78
  go_wp2_with fail
  go_loopw [5] (fun i wr => ∃ (k : Nat) (a b : Int), k ≤ 301 ∧ i = .int .i64 k ∧ Below w.heap.size w wr ∧ w.heap.size < wr.heap.size ∧
    wr.cell? ⟨w.heap.size, 0, none⟩ = some (.int .i64 a) ∧ wr.cell? ⟨w.heap.size, 1, none⟩ = some (.int .i64 b) ∧ wr.frozen? ⟨w.heap.size, 0, none⟩ = false ∧ wr.frozen? ⟨w.heap.size, 1, none⟩ = false ∧
    Hid (hangsI L 301 ⟨m1, m2⟩ = hangsI L (301 - k) ⟨a, b⟩)) (fun i _ => 301 - (intOf i).toNat)
  case atStart => exact ⟨0, m1, m2, by omega, rfl, up_alloc _ _, by simp, by go_simp, by go_simp, by go_simp, by go_simp, rfl⟩
  case round =>
    obtain ⟨k, a, b, hk, rfl, hb, hz, y0, y1, f0, f1, H⟩ := hrel
    rcases Nat.lt_or_ge k 301 with hk1 | hk1
    · have e0 : 301 - k = (300 - k) + 1 := by omega
      have H0 := H.out
      rw [e0] at H0
      by_cases he : (⟨a, b⟩ : Stamp) = ⟨0, 0⟩
      · have H' := Lib.hid (H0.trans (hangsI_hit L _ _ he))
        clear H H0
        injection he with e1 e2
        subst e1; subst e2
        go_wp2_with fail
        go_ret
        exact ⟨ret_bool H'.out.symm, hb⟩
      · have HO := Lib.hid (fun hh => H0.trans (hangsI_out L ⟨a, b⟩ (300 - k) he hh))
        have HGo := Lib.hid (fun hh => H0.trans (hangsI_gone L ⟨a, b⟩ (300 - k) he hh))
        have HN := Lib.hid (fun hh hh' => H0.trans (hangsI_on L ⟨a, b⟩ (300 - k) he hh hh'))
        have HC := Lib.hid (HG.out wr hb a b)
        clear H H0
        generalize gotI L ⟨a, b⟩ = x at *
        generalize hasI L ⟨a, b⟩ = is at *
        obtain ⟨⟨i1, i2⟩, ⟨p1, p2⟩, name, dir, gone, data, ⟨b1, b2⟩⟩ := x
        unfold itV at HC
        simp only at HC HN HGo
        have ht : (a = 0 ∧ (b == 0) = false) ∨ (a == 0) = false := by
          by_cases h1 : a = 0
          · refine .inl ⟨h1, beq_eq_false_iff_ne.2 ?_⟩
            intro h2; exact he (by rw [h1, h2])
          · exact .inr (beq_eq_false_iff_ne.2 h1)
        have HE := Lib.hid he
        clear he
        rcases ht with ⟨h1, h2⟩ | h1
        · subst h1
          go_wp2_with fail
          refine HC.out.mono ?_
          rintro e w2 ⟨d, rfl, hD, hb2⟩
          obtain ⟨dA, dn, dc, rfl⟩ := hD.form
          have hb3 := up_trans hb hb2
          have hz2 : w.heap.size < w2.heap.size := by have := hb2.size; omega
          have z0' : w2.cell? ⟨w.heap.size, 0, none⟩ = some (.int .i64 _) := (hb2.cell (p := ⟨w.heap.size, 0, none⟩) hz).trans y0
          have z1' : w2.cell? ⟨w.heap.size, 1, none⟩ = some (.int .i64 b) := (hb2.cell (p := ⟨w.heap.size, 1, none⟩) hz).trans y1
          have g0 : w2.frozen? ⟨w.heap.size, 0, none⟩ = false := (hb2.frozen (p := ⟨w.heap.size, 0, none⟩) hz).trans f0
          have g1 : w2.frozen? ⟨w.heap.size, 1, none⟩ = false := (hb2.frozen (p := ⟨w.heap.size, 1, none⟩) hz).trans f1
          cases is
          · go_wp2_with fail
            go_ret
            exact ⟨ret_bool (HO.out (by simp)).symm, up_trans hb3 (up_alloc _ _)⟩
          · cases gone
            · go_wp2_with fail
              go_roundw
              case rel =>
                refine ⟨k + 1, p1, p2, by omega, by go_num, ?_, ?_, cell_al (by go_simp) _, cell_al (by go_simp) _, frozen_al (by simp; omega) (by go_simp) _, frozen_al (by simp; omega) (by go_simp) _, ?_⟩
                · exact up_trans (up_set (up_set hb3 (by simp) _) (by simp) _) (up_alloc _ _)
                · simp; omega
                · have := HN.out (by simp) (by simp)
                  exact Lib.hid (by rw [this]; congr 1; omega)
              case measure => simp [intOf]; omega
            · go_wp2_with fail
              go_ret
              exact ⟨ret_bool (HGo.out (by simp)).symm, up_trans hb3 (up_alloc _ _)⟩
        · skip
          go_wp2_with fail
          refine HC.out.mono ?_
          rintro e w2 ⟨d, rfl, hD, hb2⟩
          obtain ⟨dA, dn, dc, rfl⟩ := hD.form
          have hb3 := up_trans hb hb2
          have hz2 : w.heap.size < w2.heap.size := by have := hb2.size; omega
          have z0' : w2.cell? ⟨w.heap.size, 0, none⟩ = some (.int .i64 _) := (hb2.cell (p := ⟨w.heap.size, 0, none⟩) hz).trans y0
          have z1' : w2.cell? ⟨w.heap.size, 1, none⟩ = some (.int .i64 b) := (hb2.cell (p := ⟨w.heap.size, 1, none⟩) hz).trans y1
          have g0 : w2.frozen? ⟨w.heap.size, 0, none⟩ = false := (hb2.frozen (p := ⟨w.heap.size, 0, none⟩) hz).trans f0
          have g1 : w2.frozen? ⟨w.heap.size, 1, none⟩ = false := (hb2.frozen (p := ⟨w.heap.size, 1, none⟩) hz).trans f1
          cases is
          · go_wp2_with fail
            go_ret
            exact ⟨ret_bool (HO.out (by simp)).symm, up_trans hb3 (up_alloc _ _)⟩
          · cases gone
            · go_wp2_with fail
              go_roundw
              case rel =>
                refine ⟨k + 1, p1, p2, by omega, by go_num, ?_, ?_, cell_al (by go_simp) _, cell_al (by go_simp) _, frozen_al (by simp; omega) (by go_simp) _, frozen_al (by simp; omega) (by go_simp) _, ?_⟩
                · exact up_trans (up_set (up_set hb3 (by simp) _) (by simp) _) (up_alloc _ _)
                · simp; omega
                · have := HN.out (by simp) (by simp)
                  exact Lib.hid (by rw [this]; congr 1; omega)
              case measure => simp [intOf]; omega
            · go_wp2_with fail
              go_ret
              exact ⟨ret_bool (HGo.out (by simp)).symm, up_trans hb3 (up_alloc _ _)⟩
    · have hk2 : k = 301 := by omega
      subst hk2
      go_wp2_with fail
      go_ret
      exact ⟨ret_bool H.out.symm, hb⟩
end Go.Proofs.YtefhfoioeoijlaaGreatDoor
set_option linter.unusedVariables false
set_option linter.unusedSimpArgs false
namespace Go.Proofs.YtefhfoioeoijlaaGreatDoor
open Go Go.RowKit Go.Sort Go.Shelf
theorem rget_x {B : Nat} {w : World} {ub : Nat} {L : List Item} (h : RIs B w ub L) (m1 m2 : Int) : Calls Tryz.prog 79 #[trP ub, .agg #[.int .i64 m1, .int .i64 m2]] w fun e w' =>
    ∃ A k c, e = .returned (.tuple #[itV (gotI L ⟨m1, m2⟩) (.slice A k c), .bool (hasI L ⟨m1, m2⟩)]) ∧ Dat B w' (.slice A k c) (gotI L ⟨m1, m2⟩).data ∧ Up w w' := by
  refine (rget_at h m1 m2).mono ?_
  rintro e w' ⟨d, rfl, hD, u⟩
  obtain ⟨A, k, c, rfl⟩ := hD.form
  exact ⟨A, k, c, rfl, hD, u⟩
end Go.Proofs.YtefhfoioeoijlaaGreatDoor
set_option linter.unusedVariables false
set_option linter.unusedSimpArgs false
namespace Go.Proofs.YtefhfoioeoijlaaGreatDoor
open Go Go.RowKit Go.Sort
set_option maxHeartbeats 2000000 in
theorem decD1_at {w : World} {n : Int} (n0 : 0 ≤ n) (n1 : n ≤ 9223372036854775807) (IH : ∀ (k : Int) (W : World), 0 ≤ k → k < n → Calls Tryz.prog 96 #[.int .i64 k] W fun e w' => e = .returned (.string (decB k)) ∧ Up W w') : Calls Tryz.prog 96 #[.int .i64 n] w fun e w' => e = .returned (.string (decB n)) ∧ Up w w' := by
  have hq := dec_parts n0
  have hz1 := decB_len (n := n.tdiv 10) (by omega) (by omega)
  have hz2 : (byteB (48 + n.tmod 10)).size = 1 := rfl
  go_enter Tryz.func96, Tryz.ntmps96
  refine wp_seq (rg_lit (was (v := S_ (⟨#[]⟩)) (wnil (then_n (wp_seq (wp_seq (rg_lit (wmv (v := I_ n) (wl (sb rfl (ltI n 0) fun b1 k2 => wnil (then_n ?_)))))))))))
  refine bcd k2 (fun v3 p4 => ?_) (fun v3 p4 => ?_)
  ·
   refine wp_cond_false (eb v3) (wp_skip (then_n (wp_seq (wp_seq (rg_lit (wmv (v := I_ n) (wl (sb rfl (ltI n 10) fun b5 k6 => wnil (then_n ?_)))))))))
   refine bcd k6 (fun v7 p8 => ?_) (fun v7 p8 => ?_)
   ·
    refine wp_cond_false (eb v7) (wp_skip (then_n (wp_seq ?_)))
    refine rg_held [] (n := 11) (by kernel_rfl) rfl ?_
    intro w9 u10
    have M11 := mtu (Mod.refl [] w) u10
    refine hqk 0 10 rfl rfl (v := I_ n) (fun _ _ => mv) (hqk 1 9 rfl rfl (v := I_ (n.tdiv 10)) (fun _ _ => r_quo (m := n) (n := 10) (by kernel_rfl) (by kernel_rfl) (by decide) (by omega)) (hqk 3 8 rfl rfl (v := I_ n) (fun _ _ => mv) (hqk 4 7 rfl rfl (v := I_ (n.tmod 10)) (fun _ _ => r_rem (m := n) (n := 10) (by kernel_rfl) (by kernel_rfl) (by decide) rfl) (hqk 5 6 rfl rfl (v := I_ (48 + (n.tmod 10))) (fun _ _ => adI 48 (n.tmod 10) (IntWalk.i64_in _ (by omega))) (hqk 6 5 rfl rfl (v := .int .u8 (48 + (n.tmod 10))) (fun _ _ => r_toB (m := (48 + (n.tmod 10))) (by kernel_rfl) (by omega) (by omega)) ?_)))))
    refine h2a 2 7 4 rfl rfl ?_ ?_
    ·
     refine sca [I_ (n.tdiv 10)] En.f96 (IH (n.tdiv 10) _ (by omega) (by omega)) ?_
     rintro e w12 ⟨rfl, u13⟩
     refine ⟨_, rfl, ?_⟩
     have M14 := mtu M11 u13
     refine hxu u13 (h1a 7 3 rfl (sn rfl (cs := #[.int .u8 (48 + (n.tmod 10))]) (T := 5) (V := fun b => sl b 0 1 1) (r_buildSlice (n := 1) (ps := [(0, .int .u8 (48 + (n.tmod 10)))]) Ty.un40 Ty.sz5 Ty.zv5 (by decide) (by decide) (by kernel_rfl) (by kernel_rfl)) fun b15 w16 e17 h18 u19 => ?_))
     have M21 := mtu M14 u19
     refine hxu u19 (hqk 8 2 rfl rfl (v := S_ (byteB (48 + (n.tmod 10)))) (fun _ uz => r_conv1 (b := b15) (v := (48 + (n.tmod 10))) (by kernel_rfl) (md_ob uz nin0 h18)) (hqk 9 1 rfl rfl (v := S_ ((decB (n.tdiv 10)) ++ (byteB (48 + (n.tmod 10))))) (fun _ _ => r_adds (m := (decB (n.tdiv 10))) (n := (byteB (48 + (n.tmod 10)))) (by kernel_rfl) (by kernel_rfl) (by (try simp only [ByteArray.size_append]); omega)) (hqk 10 0 rfl rfl (v := S_ ((decB (n.tdiv 10)) ++ (byteB (48 + (n.tmod 10))))) (fun _ _ => r_assign (by kernel_rfl)) ?_)))
     refine hend (by kernel_rfl) ?_
     refine then_n (wp_ret ?_)
     refine br1 (v := S_ ((decB (n.tdiv 10)) ++ (byteB (48 + (n.tmod 10))))) rfl ?_
     exact ⟨by rw [dec_big n0 p8], (Mod.up M21)⟩
    ·
     refine sn rfl (cs := #[.int .u8 (48 + (n.tmod 10))]) (T := 5) (V := fun b => sl b 0 1 1) (r_buildSlice (n := 1) (ps := [(0, .int .u8 (48 + (n.tmod 10)))]) Ty.un40 Ty.sz5 Ty.zv5 (by decide) (by decide) (by kernel_rfl) (by kernel_rfl)) fun b12 w13 e14 h15 u16 => ?_
     have M18 := mtu M11 u16
     refine hxu u16 (hqk 8 3 rfl rfl (v := S_ (byteB (48 + (n.tmod 10)))) (fun _ uz => r_conv1 (b := b12) (v := (48 + (n.tmod 10))) (by kernel_rfl) (md_ob uz nin0 h15)) (h1a 2 2 rfl (sca [I_ (n.tdiv 10)] En.f96 (IH (n.tdiv 10) _ (by omega) (by omega)) ?_)))
     rintro e w19 ⟨rfl, u20⟩
     refine ⟨_, rfl, ?_⟩
     have M21 := mtu M18 u20
     refine hxu u20 (hqk 9 1 rfl rfl (v := S_ ((decB (n.tdiv 10)) ++ (byteB (48 + (n.tmod 10))))) (fun _ _ => r_adds (m := (decB (n.tdiv 10))) (n := (byteB (48 + (n.tmod 10)))) (by kernel_rfl) (by kernel_rfl) (by (try simp only [ByteArray.size_append]); omega)) (hqk 10 0 rfl rfl (v := S_ ((decB (n.tdiv 10)) ++ (byteB (48 + (n.tmod 10))))) (fun _ _ => r_assign (by kernel_rfl)) ?_))
     refine hend (by kernel_rfl) ?_
     refine then_n (wp_ret ?_)
     refine br1 (v := S_ ((decB (n.tdiv 10)) ++ (byteB (48 + (n.tmod 10))))) rfl ?_
     exact ⟨by rw [dec_big n0 p8], (Mod.up M21)⟩
   refine wp_cond_true (eb v7) (wp_seq (rg_lit (wmv (v := I_ n) (wlv (v := I_ (48 + n)) (adI 48 n (IntWalk.i64_in _ (by omega))) (wlv (v := .int .u8 (48 + n)) (r_toB (m := (48 + n)) (by kernel_rfl) (by omega) (by omega)) (wl (sn rfl (cs := #[.int .u8 (48 + n)]) (T := 5) (V := fun b => sl b 0 1 1) (r_buildSlice (n := 1) (ps := [(0, .int .u8 (48 + n))]) Ty.un40 Ty.sz5 Ty.zv5 (by decide) (by decide) (by kernel_rfl) (by kernel_rfl)) fun b9 w10 e11 h12 u13 => ?_)))))))
   have M15 := mtu (Mod.refl [] w) u13
   refine wlv (v := S_ (byteB (48 + n))) (r_conv1 (b := b9) (v := (48 + n)) (by kernel_rfl) h12) (was (v := S_ (byteB (48 + n))) (wnil (then_n (wp_ret (then_x (by nofun) ?_)))))
   refine br1 (v := S_ (byteB (48 + n))) rfl ?_
   exact ⟨by rw [dec_small n0 p8], (Mod.up M15)⟩
  omega
theorem decD_at {w : World} {n : Int} (h0 : 0 ≤ n) (h1 : n ≤ 9223372036854775807) : Calls Tryz.prog 96 #[.int .i64 n] w fun e w' => e = .returned (.string (decB n)) ∧ Up w w' := by
  obtain ⟨m, rfl⟩ : ∃ m : Nat, n = (m : Int) := ⟨n.toNat, by omega⟩
  induction m using Nat.strongRecOn generalizing w with
  | _ m ih =>
    refine decD1_at h0 h1 fun k W hk hlt => ?_
    obtain ⟨j, rfl⟩ : ∃ j : Nat, k = (j : Int) := ⟨k.toNat, by omega⟩
    exact ih j (by omega) (by omega) (by omega)
set_option maxHeartbeats 2000000 in
theorem markD_at {w : World} (m1 m2 : Int) (hm1 : 0 ≤ m1 ∧ m1 ≤ 1099511627776) (hm2 : 0 ≤ m2 ∧ m2 ≤ 8) : Calls Tryz.prog 37 #[.agg #[.int .i64 m1, .int .i64 m2]] w fun e w' => e = .returned (.string (markB ⟨m1, m2⟩)) ∧ Up w w' := by
  have hz1 := decB_len (n := m1) (by omega) (by omega)
  have hz2 := decB_len (n := m2) (by omega) (by omega)
  have hz3 : (⟨#[126]⟩ : ByteArray).size = 1 := rfl
  have hz4 : (⟨#[46]⟩ : ByteArray).size = 1 := rfl
  go_enter Tryz.func37, Tryz.ntmps37
  refine wp_seq (rg_lit (wl (sn rfl (cs := #[I_ m1, I_ m2]) (T := 24) (V := fun b => pt b 0) (r_box (v := .agg #[I_ m1, I_ m2]) (by kernel_rfl) rfl) fun b1 w2 e3 h4 u5 => ?_)))
  have M7 := mtu (Mod.refl [] w) u5
  refine was (v := S_ (⟨#[]⟩)) (wnil (then_n (wp_seq ?_)))
  refine rg_held [] (n := 10) (by kernel_rfl) rfl ?_
  intro w8 u9
  have M10 := mtu M7 u9
  refine hqk 0 9 rfl rfl (v := pt b1 0) (fun _ _ => fa (pt b1 0)) ?_
  have h11 := (up_ob u9 h4)
  refine hqk 1 8 rfl rfl (v := I_ m1) (fun _ uz => ld 0 Ty.ag2 (md_ob uz nin0 h11)) (hqk 5 7 rfl rfl (v := pt b1 1) (fun _ _ => fa (pt b1 0)) (hqk 6 6 rfl rfl (v := I_ m2) (fun _ uz => ld 1 Ty.ag3 (md_ob uz nin0 h11)) (h1a 2 5 rfl (sca [I_ m1] En.f96 (decD_at (n := m1) (by omega) (by omega)) ?_))))
  rintro e w12 ⟨rfl, u13⟩
  refine ⟨_, rfl, ?_⟩
  have M14 := mtu M10 u13
  refine hxu u13 (hqk 3 4 rfl rfl (v := S_ ((⟨#[126]⟩ : ByteArray) ++ (decB m1))) (fun _ _ => r_adds (m := (⟨#[126]⟩)) (n := (decB m1)) (by kernel_rfl) (by kernel_rfl) (by (try simp only [ByteArray.size_append]); omega)) (hqk 4 3 rfl rfl (v := S_ (((⟨#[126]⟩ : ByteArray) ++ (decB m1)) ++ (⟨#[46]⟩ : ByteArray))) (fun _ _ => r_adds (m := ((⟨#[126]⟩ : ByteArray) ++ (decB m1))) (n := (⟨#[46]⟩)) (by kernel_rfl) (by kernel_rfl) (by (try simp only [ByteArray.size_append]); omega)) (h1a 7 2 rfl (sca [I_ m2] En.f96 (decD_at (n := m2) (by omega) (by omega)) ?_))))
  rintro e w15 ⟨rfl, u16⟩
  refine ⟨_, rfl, ?_⟩
  have M17 := mtu M14 u16
  refine hxu u16 (hqk 8 1 rfl rfl (v := S_ ((((⟨#[126]⟩ : ByteArray) ++ (decB m1)) ++ (⟨#[46]⟩ : ByteArray)) ++ (decB m2))) (fun _ _ => r_adds (m := (((⟨#[126]⟩ : ByteArray) ++ (decB m1)) ++ (⟨#[46]⟩ : ByteArray))) (n := (decB m2)) (by kernel_rfl) (by kernel_rfl) (by (try simp only [ByteArray.size_append]); omega)) (hqk 9 0 rfl rfl (v := S_ ((((⟨#[126]⟩ : ByteArray) ++ (decB m1)) ++ (⟨#[46]⟩ : ByteArray)) ++ (decB m2))) (fun _ _ => r_assign (by kernel_rfl)) ?_))
  refine hend (by kernel_rfl) ?_
  refine then_n (wp_ret ?_)
  refine br1 (v := S_ ((((⟨#[126]⟩ : ByteArray) ++ (decB m1)) ++ (⟨#[46]⟩ : ByteArray)) ++ (decB m2))) rfl ?_
  exact ⟨rfl, (Mod.up M17)⟩
set_option maxHeartbeats 2000000 in
theorem shownD1_at {B base : Nat} {w : World} {l : List Item} {lA : Option Addr} {lc i : Nat} {x : Item} (hl : IRow 127 B base w (.slice lA l.length lc) l) (hix : l[i]? = some x) (hOK : OKI x) (hln : l.length ≤ 300) :
    Calls Tryz.prog 144 #[.slice lA l.length lc, .int .i64 (i : Int)] w fun e w' => e = .returned (.string (nmAt l i x)) ∧ Up w w' := by
  have hi : i < l.length := (List.getElem?_eq_some_iff.1 hix).1
  go_enter Tryz.func144, Tryz.ntmps144
  refine wp_seq (rg_lit (was (v := S_ (⟨#[]⟩)) (wnil (then_n (wp_seq (wp_seq (rg_lit (was (v := I_ 0) (wnil (then_n (wp_block ?_)))))))))))
  refine lp (fun n a r1 => ∃ (k : Nat), (n = i - k) ∧ (HasFr a 39 [(0, .slice lA l.length lc), (1, I_ i), (5, I_ k)] []) ∧ (Mod [] w r1) ∧ (k ≤ i) ∧ (Hid (∀ (j : Nat) (y : Item), j < k → l[j]? = some y → ¬ y.name = x.name))) ⟨_, 0, rfl, hmk, Mod.refl _ _, (Nat.zero_le _), (fun j y hj => absurd hj (Nat.not_lt_zero _))⟩ ?_
  rintro _ _ r1 ⟨k, rfl, h1, hM1, hF1_0, hF1_1⟩
  obtain ⟨Y52, rfl⟩ := h1
  have M2 := Mod.thin (Mod.refl [] w) hM1 (by simp)
  refine wp_seq (wp_seq (rg_lit (wmv (v := I_ k) (wmv (v := I_ i) (wl (sb rfl (ltI k i) fun b3 k4 => wnil (then_n ?_)))))))
  refine bcd k4 (fun v5 p6 => ?_) (fun v5 p6 => ?_)
  ·
   refine wp_cond_false (eb v5) (wp_exit (then_x (by nofun) (then_x (by nofun) (inb_hit (then_n (wp_seq (rg_lit (wmv (v := .slice lA l.length lc) (wmv (v := I_ i) ?_)))))))))
   have h7 := (IRow.up hl (Mod.up M2))
   obtain ⟨g8, cp8, cu8, dA8, dn8, dc8, hA8, hg8, hb8, he8, hD8⟩ := h7.get hix
   injection hA8 with hA8 _ _
   replace he8 : (cu8.toList.drop (0 + i * 10)).take 10 = (itC x (.slice dA8 dn8 dc8)) := by rw [Nat.zero_add]; exact he8
   refine wlv (v := pt g8 (0 + i * 10)) (ixa l.length lc 10 i hA8 Ty.un64 Ty.sz127) (wlv (v := pt g8 (0 + i * 10 + 4)) (fa (pt g8 (0 + i * 10))) (wlv (v := S_ x.name) (r_load (k := 0 + i * 10 + 4) (v := S_ x.name) (by kernel_rfl) Ty.ag9 hb8 (el_get he8 4 rfl)) (was (v := S_ x.name) (wnil (then_n (wp_ret ?_))))))
   refine br1 (v := S_ x.name) rfl ?_
   exact ⟨by rw [nm_no (by rw [show i = k by omega]; exact hF1_1)], (Mod.up M2)⟩
  have q8 : k < l.length := by omega
  refine wp_cond_true (eb v5) (wp_skip (then_n (wp_seq (wp_block (wp_seq ?_)))))
  refine rg_all (by kernel_rfl) (by kernel_rfl) ?_
  refine qmv (v := .slice lA l.length lc) (qmv (v := I_ k) ?_)
  have h9 := (IRow.up hl (Mod.up M2))
  obtain ⟨y10, hy10⟩ : ∃ x, l[k]? = some x := ⟨_, List.getElem?_eq_getElem q8⟩
  obtain ⟨g10, cp10, cu10, dA10, dn10, dc10, hA10, hg10, hb10, he10, hD10⟩ := h9.get hy10
  injection hA10 with hA10 _ _
  replace he10 : (cu10.toList.drop (0 + k * 10)).take 10 = (itC y10 (.slice dA10 dn10 dc10)) := by rw [Nat.zero_add]; exact he10
  refine qv rfl (v := pt g10 (0 + k * 10)) (fun _ _ => ixa l.length lc 10 k hA10 Ty.un64 Ty.sz127) (qv rfl (v := pt g10 (0 + k * 10 + 4)) (fun _ _ => fa (pt g10 (0 + k * 10))) (qv rfl (v := S_ y10.name) (fun _ uz => r_load (k := 0 + k * 10 + 4) (v := S_ y10.name) (by kernel_rfl) Ty.ag9 (up_ob uz hb10) (el_get he10 4 rfl)) (qmv (v := .slice lA l.length lc) (qmv (v := I_ i) ?_))))
  obtain ⟨g11, cp11, cu11, dA11, dn11, dc11, hA11, hg11, hb11, he11, hD11⟩ := h9.get hix
  injection hA11 with hA11 _ _
  replace he11 : (cu11.toList.drop (0 + i * 10)).take 10 = (itC x (.slice dA11 dn11 dc11)) := by rw [Nat.zero_add]; exact he11
  refine qv rfl (v := pt g11 (0 + i * 10)) (fun _ _ => ixa l.length lc 10 i hA11 Ty.un64 Ty.sz127) (qv rfl (v := pt g11 (0 + i * 10 + 4)) (fun _ _ => fa (pt g11 (0 + i * 10))) (qv rfl (v := S_ x.name) (fun _ uz => r_load (k := 0 + i * 10 + 4) (v := S_ x.name) (by kernel_rfl) Ty.ag9 (up_ob uz hb11) (el_get he11 4 rfl)) ?_))
  refine qb rfl (fun _ _ => r_eqs (m := y10.name) (n := x.name) (by kernel_rfl) (by kernel_rfl)) fun b12 k13 => ?_
  refine qnil fun w14 u15 => ?_
  have M16 := mtu M2 u15
  have M17 := mtu hM1 u15
  refine then_n ?_
  refine bcd k13 (fun v18 p19 => ?_) (fun v18 p19 => ?_)
  ·
   refine wp_cond_false (eb v18) (wp_skip (inb_n (then_n (rg_lit (wmv (v := I_ k) (wlv (v := I_ ((k + 1 : Nat) : Int)) (adI (c := ((k + 1 : Nat) : Int)) k 1 ((IntWalk.i64_in _ (by omega)).trans (by omega))) (was (v := I_ ((k + 1 : Nat) : Int)) (wnil (then_n ?_)))))))))
   refine ⟨i - (k + 1), ?_, (k + 1), rfl, hmk, M17, (by omega), (none_next (p := fun y : Item => y.name = x.name) hF1_1 hy10 p19)⟩
   · omega
  refine wp_cond_true (eb v18) (wp_seq ?_)
  refine rg_held [] (n := 13) (by kernel_rfl) rfl ?_
  intro w20 u21
  have M22 := mtu M16 u21
  refine hqk 0 12 rfl rfl (v := .slice lA l.length lc) (fun _ _ => mv) (hqk 1 11 rfl rfl (v := I_ i) (fun _ _ => mv) ?_)
  have h24 := (IRow.up hl (Mod.up M22))
  obtain ⟨g25, cp25, cu25, dA25, dn25, dc25, hA25, hg25, hb25, he25, hD25⟩ := h24.get hix
  injection hA25 with hA25 _ _
  replace he25 : (cu25.toList.drop (0 + i * 10)).take 10 = (itC x (.slice dA25 dn25 dc25)) := by rw [Nat.zero_add]; exact he25
  refine hqk 2 10 rfl rfl (v := pt g25 (0 + i * 10)) (fun _ _ => ixa l.length lc 10 i hA25 Ty.un64 Ty.sz127) (hqk 3 9 rfl rfl (v := pt g25 (0 + i * 10 + 4)) (fun _ _ => fa (pt g25 (0 + i * 10))) (hqk 4 8 rfl rfl (v := S_ x.name) (fun _ uz => r_load (k := 0 + i * 10 + 4) (v := S_ x.name) (by kernel_rfl) Ty.ag9 (md_ob uz nin0 hb25) (el_get he25 4 rfl)) (hqk 5 7 rfl rfl (v := .slice lA l.length lc) (fun _ _ => mv) (hqk 6 6 rfl rfl (v := I_ i) (fun _ _ => mv) ?_))))
  obtain ⟨g26, cp26, cu26, dA26, dn26, dc26, hA26, hg26, hb26, he26, hD26⟩ := h24.get hix
  injection hA26 with hA26 _ _
  replace he26 : (cu26.toList.drop (0 + i * 10)).take 10 = (itC x (.slice dA26 dn26 dc26)) := by rw [Nat.zero_add]; exact he26
  refine hqk 7 5 rfl rfl (v := pt g26 (0 + i * 10)) (fun _ _ => ixa l.length lc 10 i hA26 Ty.un64 Ty.sz127) (hqk 8 4 rfl rfl (v := pt g26 (0 + i * 10)) (fun _ _ => fa (pt g26 (0 + i * 10))) (hqk 9 3 rfl rfl (v := .agg #[I_ x.node.t, I_ x.node.w]) (fun _ uz => r_loads (k := 0 + i * 10) (by kernel_rfl) Ty.ag24 Ty.sz24 (md_ob uz nin0 hb26) (el_sub0 he26 rfl)) (h1a 10 2 rfl (sca [.agg #[I_ x.node.t, I_ x.node.w]] En.f37 (markD_at x.node.t x.node.w (OKI.st hOK).1 (OKI.st hOK).2) ?_))))
  rintro e w27 ⟨rfl, u28⟩
  refine ⟨_, rfl, ?_⟩
  have M29 := mtu M22 u28
  refine hxu u28 (hqk 11 1 rfl rfl (v := S_ (x.name ++ (markB ⟨x.node.t, x.node.w⟩))) (fun _ _ => r_adds (m := x.name) (n := (markB ⟨x.node.t, x.node.w⟩)) (by kernel_rfl) (by kernel_rfl) (by have := mark_size hOK; omega)) (hqk 12 0 rfl rfl (v := S_ (x.name ++ (markB ⟨x.node.t, x.node.w⟩))) (fun _ _ => r_assign (by kernel_rfl)) ?_))
  refine hend (by kernel_rfl) ?_
  refine then_n (wp_ret (inb_r (then_x (by nofun) (then_x (by nofun) (inb_r (then_x (by nofun) ?_))))))
  refine br1 (v := S_ (x.name ++ (markB ⟨x.node.t, x.node.w⟩))) rfl ?_
  exact ⟨by rw [nm_yes (by omega) hy10 p19], (Mod.up M29)⟩
set_option maxHeartbeats 2000000 in
theorem shownD_at {B : Nat} {w : World} {ub : Nat} {L : List Item} (h : RIs B w ub L) (hB : B ≤ w.heap.size) (hF : Fit L) (m1 m2 : Int) : Calls Tryz.prog 111 #[trP ub, .agg #[.int .i64 m1, .int .i64 m2]] w fun e w' => e = .returned (.tuple #[.string (shownB L ⟨m1, m2⟩), .int .i64 (shownK L ⟨m1, m2⟩)]) ∧ Up w w' := by
  obtain ⟨ii_r, iz_r, hi_r, hz_r, hs_r, hb_r, hc_r⟩ := info_ritem
  have hk3 := kids_300 hF ⟨(gotI L ⟨m1, m2⟩).parent.t, (gotI L ⟨m1, m2⟩).parent.w⟩
  go_enter Tryz.func111, Tryz.ntmps111
  refine wp_seq (rg_lit (wl (sn rfl (cs := #[I_ m1, I_ m2]) (T := 24) (V := fun b => pt b 0) (r_box (v := .agg #[I_ m1, I_ m2]) (by kernel_rfl) rfl) fun b1 w2 e3 h4 u5 => ?_)))
  have M7 := mtu (Mod.refl [] w) u5
  refine was (v := S_ (⟨#[]⟩)) (was (v := I_ 0) (wnil (then_n (wp_seq (rg_lit (wmv (v := pt ub 0) (wlv (v := .agg #[I_ m1, I_ m2]) (lds 0 Ty.ag24 Ty.sz24 h4) ?_)))))))
  have h8 := (RIs.up h (Mod.up M7))
  refine wl (sca [pt ub 0, .agg #[I_ m1, I_ m2]] En.f79 (rget_x h8 m1 m2) ?_)
  rintro e w9 ⟨A10, n11, c12, rfl, h13, u14⟩
  refine ⟨_, rfl, ?_⟩
  have M15 := mtu M7 u14
  refine wmv (v := .tuple #[itV (gotI L ⟨m1, m2⟩) (.slice A10 n11 c12), B_ (hasI L ⟨m1, m2⟩)]) (wlv (v := itV (gotI L ⟨m1, m2⟩) (.slice A10 n11 c12)) (xt [itV (gotI L ⟨m1, m2⟩) (.slice A10 n11 c12), B_ (hasI L ⟨m1, m2⟩)]) (wlv (v := B_ (hasI L ⟨m1, m2⟩)) (xt [itV (gotI L ⟨m1, m2⟩) (.slice A10 n11 c12), B_ (hasI L ⟨m1, m2⟩)]) (wl (sn rfl (cs := #[I_ 0, I_ 0, I_ 0, I_ 0, S_ (⟨#[]⟩), B_ false, B_ false, .slice none 0 0, I_ 0, I_ 0]) (T := 127) (V := fun b => pt b 0) (r_alloc Ty.zv127 rfl) fun b16 w17 e18 h19 u20 => ?_))))
  have h21 := (up_ob u14 h4)
  have l22 := lsz e18 h21
  have g23 := gsz e18 M15
  have M24 := mtu M15 u20
  refine wl (ss rfl (k := 0) (v := itV (gotI L ⟨m1, m2⟩) (.slice A10 n11 c12)) (vs := (itC (gotI L ⟨m1, m2⟩) (.slice A10 n11 c12))) (cs' := (itC (gotI L ⟨m1, m2⟩) (.slice A10 n11 c12))) (by kernel_rfl) (by kernel_rfl) rfl Ty.sz127 h19 rfl (Nat.le_of_ble_eq_true rfl) rfl fun w25 h26 c27 => ?_)
  have M28 := mtn M24 c27 g23
  refine was (v := B_ (hasI L ⟨m1, m2⟩)) (wnil (then_n (wp_seq (wp_seq (rg_lit (wmv (v := B_ (hasI L ⟨m1, m2⟩)) (wlv (v := B_ (!(hasI L ⟨m1, m2⟩))) (r_not (b := (hasI L ⟨m1, m2⟩)) (by kernel_rfl)) (wmv (v := B_ (!(hasI L ⟨m1, m2⟩))) ?_))))))))
  refine bcase (hasI L ⟨m1, m2⟩) (fun v29 => ?_) (fun v29 => ?_)
  ·
   iterate 4 refine wls rfl (bneg v29) ?_
   refine wlv (v := B_ true) (pkT (eb (bneg v29))) (wnil (then_n (wp_cond_true (by kernel_rfl) (wp_seq (rg_lit (was (v := S_ (⟨#[]⟩)) (was (v := I_ 12) (wnil (then_n (wp_ret (then_x (by nofun) ?_)))))))))))
   refine br2 (v := S_ (⟨#[]⟩)) (u := I_ 12) rfl ?_
   exact ⟨shown_ret (shown_no1 v29), (Mod.up M28)⟩
  refine wlw rfl (bneg v29) (v := pt ub 0) (mv) ?_
  have h30 := (chg_ob c27 (Nat.ne_of_lt l22) (up_ob u20 h21))
  refine wlw rfl (bneg v29) (v := .agg #[I_ m1, I_ m2]) (lds 0 Ty.ag24 Ty.sz24 h30) ?_
  have h31 := (RIs.up h (Mod.up M28))
  refine wl (sc (wt (b := !(hasI L ⟨m1, m2⟩)) rfl (by kernel_rfl) (bneg v29)) (r_callv (caps := []) (all := [pt ub 0, .agg #[I_ m1, I_ m2]]) En.f78 (by kernel_rfl) (by kernel_rfl)) (rhangs_at h31 m1 m2) ?_)
  rintro e w32 ⟨rfl, u33⟩
  refine ⟨_, rfl, ?_⟩
  have M34 := mtu M28 u33
  refine wlw rfl (bneg v29) (v := B_ (!(hangsI L 301 ⟨m1, m2⟩))) (r_not (b := (hangsI L 301 ⟨m1, m2⟩)) (by kernel_rfl)) (wlv (v := B_ (!(hangsI L 301 ⟨m1, m2⟩))) (pkF (eb (bneg v29))) (wnil (then_n ?_)))
  refine bcase (hangsI L 301 ⟨m1, m2⟩) (fun v35 => ?_) (fun v35 => ?_)
  ·
   refine wp_cond_true (eb (bneg v35)) (wp_seq (rg_lit (was (v := S_ (⟨#[]⟩)) (was (v := I_ 12) (wnil (then_n (wp_ret (then_x (by nofun) ?_))))))))
   refine br2 (v := S_ (⟨#[]⟩)) (u := I_ 12) rfl ?_
   exact ⟨shown_ret (shown_no2 v35), (Mod.up M34)⟩
  refine wp_cond_false (eb (bneg v35)) (wp_skip (then_n (wp_seq (rg_lit (wmv (v := pt ub 0) (wlv (v := pt b16 2) (fa (pt b16 0)) ?_))))))
  have h36 := (up_ob u33 h26)
  refine wlv (v := .agg #[I_ ((gotI L ⟨m1, m2⟩).parent.t), I_ ((gotI L ⟨m1, m2⟩).parent.w)]) (lds 2 Ty.ag24 Ty.sz24 h36) ?_
  have h43 := (RIs.up h (Mod.up M34))
  refine wl (sca [pt ub 0, .agg #[I_ ((gotI L ⟨m1, m2⟩).parent.t), I_ ((gotI L ⟨m1, m2⟩).parent.w)]] En.f87 (row_sl (rkids_at h43 (Nat.le_trans hB M34.size) ((gotI L ⟨m1, m2⟩).parent.t) ((gotI L ⟨m1, m2⟩).parent.w))) ?_)
  rintro e w37 ⟨A38, c39, rfl, h40, u41⟩
  have h42 := IRow.base h40 M34.size
  refine ⟨_, rfl, ?_⟩
  have M44 := mtu M34 u41
  refine was (v := .slice A38 ((kidsI ⟨(gotI L ⟨m1, m2⟩).parent.t, (gotI L ⟨m1, m2⟩).parent.w⟩ L).length) c39) (wnil (then_n (wp_seq (wp_seq (rg_lit (was (v := I_ 0) (wnil (then_n (wp_block ?_)))))))))
  have h45 := (up_ob u41 (up_ob u33 h30))
  refine lp (fun n a r1 => ∃ (k : Nat), (n = (kidsI ⟨(gotI L ⟨m1, m2⟩).parent.t, (gotI L ⟨m1, m2⟩).parent.w⟩ L).length - k) ∧ (HasFr a 44 [(0, pt ub 0), (1, .agg #[I_ m1, I_ m2]), (3, pt b1 0), (6, pt b16 0), (7, B_ (hasI L ⟨m1, m2⟩)), (8, .slice A38 ((kidsI ⟨(gotI L ⟨m1, m2⟩).parent.t, (gotI L ⟨m1, m2⟩).parent.w⟩ L).length) c39), (9, I_ k), (23, B_ (!(hangsI L 301 ⟨m1, m2⟩)))] []) ∧ (Mod [] w37 r1) ∧ (k ≤ (kidsI ⟨(gotI L ⟨m1, m2⟩).parent.t, (gotI L ⟨m1, m2⟩).parent.w⟩ L).length) ∧ (Hid (∀ (j : Nat) (y : Item), j < k → (kidsI ⟨(gotI L ⟨m1, m2⟩).parent.t, (gotI L ⟨m1, m2⟩).parent.w⟩ L)[j]? = some y → ¬ y.node = ⟨m1, m2⟩))) ⟨_, 0, rfl, hmk, Mod.refl _ _, (Nat.zero_le _), (fun j y hj => absurd hj (Nat.not_lt_zero _))⟩ ?_
  rintro _ _ r1 ⟨k, rfl, h49, hM1, hF1_0, hF1_1⟩
  obtain ⟨Y53, rfl⟩ := h49
  have M50 := Mod.thin M44 hM1 (by simp)
  refine wp_seq (wp_seq (rg_lit (wmv (v := I_ k) (wmv (v := .slice A38 ((kidsI ⟨(gotI L ⟨m1, m2⟩).parent.t, (gotI L ⟨m1, m2⟩).parent.w⟩ L).length) c39) (wlv (v := I_ (((kidsI ⟨(gotI L ⟨m1, m2⟩).parent.t, (gotI L ⟨m1, m2⟩).parent.w⟩ L).length) : Int)) (ln A38 ((kidsI ⟨(gotI L ⟨m1, m2⟩).parent.t, (gotI L ⟨m1, m2⟩).parent.w⟩ L).length) c39 Ty.un64) (wl (sb rfl (ltI k (((kidsI ⟨(gotI L ⟨m1, m2⟩).parent.t, (gotI L ⟨m1, m2⟩).parent.w⟩ L).length) : Int)) fun b51 k52 => wnil (then_n ?_))))))))
  refine bcd k52 (fun v53 p54 => ?_) (fun v53 p54 => ?_)
  ·
   refine wp_cond_false (eb v53) (wp_exit (then_x (by nofun) (then_x (by nofun) (inb_hit (then_n (wp_seq (rg_lit (was (v := S_ (⟨#[]⟩)) (was (v := I_ 12) (wnil (then_n (wp_ret ?_))))))))))))
   refine br2 (v := S_ (⟨#[]⟩)) (u := I_ 12) rfl ?_
   exact ⟨shown_ret (shownD_miss (k := k) (show (kidsI ⟨(gotI L ⟨m1, m2⟩).parent.t, (gotI L ⟨m1, m2⟩).parent.w⟩ L).length ≤ k by omega) hF1_1), (Mod.up M50)⟩
  have q55 : k < (kidsI ⟨(gotI L ⟨m1, m2⟩).parent.t, (gotI L ⟨m1, m2⟩).parent.w⟩ L).length := by omega
  refine wp_cond_true (eb v53) (wp_skip (then_n (wp_seq (wp_block (wp_seq ?_)))))
  refine rg_all (by kernel_rfl) (by kernel_rfl) ?_
  refine qmv (v := .slice A38 ((kidsI ⟨(gotI L ⟨m1, m2⟩).parent.t, (gotI L ⟨m1, m2⟩).parent.w⟩ L).length) c39) (qmv (v := I_ k) ?_)
  have h56 := (IRow.up h42 (Mod.up hM1))
  obtain ⟨y57, hy57⟩ : ∃ x, (kidsI ⟨(gotI L ⟨m1, m2⟩).parent.t, (gotI L ⟨m1, m2⟩).parent.w⟩ L)[k]? = some x := ⟨_, List.getElem?_eq_getElem q55⟩
  obtain ⟨g57, cp57, cu57, dA57, dn57, dc57, hA57, hg57, hb57, he57, hD57⟩ := h56.get hy57
  injection hA57 with hA57 _ _
  replace he57 : (cu57.toList.drop (0 + k * 10)).take 10 = (itC y57 (.slice dA57 dn57 dc57)) := by rw [Nat.zero_add]; exact he57
  refine qv rfl (v := pt g57 (0 + k * 10)) (fun _ _ => ixa ((kidsI ⟨(gotI L ⟨m1, m2⟩).parent.t, (gotI L ⟨m1, m2⟩).parent.w⟩ L).length) c39 10 k hA57 Ty.un64 Ty.sz127) (qv rfl (v := pt g57 (0 + k * 10)) (fun _ _ => fa (pt g57 (0 + k * 10))) (qv rfl (v := .agg #[I_ y57.node.t, I_ y57.node.w]) (fun _ uz => r_loads (k := 0 + k * 10) (by kernel_rfl) Ty.ag24 Ty.sz24 (up_ob uz hb57) (el_sub0 he57 rfl)) ?_))
  have h58 := md_ob hM1 nin0 h45
  refine qv rfl (v := .agg #[I_ m1, I_ m2]) (fun _ uz => lds 0 Ty.ag24 Ty.sz24 (up_ob uz h58)) ?_
  refine qb rfl (fun _ _ => r_eqS (a := y57.node.t) (b := y57.node.w) (c := m1) (e := m2) (by kernel_rfl) (by kernel_rfl)) fun b59 k60 => ?_
  refine qnil fun w61 u62 => ?_
  have M63 := mtu M50 u62
  have M64 := mtu hM1 u62
  refine then_n ?_
  refine bcd k60 (fun v65 p66 => ?_) (fun v65 p66 => ?_)
  ·
   refine wp_cond_false (eb v65) (wp_skip (inb_n (then_n (rg_lit (wmv (v := I_ k) (wlv (v := I_ ((k : Int) + 1)) (adI k 1 (IntWalk.i64_in _ (by omega))) (was (v := I_ ((k : Int) + 1)) (wnil (then_n ?_)))))))))
   refine ⟨(kidsI ⟨(gotI L ⟨m1, m2⟩).parent.t, (gotI L ⟨m1, m2⟩).parent.w⟩ L).length - (k + 1), ?_, (k + 1), rfl, hmk, M64, (by omega), (none_next (p := fun y : Item => y.node = ⟨m1, m2⟩) hF1_1 hy57 p66)⟩
   · omega
  refine wp_cond_true (eb v65) (wp_seq (rg_lit (wmv (v := .slice A38 ((kidsI ⟨(gotI L ⟨m1, m2⟩).parent.t, (gotI L ⟨m1, m2⟩).parent.w⟩ L).length) c39) (wmv (v := I_ k) ?_))))
  have h69 := (IRow.up h42 (Mod.up M64))
  refine wl (sca [.slice A38 ((kidsI ⟨(gotI L ⟨m1, m2⟩).parent.t, (gotI L ⟨m1, m2⟩).parent.w⟩ L).length) c39, I_ k] En.f144 (shownD1_at h69 hy57 ((Fit.kids hF _).1 _ (List.mem_of_getElem? hy57)) (kids_300 hF _)) ?_)
  rintro e w67 ⟨rfl, u68⟩
  refine ⟨_, rfl, ?_⟩
  have M70 := mtu M63 u68
  refine was (v := S_ (nmAt (kidsI ⟨(gotI L ⟨m1, m2⟩).parent.t, (gotI L ⟨m1, m2⟩).parent.w⟩ L) k y57)) (was (v := I_ 0) (wnil (then_n (wp_ret (inb_r (then_x (by nofun) (then_x (by nofun) (inb_r (then_x (by nofun) ?_)))))))))
  refine br2 (v := S_ (nmAt (kidsI ⟨(gotI L ⟨m1, m2⟩).parent.t, (gotI L ⟨m1, m2⟩).parent.w⟩ L) k y57)) (u := I_ 0) rfl ?_
  exact ⟨shown_ret (shownD_hit hF v29 v35 hy57 p66), (Mod.up M70)⟩
set_option maxRecDepth 20000 in
set_option maxHeartbeats 2000000 in
theorem ofD_at {B : Nat} {w : World} {ub : Nat} {L : List Item} (h : RIs B w ub L) (hB : B ≤ w.heap.size) (hF : Fit L) (m1 m2 : Int) : Calls Tryz.prog 53 #[trP ub, .agg #[.int .i64 m1, .int .i64 m2]] w fun e w' => e = .returned (.tuple #[.string (ofB L ⟨m1, m2⟩), .int .i64 (ofK L ⟨m1, m2⟩)]) ∧ Up w w' := by
  go_enter Tryz.func53, Tryz.ntmps53
  refine wp_seq (rg_lit (wl (sn rfl (cs := #[I_ m1, I_ m2]) (T := 24) (V := fun b => pt b 0) (r_box (v := .agg #[I_ m1, I_ m2]) (by kernel_rfl) rfl) fun pb w1 e2 h3 u4 => ?_)))
  have g5 := gsz e2 (Mod.refl [] w)
  have M6 := mtu (Mod.refl [] w) u4
  refine was (v := S_ (⟨#[]⟩)) (was (v := I_ 0) (wnil (then_n (wp_seq (wp_seq (rg_lit (wmv (v := pt ub 0) (wlv (v := .agg #[I_ m1, I_ m2]) (lds 0 Ty.ag24 Ty.sz24 h3) ?_))))))))
  have h7 := (RIs.up h (Mod.up M6))
  refine wl (sca [pt ub 0, .agg #[I_ m1, I_ m2]] En.f78 (rhangs_at h7 m1 m2) ?_)
  rintro e w8 ⟨rfl, u9⟩
  refine ⟨_, rfl, ?_⟩
  have M10 := mtu M6 u9
  refine wlv (v := B_ (!(hangsI L 301 ⟨m1, m2⟩))) (r_not (b := (hangsI L 301 ⟨m1, m2⟩)) (by kernel_rfl)) (wnil (then_n ?_))
  refine bcase (hangsI L 301 ⟨m1, m2⟩) (fun v11 => ?_) (fun v11 => ?_)
  ·
   refine wp_cond_true (eb (bneg v11)) (wp_seq (rg_lit (was (v := S_ (⟨#[]⟩)) (was (v := I_ 12) (wnil (then_n (wp_ret (then_x (by nofun) ?_))))))))
   refine br2 (v := S_ (⟨#[]⟩)) (u := I_ 12) rfl ?_
   exact ⟨of_ret (of_no v11), (Mod.up M10)⟩
  refine wp_cond_false (eb (bneg v11)) (wp_skip (then_n (wp_seq (rg_lit (was (v := S_ (⟨#[]⟩)) (wnil (then_n (wp_seq (wp_seq (rg_lit (was (v := I_ 0) (wnil (then_n (wp_block ?_))))))))))))))
  have h12 := (up_ob u9 h3)
  refine lp (fun n a r1 => ∃ (k : Nat) (s1 : Int) (s2 : Int) (acc : List ByteArray) (sx : ByteArray), (n = 17 - k) ∧ (HasFr a 44 [(0, pt ub 0), (1, .agg #[I_ m1, I_ m2]), (3, pt pb 0), (6, S_ sx), (7, I_ k), (15, B_ (!(hangsI L 301 ⟨m1, m2⟩)))] []) ∧ (Mod [pb] w8 r1) ∧ (r1.heap[pb]? = some (.cells #[I_ s1, I_ s2] 24 (0, 0))) ∧ (k ≤ 16) ∧ (acc.length = k) ∧ (ofL L (16 - k) ⟨s1, s2⟩ acc = ofL L 16 ⟨m1, m2⟩ []) ∧ (Shorts acc) ∧ (sx = slashL acc.reverse)) ⟨_, 0, m1, m2, [], ⟨#[]⟩, rfl, hmk, Mod.refl _ _, h12, (Nat.zero_le _), rfl, rfl, (fun x hx => absurd hx (by simp)), rfl⟩ ?_
  rintro _ _ r1 ⟨k, s1, s2, acc, sx, rfl, h14, hM1, hX1pb, hF1_0, hF1_1, hF1_2, hF1_3, hF1_4⟩
  obtain ⟨Y54, rfl⟩ := h14
  have M15 := Mod.thin M10 hM1 (fun y hy => by simp only [List.mem_cons, List.not_mem_nil, or_false] at hy; subst hy; exact .inr g5)
  refine wp_seq (wp_seq (rg_lit (wlv (v := .agg #[I_ s1, I_ s2]) (lds 0 Ty.ag24 Ty.sz24 hX1pb) (wlv (v := .agg #[I_ 0, I_ 0]) (r_build (ps := []) (cs := [I_ 0, I_ 0]) Ty.un24 Ty.zv24 Ty.pl24 (by kernel_rfl) (by kernel_rfl)) (wl (sb rfl (r_neS2 (a := s1) (b := s2) (c := 0) (e := 0) (by kernel_rfl) (by kernel_rfl)) fun b16 k17 => wnil (then_n ?_)))))))
  refine bcd k17 (fun v18 p19 => ?_) (fun v18 p19 => ?_)
  ·
   refine wp_cond_false (eb v18) (wp_exit (then_x (by nofun) (then_x (by nofun) (inb_hit (then_n (wp_seq (wp_seq (rg_lit (wmv (v := S_ sx) (wl (sb rfl (r_eqs (m := sx) (n := (⟨#[]⟩)) (by kernel_rfl) (by kernel_rfl)) fun b20 k21 => wnil (then_n ?_))))))))))))
   refine bcd k21 (fun v22 p23 => ?_) (fun v22 p23 => ?_)
   ·
    refine wp_cond_false (eb v22) (wp_skip (then_n (wp_seq (rg_lit (wmv (v := S_ sx) (was (v := S_ sx) (was (v := I_ 0) (wnil (then_n (wp_ret ?_))))))))))
    refine br2 (v := S_ sx) (u := I_ 0) rfl ?_
    have hz0 : ofL L 16 ⟨m1, m2⟩ [] = some acc := by rw [← hF1_2, Decidable.not_not.1 p19]; exact ofL_nil
    have hze := p23
    rw [hF1_4] at hze
    exact ⟨of_ret (b := sx) ⟨(of_yes v11 hz0).1.trans ((slashR_n hze).trans hF1_4.symm), (of_yes v11 hz0).2⟩, (Mod.up M15)⟩
   refine wp_cond_true (eb v22) (rg_lit (was (v := S_ (⟨#[47]⟩)) (wnil (then_n (wp_seq (rg_lit (wmv (v := S_ (⟨#[47]⟩)) (was (v := S_ (⟨#[47]⟩)) (was (v := I_ 0) (wnil (then_n (wp_ret ?_))))))))))))
   refine br2 (v := S_ (⟨#[47]⟩)) (u := I_ 0) rfl ?_
   have hz0 : ofL L 16 ⟨m1, m2⟩ [] = some acc := by rw [← hF1_2, Decidable.not_not.1 p19]; exact ofL_nil
   have hze := p23
   rw [hF1_4] at hze
   exact ⟨of_ret (b := ⟨#[47]⟩) ⟨(of_yes v11 hz0).1.trans (slashR_e hze), (of_yes v11 hz0).2⟩, (Mod.up M15)⟩
  refine wp_cond_true (eb v18) (wp_skip (then_n (wp_seq (wp_block (wp_seq (wp_seq (rg_lit (wmv (v := I_ k) (wl (sb rfl (eqI k 16) fun b20 k21 => wnil (then_n ?_)))))))))))
  refine bcd k21 (fun v22 p23 => ?_) (fun v22 p23 => ?_)
  ·
   refine wp_cond_false (eb v22) (wp_skip (then_n (wp_seq (rg_lit (wmv (v := pt ub 0) (wlv (v := .agg #[I_ s1, I_ s2]) (lds 0 Ty.ag24 Ty.sz24 hX1pb) ?_))))))
   have h24 := (RIs.up h (Mod.up M15))
   refine wl (sca [pt ub 0, .agg #[I_ s1, I_ s2]] En.f79 (rget_x h24 s1 s2) ?_)
   rintro e w25 ⟨A26, n27, c28, rfl, h29, u30⟩
   refine ⟨_, rfl, ?_⟩
   have M31 := mtu M15 u30
   have M32 := mtu hM1 u30
   refine wmv (v := .tuple #[itV (gotI L ⟨s1, s2⟩) (.slice A26 n27 c28), B_ (hasI L ⟨s1, s2⟩)]) (wlv (v := itV (gotI L ⟨s1, s2⟩) (.slice A26 n27 c28)) (xt [itV (gotI L ⟨s1, s2⟩) (.slice A26 n27 c28), B_ (hasI L ⟨s1, s2⟩)]) (wlv (v := B_ (hasI L ⟨s1, s2⟩)) (xt [itV (gotI L ⟨s1, s2⟩) (.slice A26 n27 c28), B_ (hasI L ⟨s1, s2⟩)]) (wl (sn rfl (cs := #[I_ 0, I_ 0, I_ 0, I_ 0, S_ (⟨#[]⟩), B_ false, B_ false, .slice none 0 0, I_ 0, I_ 0]) (T := 127) (V := fun b => pt b 0) (r_alloc Ty.zv127 rfl) fun b33 w34 e35 h36 u37 => ?_))))
   have h38 := (up_ob u30 hX1pb)
   have l39 := lsz e35 h38
   have g40 := gsz e35 M31
   have g41 := gsz e35 M32
   have M42 := mtu M31 u37
   have M43 := mtu M32 u37
   refine wl (ss rfl (k := 0) (v := itV (gotI L ⟨s1, s2⟩) (.slice A26 n27 c28)) (vs := (itC (gotI L ⟨s1, s2⟩) (.slice A26 n27 c28))) (cs' := (itC (gotI L ⟨s1, s2⟩) (.slice A26 n27 c28))) (by kernel_rfl) (by kernel_rfl) rfl Ty.sz127 h36 rfl (Nat.le_of_ble_eq_true rfl) rfl fun w44 h45 c46 => ?_)
   have M47 := mtn M42 c46 g40
   have M48 := mtn M43 c46 g41
   refine was (v := B_ (hasI L ⟨s1, s2⟩)) (wnil (then_n (wp_seq (rg_lit (wmv (v := pt ub 0) ?_)))))
   have h49 := (chg_ob c46 (Nat.ne_of_lt l39) (up_ob u37 h38))
   refine wlv (v := .agg #[I_ s1, I_ s2]) (lds 0 Ty.ag24 Ty.sz24 h49) ?_
   have h50 := (RIs.up h (Mod.up M47))
   refine wl (sca [pt ub 0, .agg #[I_ s1, I_ s2]] En.f111 (shownD_at h50 (Nat.le_trans hB M47.size) hF s1 s2) ?_)
   rintro e w51 ⟨rfl, u52⟩
   refine ⟨_, rfl, ?_⟩
   have M54 := mtu M48 u52
   refine wmv (v := .tuple #[S_ (shownB L ⟨s1, s2⟩), I_ (shownK L ⟨s1, s2⟩)]) (wlv (v := S_ (shownB L ⟨s1, s2⟩)) (xt [S_ (shownB L ⟨s1, s2⟩), I_ (shownK L ⟨s1, s2⟩)]) (wlv (v := I_ (shownK L ⟨s1, s2⟩)) (xt [S_ (shownB L ⟨s1, s2⟩), I_ (shownK L ⟨s1, s2⟩)]) (was (v := S_ (shownB L ⟨s1, s2⟩)) (was (v := I_ (shownK L ⟨s1, s2⟩)) (wnil (then_n (wp_seq (rg_lit (wmv (v := S_ (shownB L ⟨s1, s2⟩)) (wlv (v := S_ ((⟨#[47]⟩ : ByteArray) ++ (shownB L ⟨s1, s2⟩))) (r_adds (m := (⟨#[47]⟩)) (n := (shownB L ⟨s1, s2⟩)) (by kernel_rfl) (by kernel_rfl) (by have q1 := slashR_len hF1_3; have q2 : (⟨#[47]⟩ : ByteArray).size = 1 := rfl; rw [← hF1_4] at q1; have q3 := shown_short (L := L) hF ⟨s1, s2⟩; rw [← sz_len] at q3; (try simp only [ByteArray.size_append]); omega)) (wmv (v := S_ sx) ?_)))))))))))
   refine wlv (v := S_ (((⟨#[47]⟩ : ByteArray) ++ (shownB L ⟨s1, s2⟩)) ++ sx)) (r_adds (m := ((⟨#[47]⟩ : ByteArray) ++ (shownB L ⟨s1, s2⟩))) (n := sx) (by kernel_rfl) (by kernel_rfl) (by have q1 := slashR_len hF1_3; have q2 : (⟨#[47]⟩ : ByteArray).size = 1 := rfl; rw [← hF1_4] at q1; have q3 := shown_short (L := L) hF ⟨s1, s2⟩; rw [← sz_len] at q3; (try simp only [ByteArray.size_append]); omega)) (was (v := S_ (((⟨#[47]⟩ : ByteArray) ++ (shownB L ⟨s1, s2⟩)) ++ sx)) (wnil (then_n (rg_lit (wlv (v := pt b33 2) (fa (pt b33 0)) ?_)))))
   have h55 := (up_ob u52 h45)
   refine wlv (v := .agg #[I_ ((gotI L ⟨s1, s2⟩).parent.t), I_ ((gotI L ⟨s1, s2⟩).parent.w)]) (lds 2 Ty.ag24 Ty.sz24 h55) ?_
   have h56 := (up_ob u52 h49)
   refine wl (ss rfl (k := 0) (v := .agg #[I_ ((gotI L ⟨s1, s2⟩).parent.t), I_ ((gotI L ⟨s1, s2⟩).parent.w)]) (vs := [I_ ((gotI L ⟨s1, s2⟩).parent.t), I_ ((gotI L ⟨s1, s2⟩).parent.w)]) (cs' := [I_ ((gotI L ⟨s1, s2⟩).parent.t), I_ ((gotI L ⟨s1, s2⟩).parent.w)]) (by kernel_rfl) (by kernel_rfl) rfl Ty.sz24 h56 rfl (Nat.le_of_ble_eq_true rfl) rfl fun w57 h58 c59 => ?_)
   have M61 := mtx M54 c59
   refine wnil (inb_n (then_n (rg_lit (wmv (v := I_ k) (wlv (v := I_ ((k + 1 : Nat) : Int)) (adI (c := ((k + 1 : Nat) : Int)) k 1 ((IntWalk.i64_in _ (by omega)).trans (by omega))) (was (v := I_ ((k + 1 : Nat) : Int)) (wnil (then_n ?_))))))))
   refine ⟨17 - (k + 1), ?_, (k + 1), (gotI L ⟨s1, s2⟩).parent.t, (gotI L ⟨s1, s2⟩).parent.w, (acc ++ [(shownB L ⟨s1, s2⟩)]), (((⟨#[47]⟩ : ByteArray) ++ (shownB L ⟨s1, s2⟩)) ++ sx), rfl, hmk, M61, h58, (by omega), (by simp only [List.length_append, List.length_cons, List.length_nil]; omega), ((ofL_go (by omega) p19).symm.trans hF1_2), (Shorts.snoc hF1_3 (shown_short hF _)), (by rw [slashR, ← hF1_4])⟩
   · omega
  refine wp_cond_true (eb v22) (wp_seq (rg_lit (was (v := S_ (⟨#[]⟩)) (was (v := I_ 3) (wnil (then_n (wp_ret (then_x (by nofun) (inb_r (then_x (by nofun) (then_x (by nofun) (inb_r (then_x (by nofun) ?_)))))))))))))
  refine br2 (v := S_ (⟨#[]⟩)) (u := I_ 3) rfl ?_
  have hz0 : ofL L 16 ⟨m1, m2⟩ [] = none := by rw [← hF1_2, show 16 - k = 0 by omega]; exact ofL_stop p19
  exact ⟨of_ret (of_deep v11 hz0), (Mod.up M15)⟩
end Go.Proofs.YtefhfoioeoijlaaGreatDoor

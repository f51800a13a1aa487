/- GM -/
import Derived.Test.YtefhfoioeoijlaaGreatDoorUag
import Derived.Test.YtefhfoioeoijlaaGreatDoorUah
import Derived.Test.YtefhfoioeoijlaaGreatDoorUal
set_option linter.unusedVariables false
set_option linter.unusedSimpArgs false
namespace Go.Proofs.YtefhfoioeoijlaaGreatDoor
open Go Go.RowKit Go.Sort
set_option maxHeartbeats 2000000 in
theorem stable_at {B base : Nat} {w : World} {g nn c : Nat} {f : Nat → OpD} (h : ORow 49 B base w (.slice (some ⟨g, 0, none⟩) nn c) ((List.range nn).map f)) (hBb : B ≤ base) (hn : nn ≤ 1000000) :
    Calls Tryz.prog 161 #[.slice (some ⟨g, 0, none⟩) nn c, .int .i64 nn, .func (.func 115) #[] #[]] w fun e w' => ∃ D, e = .returned (.tuple #[]) ∧ ORow 49 B base w' (.slice (some ⟨g, 0, none⟩) nn c) (D.map f) ∧ AllSorted f nn D ∧ Chg w w' g := by
  obtain ⟨hnL, hnc, hcm, cu0, hg, hcs0⟩ := ORow.blk h
  have hBg := ORow.ge h hBb
  go_enter Tryz.func161, Tryz.ntmps161
  refine wp_seq (rg_lit (was (v := I_ 20) (wnil (then_n (wp_seq (rg_lit (wmv (v := I_ 20) (was (v := I_ 0) (was (v := I_ 20) (wnil (then_n (wp_seq (wp_block ?_)))))))))))))
  refine lp (fun n a r1 => ∃ (I1 : List Nat) (ka : Nat) (kb : Nat), (n = nn + 1 - ka) ∧ (HasFr a 63 [(0, sl g 0 nn c), (1, I_ nn), (2, .func (.func 115) #[] #[]), (6, I_ 20), (7, I_ ka), (8, I_ kb)] []) ∧ (Mod [g] w r1) ∧ (kb = ka + 20) ∧ (ka ≤ nn) ∧ (Blocks f nn 20 I1 ka) ∧ (ORow 49 B base r1 (sl g 0 nn c) (I1.map f))) ⟨_, (List.range nn), 0, 20, rfl, hmk, Mod.refl _ _, rfl, (Nat.zero_le _), (Blocks.first _ _ _), h⟩ ?_
  rintro _ _ r1 ⟨I1, ka, kb, rfl, h1, hM1, _, _, hF1_2, hF1_3⟩
  obtain ⟨_, rfl⟩ := h1
  have M2 := Mod.trans (Mod.of_mod (Y := [g]) (Mod.refl [] w) (by simp)) (Mod.of_mod (Y := [g]) hM1 (by simp))
  obtain ⟨_, _, _, _, _, _⟩ := ORow.blk hF1_3
  refine wp_seq (wp_seq (rg_lit (wmv (v := I_ kb) (wmv (v := I_ nn) (wl (sb rfl (r_le (k := .i64) (m := (kb : Int)) (n := (nn : Int)) (by kernel_rfl) (by kernel_rfl)) fun _ k5 => wnil (then_n ?_)))))))
  refine bcd k5 (fun v6 p7 => ?_) (fun v6 p7 => ?_)
  ·
   refine wp_cond_false (ebk v6) (wp_exit (then_x (by nofun) (then_x (by nofun) (inb_hit (then_n (wp_seq (rg_lit (wmv (v := sl g 0 nn c) (wmv (v := I_ ka) (wmv (v := I_ nn) (wmv (v := .func (.func 115) #[] #[]) ?_)))))))))))
   obtain ⟨p8, X8, hI8, hp8, hX8, hlt8, hN8⟩ := Blocks.last hF1_2 (by omega)
   have ho8 := ORow.to hF1_3 (congrArg (List.map f) hI8)
   refine wl (sca [sl g 0 nn c, I_ ka, I_ nn, .func (.func 115) #[] #[]] En.f200 (insertion_at ho8 hBb hn hp8 (by omega) hlt8) ?_)
   rintro e w9 ⟨D10, rfl, h11, h12, m13, c14⟩
   refine ⟨_, rfl, ?_⟩
   obtain ⟨_, _, _, cg17, hg17, _⟩ := ORow.blk h11
   have hT8 := hN8 _ h12 m13
   refine wnil (then_n (wp_block ?_))
   refine lp (fun n a r2 => ∃ (I2 : List Nat) (bs : Nat), (n = nn - bs) ∧ (HasFr a 63 [(0, sl g 0 nn c), (1, I_ nn), (2, .func (.func 115) #[] #[]), (6, I_ bs)] []) ∧ (Mod [g] w9 r2) ∧ (0 < bs) ∧ (Runs f bs 0 I2) ∧ (I2.length = nn) ∧ (ORow 49 B base r2 (sl g 0 nn c) (I2.map f))) ⟨_, (p8 ++ (D10 ++ ([] : List Nat))), 20, rfl, hmk, Mod.refl _ _, (by decide), hT8.1, hT8.2, h11⟩ ?_
   rintro _ _ r2 ⟨I2, bs, rfl, h18, hM2, _, hF2_1, hF2_2, hF2_3⟩
   obtain ⟨_, rfl⟩ := h18
   have M19 := Mod.trans (mtx M2 c14) (Mod.of_mod hM2 (by simp))
   obtain ⟨_, _, _, _, _, _⟩ := ORow.blk hF2_3
   refine wp_seq (wp_seq (rg_lit (wmv (v := I_ bs) (wmv (v := I_ nn) (wl (sb rfl (ltI bs nn) fun _ k23 => wnil (then_n ?_)))))))
   refine bcd k23 (fun v24 p25 => ?_) (fun v24 p25 => ?_)
   ·
    refine wp_cond_false (ebk v24) (wp_exit (then_x (by nofun) (then_x (by nofun) (inb_hit ?_))))
    refine bodyPost_end (v := .tuple #[]) (res0 rfl ) (by kernel_rfl) ?_
    exact ⟨I2, rfl, hF2_3, Runs.all hF2_1 hF2_2 (by omega) (by omega), (Mod.chg M19)⟩
   refine wp_cond_true (ebk v24) (wp_skip (then_n (wp_block (wp_seq (rg_lit (wmv (v := I_ bs) (wlv (v := N_ (2 * bs)) (r_mul (k := .i64) (m := 2) (n := (bs : Int)) (c := ((2 * bs : Nat) : Int)) (by kernel_rfl) (by kernel_rfl) ((IntWalk.i64_in _ (by omega)).trans (by omega))) (was (v := I_ 0) (was (v := N_ (2 * bs)) (wnil (then_n (wp_seq (wp_block ?_)))))))))))))
   refine lp (fun n a r3 => ∃ (I3 : List Nat) (kc : Nat) (kd : Nat), (n = nn + 1 - kc) ∧ (HasFr a 63 [(0, sl g 0 nn c), (1, I_ nn), (2, .func (.func 115) #[] #[]), (6, I_ bs), (7, I_ kc), (8, I_ kd)] []) ∧ (Mod [g] r2 r3) ∧ (kd = kc + 2 * bs) ∧ (kc ≤ nn) ∧ (Pass f nn bs I3 kc) ∧ (ORow 49 B base r3 (sl g 0 nn c) (I3.map f))) ⟨_, I2, 0, (2 * bs), rfl, hmk, Mod.refl _ _, (by omega), (Nat.zero_le _), (Pass.first hF2_1 hF2_2), hF2_3⟩ ?_
   rintro _ _ r3 ⟨I3, kc, kd, rfl, h28, hM3, _, _, hF3_2, hF3_3⟩
   obtain ⟨_, rfl⟩ := h28
   have M31 := Mod.trans hM2 (Mod.of_mod hM3 (by simp))
   obtain ⟨_, _, _, _, _, _⟩ := ORow.blk hF3_3
   refine wp_seq (wp_seq (rg_lit (wmv (v := I_ kd) (wmv (v := I_ nn) (wl (sb rfl (r_le (k := .i64) (m := (kd : Int)) (n := (nn : Int)) (by kernel_rfl) (by kernel_rfl)) fun _ k34 => wnil (then_n ?_)))))))
   refine bcd k34 (fun v35 p36 => ?_) (fun v35 p36 => ?_)
   ·
    refine wp_cond_false (ebk v35) (wp_exit (then_x (by nofun) (then_x (by nofun) (inb_hit (then_n (wp_seq (wp_seq (rg_lit (wmv (v := I_ kc) (wmv (v := I_ bs) (wlv (v := N_ (kc + bs)) (adN kc bs) (was (v := N_ (kc + bs)) (wnil (then_n (wp_seq (rg_lit (wmv (v := N_ (kc + bs)) (wmv (v := I_ nn) ?_))))))))))))))))))
    refine wl (sb rfl (ltI ((kc + bs : Nat) : Int) nn) fun _ k38 => wnil (then_n ?_))
    refine bcd k38 (fun v39 p40 => ?_) (fun v39 p40 => ?_)
    ·
     refine wp_cond_false (ebk v39) (wp_skip (then_n (rg_lit (wmv (v := I_ bs) (wlv (v := N_ (bs * 2)) (r_mul (k := .i64) (m := (bs : Int)) (n := 2) (c := ((bs * 2 : Nat) : Int)) (by kernel_rfl) (by kernel_rfl) ((IntWalk.i64_in _ (by omega)).trans (by omega))) (was (v := N_ (bs * 2)) (wnil (inb_n (then_n ?_)))))))))
     have hT41 := Pass.done hF3_2 (by omega) (by omega)
     refine ⟨nn - (bs * 2), ?_, I3, (bs * 2), rfl, hmk, M31, (by omega), (by have h0 := hT41.1; rw [Nat.mul_comm 2 bs] at h0; exact h0), hT41.2, hF3_3⟩
     · omega
    refine wp_cond_true (ebk v39) (rg_lit (wmv (v := sl g 0 nn c) (wmv (v := I_ kc) (wmv (v := N_ (kc + bs)) (wmv (v := I_ nn) (wmv (v := .func (.func 115) #[] #[]) ?_))))))
    obtain ⟨p41, _, _, hI41, hp41, _, _, sX41, sY41, hA41, hN41⟩ := Pass.tail hF3_2 (by omega) (by omega)
    have ho41 := ORow.to hF3_3 (congrArg (List.map f) hI41)
    refine wl (sca [sl g 0 nn c, I_ kc, N_ (kc + bs), I_ nn, .func (.func 115) #[] #[]] En.f201 (sym_all _ (Nat.le_refl _) ho41 hBb hn hp41 (by omega) (by omega) (by omega) (by omega) sX41 sY41 hA41) ?_)
    rintro e _ ⟨D43, rfl, h44, m45, c46⟩
    refine ⟨_, rfl, ?_⟩
    obtain ⟨_, _, _, _, _, _⟩ := ORow.blk h44
    have hT41 := hN41 _ m45
    refine wnil (then_n (rg_lit (wmv (v := I_ bs) (wlv (v := N_ (bs * 2)) (r_mul (k := .i64) (m := (bs : Int)) (n := 2) (c := ((bs * 2 : Nat) : Int)) (by kernel_rfl) (by kernel_rfl) ((IntWalk.i64_in _ (by omega)).trans (by omega))) (was (v := N_ (bs * 2)) (wnil (inb_n (then_n ?_))))))))
    refine ⟨nn - (bs * 2), ?_, (p41 ++ (D43 ++ ([] : List Nat))), (bs * 2), rfl, hmk, (mtx M31 c46), (by omega), (by have h0 := hT41.1; rw [Nat.mul_comm 2 bs] at h0; exact h0), hT41.2, h44⟩
    · omega
   refine wp_cond_true (ebk v35) (wp_skip (then_n (wp_block (wp_seq (rg_lit (wmv (v := sl g 0 nn c) ?_))))))
   iterate 2 refine wmv (v := I_ kc) ?_
   refine wmv (v := I_ bs) (wlv (v := N_ (kc + bs)) (adN kc bs) (wmv (v := I_ kd) (wmv (v := .func (.func 115) #[] #[]) ?_)))
   obtain ⟨p37, _, _, q37, hI37, hp37, _, _, sX37, sY37, hA37, hN37⟩ := Pass.pair hF3_2 (by omega)
   have ho37 := ORow.to hF3_3 (congrArg (List.map f) hI37)
   refine wl (sca [sl g 0 nn c, I_ kc, N_ (kc + bs), I_ kd, .func (.func 115) #[] #[]] En.f201 (sym_all _ (Nat.le_refl _) ho37 hBb hn hp37 (by omega) (by omega) (by omega) (by omega) sX37 sY37 hA37) ?_)
   rintro e _ ⟨D39, rfl, h40, m41, c42⟩
   refine ⟨_, rfl, ?_⟩
   obtain ⟨_, _, _, _, _, _⟩ := ORow.blk h40
   have hT37 := hN37 _ m41
   refine wnil (then_n (wp_seq (rg_lit (wmv (v := I_ kd) (was (v := I_ kd) (wnil (then_n (rg_lit (wmv (v := I_ kd) (wmv (v := I_ bs) (wlv (v := N_ (2 * bs)) (r_mul (k := .i64) (m := 2) (n := (bs : Int)) (c := ((2 * bs : Nat) : Int)) (by kernel_rfl) (by kernel_rfl) ((IntWalk.i64_in _ (by omega)).trans (by omega))) (wlv (v := N_ (kd + (2 * bs))) (adN kd ((2 * bs : Nat) : Int)) (was (v := N_ (kd + (2 * bs))) ?_)))))))))))))
   refine wnil (inb_n (then_n ?_))
   refine ⟨nn + 1 - kd, ?_, (p37 ++ (D39 ++ q37)), kd, (kd + (2 * bs)), rfl, hmk, (mtx hM3 c42), (by omega), (by omega), (by have h0 := hT37; rw [show kc + 2 * bs = kd by omega] at h0; exact h0), h40⟩
   · omega
  refine wp_cond_true (ebk v6) (wp_skip (then_n (wp_block (wp_seq (rg_lit (wmv (v := sl g 0 nn c) (wmv (v := I_ ka) (wmv (v := I_ kb) (wmv (v := .func (.func 115) #[] #[]) ?_)))))))))
  obtain ⟨p8, X8, q8, hI8, hp8, hX8, hlt8, hN8⟩ := Blocks.part hF1_2 (by omega)
  have ho8 := ORow.to hF1_3 (congrArg (List.map f) hI8)
  refine wl (sca [sl g 0 nn c, I_ ka, I_ kb, .func (.func 115) #[] #[]] En.f200 (insertion_at ho8 hBb hn hp8 (by omega) hlt8) ?_)
  rintro e w9 ⟨D10, rfl, h11, h12, m13, c14⟩
  refine ⟨_, rfl, ?_⟩
  obtain ⟨_, _, _, cg17, hg17, _⟩ := ORow.blk h11
  have hT8 := hN8 _ h12 m13
  refine wnil (then_n (wp_seq (rg_lit (wmv (v := I_ kb) (was (v := I_ kb) (wnil (then_n (rg_lit (wmv (v := I_ kb) (wmv (v := I_ 20) (wlv (v := N_ (kb + 20)) (adN kb 20) (was (v := N_ (kb + 20)) (wnil (inb_n (then_n ?_)))))))))))))))
  refine ⟨nn + 1 - kb, ?_, (p8 ++ (D10 ++ q8)), kb, (kb + 20), rfl, hmk, (mtx hM1 c14), (by omega), (by omega), (by have h0 := hT8; rw [show ka + 20 = kb by omega] at h0; exact h0), h11⟩
  · omega
set_option maxHeartbeats 2000000 in
theorem sortStable_at {B base : Nat} {w : World} {g nn c : Nat} {f : Nat → OpD} (h : ORow 49 B base w (.slice (some ⟨g, 0, none⟩) nn c) ((List.range nn).map f)) (hBb : B ≤ base) (hn : nn ≤ 1000000) :
    Calls Tryz.prog 114 #[.slice (some ⟨g, 0, none⟩) nn c, .func (.func 115) #[] #[]] w fun e w' => ∃ D, e = .returned (.tuple #[]) ∧ ORow 49 B base w' (.slice (some ⟨g, 0, none⟩) nn c) (D.map f) ∧ AllSorted f nn D ∧ Chg w w' g := by
  obtain ⟨hnL, hnc, hcm, cu0, hg, hcs0⟩ := ORow.blk h
  have hBg := ORow.ge h hBb
  go_enter Tryz.func114, Tryz.ntmps114
  refine rg_lit ?_
  iterate 2 refine wmv (v := sl g 0 nn c) ?_
  refine wlv (v := I_ nn) (ln (some ⟨g, 0, none⟩) nn c Ty.un22) (wmv (v := .func (.func 115) #[] #[]) (wl (sca [sl g 0 nn c, I_ nn, .func (.func 115) #[] #[]] En.f161 (stable_at h hBb hn) ?_)))
  rintro e _ ⟨_, rfl, h3, m4, c5⟩
  refine ⟨_, rfl, ?_⟩
  obtain ⟨_, _, _, _, _, _⟩ := ORow.blk h3
  refine wnil ?_
  refine bodyPost_end (v := .tuple #[]) (res0 rfl ) (by kernel_rfl) ?_
  exact ⟨_, rfl, h3, m4, (Mod.chg (md_old (Mod.refl [] w) c5))⟩
set_option maxHeartbeats 2000000 in
theorem compact_at {B base : Nat} {w : World} {g nn c : Nat} {f : Nat → OpD} {I : List Nat} (h : ORow 49 B base w (.slice (some ⟨g, 0, none⟩) nn c) (I.map f)) (hBb : B ≤ base) (hn : nn ≤ 1000000) :
    Calls Tryz.prog 116 #[.slice (some ⟨g, 0, none⟩) nn c, .func (.func 117) #[] #[]] w fun e w' => ∃ m J, e = .returned (.slice (some ⟨g, 0, none⟩) m c) ∧ ORow 49 B base w' (.slice (some ⟨g, 0, none⟩) m c) (J.map f) ∧ Thin f I J ∧ Chg w w' g := by
  obtain ⟨hnL, hnc, hcm, cu0, hg, hcs0⟩ := ORow.blk h
  have hBg := ORow.ge h hBb
  have hnI : nn = I.length := by simpa using hnL
  obtain ⟨zO, hzO, hzO1, hzO2⟩ := zero_op
  go_enter Tryz.func116, Tryz.ntmps116
  refine wp_seq (rg_lit (was (v := .slice none 0 0) (wnil (then_n (wp_seq (wp_seq (rg_lit (wmv (v := sl g 0 nn c) (wlv (v := I_ nn) (ln (some ⟨g, 0, none⟩) nn c Ty.un22) (wl (sb rfl (ltI nn 2) fun _ k2 => wnil (then_n ?_))))))))))))
  refine bcd k2 (fun v3 p4 => ?_) (fun v3 p4 => ?_)
  ·
   refine wp_cond_false (ebk v3) (wp_skip (then_n (wp_seq (wp_seq (rg_lit (was (v := I_ 1) (wnil (then_n (wp_block ?_)))))))))
   refine lp (fun n a r1 => ∃ (kk : Nat), (n = nn - kk) ∧ (HasFr a 66 [(0, sl g 0 nn c), (1, .func (.func 117) #[] #[]), (5, I_ kk)] []) ∧ (Mod [] w r1) ∧ (1 ≤ kk) ∧ (kk ≤ nn) ∧ (Thin f (I.take kk) (I.take kk))) ⟨_, 1, rfl, hmk, Mod.refl _ _, (Nat.le_refl _), (by omega), (Thin.first (by omega))⟩ ?_
   rintro _ _ r1 ⟨kk, rfl, h5, hM1, _, _, hF1_2⟩
   obtain ⟨_, rfl⟩ := h5
   have M6 := Mod.thin (Mod.refl [] w) hM1 (by simp)
   refine wp_seq (wp_seq (rg_lit (wmv (v := I_ kk) (wmv (v := sl g 0 nn c) (wlv (v := I_ nn) (ln (some ⟨g, 0, none⟩) nn c Ty.un22) (wl (sb rfl (ltI kk nn) fun _ k8 => wnil (then_n ?_))))))))
   refine bcd k8 (fun v9 p10 => ?_) (fun v9 p10 => ?_)
   ·
    refine wp_cond_false (ebk v9) (wp_exit (then_x (by nofun) (then_x (by nofun) (inb_hit (then_n (wp_seq (rg_lit (wmv (v := sl g 0 nn c) (was (v := sl g 0 nn c) (wnil (then_n (wp_ret ?_))))))))))))
    refine br1 (v := sl g 0 nn c) rfl ?_
    have hk : I.take kk = I := List.take_of_length_le (by omega)
    have ht := hF1_2
    rw [hk] at ht
    exact ⟨nn, I, rfl, (ORow.up h (Mod.up hM1)), ht, (to_chg (Mod.up M6) g)⟩
   refine wp_cond_true (ebk v9) (wp_skip (then_n (wp_seq (wp_block (wp_seq ?_)))))
   refine rg_tail 10 (by kernel_rfl) (by kernel_rfl) rfl rfl ?_
   refine qmv (v := .func (.func 117) #[] #[]) (qmv (v := sl g 0 nn c) (qmv (v := I_ kk) (qv rfl (v := pt g (kk * 10)) (fun _ _ => ixa (A := some ⟨g, 0, none⟩) nn c 10 kk rfl Ty.un22 Ty.sz49) ?_)))
   have h13 := (ORow.up h (Mod.up hM1))
   obtain ⟨x14, hx14⟩ : ∃ x, I[kk]? = some x := ⟨_, List.getElem?_eq_getElem (by omega)⟩
   obtain ⟨_, dA15, dn15, dc15, hb15, he15, _⟩ := ORow.elem h13 (map_get' hx14)
   refine qv rfl (v := opV (f x14) (.slice dA15 dn15 dc15)) (fun _ uz => r_loads (k := kk * 10) (vs := (opC (f x14) (.slice dA15 dn15 dc15))) (by kernel_rfl) Ty.ag49 Ty.sz49 (up_ob uz hb15) (el_sub0 he15 rfl)) (qmv (v := sl g 0 nn c) (qmv (v := I_ kk) (qv rfl (v := N_ (kk - 1)) (fun _ _ => sbN kk 1) (qv rfl (v := pt g ((kk - 1) * 10)) (fun _ _ => ixa (A := some ⟨g, 0, none⟩) nn c 10 ((kk - 1 : Nat) : Int) rfl Ty.un22 Ty.sz49) ?_))))
   obtain ⟨x16, hx16⟩ : ∃ x, I[kk - 1]? = some x := ⟨_, List.getElem?_eq_getElem (by omega)⟩
   obtain ⟨_, dA17, dn17, dc17, hb17, he17, _⟩ := ORow.elem h13 (map_get' hx16)
   refine qv rfl (v := opV (f x16) (.slice dA17 dn17 dc17)) (fun _ uz => r_loads (k := (kk - 1) * 10) (vs := (opC (f x16) (.slice dA17 dn17 dc17))) (by kernel_rfl) Ty.ag49 Ty.sz49 (up_ob uz hb17) (el_sub0 he17 rfl)) ?_
   refine qnil fun _ u19 => ?_
   refine wl (sca [opV (f x14) (.slice dA15 dn15 dc15), opV (f x16) (.slice dA17 dn17 dc17)] En.f117 (opsort1_at (f x14) (f x16) dA15 dA17 dn15 dc15 dn17 dc17) ?_)
   rintro e w22 ⟨rfl, u23⟩
   refine ⟨_, rfl, ?_⟩
   have M25 := mtu (mtu hM1 u19) u23
   refine wnil (then_n ?_)
   refine bcase (decide ((f x14).at_ = (f x16).at_)) (fun v26 => ?_) (fun v26 => ?_)
   ·
    refine wp_cond_false (ebk v26) (wp_skip (inb_n (then_n (rg_lit (wmv (v := I_ kk) (wlv (v := N_ (kk + 1)) (adN kk 1) (was (v := N_ (kk + 1)) (wnil (then_n ?_)))))))))
    refine ⟨nn - (kk + 1), ?_, (kk + 1), rfl, hmk, M25, (by omega), (by omega), (Thin.next hF1_2 hx14 hx16 (by omega) (of_decide_eq_false v26))⟩
    · omega
   refine wp_cond_true (ebk v26) (wp_seq (rg_lit (wmv (v := sl g 0 nn c) (wmv (v := I_ kk) (wlv (v := .slice (some ⟨g, 0 + kk * 10, none⟩) (nn - kk : Nat) (c - kk : Nat)) (r_sliceLo (b := g) (o := 0) (n := nn) (c := c) (k := kk) (by kernel_rfl) (by kernel_rfl) Ty.un22 Ty.sz49 (by omega) (by omega)) (was (v := .slice (some ⟨g, 0 + kk * 10, none⟩) (nn - kk : Nat) (c - kk : Nat)) (wnil (then_n (wp_seq (wp_seq (rg_lit (was (v := I_ 1) (wnil (then_n (wp_block ?_)))))))))))))))
   refine lp (fun n a r2 => ∃ (I2 : List Nat) (kl : Nat) (km : Nat), (n = nn - kl) ∧ (HasFr a 66 [(0, sl g 0 nn c), (1, .func (.func 117) #[] #[]), (5, I_ km), (6, .slice (some ⟨g, 0 + kk * 10, none⟩) (nn - kk : Nat) (c - kk : Nat)), (7, I_ kl)] []) ∧ (Mod [g] w22 r2) ∧ (Comp f I I2 kk kl km) ∧ (ORow 49 B base r2 (sl g 0 nn c) (I2.map f))) ⟨_, I, 1, kk, rfl, hmk, Mod.refl _ _, (Comp.first hF1_2 hx14 hx16 (by omega) (of_decide_eq_true v26)), (ORow.up h (Mod.up M25))⟩ ?_
   rintro _ _ r2 ⟨I2, kl, km, rfl, h29, hM2, hF2_0, hF2_1⟩
   obtain ⟨_, rfl⟩ := h29
   have M30 := Mod.trans (Mod.of_mod (Y := [g]) (mtu (mtu M6 u19) u23) (by simp)) (Mod.of_mod (Y := [g]) hM2 (by simp))
   obtain ⟨_, _, _, _, _⟩ := Comp.len hF2_0
   obtain ⟨_, _, _, _, _, _⟩ := ORow.blk hF2_1
   refine wp_seq (wp_seq (rg_lit (wmv (v := I_ kl) (wmv (v := .slice (some ⟨g, 0 + kk * 10, none⟩) (nn - kk : Nat) (c - kk : Nat)) (wlv (v := N_ (nn - kk)) (ln (some ⟨g, 0 + kk * 10, none⟩) (nn - kk : Nat) (c - kk : Nat) Ty.un22) (wl (sb rfl (ltI kl ((nn - kk : Nat) : Int)) fun _ k34 => wnil (then_n ?_))))))))
   refine bcd k34 (fun v35 p36 => ?_) (fun v35 p36 => ?_)
   ·
    refine wp_cond_false (ebk v35) (wp_exit (then_x (by nofun) (then_x (by nofun) (inb_hit (then_n (wp_seq (rg_lit (wmv (v := sl g 0 nn c) (wmv (v := I_ km) (wlv (v := .slice (some ⟨g, 0 + km * 10, none⟩) (nn - km : Nat) (c - km : Nat)) (r_sliceLo (b := g) (o := 0) (n := nn) (c := c) (k := km) (by kernel_rfl) (by kernel_rfl) Ty.un22 Ty.sz49 (by omega) (by omega)) (wl (clrO rfl (n := nn) (k := km) (m := 0 + km * 10) (q := (nn - km : Nat)) (cc := (c - km : Nat)) (z := zO) (by kernel_rfl) (by omega) (by omega) (by omega) hF2_1 Ty.un22 hzO hzO1 hzO2 (by decide) hBb fun _ h38 c39 => wnil (then_n (wp_seq (rg_lit (wmv (v := sl g 0 nn c) (wmv (v := I_ km) ?_)))))))))))))))))
    refine wlv (v := sl g 0 km c) (r_sliceHi (b := g) (o := 0) (n := nn) (c := c) (k := km) (by kernel_rfl) (by kernel_rfl) Ty.un22 Ty.sz49 (by omega)) (was (v := sl g 0 km c) (wnil (then_n (wp_ret (inb_r (then_x (by nofun) (then_x (by nofun) (inb_r (then_x (by nofun) ?_)))))))))
    refine br1 (v := sl g 0 km c) rfl ?_
    exact ⟨_, _, rfl, ORow.to h38 (by rw [← List.map_take]), Comp.fin hF2_0 (by omega), (Mod.chg (mtx M30 c39))⟩
   refine wp_cond_true (ebk v35) (wp_skip (then_n (wp_seq (wp_block (wp_seq ?_)))))
   refine rg_tail 10 (by kernel_rfl) (by kernel_rfl) rfl rfl ?_
   refine qmv (v := .func (.func 117) #[] #[]) (qmv (v := .slice (some ⟨g, 0 + kk * 10, none⟩) (nn - kk : Nat) (c - kk : Nat)) (qmv (v := I_ kl) (qv rfl (v := pt g ((kk + kl) * 10)) (fun _ _ => ixa (A := some ⟨g, 0 + kk * 10, none⟩) (nn - kk : Nat) (c - kk : Nat) 10 kl rfl Ty.un22 Ty.sz49) ?_)))
   obtain ⟨x37, hx37⟩ : ∃ x, I2[kk + kl]? = some x := ⟨_, List.getElem?_eq_getElem (by omega)⟩
   obtain ⟨_, dA38, dn38, dc38, hb38, he38, _⟩ := ORow.elem hF2_1 (map_get' hx37)
   refine qv rfl (v := opV (f x37) (.slice dA38 dn38 dc38)) (fun _ uz => r_loads (k := (kk + kl) * 10) (vs := (opC (f x37) (.slice dA38 dn38 dc38))) (by kernel_rfl) Ty.ag49 Ty.sz49 (up_ob uz hb38) (el_sub0 he38 rfl)) (qmv (v := .slice (some ⟨g, 0 + kk * 10, none⟩) (nn - kk : Nat) (c - kk : Nat)) (qmv (v := I_ kl) (qv rfl (v := N_ (kl - 1)) (fun _ _ => sbN kl 1) (qv rfl (v := pt g ((kk + (kl - 1)) * 10)) (fun _ _ => ixa (A := some ⟨g, 0 + kk * 10, none⟩) (nn - kk : Nat) (c - kk : Nat) 10 ((kl - 1 : Nat) : Int) rfl Ty.un22 Ty.sz49) ?_))))
   obtain ⟨x39, hx39⟩ : ∃ x, I2[kk + (kl - 1)]? = some x := ⟨_, List.getElem?_eq_getElem (by omega)⟩
   obtain ⟨_, dA40, dn40, dc40, hb40, he40, _⟩ := ORow.elem hF2_1 (map_get' hx39)
   refine qv rfl (v := opV (f x39) (.slice dA40 dn40 dc40)) (fun _ uz => r_loads (k := (kk + (kl - 1)) * 10) (vs := (opC (f x39) (.slice dA40 dn40 dc40))) (by kernel_rfl) Ty.ag49 Ty.sz49 (up_ob uz hb40) (el_sub0 he40 rfl)) ?_
   refine qnil fun _ u42 => ?_
   refine wl (sca [opV (f x37) (.slice dA38 dn38 dc38), opV (f x39) (.slice dA40 dn40 dc40)] En.f117 (opsort1_at (f x37) (f x39) dA38 dA40 dn38 dc38 dn40 dc40) ?_)
   rintro e _ ⟨rfl, u47⟩
   refine ⟨_, rfl, ?_⟩
   have M50 := mtu (mtu hM2 u42) u47
   refine wlv (v := B_ (!(decide ((f x37).at_ = (f x39).at_)))) (r_not (b := (decide ((f x37).at_ = (f x39).at_))) (by kernel_rfl)) (wnil (then_n ?_))
   refine bcase (decide ((f x37).at_ = (f x39).at_)) (fun v51 => ?_) (fun v51 => ?_)
   ·
    refine wp_cond_true (ebk (bneg v51)) (wp_seq (rg_lit (wmv (v := sl g 0 nn c) (wmv (v := I_ km) (wmv (v := .slice (some ⟨g, 0 + kk * 10, none⟩) (nn - kk : Nat) (c - kk : Nat)) (wmv (v := I_ kl) (wlv (v := pt g ((kk + kl) * 10)) (ixa (A := some ⟨g, 0 + kk * 10, none⟩) (nn - kk : Nat) (c - kk : Nat) 10 kl rfl Ty.un22 Ty.sz49) ?_)))))))
    have h52 := (ORow.up hF2_1 (up_up u42 u47))
    obtain ⟨_, dA53, dn53, dc53, hb53, he53, hD53⟩ := ORow.elem h52 (map_get' hx37)
    refine wlv (v := opV (f x37) (.slice dA53 dn53 dc53)) (r_loads (k := (kk + kl) * 10) (vs := (opC (f x37) (.slice dA53 dn53 dc53))) (by kernel_rfl) Ty.ag49 Ty.sz49 hb53 (el_sub0 he53 rfl)) (wlv (v := pt g (km * 10)) (ixa (A := some ⟨g, 0, none⟩) nn c 10 km rfl Ty.un22 Ty.sz49) ?_)
    obtain ⟨_, hb54, hk54, hp54⟩ := ORow.put (i := km) h52 (by simp; omega) hD53 (by decide) hBb
    refine wl (ss rfl (k := km * 10) (v := opV (f x37) (.slice dA53 dn53 dc53)) (vs := (opC (f x37) (.slice dA53 dn53 dc53))) (cs' := _) (by kernel_rfl) (by kernel_rfl) rfl Ty.sz49 hb54 rfl hk54 rfl fun _ h56 c57 => ?_)
    have hr54 := hp54 _ h56 c57
    rw [map_set'] at hr54
    obtain ⟨_, _, _, _, _, _⟩ := ORow.blk hr54
    refine wnil (then_n (rg_lit (wmv (v := I_ km) (wlv (v := N_ (km + 1)) (adN km 1) (was (v := N_ (km + 1)) (wnil (inb_n (then_n (rg_lit (wmv (v := I_ kl) (wlv (v := N_ (kl + 1)) (adN kl 1) (was (v := N_ (kl + 1)) (wnil (then_n ?_))))))))))))))
    refine ⟨nn - (kl + 1), ?_, (I2.set km x37), (kl + 1), (km + 1), rfl, hmk, (mtx M50 c57), (Comp.grow hF2_0 hx37 hx39 (of_decide_eq_false v51) hx37), hr54⟩
    · omega
   refine wp_cond_false (ebk (bneg v51)) (wp_skip (inb_n (then_n (rg_lit (wmv (v := I_ kl) (wlv (v := N_ (kl + 1)) (adN kl 1) (was (v := N_ (kl + 1)) (wnil (then_n ?_)))))))))
   refine ⟨nn - (kl + 1), ?_, I2, (kl + 1), km, rfl, hmk, M50, (Comp.hold hF2_0 hx37 hx39 (of_decide_eq_true v51)), (ORow.up hF2_1 (up_up u42 u47))⟩
   · omega
  refine wp_cond_true (ebk v3) (wp_seq (rg_lit (wmv (v := sl g 0 nn c) (was (v := sl g 0 nn c) (wnil (then_n (wp_ret (then_x (by nofun) ?_))))))))
  refine br1 (v := sl g 0 nn c) rfl ?_
  exact ⟨nn, I, rfl, h, Thin.small (by omega), (to_chg (Mod.up (Mod.refl [] w)) g)⟩
end Go.Proofs.YtefhfoioeoijlaaGreatDoor

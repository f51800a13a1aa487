/- GMZ, GMN, GJ, GK -/
import Derived.Test.YtefhfoioeoijlaaGreatDoorUab
import Derived.Test.YtefhfoioeoijlaaGreatDoorUag
import Derived.Test.YtefhfoioeoijlaaGreatDoorUah
import Derived.Test.YtefhfoioeoijlaaGreatDoorUaj
set_option linter.unusedVariables false
set_option linter.unusedSimpArgs false
namespace Go.Proofs.YtefhfoioeoijlaaGreatDoor
open Go Go.RowKit Go.Sort
set_option maxHeartbeats 2000000 in
theorem stable_atE {B base : Nat} {w : World} {g nn c : Nat} {f : Nat → EntD} (h : ERow 35 B base w (.slice (some ⟨g, 0, none⟩) nn c) ((List.range nn).map f)) (hBb : B ≤ base) (hn : nn ≤ 1000000) {NN : Nat} (hNN : ∀ i, (f i).name.data.toList.length ≤ NN) :
    Calls Tryz.prog 118 #[.slice (some ⟨g, 0, none⟩) nn c, .int .i64 nn, .func (.func 60) #[] #[]] w fun e w' => ∃ D, e = .returned (.tuple #[]) ∧ ERow 35 B base w' (.slice (some ⟨g, 0, none⟩) nn c) (D.map f) ∧ AllSorted (ky NN f) nn D ∧ Chg w w' g := by
  obtain ⟨hnL, hnc, hcm, cu0, hg, hcs0⟩ := ERow.blk h
  have hBg := ERow.ge h hBb
  go_enter Tryz.func118, Tryz.ntmps118
  refine wp_seq (rg_lit (was (v := I_ 20) (wnil (then_n (wp_seq (rg_lit (wmv (v := I_ 20) (was (v := I_ 0) (was (v := I_ 20) (wnil (then_n (wp_seq (wp_block ?_)))))))))))))
  refine lp (fun n a r1 => ∃ (I1 : List Nat) (ka : Nat) (kb : Nat), (n = nn + 1 - ka) ∧ (HasFr a 63 [(0, sl g 0 nn c), (1, I_ nn), (2, .func (.func 60) #[] #[]), (6, I_ 20), (7, I_ ka), (8, I_ kb)] []) ∧ (Mod [g] w r1) ∧ (kb = ka + 20) ∧ (ka ≤ nn) ∧ (Blocks (ky NN f) nn 20 I1 ka) ∧ (ERow 35 B base r1 (sl g 0 nn c) (I1.map f))) ⟨_, (List.range nn), 0, 20, rfl, hmk, Mod.refl _ _, rfl, (Nat.zero_le _), (Blocks.first _ _ _), h⟩ ?_
  rintro _ _ r1 ⟨I1, ka, kb, rfl, h1, hM1, _, _, hF1_2, hF1_3⟩
  obtain ⟨_, rfl⟩ := h1
  have M2 := Mod.trans (Mod.of_mod (Y := [g]) (Mod.refl [] w) (by simp)) (Mod.of_mod (Y := [g]) hM1 (by simp))
  obtain ⟨_, _, _, _, _, _⟩ := ERow.blk hF1_3
  refine wp_seq (wp_seq (rg_lit (wmv (v := I_ kb) (wmv (v := I_ nn) (wl (sb rfl (r_le (k := .i64) (m := (kb : Int)) (n := (nn : Int)) (by kernel_rfl) (by kernel_rfl)) fun _ k5 => wnil (then_n ?_)))))))
  refine bcd k5 (fun v6 p7 => ?_) (fun v6 p7 => ?_)
  ·
   refine wp_cond_false (ebk v6) (wp_exit (then_x (by nofun) (then_x (by nofun) (inb_hit (then_n (wp_seq (rg_lit (wmv (v := sl g 0 nn c) (wmv (v := I_ ka) (wmv (v := I_ nn) (wmv (v := .func (.func 60) #[] #[]) ?_)))))))))))
   obtain ⟨p8, X8, hI8, hp8, hX8, hlt8, hN8⟩ := Blocks.last hF1_2 (by omega)
   have ho8 := ERow.to hF1_3 (congrArg (List.map f) hI8)
   refine wl (sca [sl g 0 nn c, I_ ka, I_ nn, .func (.func 60) #[] #[]] En.f162 (insertion_atE ho8 hBb hn hNN hp8 (by omega) hlt8) ?_)
   rintro e w9 ⟨D10, rfl, h11, h12, m13, c14⟩
   refine ⟨_, rfl, ?_⟩
   obtain ⟨_, _, _, cg17, hg17, _⟩ := ERow.blk h11
   have hT8 := hN8 _ h12 m13
   refine wnil (then_n (wp_block ?_))
   refine lp (fun n a r2 => ∃ (I2 : List Nat) (bs : Nat), (n = nn - bs) ∧ (HasFr a 63 [(0, sl g 0 nn c), (1, I_ nn), (2, .func (.func 60) #[] #[]), (6, I_ bs)] []) ∧ (Mod [g] w9 r2) ∧ (0 < bs) ∧ (Runs (ky NN f) bs 0 I2) ∧ (I2.length = nn) ∧ (ERow 35 B base r2 (sl g 0 nn c) (I2.map f))) ⟨_, (p8 ++ (D10 ++ ([] : List Nat))), 20, rfl, hmk, Mod.refl _ _, (by decide), hT8.1, hT8.2, h11⟩ ?_
   rintro _ _ r2 ⟨I2, bs, rfl, h18, hM2, _, hF2_1, hF2_2, hF2_3⟩
   obtain ⟨_, rfl⟩ := h18
   have M19 := Mod.trans (mtx M2 c14) (Mod.of_mod hM2 (by simp))
   obtain ⟨_, _, _, _, _, _⟩ := ERow.blk hF2_3
   refine wp_seq (wp_seq (rg_lit (wmv (v := I_ bs) (wmv (v := I_ nn) (wl (sb rfl (ltI bs nn) fun _ k23 => wnil (then_n ?_)))))))
   refine bcd k23 (fun v24 p25 => ?_) (fun v24 p25 => ?_)
   ·
    refine wp_cond_false (ebk v24) (wp_exit (then_x (by nofun) (then_x (by nofun) (inb_hit ?_))))
    refine bodyPost_end (v := .tuple #[]) (res0 rfl ) (by kernel_rfl) ?_
    exact ⟨I2, rfl, hF2_3, Runs.all hF2_1 hF2_2 (by omega) (by omega), (Mod.chg M19)⟩
   refine wp_cond_true (ebk v24) (wp_skip (then_n (wp_block (wp_seq (rg_lit (wmv (v := I_ bs) (wlv (v := N_ (2 * bs)) (r_mul (k := .i64) (m := 2) (n := (bs : Int)) (c := ((2 * bs : Nat) : Int)) (by kernel_rfl) (by kernel_rfl) ((IntWalk.i64_in _ (by omega)).trans (by omega))) (was (v := I_ 0) (was (v := N_ (2 * bs)) (wnil (then_n (wp_seq (wp_block ?_)))))))))))))
   refine lp (fun n a r3 => ∃ (I3 : List Nat) (kc : Nat) (kd : Nat), (n = nn + 1 - kc) ∧ (HasFr a 63 [(0, sl g 0 nn c), (1, I_ nn), (2, .func (.func 60) #[] #[]), (6, I_ bs), (7, I_ kc), (8, I_ kd)] []) ∧ (Mod [g] r2 r3) ∧ (kd = kc + 2 * bs) ∧ (kc ≤ nn) ∧ (Pass (ky NN f) nn bs I3 kc) ∧ (ERow 35 B base r3 (sl g 0 nn c) (I3.map f))) ⟨_, I2, 0, (2 * bs), rfl, hmk, Mod.refl _ _, (by omega), (Nat.zero_le _), (Pass.first hF2_1 hF2_2), hF2_3⟩ ?_
   rintro _ _ r3 ⟨I3, kc, kd, rfl, h28, hM3, _, _, hF3_2, hF3_3⟩
   obtain ⟨_, rfl⟩ := h28
   have M31 := Mod.trans hM2 (Mod.of_mod hM3 (by simp))
   obtain ⟨_, _, _, _, _, _⟩ := ERow.blk hF3_3
   refine wp_seq (wp_seq (rg_lit (wmv (v := I_ kd) (wmv (v := I_ nn) (wl (sb rfl (r_le (k := .i64) (m := (kd : Int)) (n := (nn : Int)) (by kernel_rfl) (by kernel_rfl)) fun _ k34 => wnil (then_n ?_)))))))
   refine bcd k34 (fun v35 p36 => ?_) (fun v35 p36 => ?_)
   ·
    refine wp_cond_false (ebk v35) (wp_exit (then_x (by nofun) (then_x (by nofun) (inb_hit (then_n (wp_seq (wp_seq (rg_lit (wmv (v := I_ kc) (wmv (v := I_ bs) (wlv (v := N_ (kc + bs)) (adN kc bs) (was (v := N_ (kc + bs)) (wnil (then_n (wp_seq (rg_lit (wmv (v := N_ (kc + bs)) (wmv (v := I_ nn) ?_))))))))))))))))))
    refine wl (sb rfl (ltI ((kc + bs : Nat) : Int) nn) fun _ k38 => wnil (then_n ?_))
    refine bcd k38 (fun v39 p40 => ?_) (fun v39 p40 => ?_)
    ·
     refine wp_cond_false (ebk v39) (wp_skip (then_n (rg_lit (wmv (v := I_ bs) (wlv (v := N_ (bs * 2)) (r_mul (k := .i64) (m := (bs : Int)) (n := 2) (c := ((bs * 2 : Nat) : Int)) (by kernel_rfl) (by kernel_rfl) ((IntWalk.i64_in _ (by omega)).trans (by omega))) (was (v := N_ (bs * 2)) (wnil (inb_n (then_n ?_)))))))))
     have hT41 := Pass.done hF3_2 (by omega) (by omega)
     refine ⟨nn - (bs * 2), ?_, I3, (bs * 2), rfl, hmk, M31, (by omega), (by have h0 := hT41.1; rw [Nat.mul_comm 2 bs] at h0; exact h0), hT41.2, hF3_3⟩
     · omega
    refine wp_cond_true (ebk v39) (rg_lit (wmv (v := sl g 0 nn c) (wmv (v := I_ kc) (wmv (v := N_ (kc + bs)) (wmv (v := I_ nn) (wmv (v := .func (.func 60) #[] #[]) ?_))))))
    obtain ⟨p41, _, _, hI41, hp41, _, _, sX41, sY41, hA41, hN41⟩ := Pass.tail hF3_2 (by omega) (by omega)
    have ho41 := ERow.to hF3_3 (congrArg (List.map f) hI41)
    refine wl (sca [sl g 0 nn c, I_ kc, N_ (kc + bs), I_ nn, .func (.func 60) #[] #[]] En.f163 (sym_allE _ (Nat.le_refl _) ho41 hBb hn hNN hp41 (by omega) (by omega) (by omega) (by omega) sX41 sY41 hA41) ?_)
    rintro e _ ⟨D43, rfl, h44, m45, c46⟩
    refine ⟨_, rfl, ?_⟩
    obtain ⟨_, _, _, _, _, _⟩ := ERow.blk h44
    have hT41 := hN41 _ m45
    refine wnil (then_n (rg_lit (wmv (v := I_ bs) (wlv (v := N_ (bs * 2)) (r_mul (k := .i64) (m := (bs : Int)) (n := 2) (c := ((bs * 2 : Nat) : Int)) (by kernel_rfl) (by kernel_rfl) ((IntWalk.i64_in _ (by omega)).trans (by omega))) (was (v := N_ (bs * 2)) (wnil (inb_n (then_n ?_))))))))
    refine ⟨nn - (bs * 2), ?_, (p41 ++ (D43 ++ ([] : List Nat))), (bs * 2), rfl, hmk, (mtx M31 c46), (by omega), (by have h0 := hT41.1; rw [Nat.mul_comm 2 bs] at h0; exact h0), hT41.2, h44⟩
    · omega
   refine wp_cond_true (ebk v35) (wp_skip (then_n (wp_block (wp_seq (rg_lit (wmv (v := sl g 0 nn c) ?_))))))
   iterate 2 refine wmv (v := I_ kc) ?_
   refine wmv (v := I_ bs) (wlv (v := N_ (kc + bs)) (adN kc bs) (wmv (v := I_ kd) (wmv (v := .func (.func 60) #[] #[]) ?_)))
   obtain ⟨p37, _, _, q37, hI37, hp37, _, _, sX37, sY37, hA37, hN37⟩ := Pass.pair hF3_2 (by omega)
   have ho37 := ERow.to hF3_3 (congrArg (List.map f) hI37)
   refine wl (sca [sl g 0 nn c, I_ kc, N_ (kc + bs), I_ kd, .func (.func 60) #[] #[]] En.f163 (sym_allE _ (Nat.le_refl _) ho37 hBb hn hNN hp37 (by omega) (by omega) (by omega) (by omega) sX37 sY37 hA37) ?_)
   rintro e _ ⟨D39, rfl, h40, m41, c42⟩
   refine ⟨_, rfl, ?_⟩
   obtain ⟨_, _, _, _, _, _⟩ := ERow.blk h40
   have hT37 := hN37 _ m41
   refine wnil (then_n (wp_seq (rg_lit (wmv (v := I_ kd) (was (v := I_ kd) (wnil (then_n (rg_lit (wmv (v := I_ kd) (wmv (v := I_ bs) (wlv (v := N_ (2 * bs)) (r_mul (k := .i64) (m := 2) (n := (bs : Int)) (c := ((2 * bs : Nat) : Int)) (by kernel_rfl) (by kernel_rfl) ((IntWalk.i64_in _ (by omega)).trans (by omega))) (wlv (v := N_ (kd + (2 * bs))) (adN kd ((2 * bs : Nat) : Int)) (was (v := N_ (kd + (2 * bs))) ?_)))))))))))))
   refine wnil (inb_n (then_n ?_))
   refine ⟨nn + 1 - kd, ?_, (p37 ++ (D39 ++ q37)), kd, (kd + (2 * bs)), rfl, hmk, (mtx hM3 c42), (by omega), (by omega), (by have h0 := hT37; rw [show kc + 2 * bs = kd by omega] at h0; exact h0), h40⟩
   · omega
  refine wp_cond_true (ebk v6) (wp_skip (then_n (wp_block (wp_seq (rg_lit (wmv (v := sl g 0 nn c) (wmv (v := I_ ka) (wmv (v := I_ kb) (wmv (v := .func (.func 60) #[] #[]) ?_)))))))))
  obtain ⟨p8, X8, q8, hI8, hp8, hX8, hlt8, hN8⟩ := Blocks.part hF1_2 (by omega)
  have ho8 := ERow.to hF1_3 (congrArg (List.map f) hI8)
  refine wl (sca [sl g 0 nn c, I_ ka, I_ kb, .func (.func 60) #[] #[]] En.f162 (insertion_atE ho8 hBb hn hNN hp8 (by omega) hlt8) ?_)
  rintro e w9 ⟨D10, rfl, h11, h12, m13, c14⟩
  refine ⟨_, rfl, ?_⟩
  obtain ⟨_, _, _, cg17, hg17, _⟩ := ERow.blk h11
  have hT8 := hN8 _ h12 m13
  refine wnil (then_n (wp_seq (rg_lit (wmv (v := I_ kb) (was (v := I_ kb) (wnil (then_n (rg_lit (wmv (v := I_ kb) (wmv (v := I_ 20) (wlv (v := N_ (kb + 20)) (adN kb 20) (was (v := N_ (kb + 20)) (wnil (inb_n (then_n ?_)))))))))))))))
  refine ⟨nn + 1 - kb, ?_, (p8 ++ (D10 ++ q8)), kb, (kb + 20), rfl, hmk, (mtx hM1 c14), (by omega), (by omega), (by have h0 := hT8; rw [show ka + 20 = kb by omega] at h0; exact h0), h11⟩
  · omega
set_option maxHeartbeats 2000000 in
theorem sortStable_atE {B base : Nat} {w : World} {g nn c : Nat} {f : Nat → EntD} (h : ERow 35 B base w (.slice (some ⟨g, 0, none⟩) nn c) ((List.range nn).map f)) (hBb : B ≤ base) (hn : nn ≤ 1000000) {NN : Nat} (hNN : ∀ i, (f i).name.data.toList.length ≤ NN) :
    Calls Tryz.prog 59 #[.slice (some ⟨g, 0, none⟩) nn c, .func (.func 60) #[] #[]] w fun e w' => ∃ D, e = .returned (.tuple #[]) ∧ ERow 35 B base w' (.slice (some ⟨g, 0, none⟩) nn c) (D.map f) ∧ AllSorted (ky NN f) nn D ∧ Chg w w' g := by
  obtain ⟨hnL, hnc, hcm, cu0, hg, hcs0⟩ := ERow.blk h
  have hBg := ERow.ge h hBb
  go_enter Tryz.func59, Tryz.ntmps59
  refine rg_lit ?_
  iterate 2 refine wmv (v := sl g 0 nn c) ?_
  refine wlv (v := I_ nn) (ln (some ⟨g, 0, none⟩) nn c Ty.un29) (wmv (v := .func (.func 60) #[] #[]) (wl (sca [sl g 0 nn c, I_ nn, .func (.func 60) #[] #[]] En.f118 (stable_atE h hBb hn hNN) ?_)))
  rintro e _ ⟨_, rfl, h3, m4, c5⟩
  refine ⟨_, rfl, ?_⟩
  obtain ⟨_, _, _, _, _, _⟩ := ERow.blk h3
  refine wnil ?_
  refine bodyPost_end (v := .tuple #[]) (res0 rfl ) (by kernel_rfl) ?_
  exact ⟨_, rfl, h3, m4, (Mod.chg (md_old (Mod.refl [] w) c5))⟩
end Go.Proofs.YtefhfoioeoijlaaGreatDoor
set_option linter.unusedVariables false
set_option linter.unusedSimpArgs false
namespace Go.Proofs.YtefhfoioeoijlaaGreatDoor
open Go Go.RowKit Go.Sort
set_option maxHeartbeats 2000000 in
theorem insNil_at {w : World} : Calls Tryz.prog 162 #[.slice none 0 0, .int .i64 0, .int .i64 0, .func (.func 60) #[] #[]] w fun e w' => e = .returned (.tuple #[]) ∧ Up w w' := by
  go_enter Tryz.func162, Tryz.ntmps162
  refine wp_seq (rg_lit (wmv (v := I_ 0) (wl (sv (w' := w) rfl (v := I_ 1) (by kernel_rfl) (was (v := I_ 1) (wnil (then_n (wp_block ?_))))))))
  refine lp (fun n a r1 => (n = 0) ∧ (HasFr a 53 [(0, .slice none 0 0), (1, I_ 0), (2, I_ 0), (3, .func (.func 60) #[] #[]), (8, I_ 1)] []) ∧ (Mod [] w r1)) ⟨_, rfl, hmk, Mod.refl _ _⟩ ?_
  rintro _ _ r1 ⟨rfl, h1, hM1⟩
  obtain ⟨_, rfl⟩ := h1
  have M2 := Mod.thin (Mod.refl [] w) hM1 (by simp)
  refine wp_seq (wp_seq (rg_lit (wmv (v := I_ 1) (wmv (v := I_ 0) (wl (sv (w' := r1) rfl (v := B_ false) (by kernel_rfl) (wnil (then_n (wp_cond_false (by kernel_rfl) (wp_exit (then_x (by nofun) (then_x (by nofun) (inb_hit ?_)))))))))))))
  refine bodyPost_end (v := .tuple #[]) (res0 rfl ) (by kernel_rfl) ?_
  exact ⟨rfl, (Mod.up M2)⟩
set_option maxHeartbeats 2000000 in
theorem stableNil_at {w : World} : Calls Tryz.prog 118 #[.slice none 0 0, .int .i64 0, .func (.func 60) #[] #[]] w fun e w' => e = .returned (.tuple #[]) ∧ Up w w' := by
  go_enter Tryz.func118, Tryz.ntmps118
  refine wp_seq (rg_lit (was (v := I_ 20) (wnil (then_n (wp_seq (rg_lit (wmv (v := I_ 20) (was (v := I_ 0) (was (v := I_ 20) (wnil (then_n (wp_seq (wp_block ?_)))))))))))))
  refine lp (fun n a r1 => (n = 0) ∧ (HasFr a 63 [(0, .slice none 0 0), (1, I_ 0), (2, .func (.func 60) #[] #[]), (6, I_ 20), (7, I_ 0), (8, I_ 20)] []) ∧ (Mod [] w r1)) ⟨_, rfl, hmk, Mod.refl _ _⟩ ?_
  rintro _ _ r1 ⟨rfl, h1, hM1⟩
  obtain ⟨_, rfl⟩ := h1
  have M2 := Mod.thin (Mod.refl [] w) hM1 (by simp)
  refine wp_seq (wp_seq (rg_lit (wmv (v := I_ 20) (wmv (v := I_ 0) (wl (sv (w' := r1) rfl (v := B_ false) (by kernel_rfl) (wnil (then_n (wp_cond_false (by kernel_rfl) (wp_exit (then_x (by nofun) (then_x (by nofun) (inb_hit (then_n (wp_seq (rg_lit (wmv (v := .slice none 0 0) ?_)))))))))))))))))
  iterate 2 refine wmv (v := I_ 0) ?_
  refine wmv (v := .func (.func 60) #[] #[]) (wl (sca [.slice none 0 0, I_ 0, I_ 0, .func (.func 60) #[] #[]] En.f162 (insNil_at) ?_))
  rintro e w3 ⟨rfl, u4⟩
  refine ⟨_, rfl, ?_⟩
  refine wnil (then_n (wp_block ?_))
  refine lp (fun n a r2 => (n = 0) ∧ (HasFr a 63 [(0, .slice none 0 0), (1, I_ 0), (2, .func (.func 60) #[] #[]), (6, I_ 20)] []) ∧ (Mod [] w3 r2)) ⟨_, rfl, hmk, Mod.refl _ _⟩ ?_
  rintro _ _ r2 ⟨rfl, h7, hM2⟩
  obtain ⟨_, rfl⟩ := h7
  have M8 := Mod.thin (mtu M2 u4) hM2 (by simp)
  refine wp_seq (wp_seq (rg_lit (wmv (v := I_ 20) (wmv (v := I_ 0) (wl (sv (w' := r2) rfl (v := B_ false) (by kernel_rfl) (wnil (then_n (wp_cond_false (by kernel_rfl) (wp_exit (then_x (by nofun) (then_x (by nofun) (inb_hit ?_)))))))))))))
  refine bodyPost_end (v := .tuple #[]) (res0 rfl ) (by kernel_rfl) ?_
  exact ⟨rfl, (Mod.up M8)⟩
set_option maxHeartbeats 2000000 in
theorem sortNil_at {w : World} : Calls Tryz.prog 59 #[.slice none 0 0, .func (.func 60) #[] #[]] w fun e w' => e = .returned (.tuple #[]) ∧ Up w w' := by
  go_enter Tryz.func59, Tryz.ntmps59
  refine rg_lit ?_
  iterate 2 refine wmv (v := .slice none 0 0) ?_
  refine wlv (v := I_ 0) (ln none 0 0 Ty.un29) (wmv (v := .func (.func 60) #[] #[]) (wl (sca [.slice none 0 0, I_ 0, .func (.func 60) #[] #[]] En.f118 (stableNil_at) ?_)))
  rintro e _ ⟨rfl, u2⟩
  refine ⟨_, rfl, ?_⟩
  refine wnil ?_
  refine bodyPost_end (v := .tuple #[]) (res0 rfl ) (by kernel_rfl) ?_
  exact ⟨rfl, (Mod.up (mtu (Mod.refl [] w) u2))⟩
end Go.Proofs.YtefhfoioeoijlaaGreatDoor
set_option linter.unusedVariables false
set_option linter.unusedSimpArgs false
namespace Go.Proofs.YtefhfoioeoijlaaGreatDoor
open Go Go.RowKit Go.Sort
set_option maxHeartbeats 2000000 in
theorem opcompare_at {w : World} (o p : OpD) (oA pA : Option Addr) (on oc pn pc : Nat) :
    Calls Tryz.prog 115 #[opV o (.slice oA on oc), opV p (.slice pA pn pc)] w fun e w' => e = .returned (.int .i64 (cmpS o.at_ p.at_)) ∧ Up w w' := by
  go_enter Tryz.func115, Tryz.ntmps115
  refine wp_seq (rg_lit (wl (sn rfl (cs := (opC o (.slice oA on oc)).toArray) (T := 49) (V := fun b => pt b 0) (r_box (v := opV o (.slice oA on oc)) (by kernel_rfl) rfl) fun b1 _ _ h4 u5 => wl (sn rfl (cs := (opC p (.slice pA pn pc)).toArray) (T := 49) (V := fun b => pt b 0) (r_box (v := opV p (.slice pA pn pc)) (by kernel_rfl) rfl) fun b8 _ _ h11 u12 => was (v := I_ 0) (wnil (then_n (wp_seq (rg_lit (wlv (v := pt b1 1) (fa (pt b1 0)) (wlv (v := .agg #[I_ o.at_.t, I_ o.at_.w]) (lds 1 Ty.ag24 Ty.sz24 (up_ob u12 h4)) (wlv (v := pt b8 1) (fa (pt b8 0)) (wlv (v := .agg #[I_ p.at_.t, I_ p.at_.w]) (lds 1 Ty.ag24 Ty.sz24 h11) ?_))))))))))))
  refine wl (sca [.agg #[I_ o.at_.t, I_ o.at_.w], .agg #[I_ p.at_.t, I_ p.at_.w]] En.f137 (scompare_ups ⟨o.at_.t, o.at_.w⟩ ⟨p.at_.t, p.at_.w⟩ _) ?_)
  rintro e _ ⟨rfl, u18⟩
  replace u18 := u18.below
  refine ⟨_, rfl, ?_⟩
  refine was (v := I_ (cmpS ⟨o.at_.t, o.at_.w⟩ ⟨p.at_.t, p.at_.w⟩)) (wnil (then_n (wp_ret ?_)))
  refine br1 (v := I_ (cmpS ⟨o.at_.t, o.at_.w⟩ ⟨p.at_.t, p.at_.w⟩)) rfl ?_
  exact ⟨rfl, (Mod.up (mtu (mtu (mtu (Mod.refl [] w) u5) u12) u18))⟩
set_option maxHeartbeats 2000000 in
theorem opsort1_at {w : World} (o p : OpD) (oA pA : Option Addr) (on oc pn pc : Nat) :
    Calls Tryz.prog 117 #[opV o (.slice oA on oc), opV p (.slice pA pn pc)] w fun e w' => e = .returned (.bool (decide (o.at_ = p.at_))) ∧ Up w w' := by
  go_enter Tryz.func117, Tryz.ntmps117
  refine wp_seq (rg_lit (wl (sn rfl (cs := (opC o (.slice oA on oc)).toArray) (T := 49) (V := fun b => pt b 0) (r_box (v := opV o (.slice oA on oc)) (by kernel_rfl) rfl) fun b1 _ _ h4 u5 => wl (sn rfl (cs := (opC p (.slice pA pn pc)).toArray) (T := 49) (V := fun b => pt b 0) (r_box (v := opV p (.slice pA pn pc)) (by kernel_rfl) rfl) fun b8 _ _ h11 u12 => was (v := B_ false) (wnil (then_n (wp_seq (rg_lit (wlv (v := pt b1 1) (fa (pt b1 0)) (wlv (v := .agg #[I_ o.at_.t, I_ o.at_.w]) (lds 1 Ty.ag24 Ty.sz24 (up_ob u12 h4)) (wlv (v := pt b8 1) (fa (pt b8 0)) (wlv (v := .agg #[I_ p.at_.t, I_ p.at_.w]) (lds 1 Ty.ag24 Ty.sz24 h11) ?_))))))))))))
  refine wl (sb rfl (r_eqS (a := o.at_.t) (b := o.at_.w) (c := p.at_.t) (e := p.at_.w) (by kernel_rfl) (by kernel_rfl)) fun b17 k18 => was (v := B_ b17) (wnil (then_n (wp_ret ?_))))
  refine br1 (v := B_ b17) rfl ?_
  exact ⟨by rw [← k18], (Mod.up (mtu (mtu (Mod.refl [] w) u5) u12))⟩
set_option maxHeartbeats 2000000 in
theorem opown_at {B : Nat} {w : World} (o : OpD) (oA : Option Addr) (on oc : Nat) (hB : B ≤ w.heap.size) (hd : Dat B w (.slice oA on oc) o.data) :
    Calls Tryz.prog 113 #[opV o (.slice oA on oc)] w fun e w' => ∃ A n c, e = .returned (opV o (.slice A n c)) ∧ Dat B w' (.slice A n c) o.data ∧ Up w w' := by
  go_enter Tryz.func113, Tryz.ntmps113
  refine wp_seq (rg_lit (wl (sn rfl (cs := (opC o (.slice oA on oc)).toArray) (T := 49) (V := fun b => pt b 0) (r_box (v := opV o (.slice oA on oc)) (by kernel_rfl) rfl) fun b1 _ e3 h4 u5 => ?_)))
  have g6 := gsz e3 (Mod.refl [] w)
  have M7 := mtu (Mod.refl [] w) u5
  refine wl (sn rfl (cs := #[I_ 0, I_ 0, I_ 0, I_ 0, I_ 0, I_ 0, I_ 0, B_ false, S_ (⟨#[]⟩), .slice none 0 0]) (T := 49) (V := fun b => pt b 0) (r_alloc Ty.zv49 rfl) fun b8 _ e10 h11 u12 => ?_)
  have l13 := lsz e10 h4
  have g14 := gsz e10 M7
  have M15 := mtu M7 u12
  refine wnil (then_n (wp_seq (rg_lit (wlv (v := pt b1 9) (fa (pt b1 0)) ?_))))
  have h16 := (up_ob u12 h4)
  refine wlv (v := .slice oA on oc) (ld 9 Ty.ag40 h16) (wl (sca [.slice oA on oc] En.f122 (clone_sl (Dat.up hd (Mod.up M15))) ?_))
  rintro e _ ⟨A19, n20, c21, rfl, h22, u23⟩
  refine ⟨_, rfl, ?_⟩
  refine wlv (v := pt b1 9) (fa (pt b1 0)) ?_
  have h25 := (up_ob u23 h16)
  refine wl (ss rfl (k := 9) (v := .slice A19 n20 c21) (vs := [.slice A19 n20 c21]) (cs' := (opC o (.slice A19 n20 c21))) (by kernel_rfl) (by kernel_rfl) rfl Ty.sz40 h25 rfl (Nat.le_of_ble_eq_true rfl) rfl fun _ h27 c28 => wnil (then_n (wp_seq (rg_lit (wlv (v := opV o (.slice A19 n20 c21)) (lds 0 Ty.ag49 Ty.sz49 h27) ?_)))))
  have h30 := (chg_ob c28 (Nat.ne_of_gt l13) (up_ob u23 h11))
  refine wl (ss rfl (k := 0) (v := opV o (.slice A19 n20 c21)) (vs := (opC o (.slice A19 n20 c21))) (cs' := (opC o (.slice A19 n20 c21))) (by kernel_rfl) (by kernel_rfl) rfl Ty.sz49 h30 rfl (Nat.le_of_ble_eq_true rfl) rfl fun _ h32 c33 => wnil (then_n (wp_ret ?_)))
  refine bodyPost_ret (v := opV o (.slice A19 n20 c21)) (res1 rfl (rv_c (p := ⟨b8, 0, none⟩) (by kernel_rfl) (run_loadVars (vs := (opC o (.slice A19 n20 c21))) Ty.ag49 Ty.sz49 h32 (by kernel_rfl)))) (by kernel_rfl) ?_
  have h35 := (Dat.chg (Dat.chg h22 c28 ⟨(Nat.le_trans hB g6), NotU8.of h25 (by decide)⟩) c33 ⟨(Nat.le_trans hB g14), NotU8.of h30 (by decide)⟩)
  exact ⟨_, _, _, rfl, h35, (Mod.up (mtn (mtn (mtu M15 u23) c28 g6) c33 g14))⟩
end Go.Proofs.YtefhfoioeoijlaaGreatDoor
set_option linter.unusedVariables false
set_option linter.unusedSimpArgs false
namespace Go.Proofs.YtefhfoioeoijlaaGreatDoor
open Go Go.RowKit Go.Sort
set_option maxHeartbeats 2000000 in
theorem swapRange_at {B base : Nat} {w : World} {g nn c : Nat} {f : Nat → OpD} {pre X mid Y post : List Nat} (h : ORow 49 B base w (.slice (some ⟨g, 0, none⟩) nn c) ((pre ++ (X ++ (mid ++ (Y ++ post)))).map f)) (hBb : B ≤ base) (hn : nn ≤ 1000000) {ia ib q : Nat} (ha : pre.length = ia) (hb : ia + X.length + mid.length = ib) (hq : Y.length = q) (hXY : X.length = Y.length) :
    Calls Tryz.prog 251 #[.slice (some ⟨g, 0, none⟩) nn c, .int .i64 ia, .int .i64 ib, .int .i64 q, .func (.func 115) #[] #[]] w fun e w' => e = .returned (.tuple #[]) ∧ ORow 49 B base w' (.slice (some ⟨g, 0, none⟩) nn c) ((pre ++ (Y ++ (mid ++ (X ++ post)))).map f) ∧ Chg w w' g := by
  obtain ⟨hnL, hnc, hcm, cu0, hg, hcs0⟩ := ORow.blk h
  have hBg := ORow.ge h hBb
  have hn0 : nn = pre.length + (X.length + (mid.length + (Y.length + post.length))) := by simpa using hnL
  go_enter Tryz.func251, Tryz.ntmps251
  refine wp_seq (rg_lit (was (v := I_ 0) (wnil (then_n (wp_block ?_)))))
  refine lp (fun n a r1 => ∃ (I1 : List Nat) (kk : Nat), (n = q - kk) ∧ (HasFr a 38 [(0, sl g 0 nn c), (1, I_ ia), (2, I_ ib), (3, I_ q), (10, I_ kk)] []) ∧ (Mod [g] w r1) ∧ (SwI pre X mid Y post I1 kk) ∧ (kk ≤ q) ∧ (ORow 49 B base r1 (sl g 0 nn c) (I1.map f))) ⟨_, (pre ++ (X ++ (mid ++ (Y ++ post)))), 0, rfl, hmk, Mod.refl _ _, (SwI.first _ _ _ _ _), (Nat.zero_le _), h⟩ ?_
  rintro _ _ r1 ⟨I1, kk, rfl, h1, hM1, hF1_0, _, hF1_2⟩
  obtain ⟨_, rfl⟩ := h1
  have M2 := Mod.trans (Mod.of_mod (Y := [g]) (Mod.refl [] w) (by simp)) (Mod.of_mod (Y := [g]) hM1 (by simp))
  have hlI := SwI.len hF1_0
  obtain ⟨_, _, _, _, _, _⟩ := ORow.blk hF1_2
  refine wp_seq (wp_seq (rg_lit (wmv (v := I_ kk) (wmv (v := I_ q) (wl (sb rfl (ltI kk q) fun _ k5 => wnil (then_n ?_)))))))
  refine bcd k5 (fun v6 p7 => ?_) (fun v6 p7 => ?_)
  ·
   refine wp_cond_false (ebk v6) (wp_exit (then_x (by nofun) (then_x (by nofun) (inb_hit ?_))))
   refine bodyPost_end (v := .tuple #[]) (res0 rfl ) (by kernel_rfl) ?_
   exact ⟨rfl, ORow.to hF1_2 (by rw [SwI.fin hF1_0 hXY (by omega)]), (Mod.chg M2)⟩
  refine wp_cond_true (ebk v6) (wp_skip (then_n (wp_seq (wp_block ?_))))
  refine rg_held [g] (n := 24) (by kernel_rfl) rfl ?_
  intro w10 u11
  have M13 := mtu hM1 u11
  refine hqm 0 23 rfl (v := sl g 0 nn c) (hqm 1 22 rfl (v := I_ ia) (hqm 2 21 rfl (v := I_ kk) (hqk 3 20 rfl rfl (v := N_ (ia + kk)) (fun _ _ => adN ia kk) (hqm 4 19 rfl (v := sl g 0 nn c) (hqm 5 18 rfl (v := I_ ib) (hqm 6 17 rfl (v := I_ kk) (hqk 7 16 rfl rfl (v := N_ (ib + kk)) (fun _ _ => adN ib kk) (hqm 8 15 rfl (v := sl g 0 nn c) ?_))))))))
  refine hqm 9 14 rfl (v := I_ ib) (hqm 10 13 rfl (v := I_ kk) (hqk 11 12 rfl rfl (v := N_ (ib + kk)) (fun _ _ => adN ib kk) (hqk 12 11 rfl rfl (v := pt g ((ib + kk) * 10)) (fun _ _ => ixa (A := some ⟨g, 0, none⟩) nn c 10 ((ib + kk : Nat) : Int) rfl Ty.un22 Ty.sz49) (hqm 14 10 rfl (v := sl g 0 nn c) (hqm 15 9 rfl (v := I_ ia) (hqm 16 8 rfl (v := I_ kk) (hqk 17 7 rfl rfl (v := N_ (ia + kk)) (fun _ _ => adN ia kk) (hqk 18 6 rfl rfl (v := pt g ((ia + kk) * 10)) (fun _ _ => ixa (A := some ⟨g, 0, none⟩) nn c 10 ((ia + kk : Nat) : Int) rfl Ty.un22 Ty.sz49) ?_))))))))
  refine h2a 13 19 5 rfl rfl ?_ ?_
  ·
   have h14 := (ORow.up hF1_2 u11)
   obtain ⟨x15, hx15⟩ : ∃ x, I1[ib + kk]? = some x := ⟨_, List.getElem?_eq_getElem (by omega)⟩
   obtain ⟨cu16, dA16, dn16, dc16, hb16, he16, hD16⟩ := ORow.elem h14 (map_get' hx15)
   refine sv rfl (v := opV (f x15) (.slice dA16 dn16 dc16)) (r_loads (k := (ib + kk) * 10) (vs := (opC (f x15) (.slice dA16 dn16 dc16))) (by kernel_rfl) Ty.ag49 Ty.sz49 hb16 (el_sub0 he16 rfl)) ?_
   refine hx (Y := [g]) (Mod.refl _ _) (fun y hy => .inl hy) ?_
   obtain ⟨x17, hx17⟩ : ∃ x, I1[ia + kk]? = some x := ⟨_, List.getElem?_eq_getElem (by omega)⟩
   obtain ⟨cu18, dA18, dn18, dc18, hb18, he18, hD18⟩ := ORow.elem h14 (map_get' hx17)
   refine h1a 19 4 rfl (sv rfl (v := opV (f x17) (.slice dA18 dn18 dc18)) (r_loads (k := (ia + kk) * 10) (vs := (opC (f x17) (.slice dA18 dn18 dc18))) (by kernel_rfl) Ty.ag49 Ty.sz49 hb18 (el_sub0 he18 rfl)) ?_)
   refine hx (Y := [g]) (Mod.refl _ _) (fun y hy => .inl hy) ?_
   refine hqk 20 3 rfl rfl (v := pt g ((ia + kk) * 10)) (fun _ _ => ixa (A := some ⟨g, 0, none⟩) nn c 10 ((ia + kk : Nat) : Int) rfl Ty.un22 Ty.sz49) ?_
   obtain ⟨cu19, hb19, hk19, hp19⟩ := ORow.put (i := ia + kk) h14 (by simp; omega) hD16 (by decide) hBb
   refine h1a 21 2 rfl (ss rfl (k := (ia + kk) * 10) (v := opV (f x15) (.slice dA16 dn16 dc16)) (vs := (opC (f x15) (.slice dA16 dn16 dc16))) (cs' := _) (by kernel_rfl) (by kernel_rfl) rfl Ty.sz49 hb19 rfl hk19 rfl fun w20 h21 c22 => ?_)
   have hr19 := hp19 _ h21 c22
   rw [map_set'] at hr19
   obtain ⟨_, _, _, cg25, hg25, _⟩ := ORow.blk hr19
   refine hxc c22 (hqk 22 1 rfl rfl (v := pt g ((ib + kk) * 10)) (fun _ _ => ixa (A := some ⟨g, 0, none⟩) nn c 10 ((ib + kk : Nat) : Int) rfl Ty.un22 Ty.sz49) ?_)
   have h27 := (Dat.chg hD18 c22 ⟨hBg, NotU8.of hb19 (by decide)⟩)
   obtain ⟨cu26, hb26, hk26, hp26⟩ := ORow.put (i := ib + kk) hr19 (by simp; omega) h27 (by decide) hBb
   refine h1a 23 0 rfl (ss rfl (k := (ib + kk) * 10) (v := opV (f x17) (.slice dA18 dn18 dc18)) (vs := (opC (f x17) (.slice dA18 dn18 dc18))) (cs' := _) (by kernel_rfl) (by kernel_rfl) rfl Ty.sz49 hb26 rfl hk26 rfl fun w28 h29 c30 => ?_)
   have hr26 := hp26 _ h29 c30
   rw [map_set'] at hr26
   obtain ⟨_, _, _, cg33, hg33, _⟩ := ORow.blk hr26
   refine hxc c30 ?_
   refine hend (by kernel_rfl) ?_
   refine inb_n (then_n (rg_lit (wmv (v := I_ kk) (wlv (v := N_ (kk + 1)) (adN kk 1) (was (v := N_ (kk + 1)) (wnil (then_n ?_)))))))
   refine ⟨q - (kk + 1), ?_, ((I1.set (ia + kk) x15).set (ib + kk) x17), (kk + 1), rfl, hmk, (mtx (mtx M13 c22) c30), (SwI.step hF1_0 hXY (by omega) ha hb hx17 hx15), (by omega), hr26⟩
   · omega
  ·
   have h14 := (ORow.up hF1_2 u11)
   obtain ⟨x15, hx15⟩ : ∃ x, I1[ia + kk]? = some x := ⟨_, List.getElem?_eq_getElem (by omega)⟩
   obtain ⟨cu16, dA16, dn16, dc16, hb16, he16, hD16⟩ := ORow.elem h14 (map_get' hx15)
   refine sv rfl (v := opV (f x15) (.slice dA16 dn16 dc16)) (r_loads (k := (ia + kk) * 10) (vs := (opC (f x15) (.slice dA16 dn16 dc16))) (by kernel_rfl) Ty.ag49 Ty.sz49 hb16 (el_sub0 he16 rfl)) ?_
   refine hx (Y := [g]) (Mod.refl _ _) (fun y hy => .inl hy) ?_
   obtain ⟨x17, hx17⟩ : ∃ x, I1[ib + kk]? = some x := ⟨_, List.getElem?_eq_getElem (by omega)⟩
   obtain ⟨cu18, dA18, dn18, dc18, hb18, he18, hD18⟩ := ORow.elem h14 (map_get' hx17)
   refine h1a 13 4 rfl (sv rfl (v := opV (f x17) (.slice dA18 dn18 dc18)) (r_loads (k := (ib + kk) * 10) (vs := (opC (f x17) (.slice dA18 dn18 dc18))) (by kernel_rfl) Ty.ag49 Ty.sz49 hb18 (el_sub0 he18 rfl)) ?_)
   refine hx (Y := [g]) (Mod.refl _ _) (fun y hy => .inl hy) ?_
   refine hqk 20 3 rfl rfl (v := pt g ((ia + kk) * 10)) (fun _ _ => ixa (A := some ⟨g, 0, none⟩) nn c 10 ((ia + kk : Nat) : Int) rfl Ty.un22 Ty.sz49) ?_
   obtain ⟨cu19, hb19, hk19, hp19⟩ := ORow.put (i := ia + kk) h14 (by simp; omega) hD18 (by decide) hBb
   refine h1a 21 2 rfl (ss rfl (k := (ia + kk) * 10) (v := opV (f x17) (.slice dA18 dn18 dc18)) (vs := (opC (f x17) (.slice dA18 dn18 dc18))) (cs' := _) (by kernel_rfl) (by kernel_rfl) rfl Ty.sz49 hb19 rfl hk19 rfl fun w20 h21 c22 => ?_)
   have hr19 := hp19 _ h21 c22
   rw [map_set'] at hr19
   obtain ⟨_, _, _, cg25, hg25, _⟩ := ORow.blk hr19
   refine hxc c22 (hqk 22 1 rfl rfl (v := pt g ((ib + kk) * 10)) (fun _ _ => ixa (A := some ⟨g, 0, none⟩) nn c 10 ((ib + kk : Nat) : Int) rfl Ty.un22 Ty.sz49) ?_)
   have h27 := (Dat.chg hD16 c22 ⟨hBg, NotU8.of hb19 (by decide)⟩)
   obtain ⟨cu26, hb26, hk26, hp26⟩ := ORow.put (i := ib + kk) hr19 (by simp; omega) h27 (by decide) hBb
   refine h1a 23 0 rfl (ss rfl (k := (ib + kk) * 10) (v := opV (f x15) (.slice dA16 dn16 dc16)) (vs := (opC (f x15) (.slice dA16 dn16 dc16))) (cs' := _) (by kernel_rfl) (by kernel_rfl) rfl Ty.sz49 hb26 rfl hk26 rfl fun w28 h29 c30 => ?_)
   have hr26 := hp26 _ h29 c30
   rw [map_set'] at hr26
   obtain ⟨_, _, _, cg33, hg33, _⟩ := ORow.blk hr26
   refine hxc c30 ?_
   refine hend (by kernel_rfl) ?_
   refine inb_n (then_n (rg_lit (wmv (v := I_ kk) (wlv (v := N_ (kk + 1)) (adN kk 1) (was (v := N_ (kk + 1)) (wnil (then_n ?_)))))))
   refine ⟨q - (kk + 1), ?_, ((I1.set (ia + kk) x17).set (ib + kk) x15), (kk + 1), rfl, hmk, (mtx (mtx M13 c22) c30), (SwI.step hF1_0 hXY (by omega) ha hb hx15 hx17), (by omega), hr26⟩
   · omega
set_option maxHeartbeats 2000000 in
theorem insertion_at {B base : Nat} {w : World} {g nn c : Nat} {f : Nat → OpD} {pre X post : List Nat} (h : ORow 49 B base w (.slice (some ⟨g, 0, none⟩) nn c) ((pre ++ (X ++ post)).map f)) (hBb : B ≤ base) (hn : nn ≤ 1000000) {ia ib : Nat} (ha : pre.length = ia) (hb : ia + X.length = ib) (hX0 : X.Pairwise (· < ·)) :
    Calls Tryz.prog 200 #[.slice (some ⟨g, 0, none⟩) nn c, .int .i64 ia, .int .i64 ib, .func (.func 115) #[] #[]] w fun e w' => ∃ C, e = .returned (.tuple #[]) ∧ ORow 49 B base w' (.slice (some ⟨g, 0, none⟩) nn c) ((pre ++ (C ++ post)).map f) ∧ C.Pairwise (lx f) ∧ C.Perm X ∧ Chg w w' g := by
  obtain ⟨hnL, hnc, hcm, cu0, hg, hcs0⟩ := ORow.blk h
  have hBg := ORow.ge h hBb
  have hn0 : nn = pre.length + (X.length + post.length) := by simpa using hnL
  go_enter Tryz.func200, Tryz.ntmps200
  refine wp_seq (rg_lit (wmv (v := I_ ia) (wlv (v := N_ (ia + 1)) (adN ia 1) (was (v := N_ (ia + 1)) (wnil (then_n (wp_block ?_)))))))
  refine lp (fun n a r1 => ∃ (I1 : List Nat) (ii : Nat), (n = ib - ii) ∧ (HasFr a 53 [(0, sl g 0 nn c), (1, I_ ia), (2, I_ ib), (3, .func (.func 115) #[] #[]), (8, I_ ii)] []) ∧ (Mod [g] w r1) ∧ (InsO f pre X post I1 ii) ∧ (ii ≤ nn + 1) ∧ (ORow 49 B base r1 (sl g 0 nn c) (I1.map f))) ⟨_, (pre ++ (X ++ post)), (ia + 1), rfl, hmk, Mod.refl _ _, (by rw [← ha]; exact InsO.first _ _ _), (by omega), h⟩ ?_
  rintro _ _ r1 ⟨I1, ii, rfl, h1, hM1, hF1_0, _, hF1_2⟩
  obtain ⟨_, rfl⟩ := h1
  have M2 := Mod.trans (Mod.of_mod (Y := [g]) (Mod.refl [] w) (by simp)) (Mod.of_mod (Y := [g]) hM1 (by simp))
  obtain ⟨_, _, _, _, _, _⟩ := ORow.blk hF1_2
  refine wp_seq (wp_seq (rg_lit (wmv (v := I_ ii) (wmv (v := I_ ib) (wl (sb rfl (ltI ii ib) fun _ k5 => wnil (then_n ?_)))))))
  refine bcd k5 (fun v6 p7 => ?_) (fun v6 p7 => ?_)
  ·
   refine wp_cond_false (ebk v6) (wp_exit (then_x (by nofun) (then_x (by nofun) (inb_hit ?_))))
   refine bodyPost_end (v := .tuple #[]) (res0 rfl ) (by kernel_rfl) ?_
   obtain ⟨C, hC1, hC2, hC3⟩ := InsO.fin hF1_0 (by omega)
   exact ⟨C, rfl, ORow.to hF1_2 (by rw [hC1]), hC2, hC3, (Mod.chg M2)⟩
  refine wp_cond_true (ebk v6) (wp_skip (then_n (wp_seq (wp_block (wp_seq (rg_lit (wmv (v := I_ ii) (was (v := I_ ii) (wnil (then_n (wp_block ?_)))))))))))
  refine lp (fun n a r2 => ∃ (I2 : List Nat) (jj : Nat), (n = jj + 1) ∧ (HasFr a 53 [(0, sl g 0 nn c), (1, I_ ia), (2, I_ ib), (3, .func (.func 115) #[] #[]), (8, I_ ii), (9, I_ jj)] []) ∧ (Mod [g] r1 r2) ∧ (InsI f pre X post I2 ii jj) ∧ (ORow 49 B base r2 (sl g 0 nn c) (I2.map f))) ⟨_, I1, ii, rfl, hmk, Mod.refl _ _, (InsO.toI hF1_0 (by omega)), hF1_2⟩ ?_
  rintro _ _ r2 ⟨I2, jj, rfl, h10, hM2, hF2_0, hF2_1⟩
  obtain ⟨_, rfl⟩ := h10
  have M11 := Mod.trans M2 (Mod.of_mod hM2 (by simp))
  have M12 := Mod.trans hM1 (Mod.of_mod hM2 (by simp))
  obtain ⟨hlI, hlj, hli⟩ := InsI.len hF2_0
  obtain ⟨_, _, _, _, _, _⟩ := ORow.blk hF2_1
  refine wp_seq (wp_seq ?_)
  refine rg_tail 14 (by kernel_rfl) (by kernel_rfl) rfl rfl ?_
  refine qmv (v := I_ jj) (qmv (v := I_ ia) ?_)
  refine qb rfl (fun _ _ => r_gt (k := .i64) (m := (jj : Int)) (n := (ia : Int)) (by kernel_rfl) (by kernel_rfl)) fun b14 k15 => ?_
  refine qmv (v := B_ b14) ?_
  refine bcd k15 (fun v16 p17 => ?_) (fun v16 p17 => ?_)
  ·
   iterate 10 refine qls rfl v16 ?_
   refine qnil fun _ u19 => ?_
   iterate 2 refine wls rfl v16 ?_
   refine wlv (v := B_ false) (pkF (ebk v16)) (wnil (then_n (wp_cond_false (by kernel_rfl) (wp_exit (then_x (by nofun) (then_x (by nofun) (inb_hit (inb_n (then_n (rg_lit (wmv (v := I_ ii) (wlv (v := N_ (ii + 1)) (adN ii 1) (was (v := N_ (ii + 1)) (wnil (then_n ?_)))))))))))))))
   refine ⟨ib - (ii + 1), ?_, I2, (ii + 1), rfl, hmk, (mtu M12 u19), (InsI.done hF2_0 hX0 (.inl (by omega))), (by omega), (ORow.up hF2_1 u19)⟩
   · omega
  refine qv (wt (b := b14) rfl (by kernel_rfl) v16) (v := .func (.func 115) #[] #[]) (fun _ _ => mv) (qv (wt (b := b14) rfl (by kernel_rfl) v16) (v := sl g 0 nn c) (fun _ _ => mv) (qv (wt (b := b14) rfl (by kernel_rfl) v16) (v := I_ jj) (fun _ _ => mv) (qv (wt (b := b14) rfl (by kernel_rfl) v16) (v := pt g (jj * 10)) (fun _ _ => ixa (A := some ⟨g, 0, none⟩) nn c 10 jj rfl Ty.un22 Ty.sz49) ?_)))
  obtain ⟨x18, hx18⟩ : ∃ x, I2[jj]? = some x := ⟨_, List.getElem?_eq_getElem (by omega)⟩
  obtain ⟨_, dA19, dn19, dc19, hb19, he19, _⟩ := ORow.elem hF2_1 (map_get' hx18)
  refine qv (wt (b := b14) rfl (by kernel_rfl) v16) (v := opV (f x18) (.slice dA19 dn19 dc19)) (fun _ uz => r_loads (k := jj * 10) (vs := (opC (f x18) (.slice dA19 dn19 dc19))) (by kernel_rfl) Ty.ag49 Ty.sz49 (up_ob uz hb19) (el_sub0 he19 rfl)) (qv (wt (b := b14) rfl (by kernel_rfl) v16) (v := sl g 0 nn c) (fun _ _ => mv) (qv (wt (b := b14) rfl (by kernel_rfl) v16) (v := I_ jj) (fun _ _ => mv) (qv (wt (b := b14) rfl (by kernel_rfl) v16) (v := N_ (jj - 1)) (fun _ _ => sbN jj 1) (qv (wt (b := b14) rfl (by kernel_rfl) v16) (v := pt g ((jj - 1) * 10)) (fun _ _ => ixa (A := some ⟨g, 0, none⟩) nn c 10 ((jj - 1 : Nat) : Int) rfl Ty.un22 Ty.sz49) ?_))))
  obtain ⟨x20, hx20⟩ : ∃ x, I2[jj - 1]? = some x := ⟨_, List.getElem?_eq_getElem (by omega)⟩
  obtain ⟨_, dA21, dn21, dc21, hb21, he21, _⟩ := ORow.elem hF2_1 (map_get' hx20)
  refine qv (wt (b := b14) rfl (by kernel_rfl) v16) (v := opV (f x20) (.slice dA21 dn21 dc21)) (fun _ uz => r_loads (k := (jj - 1) * 10) (vs := (opC (f x20) (.slice dA21 dn21 dc21))) (by kernel_rfl) Ty.ag49 Ty.sz49 (up_ob uz hb21) (el_sub0 he21 rfl)) ?_
  refine qnil fun _ u23 => ?_
  refine wl (sc (wt (b := b14) rfl (by kernel_rfl) v16) (r_callv (caps := []) (all := [opV (f x18) (.slice dA19 dn19 dc19), opV (f x20) (.slice dA21 dn21 dc21)]) En.f115 (by kernel_rfl) (by kernel_rfl)) (opcompare_at (f x18) (f x20) dA19 dA21 dn19 dc19 dn21 dc21) ?_)
  rintro e _ ⟨rfl, u28⟩
  refine ⟨_, rfl, ?_⟩
  refine wl (sb (wt (b := b14) rfl (by kernel_rfl) v16) (ltI (cmpS (f x18).at_ (f x20).at_) 0) fun b32 k33 => wlv (v := B_ b32) (pkT (ebk v16)) (wnil (then_n ?_)))
  refine bcd k33 (fun v34 p35 => ?_) (fun v34 p35 => ?_)
  ·
   refine wp_cond_false (ebk v34) (wp_exit (then_x (by nofun) (then_x (by nofun) (inb_hit (inb_n (then_n (rg_lit (wmv (v := I_ ii) (wlv (v := N_ (ii + 1)) (adN ii 1) (was (v := N_ (ii + 1)) (wnil (then_n ?_))))))))))))
   refine ⟨ib - (ii + 1), ?_, I2, (ii + 1), rfl, hmk, (mtu (mtu M12 u23) u28), (InsI.done hF2_0 hX0 (.inr ⟨_, _, hx18, hx20, cmpS_no p35⟩)), (by omega), (ORow.up hF2_1 (up_up u23 u28))⟩
   · omega
  refine wp_cond_true (ebk v34) (wp_skip (then_n (wp_seq (wp_block ?_))))
  refine rg_held [g] (n := 18) (by kernel_rfl) rfl ?_
  intro w36 u37
  have M40 := mtu (mtu (mtu hM2 u23) u28) u37
  refine hqm 0 17 rfl (v := sl g 0 nn c) (hqm 1 16 rfl (v := I_ jj) (hqm 2 15 rfl (v := sl g 0 nn c) (hqm 3 14 rfl (v := I_ jj) (hqk 4 13 rfl rfl (v := N_ (jj - 1)) (fun _ _ => sbN jj 1) (hqm 5 12 rfl (v := sl g 0 nn c) (hqm 6 11 rfl (v := I_ jj) (hqk 7 10 rfl rfl (v := N_ (jj - 1)) (fun _ _ => sbN jj 1) (hqk 8 9 rfl rfl (v := pt g ((jj - 1) * 10)) (fun _ _ => ixa (A := some ⟨g, 0, none⟩) nn c 10 ((jj - 1 : Nat) : Int) rfl Ty.un22 Ty.sz49) ?_))))))))
  refine hqm 10 8 rfl (v := sl g 0 nn c) (hqm 11 7 rfl (v := I_ jj) (hqk 12 6 rfl rfl (v := pt g (jj * 10)) (fun _ _ => ixa (A := some ⟨g, 0, none⟩) nn c 10 jj rfl Ty.un22 Ty.sz49) ?_))
  refine h2a 9 13 5 rfl rfl ?_ ?_
  ·
   have h41 := (ORow.up hF2_1 (up_up (up_up u23 u28) u37))
   obtain ⟨cu42, dA42, dn42, dc42, hb42, he42, hD42⟩ := ORow.elem h41 (map_get' hx20)
   refine sv rfl (v := opV (f x20) (.slice dA42 dn42 dc42)) (r_loads (k := (jj - 1) * 10) (vs := (opC (f x20) (.slice dA42 dn42 dc42))) (by kernel_rfl) Ty.ag49 Ty.sz49 hb42 (el_sub0 he42 rfl)) ?_
   refine hx (Y := [g]) (Mod.refl _ _) (fun y hy => .inl hy) ?_
   obtain ⟨cu43, dA43, dn43, dc43, hb43, he43, hD43⟩ := ORow.elem h41 (map_get' hx18)
   refine h1a 13 4 rfl (sv rfl (v := opV (f x18) (.slice dA43 dn43 dc43)) (r_loads (k := jj * 10) (vs := (opC (f x18) (.slice dA43 dn43 dc43))) (by kernel_rfl) Ty.ag49 Ty.sz49 hb43 (el_sub0 he43 rfl)) ?_)
   refine hx (Y := [g]) (Mod.refl _ _) (fun y hy => .inl hy) ?_
   refine hqk 14 3 rfl rfl (v := pt g (jj * 10)) (fun _ _ => ixa (A := some ⟨g, 0, none⟩) nn c 10 jj rfl Ty.un22 Ty.sz49) ?_
   obtain ⟨cu44, hb44, hk44, hp44⟩ := ORow.put (i := jj) h41 (by simp; omega) hD42 (by decide) hBb
   refine h1a 15 2 rfl (ss rfl (k := jj * 10) (v := opV (f x20) (.slice dA42 dn42 dc42)) (vs := (opC (f x20) (.slice dA42 dn42 dc42))) (cs' := _) (by kernel_rfl) (by kernel_rfl) rfl Ty.sz49 hb44 rfl hk44 rfl fun w45 h46 c47 => ?_)
   have hr44 := hp44 _ h46 c47
   rw [map_set'] at hr44
   obtain ⟨_, _, _, cg51, hg51, _⟩ := ORow.blk hr44
   refine hxc c47 (hqk 16 1 rfl rfl (v := pt g ((jj - 1) * 10)) (fun _ _ => ixa (A := some ⟨g, 0, none⟩) nn c 10 ((jj - 1 : Nat) : Int) rfl Ty.un22 Ty.sz49) ?_)
   have h53 := (Dat.chg hD43 c47 ⟨hBg, NotU8.of hb44 (by decide)⟩)
   obtain ⟨cu52, hb52, hk52, hp52⟩ := ORow.put (i := jj - 1) hr44 (by simp; omega) h53 (by decide) hBb
   refine h1a 17 0 rfl (ss rfl (k := (jj - 1) * 10) (v := opV (f x18) (.slice dA43 dn43 dc43)) (vs := (opC (f x18) (.slice dA43 dn43 dc43))) (cs' := _) (by kernel_rfl) (by kernel_rfl) rfl Ty.sz49 hb52 rfl hk52 rfl fun w54 h55 c56 => ?_)
   have hr52 := hp52 _ h55 c56
   rw [map_set'] at hr52
   obtain ⟨_, _, _, cg60, hg60, _⟩ := ORow.blk hr52
   refine hxc c56 ?_
   refine hend (by kernel_rfl) ?_
   refine inb_n (then_n (rg_lit (wmv (v := I_ jj) (wlv (v := N_ (jj - 1)) (sbN jj 1) (was (v := N_ (jj - 1)) (wnil (then_n ?_)))))))
   refine ⟨(jj - 1) + 1, ?_, ((I2.set jj x20).set (jj - 1) x18), (jj - 1), rfl, hmk, (mtx (mtx M40 c47) c56), (InsI.swap hF2_0 (by omega) hx18 hx20 (cmpS_yes p35)), hr52⟩
   · omega
  ·
   have h41 := (ORow.up hF2_1 (up_up (up_up u23 u28) u37))
   obtain ⟨cu42, dA42, dn42, dc42, hb42, he42, hD42⟩ := ORow.elem h41 (map_get' hx18)
   refine sv rfl (v := opV (f x18) (.slice dA42 dn42 dc42)) (r_loads (k := jj * 10) (vs := (opC (f x18) (.slice dA42 dn42 dc42))) (by kernel_rfl) Ty.ag49 Ty.sz49 hb42 (el_sub0 he42 rfl)) ?_
   refine hx (Y := [g]) (Mod.refl _ _) (fun y hy => .inl hy) ?_
   obtain ⟨cu43, dA43, dn43, dc43, hb43, he43, hD43⟩ := ORow.elem h41 (map_get' hx20)
   refine h1a 9 4 rfl (sv rfl (v := opV (f x20) (.slice dA43 dn43 dc43)) (r_loads (k := (jj - 1) * 10) (vs := (opC (f x20) (.slice dA43 dn43 dc43))) (by kernel_rfl) Ty.ag49 Ty.sz49 hb43 (el_sub0 he43 rfl)) ?_)
   refine hx (Y := [g]) (Mod.refl _ _) (fun y hy => .inl hy) ?_
   refine hqk 14 3 rfl rfl (v := pt g (jj * 10)) (fun _ _ => ixa (A := some ⟨g, 0, none⟩) nn c 10 jj rfl Ty.un22 Ty.sz49) ?_
   obtain ⟨cu44, hb44, hk44, hp44⟩ := ORow.put (i := jj) h41 (by simp; omega) hD43 (by decide) hBb
   refine h1a 15 2 rfl (ss rfl (k := jj * 10) (v := opV (f x20) (.slice dA43 dn43 dc43)) (vs := (opC (f x20) (.slice dA43 dn43 dc43))) (cs' := _) (by kernel_rfl) (by kernel_rfl) rfl Ty.sz49 hb44 rfl hk44 rfl fun w45 h46 c47 => ?_)
   have hr44 := hp44 _ h46 c47
   rw [map_set'] at hr44
   obtain ⟨_, _, _, cg51, hg51, _⟩ := ORow.blk hr44
   refine hxc c47 (hqk 16 1 rfl rfl (v := pt g ((jj - 1) * 10)) (fun _ _ => ixa (A := some ⟨g, 0, none⟩) nn c 10 ((jj - 1 : Nat) : Int) rfl Ty.un22 Ty.sz49) ?_)
   have h53 := (Dat.chg hD42 c47 ⟨hBg, NotU8.of hb44 (by decide)⟩)
   obtain ⟨cu52, hb52, hk52, hp52⟩ := ORow.put (i := jj - 1) hr44 (by simp; omega) h53 (by decide) hBb
   refine h1a 17 0 rfl (ss rfl (k := (jj - 1) * 10) (v := opV (f x18) (.slice dA42 dn42 dc42)) (vs := (opC (f x18) (.slice dA42 dn42 dc42))) (cs' := _) (by kernel_rfl) (by kernel_rfl) rfl Ty.sz49 hb52 rfl hk52 rfl fun w54 h55 c56 => ?_)
   have hr52 := hp52 _ h55 c56
   rw [map_set'] at hr52
   obtain ⟨_, _, _, cg60, hg60, _⟩ := ORow.blk hr52
   refine hxc c56 ?_
   refine hend (by kernel_rfl) ?_
   refine inb_n (then_n (rg_lit (wmv (v := I_ jj) (wlv (v := N_ (jj - 1)) (sbN jj 1) (was (v := N_ (jj - 1)) (wnil (then_n ?_)))))))
   refine ⟨(jj - 1) + 1, ?_, ((I2.set jj x20).set (jj - 1) x18), (jj - 1), rfl, hmk, (mtx (mtx M40 c47) c56), (InsI.swap hF2_0 (by omega) hx18 hx20 (cmpS_yes p35)), hr52⟩
   · omega
set_option maxHeartbeats 2000000 in
theorem rotate_at {B base : Nat} {w : World} {g nn c : Nat} {f : Nat → OpD} {pre A Bb post : List Nat} (h : ORow 49 B base w (.slice (some ⟨g, 0, none⟩) nn c) ((pre ++ (A ++ (Bb ++ post))).map f)) (hBb : B ≤ base) (hn : nn ≤ 1000000) {ia m ib : Nat} (ha : pre.length = ia) (hm : ia + A.length = m) (hb : m + Bb.length = ib) (hA0 : 0 < A.length) (hB0 : 0 < Bb.length) :
    Calls Tryz.prog 230 #[.slice (some ⟨g, 0, none⟩) nn c, .int .i64 ia, .int .i64 m, .int .i64 ib, .func (.func 115) #[] #[]] w fun e w' => e = .returned (.tuple #[]) ∧ ORow 49 B base w' (.slice (some ⟨g, 0, none⟩) nn c) ((pre ++ (Bb ++ (A ++ post))).map f) ∧ Chg w w' g := by
  obtain ⟨hnL, hnc, hcm, cu0, hg, hcs0⟩ := ORow.blk h
  have hBg := ORow.ge h hBb
  have hn0 : nn = pre.length + (A.length + (Bb.length + post.length)) := by simpa using hnL
  go_enter Tryz.func230, Tryz.ntmps230
  refine wp_seq (rg_lit (wmv (v := I_ m) (wmv (v := I_ ia) (wlv (v := N_ (m - ia)) (sbN m ia) (was (v := N_ (m - ia)) (wnil (then_n (wp_seq (rg_lit (wmv (v := I_ ib) (wmv (v := I_ m) (wlv (v := N_ (ib - m)) (sbN ib m) ?_))))))))))))
  refine was (v := N_ (ib - m)) (wnil (then_n (wp_seq (wp_block ?_))))
  refine lp (fun n a r1 => ∃ (I1 : List Nat) (ii : Nat) (jj : Nat), (n = ii + jj) ∧ (HasFr a 58 [(0, sl g 0 nn c), (1, I_ ia), (2, I_ m), (3, I_ ib), (4, .func (.func 115) #[] #[]), (10, I_ ii), (11, I_ jj)] []) ∧ (Mod [g] w r1) ∧ (RotI pre A Bb post I1 ii jj) ∧ (0 < ii) ∧ (0 < jj) ∧ (ORow 49 B base r1 (sl g 0 nn c) (I1.map f))) ⟨_, (pre ++ (A ++ (Bb ++ post))), (m - ia), (ib - m), rfl, hmk, Mod.refl _ _, (by rw [show m - ia = A.length by omega, show ib - m = Bb.length by omega]; exact RotI.first _ _ _ _), (by omega), (by omega), h⟩ ?_
  rintro _ _ r1 ⟨I1, ii, jj, rfl, h1, hM1, hF1_0, _, _, hF1_3⟩
  obtain ⟨Y12, rfl⟩ := h1
  have M2 := Mod.trans (Mod.of_mod (Y := [g]) (Mod.refl [] w) (by simp)) (Mod.of_mod (Y := [g]) hM1 (by simp))
  obtain ⟨hlI, hli, hlj⟩ := RotI.len hF1_0
  obtain ⟨_, _, _, _, _, _⟩ := ORow.blk hF1_3
  refine wp_seq (wp_seq (rg_lit (wmv (v := I_ ii) (wmv (v := I_ jj) (wl (sb rfl (neI ii jj) fun _ k5 => wnil (then_n ?_)))))))
  refine bcd k5 (fun v6 p7 => ?_) (fun v6 p7 => ?_)
  ·
   refine wp_cond_false (ebk v6) (wp_exit (then_x (by nofun) (then_x (by nofun) (inb_hit (then_n (rg_lit (wmv (v := sl g 0 nn c) (wmv (v := I_ m) (wmv (v := I_ ii) (wlv (v := N_ (m - ii)) (sbN m ii) (wmv (v := I_ m) (wmv (v := I_ ii) (wmv (v := .func (.func 115) #[] #[]) ?_)))))))))))))
   have hq8 : RotI pre A Bb post I1 ii ii := by have h0 := hF1_0; rw [show jj = ii by omega] at h0; exact h0
   obtain ⟨_, _, _, _, hI8, hXY8, _, _, _, hR8⟩ := RotI.eq hq8
   obtain ⟨M8, hM8⟩ : ∃ M : List Nat, M = [] := ⟨_, rfl⟩
   rw [← hM8] at hI8 hR8
   have hm8 : M8.length = 0 := by rw [hM8]; rfl
   have ho8 := ORow.to hF1_3 (congrArg (List.map f) hI8)
   refine wl (sca [sl g 0 nn c, N_ (m - ii), I_ m, I_ ii, .func (.func 115) #[] #[]] En.f251 (swapRange_at ho8 hBb hn (by omega) (by omega) (by omega) hXY8) ?_)
   rintro e _ ⟨rfl, h10, c11⟩
   refine ⟨_, rfl, ?_⟩
   obtain ⟨_, _, _, _, _, _⟩ := ORow.blk h10
   refine wnil ?_
   refine bodyPost_end (v := .tuple #[]) (res0 rfl ) (by kernel_rfl) ?_
   exact ⟨rfl, ORow.to h10 (by rw [hR8]), (Mod.chg (mtx M2 c11))⟩
  refine wp_cond_true (ebk v6) (wp_skip (then_n (wp_block (wp_seq (rg_lit (wmv (v := I_ ii) (wmv (v := I_ jj) (wl (sb rfl (r_gt (k := .i64) (m := (ii : Int)) (n := (jj : Int)) (by kernel_rfl) (by kernel_rfl)) fun _ k9 => wnil (then_n ?_))))))))))
  refine bcd k9 (fun v10 p11 => ?_) (fun v10 p11 => ?_)
  ·
   refine wp_cond_false (ebk v10) (wp_seq (rg_lit (wmv (v := sl g 0 nn c) (wmv (v := I_ m) (wmv (v := I_ ii) (wlv (v := N_ (m - ii)) (sbN m ii) (wmv (v := I_ m) (wmv (v := I_ jj) (wlv (v := N_ (m + jj)) (adN m jj) ?_)))))))))
   refine wmv (v := I_ ii) (wlv (v := N_ (m + jj - ii)) (sbN ((m + jj : Nat) : Int) ii) (wmv (v := I_ ii) (wmv (v := .func (.func 115) #[] #[]) ?_)))
   obtain ⟨p12, X12, M12, Y12, q12, hI12, hXY12, hY12, hp12, hb12, hR12⟩ := RotI.lt hF1_0 (by omega)
   have ho12 := ORow.to hF1_3 (congrArg (List.map f) hI12)
   refine wl (sca [sl g 0 nn c, N_ (m - ii), N_ (m + jj - ii), I_ ii, .func (.func 115) #[] #[]] En.f251 (swapRange_at ho12 hBb hn (by omega) (by omega) (by omega) hXY12) ?_)
   rintro e w13 ⟨rfl, h14, c15⟩
   refine ⟨_, rfl, ?_⟩
   obtain ⟨_, _, _, cg18, hg18, _⟩ := ORow.blk h14
   refine wnil (then_n (rg_lit (wmv (v := I_ jj) (wmv (v := I_ ii) (wlv (v := N_ (jj - ii)) (sbN jj ii) (was (v := N_ (jj - ii)) (wnil (inb_n (then_n ?_)))))))))
   refine ⟨ii + (jj - ii), ?_, (p12 ++ (Y12 ++ (M12 ++ (X12 ++ q12)))), ii, (jj - ii), rfl, hmk, (mtx hM1 c15), hR12, (by omega), (by omega), h14⟩
   · omega
  refine wp_cond_true (ebk v10) (wp_seq (rg_lit (wmv (v := sl g 0 nn c) (wmv (v := I_ m) (wmv (v := I_ ii) (wlv (v := N_ (m - ii)) (sbN m ii) (wmv (v := I_ m) (wmv (v := I_ jj) (wmv (v := .func (.func 115) #[] #[]) ?_)))))))))
  obtain ⟨p12, X12, M12, Y12, q12, hI12, hXY12, hY12, hp12, hb12, hR12⟩ := RotI.gt hF1_0 (by omega)
  have ho12 := ORow.to hF1_3 (congrArg (List.map f) hI12)
  refine wl (sca [sl g 0 nn c, N_ (m - ii), I_ m, I_ jj, .func (.func 115) #[] #[]] En.f251 (swapRange_at ho12 hBb hn (by omega) (by omega) (by omega) hXY12) ?_)
  rintro e w13 ⟨rfl, h14, c15⟩
  refine ⟨_, rfl, ?_⟩
  obtain ⟨_, _, _, cg18, hg18, _⟩ := ORow.blk h14
  refine wnil (then_n (rg_lit (wmv (v := I_ ii) (wmv (v := I_ jj) (wlv (v := N_ (ii - jj)) (sbN ii jj) (was (v := N_ (ii - jj)) (wnil (inb_n (then_n ?_)))))))))
  refine ⟨(ii - jj) + jj, ?_, (p12 ++ (Y12 ++ (M12 ++ (X12 ++ q12)))), (ii - jj), jj, rfl, hmk, (mtx hM1 c15), hR12, (by omega), (by omega), h14⟩
  · omega
end Go.Proofs.YtefhfoioeoijlaaGreatDoor

/- GMZ, GMN, GJ -/
import Derived.Test.YtefhfoioeoijlaaGreatDoorQab
import Derived.Test.YtefhfoioeoijlaaGreatDoorQag
import Derived.Test.YtefhfoioeoijlaaGreatDoorQah
import Derived.Test.YtefhfoioeoijlaaGreatDoorQaj
set_option linter.unusedVariables false
set_option linter.unusedSimpArgs false
namespace Go.Proofs.YtefhfoioeoijlaaGreatDoor
open Go Go.RowKit Go.Sort
set_option maxHeartbeats 2000000 in
theorem stable_atE {B base : Nat} {w : World} {g nn c : Nat} {f : Nat → EntD} (h : ERow 35 B base w (.slice (some ⟨g, 0, none⟩) nn c) ((List.range nn).map f)) (hBb : B ≤ base) (hn : nn ≤ 1000000) {NN : Nat} (hNN : ∀ i, (f i).name.data.toList.length ≤ NN) :
    Calls Tryz.prog 118 #[.slice (some ⟨g, 0, none⟩) nn c, .int .i64 nn, .func (.func 60) #[] #[]] w fun e w' => ∃ D, e = .returned (.tuple #[]) ∧ ERow 35 B base w' (.slice (some ⟨g, 0, none⟩) nn c) (D.map f) ∧ AllSorted (ky NN f) nn D ∧ Chg w w' g := by
  obtain ⟨hnL, hnc, hcm, cu0, hg, hcs0⟩ := ERow.blk h
  have hBg := ERow.ge h hBb
  go_enter Tryz.func118, Tryz.ntmps118
  refine wp_seq (rg_lit ?_)
  refine was (v := .int .i64 20) ?_
  refine wnil (then_n (wp_seq (rg_lit ?_)))
  refine wmv (v := .int .i64 20) ?_
  refine was (v := .int .i64 0) ?_
  refine was (v := .int .i64 20) ?_
  refine wnil (then_n (wp_seq (wp_block ?_)))
  refine lp (fun n a r1 => ∃ (I1 : List Nat) (ka : Nat) (kb : Nat) (z11 z12 z13 z14 z15 z16 z17 z18 z19 z20 z21 z22 : Value), (n = nn + 1 - ka) ∧ (a = ⟨#[.slice (some ⟨g, 0, none⟩) nn c, .int .i64 (nn : Int), .func (.func 60) #[] #[], undef, undef, undef, .int .i64 20, .int .i64 (ka : Int), .int .i64 (kb : Int), undef, .int .i64 20, z11, z12, z13, z14, z15, z16, z17, z18, z19, z20, z21, z22, undef, undef, undef, undef, undef, undef, undef, undef, undef, undef, undef, undef, undef, undef, undef, undef, undef, undef, undef, undef, undef, undef, undef, undef, undef, undef, undef, undef, undef, undef, undef, undef, undef, undef, undef, undef, undef, undef, undef, undef], []⟩) ∧ (Mod [g] w r1) ∧ (kb = ka + 20) ∧ (ka ≤ nn) ∧ (Blocks (ky NN f) nn 20 I1 ka) ∧ (ERow 35 B base r1 (.slice (some ⟨g, 0, none⟩) nn c) (I1.map f))) ⟨_, (List.range nn), 0, 20, undef, undef, undef, undef, undef, undef, undef, undef, undef, undef, undef, undef, rfl, (by kernel_rfl), Mod.refl _ _, rfl, (Nat.zero_le _), (Blocks.first _ _ _), h⟩ ?_
  rintro _ _ r1 ⟨I1, ka, kb, z11, z12, z13, z14, z15, z16, z17, z18, z19, z20, z21, z22, rfl, rfl, hM1, hF1_0, hF1_1, hF1_2, hF1_3⟩
  have M1 := Mod.trans (Mod.of_mod (Y := [g]) (Mod.refl [] w) (by simp)) (Mod.of_mod (Y := [g]) hM1 (by simp))
  obtain ⟨_, _, _, cg2, hg2, _⟩ := ERow.blk hF1_3
  refine wp_seq (wp_seq (rg_lit ?_))
  refine wmv (v := .int .i64 (kb : Int)) ?_
  refine wmv (v := .int .i64 (nn : Int)) ?_
  refine wl (sb rfl (r_le (k := .i64) (m := (kb : Int)) (n := (nn : Int)) (by kernel_rfl) (by kernel_rfl)) ?_)
  intro b3 k4
  refine wnil (then_n ?_)
  refine bcase b3 (fun v5 => ?_) (fun v5 => ?_)
  ·
   have p6 := of_decide_eq_false (k4.trans v5)
   refine wp_cond_false (ebool (b := b3) (by kernel_rfl) v5) ?_
   refine wp_exit (then_x (by nofun) (then_x (by nofun) (inb_hit (then_n (wp_seq (rg_lit ?_))))))
   refine wmv (v := .slice (some ⟨g, 0, none⟩) nn c) ?_
   refine wmv (v := .int .i64 (ka : Int)) ?_
   refine wmv (v := .int .i64 (nn : Int)) ?_
   refine wmv (v := .func (.func 60) #[] #[]) ?_
   obtain ⟨p7, X7, hI7, hp7, hX7, hlt7, hN7⟩ := Blocks.last hF1_2 (by omega)
   have ho7 := ERow.to hF1_3 (congrArg (List.map f) hI7)
   refine wl (sc rfl (r_callv (caps := []) (all := [.slice (some ⟨g, 0, none⟩) nn c, .int .i64 (ka : Int), .int .i64 (nn : Int), .func (.func 60) #[] #[]]) En.f162 (by kernel_rfl) (by kernel_rfl)) (insertion_atE ho7 hBb hn hNN hp7 (by omega) hlt7) ?_)
   rintro e w8 ⟨D9, rfl, h10, h11, m12, c13⟩
   refine ⟨.tuple #[], rfl, ?_⟩
   have M14 := Mod.trans M1 (Mod.of_chg c13 (by simp))
   have M15 := Mod.trans hM1 (Mod.of_chg c13 (by simp))
   obtain ⟨_, _, _, cg16, hg16, _⟩ := ERow.blk h10
   have hT7 := hN7 _ h11 m12
   refine wnil (then_n (wp_block ?_))
   refine lp (fun n a r2 => ∃ (I2 : List Nat) (bs : Nat) (z7 z8 z9 z28 z29 z30 z31 z32 z33 z34 z35 z36 z37 z38 z39 z40 z41 z42 z43 z44 z45 z46 z47 z48 z49 z50 z51 z52 z53 z54 z55 z56 z57 z58 z59 z60 z61 z62 : Value), (n = nn - bs) ∧ (a = ⟨#[.slice (some ⟨g, 0, none⟩) nn c, .int .i64 (nn : Int), .func (.func 60) #[] #[], undef, undef, undef, .int .i64 (bs : Int), z7, z8, z9, .int .i64 20, .int .i64 (kb : Int), .int .i64 (nn : Int), .bool b3, z14, z15, z16, z17, z18, z19, z20, z21, z22, .slice (some ⟨g, 0, none⟩) nn c, .int .i64 (ka : Int), .int .i64 (nn : Int), .func (.func 60) #[] #[], undef, z28, z29, z30, z31, z32, z33, z34, z35, z36, z37, z38, z39, z40, z41, z42, z43, z44, z45, z46, z47, z48, z49, z50, z51, z52, z53, z54, z55, z56, z57, z58, z59, z60, z61, z62], []⟩) ∧ (Mod [g] w8 r2) ∧ (0 < bs) ∧ (Runs (ky NN f) bs 0 I2) ∧ (I2.length = nn) ∧ (ERow 35 B base r2 (.slice (some ⟨g, 0, none⟩) nn c) (I2.map f))) ⟨_, (p7 ++ (D9 ++ ([] : List Nat))), 20, .int .i64 (ka : Int), .int .i64 (kb : Int), undef, undef, undef, undef, undef, undef, undef, undef, undef, undef, undef, undef, undef, undef, undef, undef, undef, undef, undef, undef, undef, undef, undef, undef, undef, undef, undef, undef, undef, undef, undef, undef, undef, undef, undef, undef, rfl, (by kernel_rfl), Mod.refl _ _, (by decide), hT7.1, hT7.2, h10⟩ ?_
   rintro _ _ r2 ⟨I2, bs, z7, z8, z9, z28, z29, z30, z31, z32, z33, z34, z35, z36, z37, z38, z39, z40, z41, z42, z43, z44, z45, z46, z47, z48, z49, z50, z51, z52, z53, z54, z55, z56, z57, z58, z59, z60, z61, z62, rfl, rfl, hM2, hF2_0, hF2_1, hF2_2, hF2_3⟩
   have M17 := Mod.trans M14 (Mod.of_mod hM2 (by simp))
   have M18 := Mod.trans M15 (Mod.of_mod hM2 (by simp))
   obtain ⟨_, _, _, cg19, hg19, _⟩ := ERow.blk hF2_3
   refine wp_seq (wp_seq (rg_lit ?_))
   refine wmv (v := .int .i64 (bs : Int)) ?_
   refine wmv (v := .int .i64 (nn : Int)) ?_
   refine wl (sb rfl (r_lt (k := .i64) (m := (bs : Int)) (n := (nn : Int)) (by kernel_rfl) (by kernel_rfl)) ?_)
   intro b20 k21
   refine wnil (then_n ?_)
   refine bcase b20 (fun v22 => ?_) (fun v22 => ?_)
   ·
    have p23 := of_decide_eq_false (k21.trans v22)
    refine wp_cond_false (ebool (b := b20) (by kernel_rfl) v22) ?_
    refine wp_exit (then_x (by nofun) (then_x (by nofun) (inb_hit ?_)))
    refine bodyPost_end (v := .tuple #[]) (res0 rfl ) (by kernel_rfl) ?_
    exact ⟨I2, rfl, hF2_3, Runs.all hF2_1 hF2_2 (by omega) (by omega), (Mod.chg M17)⟩
   have p23 := of_decide_eq_true (k21.trans v22)
   have q24 : bs < nn := by omega
   have q25 : bs < nn := by omega
   refine wp_cond_true (ebool (b := b20) (by kernel_rfl) v22) ?_
   refine wp_skip (then_n (wp_block (wp_seq (rg_lit ?_))))
   refine wmv (v := .int .i64 (bs : Int)) ?_
   refine wl (sv rfl (v := .int .i64 ((2 * bs : Nat) : Int)) (r_mul (k := .i64) (m := 2) (n := (bs : Int)) (c := ((2 * bs : Nat) : Int)) (by kernel_rfl) (by kernel_rfl) ((IntWalk.i64_in _ (by omega)).trans (by omega))) ?_)
   refine was (v := .int .i64 0) ?_
   refine was (v := .int .i64 ((2 * bs : Nat) : Int)) ?_
   refine wnil (then_n (wp_seq (wp_block ?_)))
   refine lp (fun n a r3 => ∃ (I3 : List Nat) (kc : Nat) (kd : Nat) (z33 z34 z35 z36 z37 z38 z39 z40 z41 z42 z43 z44 z45 z46 z47 z48 : Value), (n = nn + 1 - kc) ∧ (a = ⟨#[.slice (some ⟨g, 0, none⟩) nn c, .int .i64 (nn : Int), .func (.func 60) #[] #[], undef, undef, undef, .int .i64 (bs : Int), .int .i64 (kc : Int), .int .i64 (kd : Int), z9, .int .i64 20, .int .i64 (kb : Int), .int .i64 (nn : Int), .bool b3, z14, z15, z16, z17, z18, z19, z20, z21, z22, .slice (some ⟨g, 0, none⟩) nn c, .int .i64 (ka : Int), .int .i64 (nn : Int), .func (.func 60) #[] #[], undef, .int .i64 (bs : Int), .int .i64 (nn : Int), .bool b20, .int .i64 (bs : Int), .int .i64 ((2 * bs : Nat) : Int), z33, z34, z35, z36, z37, z38, z39, z40, z41, z42, z43, z44, z45, z46, z47, z48, z49, z50, z51, z52, z53, z54, z55, z56, z57, z58, z59, z60, z61, z62], []⟩) ∧ (Mod [g] r2 r3) ∧ (kd = kc + 2 * bs) ∧ (kc ≤ nn) ∧ (Pass (ky NN f) nn bs I3 kc) ∧ (ERow 35 B base r3 (.slice (some ⟨g, 0, none⟩) nn c) (I3.map f))) ⟨_, I2, 0, (2 * bs), z33, z34, z35, z36, z37, z38, z39, z40, z41, z42, z43, z44, z45, z46, z47, z48, rfl, (by kernel_rfl), Mod.refl _ _, (by omega), (Nat.zero_le _), (Pass.first hF2_1 hF2_2), hF2_3⟩ ?_
   rintro _ _ r3 ⟨I3, kc, kd, z33, z34, z35, z36, z37, z38, z39, z40, z41, z42, z43, z44, z45, z46, z47, z48, rfl, rfl, hM3, hF3_0, hF3_1, hF3_2, hF3_3⟩
   have M26 := Mod.trans M17 (Mod.of_mod hM3 (by simp))
   have M27 := Mod.trans M18 (Mod.of_mod hM3 (by simp))
   have M28 := Mod.trans hM2 (Mod.of_mod hM3 (by simp))
   obtain ⟨_, _, _, cg29, hg29, _⟩ := ERow.blk hF3_3
   refine wp_seq (wp_seq (rg_lit ?_))
   refine wmv (v := .int .i64 (kd : Int)) ?_
   refine wmv (v := .int .i64 (nn : Int)) ?_
   refine wl (sb rfl (r_le (k := .i64) (m := (kd : Int)) (n := (nn : Int)) (by kernel_rfl) (by kernel_rfl)) ?_)
   intro b30 k31
   refine wnil (then_n ?_)
   refine bcase b30 (fun v32 => ?_) (fun v32 => ?_)
   ·
    have p33 := of_decide_eq_false (k31.trans v32)
    refine wp_cond_false (ebool (b := b30) (by kernel_rfl) v32) ?_
    refine wp_exit (then_x (by nofun) (then_x (by nofun) (inb_hit (then_n (wp_seq (wp_seq (rg_lit ?_)))))))
    refine wmv (v := .int .i64 (kc : Int)) ?_
    refine wmv (v := .int .i64 (bs : Int)) ?_
    refine wl (sv rfl (v := .int .i64 ((kc + bs : Nat) : Int)) (r_add (k := .i64) (m := (kc : Int)) (n := (bs : Int)) (c := ((kc + bs : Nat) : Int)) (by kernel_rfl) (by kernel_rfl) ((IntWalk.i64_in _ (by omega)).trans (by omega))) ?_)
    refine was (v := .int .i64 ((kc + bs : Nat) : Int)) ?_
    refine wnil (then_n (wp_seq (rg_lit ?_)))
    refine wmv (v := .int .i64 ((kc + bs : Nat) : Int)) ?_
    refine wmv (v := .int .i64 (nn : Int)) ?_
    refine wl (sb rfl (r_lt (k := .i64) (m := ((kc + bs : Nat) : Int)) (n := (nn : Int)) (by kernel_rfl) (by kernel_rfl)) ?_)
    intro b34 k35
    refine wnil (then_n ?_)
    refine bcase b34 (fun v36 => ?_) (fun v36 => ?_)
    ·
     have p37 := of_decide_eq_false (k35.trans v36)
     refine wp_cond_false (ebool (b := b34) (by kernel_rfl) v36) ?_
     refine wp_skip (then_n (rg_lit ?_))
     refine wmv (v := .int .i64 (bs : Int)) ?_
     refine wl (sv rfl (v := .int .i64 ((bs * 2 : Nat) : Int)) (r_mul (k := .i64) (m := (bs : Int)) (n := 2) (c := ((bs * 2 : Nat) : Int)) (by kernel_rfl) (by kernel_rfl) ((IntWalk.i64_in _ (by omega)).trans (by omega))) ?_)
     refine was (v := .int .i64 ((bs * 2 : Nat) : Int)) ?_
     refine wnil (inb_n (then_n ?_))
     have hT38 := Pass.done hF3_2 (by omega) (by omega)
     refine ⟨nn - (bs * 2), ?_, I3, (bs * 2), .int .i64 (kc : Int), .int .i64 (kd : Int), .int .i64 ((kc + bs : Nat) : Int), .int .i64 (bs : Int), .int .i64 (nn : Int), .bool b20, .int .i64 (bs : Int), .int .i64 ((2 * bs : Nat) : Int), .int .i64 (kd : Int), .int .i64 (nn : Int), .bool b30, z36, z37, z38, z39, z40, z41, z42, z43, z44, z45, z46, z47, z48, .int .i64 (kc : Int), .int .i64 (bs : Int), .int .i64 ((kc + bs : Nat) : Int), .int .i64 ((kc + bs : Nat) : Int), .int .i64 (nn : Int), .bool b34, z55, z56, z57, z58, z59, z60, .int .i64 (bs : Int), .int .i64 ((bs * 2 : Nat) : Int), rfl, (by kernel_rfl), M28, (by omega), (by have h0 := hT38.1; rw [Nat.mul_comm 2 bs] at h0; exact h0), hT38.2, hF3_3⟩
     · omega
    have p37 := of_decide_eq_true (k35.trans v36)
    refine wp_cond_true (ebool (b := b34) (by kernel_rfl) v36) ?_
    refine rg_lit ?_
    refine wmv (v := .slice (some ⟨g, 0, none⟩) nn c) ?_
    refine wmv (v := .int .i64 (kc : Int)) ?_
    refine wmv (v := .int .i64 ((kc + bs : Nat) : Int)) ?_
    refine wmv (v := .int .i64 (nn : Int)) ?_
    refine wmv (v := .func (.func 60) #[] #[]) ?_
    obtain ⟨p38, X38, Y38, hI38, hp38, hX38, hY38, sX38, sY38, hA38, hN38⟩ := Pass.tail hF3_2 (by omega) (by omega)
    have ho38 := ERow.to hF3_3 (congrArg (List.map f) hI38)
    refine wl (sc rfl (r_callv (caps := []) (all := [.slice (some ⟨g, 0, none⟩) nn c, .int .i64 (kc : Int), .int .i64 ((kc + bs : Nat) : Int), .int .i64 (nn : Int), .func (.func 60) #[] #[]]) En.f163 (by kernel_rfl) (by kernel_rfl)) (sym_allE _ (Nat.le_refl _) ho38 hBb hn hNN hp38 (by omega) (by omega) (by omega) (by omega) sX38 sY38 hA38) ?_)
    rintro e w39 ⟨D40, rfl, h41, m42, c43⟩
    refine ⟨.tuple #[], rfl, ?_⟩
    have M44 := Mod.trans M26 (Mod.of_chg c43 (by simp))
    have M45 := Mod.trans M27 (Mod.of_chg c43 (by simp))
    have M46 := Mod.trans M28 (Mod.of_chg c43 (by simp))
    have M47 := Mod.trans hM3 (Mod.of_chg c43 (by simp))
    obtain ⟨_, _, _, cg48, hg48, _⟩ := ERow.blk h41
    have hT38 := hN38 _ m42
    refine wnil (then_n (rg_lit ?_))
    refine wmv (v := .int .i64 (bs : Int)) ?_
    refine wl (sv rfl (v := .int .i64 ((bs * 2 : Nat) : Int)) (r_mul (k := .i64) (m := (bs : Int)) (n := 2) (c := ((bs * 2 : Nat) : Int)) (by kernel_rfl) (by kernel_rfl) ((IntWalk.i64_in _ (by omega)).trans (by omega))) ?_)
    refine was (v := .int .i64 ((bs * 2 : Nat) : Int)) ?_
    refine wnil (inb_n (then_n ?_))
    refine ⟨nn - (bs * 2), ?_, (p38 ++ (D40 ++ ([] : List Nat))), (bs * 2), .int .i64 (kc : Int), .int .i64 (kd : Int), .int .i64 ((kc + bs : Nat) : Int), .int .i64 (bs : Int), .int .i64 (nn : Int), .bool b20, .int .i64 (bs : Int), .int .i64 ((2 * bs : Nat) : Int), .int .i64 (kd : Int), .int .i64 (nn : Int), .bool b30, z36, z37, z38, z39, z40, z41, z42, z43, z44, z45, z46, z47, z48, .int .i64 (kc : Int), .int .i64 (bs : Int), .int .i64 ((kc + bs : Nat) : Int), .int .i64 ((kc + bs : Nat) : Int), .int .i64 (nn : Int), .bool b34, .slice (some ⟨g, 0, none⟩) nn c, .int .i64 (kc : Int), .int .i64 ((kc + bs : Nat) : Int), .int .i64 (nn : Int), .func (.func 60) #[] #[], undef, .int .i64 (bs : Int), .int .i64 ((bs * 2 : Nat) : Int), rfl, (by kernel_rfl), M46, (by omega), (by have h0 := hT38.1; rw [Nat.mul_comm 2 bs] at h0; exact h0), hT38.2, h41⟩
    · omega
   have p33 := of_decide_eq_true (k31.trans v32)
   refine wp_cond_true (ebool (b := b30) (by kernel_rfl) v32) ?_
   refine wp_skip (then_n (wp_block (wp_seq (rg_lit ?_))))
   refine wmv (v := .slice (some ⟨g, 0, none⟩) nn c) ?_
   refine wmv (v := .int .i64 (kc : Int)) ?_
   refine wmv (v := .int .i64 (kc : Int)) ?_
   refine wmv (v := .int .i64 (bs : Int)) ?_
   refine wl (sv rfl (v := .int .i64 ((kc + bs : Nat) : Int)) (r_add (k := .i64) (m := (kc : Int)) (n := (bs : Int)) (c := ((kc + bs : Nat) : Int)) (by kernel_rfl) (by kernel_rfl) ((IntWalk.i64_in _ (by omega)).trans (by omega))) ?_)
   refine wmv (v := .int .i64 (kd : Int)) ?_
   refine wmv (v := .func (.func 60) #[] #[]) ?_
   obtain ⟨p34, X34, Y34, q34, hI34, hp34, hX34, hY34, sX34, sY34, hA34, hN34⟩ := Pass.pair hF3_2 (by omega)
   have ho34 := ERow.to hF3_3 (congrArg (List.map f) hI34)
   refine wl (sc rfl (r_callv (caps := []) (all := [.slice (some ⟨g, 0, none⟩) nn c, .int .i64 (kc : Int), .int .i64 ((kc + bs : Nat) : Int), .int .i64 (kd : Int), .func (.func 60) #[] #[]]) En.f163 (by kernel_rfl) (by kernel_rfl)) (sym_allE _ (Nat.le_refl _) ho34 hBb hn hNN hp34 (by omega) (by omega) (by omega) (by omega) sX34 sY34 hA34) ?_)
   rintro e w35 ⟨D36, rfl, h37, m38, c39⟩
   refine ⟨.tuple #[], rfl, ?_⟩
   have M40 := Mod.trans M26 (Mod.of_chg c39 (by simp))
   have M41 := Mod.trans M27 (Mod.of_chg c39 (by simp))
   have M42 := Mod.trans M28 (Mod.of_chg c39 (by simp))
   have M43 := Mod.trans hM3 (Mod.of_chg c39 (by simp))
   obtain ⟨_, _, _, cg44, hg44, _⟩ := ERow.blk h37
   have hT34 := hN34 _ m38
   refine wnil (then_n (wp_seq (rg_lit ?_)))
   refine wmv (v := .int .i64 (kd : Int)) ?_
   refine was (v := .int .i64 (kd : Int)) ?_
   refine wnil (then_n (rg_lit ?_))
   refine wmv (v := .int .i64 (kd : Int)) ?_
   refine wmv (v := .int .i64 (bs : Int)) ?_
   refine wl (sv rfl (v := .int .i64 ((2 * bs : Nat) : Int)) (r_mul (k := .i64) (m := 2) (n := (bs : Int)) (c := ((2 * bs : Nat) : Int)) (by kernel_rfl) (by kernel_rfl) ((IntWalk.i64_in _ (by omega)).trans (by omega))) ?_)
   refine wl (sv rfl (v := .int .i64 ((kd + (2 * bs) : Nat) : Int)) (r_add (k := .i64) (m := (kd : Int)) (n := ((2 * bs : Nat) : Int)) (c := ((kd + (2 * bs) : Nat) : Int)) (by kernel_rfl) (by kernel_rfl) ((IntWalk.i64_in _ (by omega)).trans (by omega))) ?_)
   refine was (v := .int .i64 ((kd + (2 * bs) : Nat) : Int)) ?_
   refine wnil (inb_n (then_n ?_))
   refine ⟨nn + 1 - kd, ?_, (p34 ++ (D36 ++ q34)), kd, (kd + (2 * bs)), .int .i64 (kd : Int), .int .i64 (nn : Int), .bool b30, .slice (some ⟨g, 0, none⟩) nn c, .int .i64 (kc : Int), .int .i64 (kc : Int), .int .i64 (bs : Int), .int .i64 ((kc + bs : Nat) : Int), .int .i64 (kd : Int), .func (.func 60) #[] #[], undef, .int .i64 (kd : Int), .int .i64 (kd : Int), .int .i64 (bs : Int), .int .i64 ((2 * bs : Nat) : Int), .int .i64 ((kd + (2 * bs) : Nat) : Int), rfl, (by kernel_rfl), M43, (by omega), (by omega), (by have h0 := hT34; rw [show kc + 2 * bs = kd by omega] at h0; exact h0), h37⟩
   · omega
  have p6 := of_decide_eq_true (k4.trans v5)
  refine wp_cond_true (ebool (b := b3) (by kernel_rfl) v5) ?_
  refine wp_skip (then_n (wp_block (wp_seq (rg_lit ?_))))
  refine wmv (v := .slice (some ⟨g, 0, none⟩) nn c) ?_
  refine wmv (v := .int .i64 (ka : Int)) ?_
  refine wmv (v := .int .i64 (kb : Int)) ?_
  refine wmv (v := .func (.func 60) #[] #[]) ?_
  obtain ⟨p7, X7, q7, hI7, hp7, hX7, hlt7, hN7⟩ := Blocks.part hF1_2 (by omega)
  have ho7 := ERow.to hF1_3 (congrArg (List.map f) hI7)
  refine wl (sc rfl (r_callv (caps := []) (all := [.slice (some ⟨g, 0, none⟩) nn c, .int .i64 (ka : Int), .int .i64 (kb : Int), .func (.func 60) #[] #[]]) En.f162 (by kernel_rfl) (by kernel_rfl)) (insertion_atE ho7 hBb hn hNN hp7 (by omega) hlt7) ?_)
  rintro e w8 ⟨D9, rfl, h10, h11, m12, c13⟩
  refine ⟨.tuple #[], rfl, ?_⟩
  have M14 := Mod.trans M1 (Mod.of_chg c13 (by simp))
  have M15 := Mod.trans hM1 (Mod.of_chg c13 (by simp))
  obtain ⟨_, _, _, cg16, hg16, _⟩ := ERow.blk h10
  have hT7 := hN7 _ h11 m12
  refine wnil (then_n (wp_seq (rg_lit ?_)))
  refine wmv (v := .int .i64 (kb : Int)) ?_
  refine was (v := .int .i64 (kb : Int)) ?_
  refine wnil (then_n (rg_lit ?_))
  refine wmv (v := .int .i64 (kb : Int)) ?_
  refine wmv (v := .int .i64 20) ?_
  refine wl (sv rfl (v := .int .i64 ((kb + 20 : Nat) : Int)) (r_add (k := .i64) (m := (kb : Int)) (n := 20) (c := ((kb + 20 : Nat) : Int)) (by kernel_rfl) (by kernel_rfl) ((IntWalk.i64_in _ (by omega)).trans (by omega))) ?_)
  refine was (v := .int .i64 ((kb + 20 : Nat) : Int)) ?_
  refine wnil (inb_n (then_n ?_))
  refine ⟨nn + 1 - kb, ?_, (p7 ++ (D9 ++ q7)), kb, (kb + 20), .int .i64 (kb : Int), .int .i64 (nn : Int), .bool b3, .slice (some ⟨g, 0, none⟩) nn c, .int .i64 (ka : Int), .int .i64 (kb : Int), .func (.func 60) #[] #[], undef, .int .i64 (kb : Int), .int .i64 (kb : Int), .int .i64 20, .int .i64 ((kb + 20 : Nat) : Int), rfl, (by kernel_rfl), M15, (by omega), (by omega), (by have h0 := hT7; rw [show ka + 20 = kb by omega] at h0; exact h0), h10⟩
  · omega
set_option maxHeartbeats 2000000 in
theorem sortStable_atE {B base : Nat} {w : World} {g nn c : Nat} {f : Nat → EntD} (h : ERow 35 B base w (.slice (some ⟨g, 0, none⟩) nn c) ((List.range nn).map f)) (hBb : B ≤ base) (hn : nn ≤ 1000000) {NN : Nat} (hNN : ∀ i, (f i).name.data.toList.length ≤ NN) :
    Calls Tryz.prog 59 #[.slice (some ⟨g, 0, none⟩) nn c, .func (.func 60) #[] #[]] w fun e w' => ∃ D, e = .returned (.tuple #[]) ∧ ERow 35 B base w' (.slice (some ⟨g, 0, none⟩) nn c) (D.map f) ∧ AllSorted (ky NN f) nn D ∧ Chg w w' g := by
  obtain ⟨hnL, hnc, hcm, cu0, hg, hcs0⟩ := ERow.blk h
  have hBg := ERow.ge h hBb
  go_enter Tryz.func59, Tryz.ntmps59
  refine rg_lit ?_
  refine wmv (v := .slice (some ⟨g, 0, none⟩) nn c) ?_
  refine wmv (v := .slice (some ⟨g, 0, none⟩) nn c) ?_
  refine wl (sv rfl (v := .int .i64 (nn : Int)) (r_len Ty.un29 (ad := (some ⟨g, 0, none⟩)) (n := nn) (c := c) (by kernel_rfl)) ?_)
  refine wmv (v := .func (.func 60) #[] #[]) ?_
  refine wl (sc rfl (r_callv (caps := []) (all := [.slice (some ⟨g, 0, none⟩) nn c, .int .i64 (nn : Int), .func (.func 60) #[] #[]]) En.f118 (by kernel_rfl) (by kernel_rfl)) (stable_atE h hBb hn hNN) ?_)
  rintro e w1 ⟨D2, rfl, h3, m4, c5⟩
  refine ⟨.tuple #[], rfl, ?_⟩
  have M6 := md_old (Mod.refl [] w) c5
  obtain ⟨_, _, _, cg7, hg7, _⟩ := ERow.blk h3
  refine wnil ?_
  refine bodyPost_end (v := .tuple #[]) (res0 rfl ) (by kernel_rfl) ?_
  exact ⟨_, rfl, h3, m4, (Mod.chg M6)⟩
end Go.Proofs.YtefhfoioeoijlaaGreatDoor
set_option linter.unusedVariables false
set_option linter.unusedSimpArgs false
namespace Go.Proofs.YtefhfoioeoijlaaGreatDoor
open Go Go.RowKit Go.Sort
set_option maxHeartbeats 2000000 in
theorem insNil_at {w : World} : Calls Tryz.prog 162 #[.slice none 0 0, .int .i64 0, .int .i64 0, .func (.func 60) #[] #[]] w fun e w' => e = .returned (.tuple #[]) ∧ Up w w' := by
  go_enter Tryz.func162, Tryz.ntmps162
  refine wp_seq (rg_lit ?_)
  refine wmv (v := .int .i64 0) ?_
  refine wl (sv (w' := w) rfl (v := .int .i64 1) (by kernel_rfl) ?_)
  refine was (v := .int .i64 1) ?_
  refine wnil (then_n (wp_block ?_))
  refine lp (fun n a r1 => ∃ (z9 z12 z13 z14 z15 z16 z17 z18 z19 z20 z21 z22 z23 z24 z25 z26 z27 z28 z29 z30 z31 z32 z33 z34 z35 z36 z37 z38 z39 z40 z41 z42 z43 z44 z45 z46 z47 z48 z49 z50 z51 z52 : Value), (n = 0) ∧ (a = ⟨#[.slice none 0 0, .int .i64 0, .int .i64 0, .func (.func 60) #[] #[], undef, undef, undef, undef, .int .i64 1, z9, .int .i64 0, .int .i64 1, z12, z13, z14, z15, z16, z17, z18, z19, z20, z21, z22, z23, z24, z25, z26, z27, z28, z29, z30, z31, z32, z33, z34, z35, z36, z37, z38, z39, z40, z41, z42, z43, z44, z45, z46, z47, z48, z49, z50, z51, z52], []⟩) ∧ (Mod [] w r1)) ⟨_, undef, undef, undef, undef, undef, undef, undef, undef, undef, undef, undef, undef, undef, undef, undef, undef, undef, undef, undef, undef, undef, undef, undef, undef, undef, undef, undef, undef, undef, undef, undef, undef, undef, undef, undef, undef, undef, undef, undef, undef, undef, undef, rfl, (by kernel_rfl), Mod.refl _ _⟩ ?_
  rintro _ _ r1 ⟨z9, z12, z13, z14, z15, z16, z17, z18, z19, z20, z21, z22, z23, z24, z25, z26, z27, z28, z29, z30, z31, z32, z33, z34, z35, z36, z37, z38, z39, z40, z41, z42, z43, z44, z45, z46, z47, z48, z49, z50, z51, z52, rfl, rfl, hM1⟩
  have M1 := Mod.thin (Mod.refl [] w) hM1 (by simp)
  refine wp_seq (wp_seq (rg_lit ?_))
  refine wmv (v := .int .i64 1) ?_
  refine wmv (v := .int .i64 0) ?_
  refine wl (sv (w' := r1) rfl (v := .bool false) (by kernel_rfl) ?_)
  refine wnil (then_n ?_)
  refine wp_cond_false (by kernel_rfl) ?_
  refine wp_exit (then_x (by nofun) (then_x (by nofun) (inb_hit ?_)))
  refine bodyPost_end (v := .tuple #[]) (res0 rfl ) (by kernel_rfl) ?_
  exact ⟨rfl, (Mod.up M1)⟩
set_option maxHeartbeats 2000000 in
theorem stableNil_at {w : World} : Calls Tryz.prog 118 #[.slice none 0 0, .int .i64 0, .func (.func 60) #[] #[]] w fun e w' => e = .returned (.tuple #[]) ∧ Up w w' := by
  go_enter Tryz.func118, Tryz.ntmps118
  refine wp_seq (rg_lit ?_)
  refine was (v := .int .i64 20) ?_
  refine wnil (then_n (wp_seq (rg_lit ?_)))
  refine wmv (v := .int .i64 20) ?_
  refine was (v := .int .i64 0) ?_
  refine was (v := .int .i64 20) ?_
  refine wnil (then_n (wp_seq (wp_block ?_)))
  refine lp (fun n a r1 => ∃ (z11 z12 z13 z14 z15 z16 z17 z18 z19 z20 z21 z22 : Value), (n = 0) ∧ (a = ⟨#[.slice none 0 0, .int .i64 0, .func (.func 60) #[] #[], undef, undef, undef, .int .i64 20, .int .i64 0, .int .i64 20, undef, .int .i64 20, z11, z12, z13, z14, z15, z16, z17, z18, z19, z20, z21, z22, undef, undef, undef, undef, undef, undef, undef, undef, undef, undef, undef, undef, undef, undef, undef, undef, undef, undef, undef, undef, undef, undef, undef, undef, undef, undef, undef, undef, undef, undef, undef, undef, undef, undef, undef, undef, undef, undef, undef, undef], []⟩) ∧ (Mod [] w r1)) ⟨_, undef, undef, undef, undef, undef, undef, undef, undef, undef, undef, undef, undef, rfl, (by kernel_rfl), Mod.refl _ _⟩ ?_
  rintro _ _ r1 ⟨z11, z12, z13, z14, z15, z16, z17, z18, z19, z20, z21, z22, rfl, rfl, hM1⟩
  have M1 := Mod.thin (Mod.refl [] w) hM1 (by simp)
  refine wp_seq (wp_seq (rg_lit ?_))
  refine wmv (v := .int .i64 20) ?_
  refine wmv (v := .int .i64 0) ?_
  refine wl (sv (w' := r1) rfl (v := .bool false) (by kernel_rfl) ?_)
  refine wnil (then_n ?_)
  refine wp_cond_false (by kernel_rfl) ?_
  refine wp_exit (then_x (by nofun) (then_x (by nofun) (inb_hit (then_n (wp_seq (rg_lit ?_))))))
  refine wmv (v := .slice none 0 0) ?_
  refine wmv (v := .int .i64 0) ?_
  refine wmv (v := .int .i64 0) ?_
  refine wmv (v := .func (.func 60) #[] #[]) ?_
  refine wl (sc rfl (r_callv (caps := []) (all := [.slice none 0 0, .int .i64 0, .int .i64 0, .func (.func 60) #[] #[]]) En.f162 (by kernel_rfl) (by kernel_rfl)) (insNil_at) ?_)
  rintro e w2 ⟨rfl, u3⟩
  refine ⟨.tuple #[], rfl, ?_⟩
  have M4 := Mod.trans M1 (Mod.of_up u3)
  have M5 := Mod.trans hM1 (Mod.of_up u3)
  refine wnil (then_n (wp_block ?_))
  refine lp (fun n a r2 => ∃ (z7 z8 z9 z28 z29 z30 z31 z32 z33 z34 z35 z36 z37 z38 z39 z40 z41 z42 z43 z44 z45 z46 z47 z48 z49 z50 z51 z52 z53 z54 z55 z56 z57 z58 z59 z60 z61 z62 : Value), (n = 0) ∧ (a = ⟨#[.slice none 0 0, .int .i64 0, .func (.func 60) #[] #[], undef, undef, undef, .int .i64 20, z7, z8, z9, .int .i64 20, .int .i64 20, .int .i64 0, .bool false, z14, z15, z16, z17, z18, z19, z20, z21, z22, .slice none 0 0, .int .i64 0, .int .i64 0, .func (.func 60) #[] #[], .tuple #[], z28, z29, z30, z31, z32, z33, z34, z35, z36, z37, z38, z39, z40, z41, z42, z43, z44, z45, z46, z47, z48, z49, z50, z51, z52, z53, z54, z55, z56, z57, z58, z59, z60, z61, z62], []⟩) ∧ (Mod [] w2 r2)) ⟨_, .int .i64 0, .int .i64 20, undef, undef, undef, undef, undef, undef, undef, undef, undef, undef, undef, undef, undef, undef, undef, undef, undef, undef, undef, undef, undef, undef, undef, undef, undef, undef, undef, undef, undef, undef, undef, undef, undef, undef, undef, undef, rfl, (by kernel_rfl), Mod.refl _ _⟩ ?_
  rintro _ _ r2 ⟨z7, z8, z9, z28, z29, z30, z31, z32, z33, z34, z35, z36, z37, z38, z39, z40, z41, z42, z43, z44, z45, z46, z47, z48, z49, z50, z51, z52, z53, z54, z55, z56, z57, z58, z59, z60, z61, z62, rfl, rfl, hM2⟩
  have M6 := Mod.thin M4 hM2 (by simp)
  have M7 := Mod.thin M5 hM2 (by simp)
  refine wp_seq (wp_seq (rg_lit ?_))
  refine wmv (v := .int .i64 20) ?_
  refine wmv (v := .int .i64 0) ?_
  refine wl (sv (w' := r2) rfl (v := .bool false) (by kernel_rfl) ?_)
  refine wnil (then_n ?_)
  refine wp_cond_false (by kernel_rfl) ?_
  refine wp_exit (then_x (by nofun) (then_x (by nofun) (inb_hit ?_)))
  refine bodyPost_end (v := .tuple #[]) (res0 rfl ) (by kernel_rfl) ?_
  exact ⟨rfl, (Mod.up M6)⟩
set_option maxHeartbeats 2000000 in
theorem sortNil_at {w : World} : Calls Tryz.prog 59 #[.slice none 0 0, .func (.func 60) #[] #[]] w fun e w' => e = .returned (.tuple #[]) ∧ Up w w' := by
  go_enter Tryz.func59, Tryz.ntmps59
  refine rg_lit ?_
  refine wmv (v := .slice none 0 0) ?_
  refine wmv (v := .slice none 0 0) ?_
  refine wl (sv rfl (v := .int .i64 0) (r_len Ty.un29 (ad := none) (n := 0) (c := 0) (by kernel_rfl)) ?_)
  refine wmv (v := .func (.func 60) #[] #[]) ?_
  refine wl (sc rfl (r_callv (caps := []) (all := [.slice none 0 0, .int .i64 0, .func (.func 60) #[] #[]]) En.f118 (by kernel_rfl) (by kernel_rfl)) (stableNil_at) ?_)
  rintro e w1 ⟨rfl, u2⟩
  refine ⟨.tuple #[], rfl, ?_⟩
  have M3 := Mod.trans (Mod.refl [] w) (Mod.of_up u2)
  refine wnil ?_
  refine bodyPost_end (v := .tuple #[]) (res0 rfl ) (by kernel_rfl) ?_
  exact ⟨rfl, (Mod.up M3)⟩
end Go.Proofs.YtefhfoioeoijlaaGreatDoor
set_option linter.unusedVariables false
set_option linter.unusedSimpArgs false
namespace Go.Proofs.YtefhfoioeoijlaaGreatDoor
open Go Go.RowKit Go.Sort
set_option maxHeartbeats 2000000 in
theorem opcompare_at {w : World} (o p : OpD) (oA pA : Option Addr) (on oc pn pc : Nat) :
    Calls Tryz.prog 115 #[opV o (.slice oA on oc), opV p (.slice pA pn pc)] w fun e w' => e = .returned (.int .i64 (cmpS o.at_ p.at_)) ∧ Up w w' := by
  go_enter Tryz.func115, Tryz.ntmps115
  refine wp_seq (rg_lit ?_)
  refine wl (sn rfl (cs := (opC o (.slice oA on oc)).toArray) (T := 49) (V := fun b => .pointer (some ⟨b, 0, none⟩)) (r_box (v := opV o (.slice oA on oc)) (by kernel_rfl) rfl) ?_)
  intro b1 w2 e3 h4 u5
  have g6 : w.heap.size ≤ b1 := by rw [e3]; exact (Mod.refl [] w).size
  have M7 := Mod.trans (Mod.refl [] w) (Mod.of_up u5)
  refine wl (sn rfl (cs := (opC p (.slice pA pn pc)).toArray) (T := 49) (V := fun b => .pointer (some ⟨b, 0, none⟩)) (r_box (v := opV p (.slice pA pn pc)) (by kernel_rfl) rfl) ?_)
  intro b8 w9 e10 h11 u12
  have l13 : b1 < b8 := by rw [e10]; exact lt_ob h4
  have g14 : w.heap.size ≤ b8 := by rw [e10]; exact M7.size
  have M15 := Mod.trans M7 (Mod.of_up u12)
  refine was (v := .int .i64 0) ?_
  refine wnil (then_n (wp_seq (rg_lit ?_)))
  refine wl (sv rfl (v := .pointer (some ⟨b1, 1, none⟩)) (r_fieldAddr (u := .pointer (some ⟨b1, 0, none⟩)) (by kernel_rfl) (fun _ => (by kernel_rfl))) ?_)
  have h16 := (up_ob u12 h4)
  refine wl (sv rfl (v := .agg #[.int .i64 o.at_.t, .int .i64 o.at_.w]) (r_loads (k := 1) (by kernel_rfl) Ty.ag24 Ty.sz24 h16 (by kernel_rfl)) ?_)
  refine wl (sv rfl (v := .pointer (some ⟨b8, 1, none⟩)) (r_fieldAddr (u := .pointer (some ⟨b8, 0, none⟩)) (by kernel_rfl) (fun _ => (by kernel_rfl))) ?_)
  refine wl (sv rfl (v := .agg #[.int .i64 p.at_.t, .int .i64 p.at_.w]) (r_loads (k := 1) (by kernel_rfl) Ty.ag24 Ty.sz24 h11 (by kernel_rfl)) ?_)
  refine wl (sc rfl (r_callv (caps := []) (all := [.agg #[.int .i64 o.at_.t, .int .i64 o.at_.w], .agg #[.int .i64 p.at_.t, .int .i64 p.at_.w]]) En.f137 (by kernel_rfl) (by kernel_rfl)) (scompare_ups ⟨o.at_.t, o.at_.w⟩ ⟨p.at_.t, p.at_.w⟩ _) ?_)
  rintro e w17 ⟨rfl, u18⟩
  replace u18 := u18.below
  refine ⟨.int .i64 (cmpS ⟨o.at_.t, o.at_.w⟩ ⟨p.at_.t, p.at_.w⟩), rfl, ?_⟩
  have M19 := Mod.trans M15 (Mod.of_up u18)
  refine was (v := .int .i64 (cmpS ⟨o.at_.t, o.at_.w⟩ ⟨p.at_.t, p.at_.w⟩)) ?_
  refine wnil (then_n (wp_ret ?_))
  refine bodyPost_ret (v := .int .i64 (cmpS ⟨o.at_.t, o.at_.w⟩ ⟨p.at_.t, p.at_.w⟩)) (res1 rfl (rv_t (by kernel_rfl))) (by kernel_rfl) ?_
  exact ⟨rfl, (Mod.up M19)⟩
set_option maxHeartbeats 2000000 in
theorem opsort1_at {w : World} (o p : OpD) (oA pA : Option Addr) (on oc pn pc : Nat) :
    Calls Tryz.prog 117 #[opV o (.slice oA on oc), opV p (.slice pA pn pc)] w fun e w' => e = .returned (.bool (decide (o.at_ = p.at_))) ∧ Up w w' := by
  go_enter Tryz.func117, Tryz.ntmps117
  refine wp_seq (rg_lit ?_)
  refine wl (sn rfl (cs := (opC o (.slice oA on oc)).toArray) (T := 49) (V := fun b => .pointer (some ⟨b, 0, none⟩)) (r_box (v := opV o (.slice oA on oc)) (by kernel_rfl) rfl) ?_)
  intro b1 w2 e3 h4 u5
  have g6 : w.heap.size ≤ b1 := by rw [e3]; exact (Mod.refl [] w).size
  have M7 := Mod.trans (Mod.refl [] w) (Mod.of_up u5)
  refine wl (sn rfl (cs := (opC p (.slice pA pn pc)).toArray) (T := 49) (V := fun b => .pointer (some ⟨b, 0, none⟩)) (r_box (v := opV p (.slice pA pn pc)) (by kernel_rfl) rfl) ?_)
  intro b8 w9 e10 h11 u12
  have l13 : b1 < b8 := by rw [e10]; exact lt_ob h4
  have g14 : w.heap.size ≤ b8 := by rw [e10]; exact M7.size
  have M15 := Mod.trans M7 (Mod.of_up u12)
  refine was (v := .bool false) ?_
  refine wnil (then_n (wp_seq (rg_lit ?_)))
  refine wl (sv rfl (v := .pointer (some ⟨b1, 1, none⟩)) (r_fieldAddr (u := .pointer (some ⟨b1, 0, none⟩)) (by kernel_rfl) (fun _ => (by kernel_rfl))) ?_)
  have h16 := (up_ob u12 h4)
  refine wl (sv rfl (v := .agg #[.int .i64 o.at_.t, .int .i64 o.at_.w]) (r_loads (k := 1) (by kernel_rfl) Ty.ag24 Ty.sz24 h16 (by kernel_rfl)) ?_)
  refine wl (sv rfl (v := .pointer (some ⟨b8, 1, none⟩)) (r_fieldAddr (u := .pointer (some ⟨b8, 0, none⟩)) (by kernel_rfl) (fun _ => (by kernel_rfl))) ?_)
  refine wl (sv rfl (v := .agg #[.int .i64 p.at_.t, .int .i64 p.at_.w]) (r_loads (k := 1) (by kernel_rfl) Ty.ag24 Ty.sz24 h11 (by kernel_rfl)) ?_)
  refine wl (sb rfl (r_eqS (a := o.at_.t) (b := o.at_.w) (c := p.at_.t) (e := p.at_.w) (by kernel_rfl) (by kernel_rfl)) ?_)
  intro b17 k18
  refine was (v := .bool b17) ?_
  refine wnil (then_n (wp_ret ?_))
  refine bodyPost_ret (v := .bool b17) (res1 rfl (rv_t (by kernel_rfl))) (by kernel_rfl) ?_
  exact ⟨by rw [← k18], (Mod.up M15)⟩
set_option maxHeartbeats 2000000 in
theorem opown_at {B : Nat} {w : World} (o : OpD) (oA : Option Addr) (on oc : Nat) (hB : B ≤ w.heap.size) (hd : Dat B w (.slice oA on oc) o.data) :
    Calls Tryz.prog 113 #[opV o (.slice oA on oc)] w fun e w' => ∃ A n c, e = .returned (opV o (.slice A n c)) ∧ Dat B w' (.slice A n c) o.data ∧ Up w w' := by
  go_enter Tryz.func113, Tryz.ntmps113
  refine wp_seq (rg_lit ?_)
  refine wl (sn rfl (cs := (opC o (.slice oA on oc)).toArray) (T := 49) (V := fun b => .pointer (some ⟨b, 0, none⟩)) (r_box (v := opV o (.slice oA on oc)) (by kernel_rfl) rfl) ?_)
  intro b1 w2 e3 h4 u5
  have g6 : w.heap.size ≤ b1 := by rw [e3]; exact (Mod.refl [] w).size
  have M7 := Mod.trans (Mod.refl [] w) (Mod.of_up u5)
  refine wl (sn rfl (cs := #[.int .i64 0, .int .i64 0, .int .i64 0, .int .i64 0, .int .i64 0, .int .i64 0, .int .i64 0, .bool false, .string (⟨#[]⟩), .slice none 0 0]) (T := 49) (V := fun b => .pointer (some ⟨b, 0, none⟩)) (r_alloc Ty.zv49 rfl) ?_)
  intro b8 w9 e10 h11 u12
  have l13 : b1 < b8 := by rw [e10]; exact lt_ob h4
  have g14 : w.heap.size ≤ b8 := by rw [e10]; exact M7.size
  have M15 := Mod.trans M7 (Mod.of_up u12)
  refine wnil (then_n (wp_seq (rg_lit ?_)))
  refine wl (sv rfl (v := .pointer (some ⟨b1, 9, none⟩)) (r_fieldAddr (u := .pointer (some ⟨b1, 0, none⟩)) (by kernel_rfl) (fun _ => (by kernel_rfl))) ?_)
  have h16 := (up_ob u12 h4)
  refine wl (sv rfl (v := .slice oA on oc) (r_load (k := 9) (by kernel_rfl) Ty.ag40 h16 (by kernel_rfl)) ?_)
  have h17 := (Dat.up hd (Mod.up M15))
  refine wl (sc rfl (r_callv (caps := []) (all := [.slice oA on oc]) En.f122 (by kernel_rfl) (by kernel_rfl)) (clone_sl h17) ?_)
  rintro e w18 ⟨A19, n20, c21, rfl, h22, u23⟩
  refine ⟨.slice A19 n20 c21, rfl, ?_⟩
  have M24 := Mod.trans M15 (Mod.of_up u23)
  refine wl (sv rfl (v := .pointer (some ⟨b1, 9, none⟩)) (r_fieldAddr (u := .pointer (some ⟨b1, 0, none⟩)) (by kernel_rfl) (fun _ => (by kernel_rfl))) ?_)
  have h25 := (up_ob u23 h16)
  refine wl (ss rfl (k := 9) (v := .slice A19 n20 c21) (vs := [.slice A19 n20 c21]) (cs' := (opC o (.slice A19 n20 c21))) (by kernel_rfl) (by kernel_rfl) rfl Ty.sz40 h25 rfl (Nat.le_of_ble_eq_true rfl) rfl ?_)
  intro w26 h27 c28
  have M29 := Mod.trans' M24 c28 (fun i hi => by injection hi with hi; rw [← hi]; exact g6)
  refine wnil (then_n (wp_seq (rg_lit ?_)))
  refine wl (sv rfl (v := opV o (.slice A19 n20 c21)) (r_loads (k := 0) (by kernel_rfl) Ty.ag49 Ty.sz49 h27 (by kernel_rfl)) ?_)
  have h30 := (chg_ob c28 (Nat.ne_of_gt l13) (up_ob u23 h11))
  refine wl (ss rfl (k := 0) (v := opV o (.slice A19 n20 c21)) (vs := (opC o (.slice A19 n20 c21))) (cs' := (opC o (.slice A19 n20 c21))) (by kernel_rfl) (by kernel_rfl) rfl Ty.sz49 h30 rfl (Nat.le_of_ble_eq_true rfl) rfl ?_)
  intro w31 h32 c33
  have M34 := Mod.trans' M29 c33 (fun i hi => by injection hi with hi; rw [← hi]; exact g14)
  refine wnil (then_n (wp_ret ?_))
  refine bodyPost_ret (v := opV o (.slice A19 n20 c21)) (res1 rfl (rv_c (p := ⟨b8, 0, none⟩) (by kernel_rfl) (run_loadVars (vs := (opC o (.slice A19 n20 c21))) Ty.ag49 Ty.sz49 h32 (by kernel_rfl)))) (by kernel_rfl) ?_
  have h35 := (Dat.chg (Dat.chg h22 c28 ⟨(Nat.le_trans hB g6), NotU8.of h25 (by decide)⟩) c33 ⟨(Nat.le_trans hB g14), NotU8.of h30 (by decide)⟩)
  exact ⟨_, _, _, rfl, h35, (Mod.up M34)⟩
end Go.Proofs.YtefhfoioeoijlaaGreatDoor

/- GM -/
import Derived.Test.YtefhfoioeoijlaaGreatDoorWag
import Derived.Test.YtefhfoioeoijlaaGreatDoorWaj
set_option linter.unusedVariables false
set_option linter.unusedSimpArgs false
namespace Go.Proofs.YtefhfoioeoijlaaGreatDoor
open Go Go.RowKit Go.Sort
set_option maxHeartbeats 2000000 in
theorem stable_at {B base : Nat} {w : World} {g nn c : Nat} {f : Nat → OpD} (h : ORow 49 B base w (.slice (some ⟨g, 0, none⟩) nn c) ((List.range nn).map f)) (hBb : B ≤ base) (hn : nn ≤ 1000000) :
    Calls Tryz.prog 161 #[.slice (some ⟨g, 0, none⟩) nn c, .int .i64 nn, .func (.func 115) #[] #[]] w fun e w' => ∃ D, e = .returned (.tuple #[]) ∧ ORow 49 B base w' (.slice (some ⟨g, 0, none⟩) nn c) (D.map f) ∧ AllSorted f nn D ∧ Chg w w' g := by
  obtain ⟨hnL, hnc, hcm, cu0, hg, hcs0⟩ := ORow.blk h
  have hBg := ORow.ge h hBb
  go_enter Tryz.func161, Tryz.ntmps161
  refine wp_seq (rg_lit ?_)
  refine was (v := .int .i64 20) ?_
  refine wnil (then_n (wp_seq (rg_lit ?_)))
  refine wmv (v := .int .i64 20) ?_
  refine was (v := .int .i64 0) ?_
  refine was (v := .int .i64 20) ?_
  refine wnil (then_n (wp_seq (wp_block ?_)))
  refine lp (fun n a r1 => ∃ (I1 : List Nat) (ka : Nat) (kb : Nat) (z11 z12 z13 z14 z15 z16 z17 z18 z19 z20 z21 z22 : Value), (n = nn + 1 - ka) ∧ (a = ⟨#[.slice (some ⟨g, 0, none⟩) nn c, .int .i64 (nn : Int), .func (.func 115) #[] #[], undef, undef, undef, .int .i64 20, .int .i64 (ka : Int), .int .i64 (kb : Int), undef, .int .i64 20, z11, z12, z13, z14, z15, z16, z17, z18, z19, z20, z21, z22, undef, undef, undef, undef, undef, undef, undef, undef, undef, undef, undef, undef, undef, undef, undef, undef, undef, undef, undef, undef, undef, undef, undef, undef, undef, undef, undef, undef, undef, undef, undef, undef, undef, undef, undef, undef, undef, undef, undef, undef], []⟩) ∧ (Mod [g] w r1) ∧ (kb = ka + 20) ∧ (ka ≤ nn) ∧ (Blocks f nn 20 I1 ka) ∧ (ORow 49 B base r1 (.slice (some ⟨g, 0, none⟩) nn c) (I1.map f))) ⟨_, (List.range nn), 0, 20, undef, undef, undef, undef, undef, undef, undef, undef, undef, undef, undef, undef, rfl, (by kernel_rfl), Mod.refl _ _, rfl, (Nat.zero_le _), (Blocks.first _ _ _), h⟩ ?_
  rintro _ _ r1 ⟨I1, ka, kb, z11, z12, z13, z14, z15, z16, z17, z18, z19, z20, z21, z22, rfl, rfl, hM1, hF1_0, hF1_1, hF1_2, hF1_3⟩
  have M1 := Mod.trans (Mod.of_mod (Y := [g]) (Mod.refl [] w) (by simp)) (Mod.of_mod (Y := [g]) hM1 (by simp))
  obtain ⟨_, _, _, cg2, hg2, _⟩ := ORow.blk hF1_3
  refine wp_seq (wp_seq (rg_lit ?_))
  refine wmv (v := .int .i64 (kb : Int)) ?_
  refine wmv (v := .int .i64 (nn : Int)) ?_
  refine wl (sb rfl (r_le (k := .i64) (m := (kb : Int)) (n := (nn : Int)) (by kernel_rfl) (by kernel_rfl)) ?_)
  intro b3 k4
  refine wnil (then_n ?_)
  refine bcase b3 (fun v5 => ?_) (fun v5 => ?_)
  ·
   have p6 := of_decide_eq_false (k4.trans v5)
   refine wp_cond_false (ebool (b := b3) (by kernel_rfl) v5) ?_
   refine wp_exit (then_x (by nofun) (then_x (by nofun) (inb_hit (then_n (wp_seq (rg_lit ?_))))))
   refine wmv (v := .slice (some ⟨g, 0, none⟩) nn c) ?_
   refine wmv (v := .int .i64 (ka : Int)) ?_
   refine wmv (v := .int .i64 (nn : Int)) ?_
   refine wmv (v := .func (.func 115) #[] #[]) ?_
   obtain ⟨p7, X7, hI7, hp7, hX7, hlt7, hN7⟩ := Blocks.last hF1_2 (by omega)
   have ho7 := ORow.to hF1_3 (congrArg (List.map f) hI7)
   refine wl (sc rfl (r_callv (caps := []) (all := [.slice (some ⟨g, 0, none⟩) nn c, .int .i64 (ka : Int), .int .i64 (nn : Int), .func (.func 115) #[] #[]]) En.f200 (by kernel_rfl) (by kernel_rfl)) (insertion_at ho7 hBb hn hp7 (by omega) hlt7) ?_)
   rintro e w8 ⟨D9, rfl, h10, h11, m12, c13⟩
   refine ⟨.tuple #[], rfl, ?_⟩
   have M14 := Mod.trans M1 (Mod.of_chg c13 (by simp))
   have M15 := Mod.trans hM1 (Mod.of_chg c13 (by simp))
   obtain ⟨_, _, _, cg16, hg16, _⟩ := ORow.blk h10
   have hT7 := hN7 _ h11 m12
   refine wnil (then_n (wp_block ?_))
   refine lp (fun n a r2 => ∃ (I2 : List Nat) (bs : Nat) (z7 z8 z9 z28 z29 z30 z31 z32 z33 z34 z35 z36 z37 z38 z39 z40 z41 z42 z43 z44 z45 z46 z47 z48 z49 z50 z51 z52 z53 z54 z55 z56 z57 z58 z59 z60 z61 z62 : Value), (n = nn - bs) ∧ (a = ⟨#[.slice (some ⟨g, 0, none⟩) nn c, .int .i64 (nn : Int), .func (.func 115) #[] #[], undef, undef, undef, .int .i64 (bs : Int), z7, z8, z9, .int .i64 20, .int .i64 (kb : Int), .int .i64 (nn : Int), .bool b3, z14, z15, z16, z17, z18, z19, z20, z21, z22, .slice (some ⟨g, 0, none⟩) nn c, .int .i64 (ka : Int), .int .i64 (nn : Int), .func (.func 115) #[] #[], undef, z28, z29, z30, z31, z32, z33, z34, z35, z36, z37, z38, z39, z40, z41, z42, z43, z44, z45, z46, z47, z48, z49, z50, z51, z52, z53, z54, z55, z56, z57, z58, z59, z60, z61, z62], []⟩) ∧ (Mod [g] w8 r2) ∧ (0 < bs) ∧ (Runs f bs 0 I2) ∧ (I2.length = nn) ∧ (ORow 49 B base r2 (.slice (some ⟨g, 0, none⟩) nn c) (I2.map f))) ⟨_, (p7 ++ (D9 ++ ([] : List Nat))), 20, .int .i64 (ka : Int), .int .i64 (kb : Int), undef, undef, undef, undef, undef, undef, undef, undef, undef, undef, undef, undef, undef, undef, undef, undef, undef, undef, undef, undef, undef, undef, undef, undef, undef, undef, undef, undef, undef, undef, undef, undef, undef, undef, undef, undef, rfl, (by kernel_rfl), Mod.refl _ _, (by decide), hT7.1, hT7.2, h10⟩ ?_
   rintro _ _ r2 ⟨I2, bs, z7, z8, z9, z28, z29, z30, z31, z32, z33, z34, z35, z36, z37, z38, z39, z40, z41, z42, z43, z44, z45, z46, z47, z48, z49, z50, z51, z52, z53, z54, z55, z56, z57, z58, z59, z60, z61, z62, rfl, rfl, hM2, hF2_0, hF2_1, hF2_2, hF2_3⟩
   have M17 := Mod.trans M14 (Mod.of_mod hM2 (by simp))
   have M18 := Mod.trans M15 (Mod.of_mod hM2 (by simp))
   obtain ⟨_, _, _, cg19, hg19, _⟩ := ORow.blk hF2_3
   refine wp_seq (wp_seq (rg_lit ?_))
   refine wmv (v := .int .i64 (bs : Int)) ?_
   refine wmv (v := .int .i64 (nn : Int)) ?_
   refine wl (sb rfl (r_lt (k := .i64) (m := (bs : Int)) (n := (nn : Int)) (by kernel_rfl) (by kernel_rfl)) ?_)
   intro b20 k21
   refine wnil (then_n ?_)
   refine bcase b20 (fun v22 => ?_) (fun v22 => ?_)
   ·
    have p23 := of_decide_eq_false (k21.trans v22)
    refine wp_cond_false (ebool (b := b20) (by kernel_rfl) v22) ?_
    refine wp_exit (then_x (by nofun) (then_x (by nofun) (inb_hit ?_)))
    refine bodyPost_end (v := .tuple #[]) (res0 rfl ) (by kernel_rfl) ?_
    exact ⟨I2, rfl, hF2_3, Runs.all hF2_1 hF2_2 (by omega) (by omega), (Mod.chg M17)⟩
   have p23 := of_decide_eq_true (k21.trans v22)
   have q24 : bs < nn := by omega
   have q25 : bs < nn := by omega
   refine wp_cond_true (ebool (b := b20) (by kernel_rfl) v22) ?_
   refine wp_skip (then_n (wp_block (wp_seq (rg_lit ?_))))
   refine wmv (v := .int .i64 (bs : Int)) ?_
   refine wl (sv rfl (v := .int .i64 ((2 * bs : Nat) : Int)) (r_mul (k := .i64) (m := 2) (n := (bs : Int)) (c := ((2 * bs : Nat) : Int)) (by kernel_rfl) (by kernel_rfl) ((IntWalk.i64_in _ (by omega)).trans (by omega))) ?_)
   refine was (v := .int .i64 0) ?_
   refine was (v := .int .i64 ((2 * bs : Nat) : Int)) ?_
   refine wnil (then_n (wp_seq (wp_block ?_)))
   refine lp (fun n a r3 => ∃ (I3 : List Nat) (kc : Nat) (kd : Nat) (z33 z34 z35 z36 z37 z38 z39 z40 z41 z42 z43 z44 z45 z46 z47 z48 : Value), (n = nn + 1 - kc) ∧ (a = ⟨#[.slice (some ⟨g, 0, none⟩) nn c, .int .i64 (nn : Int), .func (.func 115) #[] #[], undef, undef, undef, .int .i64 (bs : Int), .int .i64 (kc : Int), .int .i64 (kd : Int), z9, .int .i64 20, .int .i64 (kb : Int), .int .i64 (nn : Int), .bool b3, z14, z15, z16, z17, z18, z19, z20, z21, z22, .slice (some ⟨g, 0, none⟩) nn c, .int .i64 (ka : Int), .int .i64 (nn : Int), .func (.func 115) #[] #[], undef, .int .i64 (bs : Int), .int .i64 (nn : Int), .bool b20, .int .i64 (bs : Int), .int .i64 ((2 * bs : Nat) : Int), z33, z34, z35, z36, z37, z38, z39, z40, z41, z42, z43, z44, z45, z46, z47, z48, z49, z50, z51, z52, z53, z54, z55, z56, z57, z58, z59, z60, z61, z62], []⟩) ∧ (Mod [g] r2 r3) ∧ (kd = kc + 2 * bs) ∧ (kc ≤ nn) ∧ (Pass f nn bs I3 kc) ∧ (ORow 49 B base r3 (.slice (some ⟨g, 0, none⟩) nn c) (I3.map f))) ⟨_, I2, 0, (2 * bs), z33, z34, z35, z36, z37, z38, z39, z40, z41, z42, z43, z44, z45, z46, z47, z48, rfl, (by kernel_rfl), Mod.refl _ _, (by omega), (Nat.zero_le _), (Pass.first hF2_1 hF2_2), hF2_3⟩ ?_
   rintro _ _ r3 ⟨I3, kc, kd, z33, z34, z35, z36, z37, z38, z39, z40, z41, z42, z43, z44, z45, z46, z47, z48, rfl, rfl, hM3, hF3_0, hF3_1, hF3_2, hF3_3⟩
   have M26 := Mod.trans M17 (Mod.of_mod hM3 (by simp))
   have M27 := Mod.trans M18 (Mod.of_mod hM3 (by simp))
   have M28 := Mod.trans hM2 (Mod.of_mod hM3 (by simp))
   obtain ⟨_, _, _, cg29, hg29, _⟩ := ORow.blk hF3_3
   refine wp_seq (wp_seq (rg_lit ?_))
   refine wmv (v := .int .i64 (kd : Int)) ?_
   refine wmv (v := .int .i64 (nn : Int)) ?_
   refine wl (sb rfl (r_le (k := .i64) (m := (kd : Int)) (n := (nn : Int)) (by kernel_rfl) (by kernel_rfl)) ?_)
   intro b30 k31
   refine wnil (then_n ?_)
   refine bcase b30 (fun v32 => ?_) (fun v32 => ?_)
   ·
    have p33 := of_decide_eq_false (k31.trans v32)
    refine wp_cond_false (ebool (b := b30) (by kernel_rfl) v32) ?_
    refine wp_exit (then_x (by nofun) (then_x (by nofun) (inb_hit (then_n (wp_seq (wp_seq (rg_lit ?_)))))))
    refine wmv (v := .int .i64 (kc : Int)) ?_
    refine wmv (v := .int .i64 (bs : Int)) ?_
    refine wl (sv rfl (v := .int .i64 ((kc + bs : Nat) : Int)) (r_add (k := .i64) (m := (kc : Int)) (n := (bs : Int)) (c := ((kc + bs : Nat) : Int)) (by kernel_rfl) (by kernel_rfl) ((IntWalk.i64_in _ (by omega)).trans (by omega))) ?_)
    refine was (v := .int .i64 ((kc + bs : Nat) : Int)) ?_
    refine wnil (then_n (wp_seq (rg_lit ?_)))
    refine wmv (v := .int .i64 ((kc + bs : Nat) : Int)) ?_
    refine wmv (v := .int .i64 (nn : Int)) ?_
    refine wl (sb rfl (r_lt (k := .i64) (m := ((kc + bs : Nat) : Int)) (n := (nn : Int)) (by kernel_rfl) (by kernel_rfl)) ?_)
    intro b34 k35
    refine wnil (then_n ?_)
    refine bcase b34 (fun v36 => ?_) (fun v36 => ?_)
    ·
     have p37 := of_decide_eq_false (k35.trans v36)
     refine wp_cond_false (ebool (b := b34) (by kernel_rfl) v36) ?_
     refine wp_skip (then_n (rg_lit ?_))
     refine wmv (v := .int .i64 (bs : Int)) ?_
     refine wl (sv rfl (v := .int .i64 ((bs * 2 : Nat) : Int)) (r_mul (k := .i64) (m := (bs : Int)) (n := 2) (c := ((bs * 2 : Nat) : Int)) (by kernel_rfl) (by kernel_rfl) ((IntWalk.i64_in _ (by omega)).trans (by omega))) ?_)
     refine was (v := .int .i64 ((bs * 2 : Nat) : Int)) ?_
     refine wnil (inb_n (then_n ?_))
     have hT38 := Pass.done hF3_2 (by omega) (by omega)
     refine ⟨nn - (bs * 2), ?_, I3, (bs * 2), .int .i64 (kc : Int), .int .i64 (kd : Int), .int .i64 ((kc + bs : Nat) : Int), .int .i64 (bs : Int), .int .i64 (nn : Int), .bool b20, .int .i64 (bs : Int), .int .i64 ((2 * bs : Nat) : Int), .int .i64 (kd : Int), .int .i64 (nn : Int), .bool b30, z36, z37, z38, z39, z40, z41, z42, z43, z44, z45, z46, z47, z48, .int .i64 (kc : Int), .int .i64 (bs : Int), .int .i64 ((kc + bs : Nat) : Int), .int .i64 ((kc + bs : Nat) : Int), .int .i64 (nn : Int), .bool b34, z55, z56, z57, z58, z59, z60, .int .i64 (bs : Int), .int .i64 ((bs * 2 : Nat) : Int), rfl, (by kernel_rfl), M28, (by omega), (by have h0 := hT38.1; rw [Nat.mul_comm 2 bs] at h0; exact h0), hT38.2, hF3_3⟩
     · omega
    have p37 := of_decide_eq_true (k35.trans v36)
    refine wp_cond_true (ebool (b := b34) (by kernel_rfl) v36) ?_
    refine rg_lit ?_
    refine wmv (v := .slice (some ⟨g, 0, none⟩) nn c) ?_
    refine wmv (v := .int .i64 (kc : Int)) ?_
    refine wmv (v := .int .i64 ((kc + bs : Nat) : Int)) ?_
    refine wmv (v := .int .i64 (nn : Int)) ?_
    refine wmv (v := .func (.func 115) #[] #[]) ?_
    obtain ⟨p38, X38, Y38, hI38, hp38, hX38, hY38, sX38, sY38, hA38, hN38⟩ := Pass.tail hF3_2 (by omega) (by omega)
    have ho38 := ORow.to hF3_3 (congrArg (List.map f) hI38)
    refine wl (sc rfl (r_callv (caps := []) (all := [.slice (some ⟨g, 0, none⟩) nn c, .int .i64 (kc : Int), .int .i64 ((kc + bs : Nat) : Int), .int .i64 (nn : Int), .func (.func 115) #[] #[]]) En.f201 (by kernel_rfl) (by kernel_rfl)) (sym_all _ (Nat.le_refl _) ho38 hBb hn hp38 (by omega) (by omega) (by omega) (by omega) sX38 sY38 hA38) ?_)
    rintro e w39 ⟨D40, rfl, h41, m42, c43⟩
    refine ⟨.tuple #[], rfl, ?_⟩
    have M44 := Mod.trans M26 (Mod.of_chg c43 (by simp))
    have M45 := Mod.trans M27 (Mod.of_chg c43 (by simp))
    have M46 := Mod.trans M28 (Mod.of_chg c43 (by simp))
    have M47 := Mod.trans hM3 (Mod.of_chg c43 (by simp))
    obtain ⟨_, _, _, cg48, hg48, _⟩ := ORow.blk h41
    have hT38 := hN38 _ m42
    refine wnil (then_n (rg_lit ?_))
    refine wmv (v := .int .i64 (bs : Int)) ?_
    refine wl (sv rfl (v := .int .i64 ((bs * 2 : Nat) : Int)) (r_mul (k := .i64) (m := (bs : Int)) (n := 2) (c := ((bs * 2 : Nat) : Int)) (by kernel_rfl) (by kernel_rfl) ((IntWalk.i64_in _ (by omega)).trans (by omega))) ?_)
    refine was (v := .int .i64 ((bs * 2 : Nat) : Int)) ?_
    refine wnil (inb_n (then_n ?_))
    refine ⟨nn - (bs * 2), ?_, (p38 ++ (D40 ++ ([] : List Nat))), (bs * 2), .int .i64 (kc : Int), .int .i64 (kd : Int), .int .i64 ((kc + bs : Nat) : Int), .int .i64 (bs : Int), .int .i64 (nn : Int), .bool b20, .int .i64 (bs : Int), .int .i64 ((2 * bs : Nat) : Int), .int .i64 (kd : Int), .int .i64 (nn : Int), .bool b30, z36, z37, z38, z39, z40, z41, z42, z43, z44, z45, z46, z47, z48, .int .i64 (kc : Int), .int .i64 (bs : Int), .int .i64 ((kc + bs : Nat) : Int), .int .i64 ((kc + bs : Nat) : Int), .int .i64 (nn : Int), .bool b34, .slice (some ⟨g, 0, none⟩) nn c, .int .i64 (kc : Int), .int .i64 ((kc + bs : Nat) : Int), .int .i64 (nn : Int), .func (.func 115) #[] #[], undef, .int .i64 (bs : Int), .int .i64 ((bs * 2 : Nat) : Int), rfl, (by kernel_rfl), M46, (by omega), (by have h0 := hT38.1; rw [Nat.mul_comm 2 bs] at h0; exact h0), hT38.2, h41⟩
    · omega
   have p33 := of_decide_eq_true (k31.trans v32)
   refine wp_cond_true (ebool (b := b30) (by kernel_rfl) v32) ?_
   refine wp_skip (then_n (wp_block (wp_seq (rg_lit ?_))))
   refine wmv (v := .slice (some ⟨g, 0, none⟩) nn c) ?_
   refine wmv (v := .int .i64 (kc : Int)) ?_
   refine wmv (v := .int .i64 (kc : Int)) ?_
   refine wmv (v := .int .i64 (bs : Int)) ?_
   refine wl (sv rfl (v := .int .i64 ((kc + bs : Nat) : Int)) (r_add (k := .i64) (m := (kc : Int)) (n := (bs : Int)) (c := ((kc + bs : Nat) : Int)) (by kernel_rfl) (by kernel_rfl) ((IntWalk.i64_in _ (by omega)).trans (by omega))) ?_)
   refine wmv (v := .int .i64 (kd : Int)) ?_
   refine wmv (v := .func (.func 115) #[] #[]) ?_
   obtain ⟨p34, X34, Y34, q34, hI34, hp34, hX34, hY34, sX34, sY34, hA34, hN34⟩ := Pass.pair hF3_2 (by omega)
   have ho34 := ORow.to hF3_3 (congrArg (List.map f) hI34)
   refine wl (sc rfl (r_callv (caps := []) (all := [.slice (some ⟨g, 0, none⟩) nn c, .int .i64 (kc : Int), .int .i64 ((kc + bs : Nat) : Int), .int .i64 (kd : Int), .func (.func 115) #[] #[]]) En.f201 (by kernel_rfl) (by kernel_rfl)) (sym_all _ (Nat.le_refl _) ho34 hBb hn hp34 (by omega) (by omega) (by omega) (by omega) sX34 sY34 hA34) ?_)
   rintro e w35 ⟨D36, rfl, h37, m38, c39⟩
   refine ⟨.tuple #[], rfl, ?_⟩
   have M40 := Mod.trans M26 (Mod.of_chg c39 (by simp))
   have M41 := Mod.trans M27 (Mod.of_chg c39 (by simp))
   have M42 := Mod.trans M28 (Mod.of_chg c39 (by simp))
   have M43 := Mod.trans hM3 (Mod.of_chg c39 (by simp))
   obtain ⟨_, _, _, cg44, hg44, _⟩ := ORow.blk h37
   have hT34 := hN34 _ m38
   refine wnil (then_n (wp_seq (rg_lit ?_)))
   refine wmv (v := .int .i64 (kd : Int)) ?_
   refine was (v := .int .i64 (kd : Int)) ?_
   refine wnil (then_n (rg_lit ?_))
   refine wmv (v := .int .i64 (kd : Int)) ?_
   refine wmv (v := .int .i64 (bs : Int)) ?_
   refine wl (sv rfl (v := .int .i64 ((2 * bs : Nat) : Int)) (r_mul (k := .i64) (m := 2) (n := (bs : Int)) (c := ((2 * bs : Nat) : Int)) (by kernel_rfl) (by kernel_rfl) ((IntWalk.i64_in _ (by omega)).trans (by omega))) ?_)
   refine wl (sv rfl (v := .int .i64 ((kd + (2 * bs) : Nat) : Int)) (r_add (k := .i64) (m := (kd : Int)) (n := ((2 * bs : Nat) : Int)) (c := ((kd + (2 * bs) : Nat) : Int)) (by kernel_rfl) (by kernel_rfl) ((IntWalk.i64_in _ (by omega)).trans (by omega))) ?_)
   refine was (v := .int .i64 ((kd + (2 * bs) : Nat) : Int)) ?_
   refine wnil (inb_n (then_n ?_))
   refine ⟨nn + 1 - kd, ?_, (p34 ++ (D36 ++ q34)), kd, (kd + (2 * bs)), .int .i64 (kd : Int), .int .i64 (nn : Int), .bool b30, .slice (some ⟨g, 0, none⟩) nn c, .int .i64 (kc : Int), .int .i64 (kc : Int), .int .i64 (bs : Int), .int .i64 ((kc + bs : Nat) : Int), .int .i64 (kd : Int), .func (.func 115) #[] #[], undef, .int .i64 (kd : Int), .int .i64 (kd : Int), .int .i64 (bs : Int), .int .i64 ((2 * bs : Nat) : Int), .int .i64 ((kd + (2 * bs) : Nat) : Int), rfl, (by kernel_rfl), M43, (by omega), (by omega), (by have h0 := hT34; rw [show kc + 2 * bs = kd by omega] at h0; exact h0), h37⟩
   · omega
  have p6 := of_decide_eq_true (k4.trans v5)
  refine wp_cond_true (ebool (b := b3) (by kernel_rfl) v5) ?_
  refine wp_skip (then_n (wp_block (wp_seq (rg_lit ?_))))
  refine wmv (v := .slice (some ⟨g, 0, none⟩) nn c) ?_
  refine wmv (v := .int .i64 (ka : Int)) ?_
  refine wmv (v := .int .i64 (kb : Int)) ?_
  refine wmv (v := .func (.func 115) #[] #[]) ?_
  obtain ⟨p7, X7, q7, hI7, hp7, hX7, hlt7, hN7⟩ := Blocks.part hF1_2 (by omega)
  have ho7 := ORow.to hF1_3 (congrArg (List.map f) hI7)
  refine wl (sc rfl (r_callv (caps := []) (all := [.slice (some ⟨g, 0, none⟩) nn c, .int .i64 (ka : Int), .int .i64 (kb : Int), .func (.func 115) #[] #[]]) En.f200 (by kernel_rfl) (by kernel_rfl)) (insertion_at ho7 hBb hn hp7 (by omega) hlt7) ?_)
  rintro e w8 ⟨D9, rfl, h10, h11, m12, c13⟩
  refine ⟨.tuple #[], rfl, ?_⟩
  have M14 := Mod.trans M1 (Mod.of_chg c13 (by simp))
  have M15 := Mod.trans hM1 (Mod.of_chg c13 (by simp))
  obtain ⟨_, _, _, cg16, hg16, _⟩ := ORow.blk h10
  have hT7 := hN7 _ h11 m12
  refine wnil (then_n (wp_seq (rg_lit ?_)))
  refine wmv (v := .int .i64 (kb : Int)) ?_
  refine was (v := .int .i64 (kb : Int)) ?_
  refine wnil (then_n (rg_lit ?_))
  refine wmv (v := .int .i64 (kb : Int)) ?_
  refine wmv (v := .int .i64 20) ?_
  refine wl (sv rfl (v := .int .i64 ((kb + 20 : Nat) : Int)) (r_add (k := .i64) (m := (kb : Int)) (n := 20) (c := ((kb + 20 : Nat) : Int)) (by kernel_rfl) (by kernel_rfl) ((IntWalk.i64_in _ (by omega)).trans (by omega))) ?_)
  refine was (v := .int .i64 ((kb + 20 : Nat) : Int)) ?_
  refine wnil (inb_n (then_n ?_))
  refine ⟨nn + 1 - kb, ?_, (p7 ++ (D9 ++ q7)), kb, (kb + 20), .int .i64 (kb : Int), .int .i64 (nn : Int), .bool b3, .slice (some ⟨g, 0, none⟩) nn c, .int .i64 (ka : Int), .int .i64 (kb : Int), .func (.func 115) #[] #[], undef, .int .i64 (kb : Int), .int .i64 (kb : Int), .int .i64 20, .int .i64 ((kb + 20 : Nat) : Int), rfl, (by kernel_rfl), M15, (by omega), (by omega), (by have h0 := hT7; rw [show ka + 20 = kb by omega] at h0; exact h0), h10⟩
  · omega
set_option maxHeartbeats 2000000 in
theorem sortStable_at {B base : Nat} {w : World} {g nn c : Nat} {f : Nat → OpD} (h : ORow 49 B base w (.slice (some ⟨g, 0, none⟩) nn c) ((List.range nn).map f)) (hBb : B ≤ base) (hn : nn ≤ 1000000) :
    Calls Tryz.prog 114 #[.slice (some ⟨g, 0, none⟩) nn c, .func (.func 115) #[] #[]] w fun e w' => ∃ D, e = .returned (.tuple #[]) ∧ ORow 49 B base w' (.slice (some ⟨g, 0, none⟩) nn c) (D.map f) ∧ AllSorted f nn D ∧ Chg w w' g := by
  obtain ⟨hnL, hnc, hcm, cu0, hg, hcs0⟩ := ORow.blk h
  have hBg := ORow.ge h hBb
  go_enter Tryz.func114, Tryz.ntmps114
  refine rg_lit ?_
  refine wmv (v := .slice (some ⟨g, 0, none⟩) nn c) ?_
  refine wmv (v := .slice (some ⟨g, 0, none⟩) nn c) ?_
  refine wl (sv rfl (v := .int .i64 (nn : Int)) (r_len Ty.un22 (ad := (some ⟨g, 0, none⟩)) (n := nn) (c := c) (by kernel_rfl)) ?_)
  refine wmv (v := .func (.func 115) #[] #[]) ?_
  refine wl (sc rfl (r_callv (caps := []) (all := [.slice (some ⟨g, 0, none⟩) nn c, .int .i64 (nn : Int), .func (.func 115) #[] #[]]) En.f161 (by kernel_rfl) (by kernel_rfl)) (stable_at h hBb hn) ?_)
  rintro e w1 ⟨D2, rfl, h3, m4, c5⟩
  refine ⟨.tuple #[], rfl, ?_⟩
  have M6 := md_old (Mod.refl [] w) c5
  obtain ⟨_, _, _, cg7, hg7, _⟩ := ORow.blk h3
  refine wnil ?_
  refine bodyPost_end (v := .tuple #[]) (res0 rfl ) (by kernel_rfl) ?_
  exact ⟨_, rfl, h3, m4, (Mod.chg M6)⟩
set_option maxHeartbeats 2000000 in
theorem compact_at {B base : Nat} {w : World} {g nn c : Nat} {f : Nat → OpD} {I : List Nat} (h : ORow 49 B base w (.slice (some ⟨g, 0, none⟩) nn c) (I.map f)) (hBb : B ≤ base) (hn : nn ≤ 1000000) :
    Calls Tryz.prog 116 #[.slice (some ⟨g, 0, none⟩) nn c, .func (.func 117) #[] #[]] w fun e w' => ∃ m J, e = .returned (.slice (some ⟨g, 0, none⟩) m c) ∧ ORow 49 B base w' (.slice (some ⟨g, 0, none⟩) m c) (J.map f) ∧ Thin f I J ∧ Chg w w' g := by
  obtain ⟨hnL, hnc, hcm, cu0, hg, hcs0⟩ := ORow.blk h
  have hBg := ORow.ge h hBb
  have hnI : nn = I.length := by simpa using hnL
  obtain ⟨zO, hzO, hzO1, hzO2⟩ := zero_op
  go_enter Tryz.func116, Tryz.ntmps116
  refine wp_seq (rg_lit ?_)
  refine was (v := .slice none 0 0) ?_
  refine wnil (then_n (wp_seq (wp_seq (rg_lit ?_))))
  refine wmv (v := .slice (some ⟨g, 0, none⟩) nn c) ?_
  refine wl (sv rfl (v := .int .i64 (nn : Int)) (r_len Ty.un22 (ad := (some ⟨g, 0, none⟩)) (n := nn) (c := c) (by kernel_rfl)) ?_)
  refine wl (sb rfl (r_lt (k := .i64) (m := (nn : Int)) (n := 2) (by kernel_rfl) (by kernel_rfl)) ?_)
  intro b1 k2
  refine wnil (then_n ?_)
  refine bcase b1 (fun v3 => ?_) (fun v3 => ?_)
  ·
   have p4 := of_decide_eq_false (k2.trans v3)
   refine wp_cond_false (ebool (b := b1) (by kernel_rfl) v3) ?_
   refine wp_skip (then_n (wp_seq (wp_seq (rg_lit ?_))))
   refine was (v := .int .i64 1) ?_
   refine wnil (then_n (wp_block ?_))
   refine lp (fun n a r1 => ∃ (kk : Nat) (z4 z6 z7 z12 z13 z14 z15 z16 z17 z18 z19 z20 z21 z22 z23 z24 z25 z26 z27 z28 z29 z30 z31 z32 z33 z34 z35 z36 z37 z38 z39 z40 z41 z42 z43 z44 z45 z46 z47 z48 z49 z50 z51 z52 z53 z54 z55 z56 z57 z58 z59 z60 z61 z62 z63 z64 : Value), (n = nn - kk) ∧ (a = ⟨#[.slice (some ⟨g, 0, none⟩) nn c, .func (.func 117) #[] #[], undef, undef, z4, .int .i64 (kk : Int), z6, z7, .slice (some ⟨g, 0, none⟩) nn c, .int .i64 (nn : Int), .bool b1, undef, z12, z13, z14, z15, z16, z17, z18, z19, z20, z21, z22, z23, z24, z25, z26, z27, z28, z29, z30, z31, z32, z33, z34, z35, z36, z37, z38, z39, z40, z41, z42, z43, z44, z45, z46, z47, z48, z49, z50, z51, z52, z53, z54, z55, z56, z57, z58, z59, z60, z61, z62, z63, z64, undef], []⟩) ∧ (Mod [] w r1) ∧ (1 ≤ kk) ∧ (kk ≤ nn) ∧ (Thin f (I.take kk) (I.take kk))) ⟨_, 1, .slice none 0 0, undef, undef, undef, undef, undef, undef, undef, undef, undef, undef, undef, undef, undef, undef, undef, undef, undef, undef, undef, undef, undef, undef, undef, undef, undef, undef, undef, undef, undef, undef, undef, undef, undef, undef, undef, undef, undef, undef, undef, undef, undef, undef, undef, undef, undef, undef, undef, undef, undef, undef, undef, undef, undef, undef, undef, rfl, (by kernel_rfl), Mod.refl _ _, (Nat.le_refl _), (by omega), (Thin.first (by omega))⟩ ?_
   rintro _ _ r1 ⟨kk, z4, z6, z7, z12, z13, z14, z15, z16, z17, z18, z19, z20, z21, z22, z23, z24, z25, z26, z27, z28, z29, z30, z31, z32, z33, z34, z35, z36, z37, z38, z39, z40, z41, z42, z43, z44, z45, z46, z47, z48, z49, z50, z51, z52, z53, z54, z55, z56, z57, z58, z59, z60, z61, z62, z63, z64, rfl, rfl, hM1, hF1_0, hF1_1, hF1_2⟩
   have M5 := Mod.thin (Mod.refl [] w) hM1 (by simp)
   refine wp_seq (wp_seq (rg_lit ?_))
   refine wmv (v := .int .i64 (kk : Int)) ?_
   refine wmv (v := .slice (some ⟨g, 0, none⟩) nn c) ?_
   refine wl (sv rfl (v := .int .i64 (nn : Int)) (r_len Ty.un22 (ad := (some ⟨g, 0, none⟩)) (n := nn) (c := c) (by kernel_rfl)) ?_)
   refine wl (sb rfl (r_lt (k := .i64) (m := (kk : Int)) (n := (nn : Int)) (by kernel_rfl) (by kernel_rfl)) ?_)
   intro b6 k7
   refine wnil (then_n ?_)
   refine bcase b6 (fun v8 => ?_) (fun v8 => ?_)
   ·
    have p9 := of_decide_eq_false (k7.trans v8)
    refine wp_cond_false (ebool (b := b6) (by kernel_rfl) v8) ?_
    refine wp_exit (then_x (by nofun) (then_x (by nofun) (inb_hit (then_n (wp_seq (rg_lit ?_))))))
    refine wmv (v := .slice (some ⟨g, 0, none⟩) nn c) ?_
    refine was (v := .slice (some ⟨g, 0, none⟩) nn c) ?_
    refine wnil (then_n (wp_ret ?_))
    refine bodyPost_ret (v := .slice (some ⟨g, 0, none⟩) nn c) (res1 rfl (rv_t (by kernel_rfl))) (by kernel_rfl) ?_
    have h10 := (ORow.up h (Mod.up hM1))
    have hk : I.take kk = I := List.take_of_length_le (by omega)
    have ht := hF1_2
    rw [hk] at ht
    exact ⟨nn, I, rfl, h10, ht, (to_chg (Mod.up M5) g)⟩
   have p9 := of_decide_eq_true (k7.trans v8)
   have q10 : kk < nn := by omega
   have q11 : kk < nn := by omega
   refine wp_cond_true (ebool (b := b6) (by kernel_rfl) v8) ?_
   refine wp_skip (then_n (wp_seq (wp_block (wp_seq ?_))))
   refine rg_tail 10 (by kernel_rfl) (by kernel_rfl) rfl rfl ?_
   refine qmv (v := .func (.func 117) #[] #[]) ?_
   refine qmv (v := .slice (some ⟨g, 0, none⟩) nn c) ?_
   refine qmv (v := .int .i64 (kk : Int)) ?_
   refine qv rfl (v := .pointer (some ⟨g, kk * 10, none⟩)) (fun _ _ => r_ixaddr' (A := some ⟨g, 0, none⟩) (b := g) (o := 0) (n := nn) (c := c) (sz := 10) (j := (kk : Int)) (m := kk * 10) (by kernel_rfl) rfl (by kernel_rfl) Ty.un22 Ty.sz49 (by omega) (by omega) (by omega)) ?_
   have h12 := (ORow.up h (Mod.up hM1))
   obtain ⟨x13, hx13⟩ : ∃ x, I[kk]? = some x := ⟨_, List.getElem?_eq_getElem (by omega)⟩
   obtain ⟨cu14, dA14, dn14, dc14, hb14, he14, hD14⟩ := ORow.elem h12 (map_get' hx13)
   refine qv rfl (v := opV (f x13) (.slice dA14 dn14 dc14)) (fun _ uz => r_loads (k := kk * 10) (vs := (opC (f x13) (.slice dA14 dn14 dc14))) (by kernel_rfl) Ty.ag49 Ty.sz49 (up_ob uz hb14) (el_sub0 he14 rfl)) ?_
   refine qmv (v := .slice (some ⟨g, 0, none⟩) nn c) ?_
   refine qmv (v := .int .i64 (kk : Int)) ?_
   refine qv rfl (v := .int .i64 ((kk - 1 : Nat) : Int)) (fun _ _ => r_sub (k := .i64) (m := (kk : Int)) (n := 1) (c := ((kk - 1 : Nat) : Int)) (by kernel_rfl) (by kernel_rfl) ((IntWalk.i64_in _ (by omega)).trans (by omega))) ?_
   refine qv rfl (v := .pointer (some ⟨g, (kk - 1) * 10, none⟩)) (fun _ _ => r_ixaddr' (A := some ⟨g, 0, none⟩) (b := g) (o := 0) (n := nn) (c := c) (sz := 10) (j := ((kk - 1 : Nat) : Int)) (m := (kk - 1) * 10) (by kernel_rfl) rfl (by kernel_rfl) Ty.un22 Ty.sz49 (by omega) (by omega) (by omega)) ?_
   obtain ⟨x15, hx15⟩ : ∃ x, I[kk - 1]? = some x := ⟨_, List.getElem?_eq_getElem (by omega)⟩
   obtain ⟨cu16, dA16, dn16, dc16, hb16, he16, hD16⟩ := ORow.elem h12 (map_get' hx15)
   refine qv rfl (v := opV (f x15) (.slice dA16 dn16 dc16)) (fun _ uz => r_loads (k := (kk - 1) * 10) (vs := (opC (f x15) (.slice dA16 dn16 dc16))) (by kernel_rfl) Ty.ag49 Ty.sz49 (up_ob uz hb16) (el_sub0 he16 rfl)) ?_
   refine qnil ?_
   intro w17 u18
   have M19 := Mod.trans M5 (Mod.of_up u18)
   have M20 := Mod.trans hM1 (Mod.of_up u18)
   refine wl (sc rfl (r_callv (caps := []) (all := [opV (f x13) (.slice dA14 dn14 dc14), opV (f x15) (.slice dA16 dn16 dc16)]) En.f117 (by kernel_rfl) (by kernel_rfl)) (opsort1_at (f x13) (f x15) dA14 dA16 dn14 dc14 dn16 dc16) ?_)
   rintro e w21 ⟨rfl, u22⟩
   refine ⟨.bool (decide ((f x13).at_ = (f x15).at_)), rfl, ?_⟩
   have M23 := Mod.trans M19 (Mod.of_up u22)
   have M24 := Mod.trans M20 (Mod.of_up u22)
   refine wnil (then_n ?_)
   refine bcase (decide ((f x13).at_ = (f x15).at_)) (fun v25 => ?_) (fun v25 => ?_)
   ·
    refine wp_cond_false (ebool (b := (decide ((f x13).at_ = (f x15).at_))) (by kernel_rfl) v25) ?_
    refine wp_skip (inb_n (then_n (rg_lit ?_)))
    refine wmv (v := .int .i64 (kk : Int)) ?_
    refine wl (sv rfl (v := .int .i64 ((kk + 1 : Nat) : Int)) (r_add (k := .i64) (m := (kk : Int)) (n := 1) (c := ((kk + 1 : Nat) : Int)) (by kernel_rfl) (by kernel_rfl) ((IntWalk.i64_in _ (by omega)).trans (by omega))) ?_)
    refine was (v := .int .i64 ((kk + 1 : Nat) : Int)) ?_
    refine wnil (then_n ?_)
    refine ⟨nn - (kk + 1), ?_, (kk + 1), z4, z6, z7, .int .i64 (kk : Int), .slice (some ⟨g, 0, none⟩) nn c, .int .i64 (nn : Int), .bool b6, .int .i64 (kk : Int), .int .i64 ((kk + 1 : Nat) : Int), .func (.func 117) #[] #[], .slice (some ⟨g, 0, none⟩) nn c, .int .i64 (kk : Int), .pointer (some ⟨g, kk * 10, none⟩), opV (f x13) (.slice dA14 dn14 dc14), .slice (some ⟨g, 0, none⟩) nn c, .int .i64 (kk : Int), .int .i64 ((kk - 1 : Nat) : Int), .pointer (some ⟨g, (kk - 1) * 10, none⟩), opV (f x15) (.slice dA16 dn16 dc16), .bool (decide ((f x13).at_ = (f x15).at_)), z29, z30, z31, z32, z33, z34, z35, z36, z37, z38, z39, z40, z41, z42, z43, z44, z45, z46, z47, z48, z49, z50, z51, z52, z53, z54, z55, z56, z57, z58, z59, z60, z61, z62, z63, z64, rfl, (by kernel_rfl), M24, (by omega), (by omega), (Thin.next hF1_2 hx13 hx15 (by omega) (of_decide_eq_false v25))⟩
    · omega
   refine wp_cond_true (ebool (b := (decide ((f x13).at_ = (f x15).at_))) (by kernel_rfl) v25) ?_
   refine wp_seq (rg_lit ?_)
   refine wmv (v := .slice (some ⟨g, 0, none⟩) nn c) ?_
   refine wmv (v := .int .i64 (kk : Int)) ?_
   refine wl (sv rfl (v := .slice (some ⟨g, 0 + kk * 10, none⟩) (nn - kk : Nat) (c - kk : Nat)) (r_sliceLo (b := g) (o := 0) (n := nn) (c := c) (k := kk) (by kernel_rfl) (by kernel_rfl) Ty.un22 Ty.sz49 (by omega) (by omega)) ?_)
   refine was (v := .slice (some ⟨g, 0 + kk * 10, none⟩) (nn - kk : Nat) (c - kk : Nat)) ?_
   refine wnil (then_n (wp_seq (wp_seq (rg_lit ?_))))
   refine was (v := .int .i64 1) ?_
   refine wnil (then_n (wp_block ?_))
   have h26 := md_ob M23 nin0 hg
   have h27 := (ORow.up h (Mod.up M24))
   refine lp (fun n a r2 => ∃ (I2 : List Nat) (kl : Nat) (km : Nat) (z32 z33 z34 z35 z36 z37 z38 z39 z40 z41 z42 z43 z44 z45 z46 z47 z48 z49 z50 z51 z52 z53 z54 z55 z56 z57 z58 : Value), (n = nn - kl) ∧ (a = ⟨#[.slice (some ⟨g, 0, none⟩) nn c, .func (.func 117) #[] #[], undef, undef, z4, .int .i64 (km : Int), .slice (some ⟨g, 0 + kk * 10, none⟩) (nn - kk : Nat) (c - kk : Nat), .int .i64 (kl : Int), .slice (some ⟨g, 0, none⟩) nn c, .int .i64 (nn : Int), .bool b1, undef, .int .i64 (kk : Int), .slice (some ⟨g, 0, none⟩) nn c, .int .i64 (nn : Int), .bool b6, z16, z17, .func (.func 117) #[] #[], .slice (some ⟨g, 0, none⟩) nn c, .int .i64 (kk : Int), .pointer (some ⟨g, kk * 10, none⟩), opV (f x13) (.slice dA14 dn14 dc14), .slice (some ⟨g, 0, none⟩) nn c, .int .i64 (kk : Int), .int .i64 ((kk - 1 : Nat) : Int), .pointer (some ⟨g, (kk - 1) * 10, none⟩), opV (f x15) (.slice dA16 dn16 dc16), .bool (decide ((f x13).at_ = (f x15).at_)), .slice (some ⟨g, 0, none⟩) nn c, .int .i64 (kk : Int), .slice (some ⟨g, 0 + kk * 10, none⟩) (nn - kk : Nat) (c - kk : Nat), z32, z33, z34, z35, z36, z37, z38, z39, z40, z41, z42, z43, z44, z45, z46, z47, z48, z49, z50, z51, z52, z53, z54, z55, z56, z57, z58, z59, z60, z61, z62, z63, z64, undef], []⟩) ∧ (Mod [g] w21 r2) ∧ (Comp f I I2 kk kl km) ∧ (ORow 49 B base r2 (.slice (some ⟨g, 0, none⟩) nn c) (I2.map f))) ⟨_, I, 1, kk, z32, z33, z34, z35, z36, z37, z38, z39, z40, z41, z42, z43, z44, z45, z46, z47, z48, z49, z50, z51, z52, z53, z54, z55, z56, z57, z58, rfl, (by kernel_rfl), Mod.refl _ _, (Comp.first hF1_2 hx13 hx15 (by omega) (of_decide_eq_true v25)), h27⟩ ?_
   rintro _ _ r2 ⟨I2, kl, km, z32, z33, z34, z35, z36, z37, z38, z39, z40, z41, z42, z43, z44, z45, z46, z47, z48, z49, z50, z51, z52, z53, z54, z55, z56, z57, z58, rfl, rfl, hM2, hF2_0, hF2_1⟩
   have M28 := Mod.trans (Mod.of_mod (Y := [g]) M23 (by simp)) (Mod.of_mod (Y := [g]) hM2 (by simp))
   have M29 := Mod.trans (Mod.of_mod (Y := [g]) M24 (by simp)) (Mod.of_mod (Y := [g]) hM2 (by simp))
   obtain ⟨hc1, hc2, hc3, hc4, hc5⟩ := Comp.len hF2_0
   obtain ⟨_, _, _, cg30, hg30, _⟩ := ORow.blk hF2_1
   refine wp_seq (wp_seq (rg_lit ?_))
   refine wmv (v := .int .i64 (kl : Int)) ?_
   refine wmv (v := .slice (some ⟨g, 0 + kk * 10, none⟩) (nn - kk : Nat) (c - kk : Nat)) ?_
   refine wl (sv rfl (v := .int .i64 ((nn - kk : Nat) : Int)) (r_len Ty.un22 (ad := (some ⟨g, 0 + kk * 10, none⟩)) (n := (nn - kk : Nat)) (c := (c - kk : Nat)) (by kernel_rfl)) ?_)
   refine wl (sb rfl (r_lt (k := .i64) (m := (kl : Int)) (n := ((nn - kk : Nat) : Int)) (by kernel_rfl) (by kernel_rfl)) ?_)
   intro b31 k32
   refine wnil (then_n ?_)
   refine bcase b31 (fun v33 => ?_) (fun v33 => ?_)
   ·
    have p34 := of_decide_eq_false (k32.trans v33)
    refine wp_cond_false (ebool (b := b31) (by kernel_rfl) v33) ?_
    refine wp_exit (then_x (by nofun) (then_x (by nofun) (inb_hit (then_n (wp_seq (rg_lit ?_))))))
    refine wmv (v := .slice (some ⟨g, 0, none⟩) nn c) ?_
    refine wmv (v := .int .i64 (km : Int)) ?_
    refine wl (sv rfl (v := .slice (some ⟨g, 0 + km * 10, none⟩) (nn - km : Nat) (c - km : Nat)) (r_sliceLo (b := g) (o := 0) (n := nn) (c := c) (k := km) (by kernel_rfl) (by kernel_rfl) Ty.un22 Ty.sz49 (by omega) (by omega)) ?_)
    refine wl (clrO rfl (n := nn) (k := km) (m := 0 + km * 10) (q := (nn - km : Nat)) (cc := (c - km : Nat)) (z := zO) (by kernel_rfl) (by omega) (by omega) (by omega) hF2_1 Ty.un22 hzO hzO1 hzO2 (by decide) hBb ?_)
    intro w35 h36 c37
    have M38 := Mod.trans M28 (Mod.of_chg c37 (by simp))
    have M39 := Mod.trans M29 (Mod.of_chg c37 (by simp))
    have M40 := Mod.trans hM2 (Mod.of_chg c37 (by simp))
    refine wnil (then_n (wp_seq (rg_lit ?_)))
    refine wmv (v := .slice (some ⟨g, 0, none⟩) nn c) ?_
    refine wmv (v := .int .i64 (km : Int)) ?_
    refine wl (sv rfl (v := .slice (some ⟨g, 0, none⟩) km c) (r_sliceHi (b := g) (o := 0) (n := nn) (c := c) (k := km) (by kernel_rfl) (by kernel_rfl) Ty.un22 Ty.sz49 (by omega)) ?_)
    refine was (v := .slice (some ⟨g, 0, none⟩) km c) ?_
    refine wnil (then_n (wp_ret (inb_r (then_x (by nofun) (then_x (by nofun) (inb_r (then_x (by nofun) ?_)))))))
    refine bodyPost_ret (v := .slice (some ⟨g, 0, none⟩) km c) (res1 rfl (rv_t (by kernel_rfl))) (by kernel_rfl) ?_
    exact ⟨_, _, rfl, ORow.to h36 (by rw [← List.map_take]), Comp.fin hF2_0 (by omega), (Mod.chg M38)⟩
   have p34 := of_decide_eq_true (k32.trans v33)
   refine wp_cond_true (ebool (b := b31) (by kernel_rfl) v33) ?_
   refine wp_skip (then_n (wp_seq (wp_block (wp_seq ?_))))
   refine rg_tail 10 (by kernel_rfl) (by kernel_rfl) rfl rfl ?_
   refine qmv (v := .func (.func 117) #[] #[]) ?_
   refine qmv (v := .slice (some ⟨g, 0 + kk * 10, none⟩) (nn - kk : Nat) (c - kk : Nat)) ?_
   refine qmv (v := .int .i64 (kl : Int)) ?_
   refine qv rfl (v := .pointer (some ⟨g, (kk + kl) * 10, none⟩)) (fun _ _ => r_ixaddr' (A := some ⟨g, 0 + kk * 10, none⟩) (b := g) (o := 0 + kk * 10) (n := (nn - kk : Nat)) (c := (c - kk : Nat)) (sz := 10) (j := (kl : Int)) (m := (kk + kl) * 10) (by kernel_rfl) rfl (by kernel_rfl) Ty.un22 Ty.sz49 (by omega) (by omega) (by omega)) ?_
   obtain ⟨x35, hx35⟩ : ∃ x, I2[kk + kl]? = some x := ⟨_, List.getElem?_eq_getElem (by omega)⟩
   obtain ⟨cu36, dA36, dn36, dc36, hb36, he36, hD36⟩ := ORow.elem hF2_1 (map_get' hx35)
   refine qv rfl (v := opV (f x35) (.slice dA36 dn36 dc36)) (fun _ uz => r_loads (k := (kk + kl) * 10) (vs := (opC (f x35) (.slice dA36 dn36 dc36))) (by kernel_rfl) Ty.ag49 Ty.sz49 (up_ob uz hb36) (el_sub0 he36 rfl)) ?_
   refine qmv (v := .slice (some ⟨g, 0 + kk * 10, none⟩) (nn - kk : Nat) (c - kk : Nat)) ?_
   refine qmv (v := .int .i64 (kl : Int)) ?_
   refine qv rfl (v := .int .i64 ((kl - 1 : Nat) : Int)) (fun _ _ => r_sub (k := .i64) (m := (kl : Int)) (n := 1) (c := ((kl - 1 : Nat) : Int)) (by kernel_rfl) (by kernel_rfl) ((IntWalk.i64_in _ (by omega)).trans (by omega))) ?_
   refine qv rfl (v := .pointer (some ⟨g, (kk + (kl - 1)) * 10, none⟩)) (fun _ _ => r_ixaddr' (A := some ⟨g, 0 + kk * 10, none⟩) (b := g) (o := 0 + kk * 10) (n := (nn - kk : Nat)) (c := (c - kk : Nat)) (sz := 10) (j := ((kl - 1 : Nat) : Int)) (m := (kk + (kl - 1)) * 10) (by kernel_rfl) rfl (by kernel_rfl) Ty.un22 Ty.sz49 (by omega) (by omega) (by omega)) ?_
   obtain ⟨x37, hx37⟩ : ∃ x, I2[kk + (kl - 1)]? = some x := ⟨_, List.getElem?_eq_getElem (by omega)⟩
   obtain ⟨cu38, dA38, dn38, dc38, hb38, he38, hD38⟩ := ORow.elem hF2_1 (map_get' hx37)
   refine qv rfl (v := opV (f x37) (.slice dA38 dn38 dc38)) (fun _ uz => r_loads (k := (kk + (kl - 1)) * 10) (vs := (opC (f x37) (.slice dA38 dn38 dc38))) (by kernel_rfl) Ty.ag49 Ty.sz49 (up_ob uz hb38) (el_sub0 he38 rfl)) ?_
   refine qnil ?_
   intro w39 u40
   have M41 := Mod.trans M28 (Mod.of_up u40)
   have M42 := Mod.trans M29 (Mod.of_up u40)
   have M43 := Mod.trans hM2 (Mod.of_up u40)
   refine wl (sc rfl (r_callv (caps := []) (all := [opV (f x35) (.slice dA36 dn36 dc36), opV (f x37) (.slice dA38 dn38 dc38)]) En.f117 (by kernel_rfl) (by kernel_rfl)) (opsort1_at (f x35) (f x37) dA36 dA38 dn36 dc36 dn38 dc38) ?_)
   rintro e w44 ⟨rfl, u45⟩
   refine ⟨.bool (decide ((f x35).at_ = (f x37).at_)), rfl, ?_⟩
   have M46 := Mod.trans M41 (Mod.of_up u45)
   have M47 := Mod.trans M42 (Mod.of_up u45)
   have M48 := Mod.trans M43 (Mod.of_up u45)
   refine wl (sv rfl (v := .bool (!(decide ((f x35).at_ = (f x37).at_)))) (r_not (b := (decide ((f x35).at_ = (f x37).at_))) (by kernel_rfl)) ?_)
   refine wnil (then_n ?_)
   refine bcase (decide ((f x35).at_ = (f x37).at_)) (fun v49 => ?_) (fun v49 => ?_)
   ·
    refine wp_cond_true (ebool (b := !(decide ((f x35).at_ = (f x37).at_))) (by kernel_rfl) (bneg v49)) ?_
    refine wp_seq (rg_lit ?_)
    refine wmv (v := .slice (some ⟨g, 0, none⟩) nn c) ?_
    refine wmv (v := .int .i64 (km : Int)) ?_
    refine wmv (v := .slice (some ⟨g, 0 + kk * 10, none⟩) (nn - kk : Nat) (c - kk : Nat)) ?_
    refine wmv (v := .int .i64 (kl : Int)) ?_
    refine wl (sv rfl (v := .pointer (some ⟨g, (kk + kl) * 10, none⟩)) (r_ixaddr' (A := some ⟨g, 0 + kk * 10, none⟩) (b := g) (o := 0 + kk * 10) (n := (nn - kk : Nat)) (c := (c - kk : Nat)) (sz := 10) (j := (kl : Int)) (m := (kk + kl) * 10) (by kernel_rfl) rfl (by kernel_rfl) Ty.un22 Ty.sz49 (by omega) (by omega) (by omega)) ?_)
    have h50 := (ORow.up hF2_1 (up_up u40 u45))
    obtain ⟨cu51, dA51, dn51, dc51, hb51, he51, hD51⟩ := ORow.elem h50 (map_get' hx35)
    refine wl (sv rfl (v := opV (f x35) (.slice dA51 dn51 dc51)) (r_loads (k := (kk + kl) * 10) (vs := (opC (f x35) (.slice dA51 dn51 dc51))) (by kernel_rfl) Ty.ag49 Ty.sz49 hb51 (el_sub0 he51 rfl)) ?_)
    refine wl (sv rfl (v := .pointer (some ⟨g, km * 10, none⟩)) (r_ixaddr' (A := some ⟨g, 0, none⟩) (b := g) (o := 0) (n := nn) (c := c) (sz := 10) (j := (km : Int)) (m := km * 10) (by kernel_rfl) rfl (by kernel_rfl) Ty.un22 Ty.sz49 (by omega) (by omega) (by omega)) ?_)
    obtain ⟨cu52, hb52, hk52, hp52⟩ := ORow.put (i := km) h50 (by simp; omega) hD51 (by decide) hBb
    refine wl (ss rfl (k := km * 10) (v := opV (f x35) (.slice dA51 dn51 dc51)) (vs := (opC (f x35) (.slice dA51 dn51 dc51))) (cs' := _) (by kernel_rfl) (by kernel_rfl) rfl Ty.sz49 hb52 rfl hk52 rfl ?_)
    intro w53 h54 c55
    have hr52 := hp52 _ h54 c55
    rw [map_set'] at hr52
    have M56 := Mod.trans M46 (Mod.of_chg c55 (by simp))
    have M57 := Mod.trans M47 (Mod.of_chg c55 (by simp))
    have M58 := Mod.trans M48 (Mod.of_chg c55 (by simp))
    obtain ⟨_, _, _, cg59, hg59, _⟩ := ORow.blk hr52
    refine wnil (then_n (rg_lit ?_))
    refine wmv (v := .int .i64 (km : Int)) ?_
    refine wl (sv rfl (v := .int .i64 ((km + 1 : Nat) : Int)) (r_add (k := .i64) (m := (km : Int)) (n := 1) (c := ((km + 1 : Nat) : Int)) (by kernel_rfl) (by kernel_rfl) ((IntWalk.i64_in _ (by omega)).trans (by omega))) ?_)
    refine was (v := .int .i64 ((km + 1 : Nat) : Int)) ?_
    refine wnil (inb_n (then_n (rg_lit ?_)))
    refine wmv (v := .int .i64 (kl : Int)) ?_
    refine wl (sv rfl (v := .int .i64 ((kl + 1 : Nat) : Int)) (r_add (k := .i64) (m := (kl : Int)) (n := 1) (c := ((kl + 1 : Nat) : Int)) (by kernel_rfl) (by kernel_rfl) ((IntWalk.i64_in _ (by omega)).trans (by omega))) ?_)
    refine was (v := .int .i64 ((kl + 1 : Nat) : Int)) ?_
    refine wnil (then_n ?_)
    refine ⟨nn - (kl + 1), ?_, (I2.set km x35), (kl + 1), (km + 1), .int .i64 (kl : Int), .slice (some ⟨g, 0 + kk * 10, none⟩) (nn - kk : Nat) (c - kk : Nat), .int .i64 ((nn - kk : Nat) : Int), .bool b31, .int .i64 (kl : Int), .int .i64 ((kl + 1 : Nat) : Int), .func (.func 117) #[] #[], .slice (some ⟨g, 0 + kk * 10, none⟩) (nn - kk : Nat) (c - kk : Nat), .int .i64 (kl : Int), .pointer (some ⟨g, (kk + kl) * 10, none⟩), opV (f x35) (.slice dA36 dn36 dc36), .slice (some ⟨g, 0 + kk * 10, none⟩) (nn - kk : Nat) (c - kk : Nat), .int .i64 (kl : Int), .int .i64 ((kl - 1 : Nat) : Int), .pointer (some ⟨g, (kk + (kl - 1)) * 10, none⟩), opV (f x37) (.slice dA38 dn38 dc38), .bool (decide ((f x35).at_ = (f x37).at_)), .bool (!(decide ((f x35).at_ = (f x37).at_))), .slice (some ⟨g, 0, none⟩) nn c, .int .i64 (km : Int), .slice (some ⟨g, 0 + kk * 10, none⟩) (nn - kk : Nat) (c - kk : Nat), .int .i64 (kl : Int), .pointer (some ⟨g, (kk + kl) * 10, none⟩), opV (f x35) (.slice dA51 dn51 dc51), .pointer (some ⟨g, km * 10, none⟩), .int .i64 (km : Int), .int .i64 ((km + 1 : Nat) : Int), rfl, (by kernel_rfl), M58, (Comp.grow hF2_0 hx35 hx37 (of_decide_eq_false v49) hx35), hr52⟩
    · omega
   refine wp_cond_false (ebool (b := !(decide ((f x35).at_ = (f x37).at_))) (by kernel_rfl) (bneg v49)) ?_
   refine wp_skip (inb_n (then_n (rg_lit ?_)))
   refine wmv (v := .int .i64 (kl : Int)) ?_
   refine wl (sv rfl (v := .int .i64 ((kl + 1 : Nat) : Int)) (r_add (k := .i64) (m := (kl : Int)) (n := 1) (c := ((kl + 1 : Nat) : Int)) (by kernel_rfl) (by kernel_rfl) ((IntWalk.i64_in _ (by omega)).trans (by omega))) ?_)
   refine was (v := .int .i64 ((kl + 1 : Nat) : Int)) ?_
   refine wnil (then_n ?_)
   have h50 := (ORow.up hF2_1 (up_up u40 u45))
   refine ⟨nn - (kl + 1), ?_, I2, (kl + 1), km, .int .i64 (kl : Int), .slice (some ⟨g, 0 + kk * 10, none⟩) (nn - kk : Nat) (c - kk : Nat), .int .i64 ((nn - kk : Nat) : Int), .bool b31, .int .i64 (kl : Int), .int .i64 ((kl + 1 : Nat) : Int), .func (.func 117) #[] #[], .slice (some ⟨g, 0 + kk * 10, none⟩) (nn - kk : Nat) (c - kk : Nat), .int .i64 (kl : Int), .pointer (some ⟨g, (kk + kl) * 10, none⟩), opV (f x35) (.slice dA36 dn36 dc36), .slice (some ⟨g, 0 + kk * 10, none⟩) (nn - kk : Nat) (c - kk : Nat), .int .i64 (kl : Int), .int .i64 ((kl - 1 : Nat) : Int), .pointer (some ⟨g, (kk + (kl - 1)) * 10, none⟩), opV (f x37) (.slice dA38 dn38 dc38), .bool (decide ((f x35).at_ = (f x37).at_)), .bool (!(decide ((f x35).at_ = (f x37).at_))), z50, z51, z52, z53, z54, z55, z56, z57, z58, rfl, (by kernel_rfl), M48, (Comp.hold hF2_0 hx35 hx37 (of_decide_eq_true v49)), h50⟩
   · omega
  have p4 := of_decide_eq_true (k2.trans v3)
  refine wp_cond_true (ebool (b := b1) (by kernel_rfl) v3) ?_
  refine wp_seq (rg_lit ?_)
  refine wmv (v := .slice (some ⟨g, 0, none⟩) nn c) ?_
  refine was (v := .slice (some ⟨g, 0, none⟩) nn c) ?_
  refine wnil (then_n (wp_ret (then_x (by nofun) ?_)))
  refine bodyPost_ret (v := .slice (some ⟨g, 0, none⟩) nn c) (res1 rfl (rv_t (by kernel_rfl))) (by kernel_rfl) ?_
  exact ⟨nn, I, rfl, h, Thin.small (by omega), (to_chg (Mod.up (Mod.refl [] w)) g)⟩
end Go.Proofs.YtefhfoioeoijlaaGreatDoor

/- GMZ: printed by gen.py -/
import Derived.Test.YtefhfoioeoijlaaGreatDoorGLZ
import Derived.Test.YtefhfoioeoijlaaGreatDoorOrd
set_option linter.unusedVariables false
set_option linter.unusedSimpArgs false
namespace Go.Proofs.YtefhfoioeoijlaaGreatDoor
open Go Go.RowKit Go.Sort
set_option maxHeartbeats 2000000 in
theorem stable_atE {B base : Nat} {w : World} {g nn c : Nat} {f : Nat → EntD} (h : ERow 35 B base w (.slice (some ⟨g, 0, none⟩) nn c) ((List.range nn).map f)) (hBb : B ≤ base) (hn : nn ≤ 1000000) {NN : Nat} (hNN : ∀ i, (f i).name.data.toList.length ≤ NN) :
    Calls Tryz.prog 118 #[.slice (some ⟨g, 0, none⟩) nn c, .int .i64 nn, .func (.func 60) #[] #[]] w fun e w' => ∃ D, e = .returned (.tuple #[]) ∧ ERow 35 B base w' (.slice (some ⟨g, 0, none⟩) nn c) (D.map f) ∧ AllSorted (ky NN f) nn D ∧ Chg w w' g := by
  obtain ⟨hnL, hnc, hcm, cu0, hg, hcs0⟩ := ERow.blk h
  have hBg := ERow.ge h hBb
  go_enter Tryz.func118, Tryz.ntmps118
  refine wp_seq (rg_lit ?_)
  refine was (v := .int .i64 20) ?_
  refine wnil (then_n (wp_seq (rg_lit ?_)))
  refine wmv (v := .int .i64 20) ?_
  refine was (v := .int .i64 0) ?_
  refine was (v := .int .i64 20) ?_
  refine wnil (then_n (wp_seq (wp_block ?_)))
  refine lp (fun n a r1 => ∃ (I1 : List Nat) (ka : Nat) (kb : Nat) (z11 z12 z13 z14 z15 z16 z17 z18 z19 z20 z21 z22 : Value), (n = nn + 1 - ka) ∧ (a = ⟨#[.slice (some ⟨g, 0, none⟩) nn c, .int .i64 ((nn : Int)), .func (.func 60) #[] #[], undef, undef, undef, .int .i64 20, .int .i64 ((ka : Int)), .int .i64 ((kb : Int)), undef, .int .i64 20, z11, z12, z13, z14, z15, z16, z17, z18, z19, z20, z21, z22, undef, undef, undef, undef, undef, undef, undef, undef, undef, undef, undef, undef, undef, undef, undef, undef, undef, undef, undef, undef, undef, undef, undef, undef, undef, undef, undef, undef, undef, undef, undef, undef, undef, undef, undef, undef, undef, undef, undef, undef], []⟩) ∧ (Mod [g] w r1) ∧ (kb = ka + 20) ∧ (ka ≤ nn) ∧ (Blocks (ky NN f) nn 20 I1 ka) ∧ (ERow 35 B base r1 (.slice (some ⟨g, 0, none⟩) nn c) (I1.map f))) ⟨_, (List.range nn), 0, 20, undef, undef, undef, undef, undef, undef, undef, undef, undef, undef, undef, undef, rfl, (by kernel_rfl), Mod.refl _ _, rfl, (Nat.zero_le _), (Blocks.first _ _ _), h⟩ ?_
  rintro _ _ r1 ⟨I1, ka, kb, z11, z12, z13, z14, z15, z16, z17, z18, z19, z20, z21, z22, rfl, rfl, hM1, hF1_0, hF1_1, hF1_2, hF1_3⟩
  have M1 := Mod.trans (Mod.of_mod (Y := [g]) (Mod.refl [] w) (by simp)) (Mod.of_mod (Y := [g]) hM1 (by simp))
  obtain ⟨_, _, _, cg2, hg2, _⟩ := ERow.blk hF1_3
  refine wp_seq (wp_seq (rg_lit ?_))
  refine wmv (v := .int .i64 ((kb : Int))) ?_
  refine wmv (v := .int .i64 ((nn : Int))) ?_
  refine wl (sb rfl (r_le (k := .i64) (m := ((kb : Int))) (n := ((nn : Int))) (by kernel_rfl) (by kernel_rfl)) ?_)
  intro b3 k4
  refine wnil (then_n ?_)
  refine bcase b3 (fun v5 => ?_) (fun v5 => ?_)
  ·
   have p6 := of_decide_eq_false (k4.trans v5)
   refine wp_cond_false (ebool (b := b3) (by kernel_rfl) v5) ?_
   refine wp_exit (then_x (by nofun) (then_x (by nofun) (inb_hit (then_n (wp_seq (rg_lit ?_))))))
   refine wmv (v := .slice (some ⟨g, 0, none⟩) nn c) ?_
   refine wmv (v := .int .i64 ((ka : Int))) ?_
   refine wmv (v := .int .i64 ((nn : Int))) ?_
   refine wmv (v := .func (.func 60) #[] #[]) ?_
   obtain ⟨p7, X7, hI7, hp7, hX7, hlt7, hN7⟩ := Blocks.last hF1_2 (by omega)
   have ho7 := ERow.to hF1_3 (congrArg (List.map f) hI7)
   refine wl (sc rfl (r_callv (caps := []) (all := [.slice (some ⟨g, 0, none⟩) nn c, .int .i64 ((ka : Int)), .int .i64 ((nn : Int)), .func (.func 60) #[] #[]]) En.f162 (by kernel_rfl) (by kernel_rfl)) (insertion_atE ho7 hBb hn hNN hp7 (by omega) hlt7) ?_)
   rintro e w8 ⟨D9, rfl, h10, h11, m12, c13⟩
   refine ⟨.tuple #[], rfl, ?_⟩
   have M14 := Mod.trans M1 (Mod.of_chg c13 (by simp))
   have M15 := Mod.trans hM1 (Mod.of_chg c13 (by simp))
   obtain ⟨_, _, _, cg16, hg16, _⟩ := ERow.blk h10
   have hT7 := hN7 _ h11 m12
   refine wnil (then_n (wp_block ?_))
   refine lp (fun n a r2 => ∃ (I2 : List Nat) (bs : Nat) (z7 z8 z9 z28 z29 z30 z31 z32 z33 z34 z35 z36 z37 z38 z39 z40 z41 z42 z43 z44 z45 z46 z47 z48 z49 z50 z51 z52 z53 z54 z55 z56 z57 z58 z59 z60 z61 z62 : Value), (n = nn - bs) ∧ (a = ⟨#[.slice (some ⟨g, 0, none⟩) nn c, .int .i64 ((nn : Int)), .func (.func 60) #[] #[], undef, undef, undef, .int .i64 ((bs : Int)), z7, z8, z9, .int .i64 20, .int .i64 ((kb : Int)), .int .i64 ((nn : Int)), .bool b3, z14, z15, z16, z17, z18, z19, z20, z21, z22, .slice (some ⟨g, 0, none⟩) nn c, .int .i64 ((ka : Int)), .int .i64 ((nn : Int)), .func (.func 60) #[] #[], undef, z28, z29, z30, z31, z32, z33, z34, z35, z36, z37, z38, z39, z40, z41, z42, z43, z44, z45, z46, z47, z48, z49, z50, z51, z52, z53, z54, z55, z56, z57, z58, z59, z60, z61, z62], []⟩) ∧ (Mod [g] w8 r2) ∧ (0 < bs) ∧ (Runs (ky NN f) bs 0 I2) ∧ (I2.length = nn) ∧ (ERow 35 B base r2 (.slice (some ⟨g, 0, none⟩) nn c) (I2.map f))) ⟨_, (p7 ++ (D9 ++ ([] : List Nat))), 20, .int .i64 ((ka : Int)), .int .i64 ((kb : Int)), undef, undef, undef, undef, undef, undef, undef, undef, undef, undef, undef, undef, undef, undef, undef, undef, undef, undef, undef, undef, undef, undef, undef, undef, undef, undef, undef, undef, undef, undef, undef, undef, undef, undef, undef, undef, rfl, (by kernel_rfl), Mod.refl _ _, (by decide), hT7.1, hT7.2, h10⟩ ?_
   rintro _ _ r2 ⟨I2, bs, z7, z8, z9, z28, z29, z30, z31, z32, z33, z34, z35, z36, z37, z38, z39, z40, z41, z42, z43, z44, z45, z46, z47, z48, z49, z50, z51, z52, z53, z54, z55, z56, z57, z58, z59, z60, z61, z62, rfl, rfl, hM2, hF2_0, hF2_1, hF2_2, hF2_3⟩
   have M17 := Mod.trans M14 (Mod.of_mod hM2 (by simp))
   have M18 := Mod.trans M15 (Mod.of_mod hM2 (by simp))
   obtain ⟨_, _, _, cg19, hg19, _⟩ := ERow.blk hF2_3
   refine wp_seq (wp_seq (rg_lit ?_))
   refine wmv (v := .int .i64 ((bs : Int))) ?_
   refine wmv (v := .int .i64 ((nn : Int))) ?_
   refine wl (sb rfl (r_lt (k := .i64) (m := ((bs : Int))) (n := ((nn : Int))) (by kernel_rfl) (by kernel_rfl)) ?_)
   intro b20 k21
   refine wnil (then_n ?_)
   refine bcase b20 (fun v22 => ?_) (fun v22 => ?_)
   ·
    have p23 := of_decide_eq_false (k21.trans v22)
    refine wp_cond_false (ebool (b := b20) (by kernel_rfl) v22) ?_
    refine wp_exit (then_x (by nofun) (then_x (by nofun) (inb_hit ?_)))
    refine bodyPost_end (v := .tuple #[]) (res0 rfl ) (by kernel_rfl) ?_
    exact ⟨I2, rfl, hF2_3, Runs.all hF2_1 hF2_2 (by omega) (by omega), (Mod.chg M17)⟩
   have p23 := of_decide_eq_true (k21.trans v22)
   have q24 : bs < nn := by omega
   have q25 : bs < nn := by omega
   refine wp_cond_true (ebool (b := b20) (by kernel_rfl) v22) ?_
   refine wp_skip (then_n (wp_block (wp_seq (rg_lit ?_))))
   refine wmv (v := .int .i64 ((bs : Int))) ?_
   refine wl (sv rfl (v := .int .i64 (((2 * bs : Nat) : Int))) (r_mul (k := .i64) (m := 2) (n := ((bs : Int))) (c := (((2 * bs : Nat) : Int))) (by kernel_rfl) (by kernel_rfl) ((IntWalk.i64_in _ (by omega)).trans (by omega))) ?_)
   refine was (v := .int .i64 0) ?_
   refine was (v := .int .i64 (((2 * bs : Nat) : Int))) ?_
   refine wnil (then_n (wp_seq (wp_block ?_)))
   refine lp (fun n a r3 => ∃ (I3 : List Nat) (kc : Nat) (kd : Nat) (z33 z34 z35 z36 z37 z38 z39 z40 z41 z42 z43 z44 z45 z46 z47 z48 : Value), (n = nn + 1 - kc) ∧ (a = ⟨#[.slice (some ⟨g, 0, none⟩) nn c, .int .i64 ((nn : Int)), .func (.func 60) #[] #[], undef, undef, undef, .int .i64 ((bs : Int)), .int .i64 ((kc : Int)), .int .i64 ((kd : Int)), z9, .int .i64 20, .int .i64 ((kb : Int)), .int .i64 ((nn : Int)), .bool b3, z14, z15, z16, z17, z18, z19, z20, z21, z22, .slice (some ⟨g, 0, none⟩) nn c, .int .i64 ((ka : Int)), .int .i64 ((nn : Int)), .func (.func 60) #[] #[], undef, .int .i64 ((bs : Int)), .int .i64 ((nn : Int)), .bool b20, .int .i64 ((bs : Int)), .int .i64 (((2 * bs : Nat) : Int)), z33, z34, z35, z36, z37, z38, z39, z40, z41, z42, z43, z44, z45, z46, z47, z48, z49, z50, z51, z52, z53, z54, z55, z56, z57, z58, z59, z60, z61, z62], []⟩) ∧ (Mod [g] r2 r3) ∧ (kd = kc + 2 * bs) ∧ (kc ≤ nn) ∧ (Pass (ky NN f) nn bs I3 kc) ∧ (ERow 35 B base r3 (.slice (some ⟨g, 0, none⟩) nn c) (I3.map f))) ⟨_, I2, 0, (2 * bs), z33, z34, z35, z36, z37, z38, z39, z40, z41, z42, z43, z44, z45, z46, z47, z48, rfl, (by kernel_rfl), Mod.refl _ _, (by omega), (Nat.zero_le _), (Pass.first hF2_1 hF2_2), hF2_3⟩ ?_
   rintro _ _ r3 ⟨I3, kc, kd, z33, z34, z35, z36, z37, z38, z39, z40, z41, z42, z43, z44, z45, z46, z47, z48, rfl, rfl, hM3, hF3_0, hF3_1, hF3_2, hF3_3⟩
   have M26 := Mod.trans M17 (Mod.of_mod hM3 (by simp))
   have M27 := Mod.trans M18 (Mod.of_mod hM3 (by simp))
   have M28 := Mod.trans hM2 (Mod.of_mod hM3 (by simp))
   obtain ⟨_, _, _, cg29, hg29, _⟩ := ERow.blk hF3_3
   refine wp_seq (wp_seq (rg_lit ?_))
   refine wmv (v := .int .i64 ((kd : Int))) ?_
   refine wmv (v := .int .i64 ((nn : Int))) ?_
   refine wl (sb rfl (r_le (k := .i64) (m := ((kd : Int))) (n := ((nn : Int))) (by kernel_rfl) (by kernel_rfl)) ?_)
   intro b30 k31
   refine wnil (then_n ?_)
   refine bcase b30 (fun v32 => ?_) (fun v32 => ?_)
   ·
    have p33 := of_decide_eq_false (k31.trans v32)
    refine wp_cond_false (ebool (b := b30) (by kernel_rfl) v32) ?_
    refine wp_exit (then_x (by nofun) (then_x (by nofun) (inb_hit (then_n (wp_seq (wp_seq (rg_lit ?_)))))))
    refine wmv (v := .int .i64 ((kc : Int))) ?_
    refine wmv (v := .int .i64 ((bs : Int))) ?_
    refine wl (sv rfl (v := .int .i64 (((kc + bs : Nat) : Int))) (r_add (k := .i64) (m := ((kc : Int))) (n := ((bs : Int))) (c := (((kc + bs : Nat) : Int))) (by kernel_rfl) (by kernel_rfl) ((IntWalk.i64_in _ (by omega)).trans (by omega))) ?_)
    refine was (v := .int .i64 (((kc + bs : Nat) : Int))) ?_
    refine wnil (then_n (wp_seq (rg_lit ?_)))
    refine wmv (v := .int .i64 (((kc + bs : Nat) : Int))) ?_
    refine wmv (v := .int .i64 ((nn : Int))) ?_
    refine wl (sb rfl (r_lt (k := .i64) (m := (((kc + bs : Nat) : Int))) (n := ((nn : Int))) (by kernel_rfl) (by kernel_rfl)) ?_)
    intro b34 k35
    refine wnil (then_n ?_)
    refine bcase b34 (fun v36 => ?_) (fun v36 => ?_)
    ·
     have p37 := of_decide_eq_false (k35.trans v36)
     refine wp_cond_false (ebool (b := b34) (by kernel_rfl) v36) ?_
     refine wp_skip (then_n (rg_lit ?_))
     refine wmv (v := .int .i64 ((bs : Int))) ?_
     refine wl (sv rfl (v := .int .i64 (((bs * 2 : Nat) : Int))) (r_mul (k := .i64) (m := ((bs : Int))) (n := 2) (c := (((bs * 2 : Nat) : Int))) (by kernel_rfl) (by kernel_rfl) ((IntWalk.i64_in _ (by omega)).trans (by omega))) ?_)
     refine was (v := .int .i64 (((bs * 2 : Nat) : Int))) ?_
     refine wnil (inb_n (then_n ?_))
     have hT38 := Pass.done hF3_2 (by omega) (by omega)
     refine ⟨nn - (bs * 2), ?_, I3, (bs * 2), .int .i64 ((kc : Int)), .int .i64 ((kd : Int)), .int .i64 (((kc + bs : Nat) : Int)), .int .i64 ((bs : Int)), .int .i64 ((nn : Int)), .bool b20, .int .i64 ((bs : Int)), .int .i64 (((2 * bs : Nat) : Int)), .int .i64 ((kd : Int)), .int .i64 ((nn : Int)), .bool b30, z36, z37, z38, z39, z40, z41, z42, z43, z44, z45, z46, z47, z48, .int .i64 ((kc : Int)), .int .i64 ((bs : Int)), .int .i64 (((kc + bs : Nat) : Int)), .int .i64 (((kc + bs : Nat) : Int)), .int .i64 ((nn : Int)), .bool b34, z55, z56, z57, z58, z59, z60, .int .i64 ((bs : Int)), .int .i64 (((bs * 2 : Nat) : Int)), rfl, (by kernel_rfl), M28, (by omega), (by have h0 := hT38.1; rw [Nat.mul_comm 2 bs] at h0; exact h0), hT38.2, hF3_3⟩
     · omega
    have p37 := of_decide_eq_true (k35.trans v36)
    refine wp_cond_true (ebool (b := b34) (by kernel_rfl) v36) ?_
    refine rg_lit ?_
    refine wmv (v := .slice (some ⟨g, 0, none⟩) nn c) ?_
    refine wmv (v := .int .i64 ((kc : Int))) ?_
    refine wmv (v := .int .i64 (((kc + bs : Nat) : Int))) ?_
    refine wmv (v := .int .i64 ((nn : Int))) ?_
    refine wmv (v := .func (.func 60) #[] #[]) ?_
    obtain ⟨p38, X38, Y38, hI38, hp38, hX38, hY38, sX38, sY38, hA38, hN38⟩ := Pass.tail hF3_2 (by omega) (by omega)
    have ho38 := ERow.to hF3_3 (congrArg (List.map f) hI38)
    refine wl (sc rfl (r_callv (caps := []) (all := [.slice (some ⟨g, 0, none⟩) nn c, .int .i64 ((kc : Int)), .int .i64 (((kc + bs : Nat) : Int)), .int .i64 ((nn : Int)), .func (.func 60) #[] #[]]) En.f163 (by kernel_rfl) (by kernel_rfl)) (sym_allE _ (Nat.le_refl _) ho38 hBb hn hNN hp38 (by omega) (by omega) (by omega) (by omega) sX38 sY38 hA38) ?_)
    rintro e w39 ⟨D40, rfl, h41, m42, c43⟩
    refine ⟨.tuple #[], rfl, ?_⟩
    have M44 := Mod.trans M26 (Mod.of_chg c43 (by simp))
    have M45 := Mod.trans M27 (Mod.of_chg c43 (by simp))
    have M46 := Mod.trans M28 (Mod.of_chg c43 (by simp))
    have M47 := Mod.trans hM3 (Mod.of_chg c43 (by simp))
    obtain ⟨_, _, _, cg48, hg48, _⟩ := ERow.blk h41
    have hT38 := hN38 _ m42
    refine wnil (then_n (rg_lit ?_))
    refine wmv (v := .int .i64 ((bs : Int))) ?_
    refine wl (sv rfl (v := .int .i64 (((bs * 2 : Nat) : Int))) (r_mul (k := .i64) (m := ((bs : Int))) (n := 2) (c := (((bs * 2 : Nat) : Int))) (by kernel_rfl) (by kernel_rfl) ((IntWalk.i64_in _ (by omega)).trans (by omega))) ?_)
    refine was (v := .int .i64 (((bs * 2 : Nat) : Int))) ?_
    refine wnil (inb_n (then_n ?_))
    refine ⟨nn - (bs * 2), ?_, (p38 ++ (D40 ++ ([] : List Nat))), (bs * 2), .int .i64 ((kc : Int)), .int .i64 ((kd : Int)), .int .i64 (((kc + bs : Nat) : Int)), .int .i64 ((bs : Int)), .int .i64 ((nn : Int)), .bool b20, .int .i64 ((bs : Int)), .int .i64 (((2 * bs : Nat) : Int)), .int .i64 ((kd : Int)), .int .i64 ((nn : Int)), .bool b30, z36, z37, z38, z39, z40, z41, z42, z43, z44, z45, z46, z47, z48, .int .i64 ((kc : Int)), .int .i64 ((bs : Int)), .int .i64 (((kc + bs : Nat) : Int)), .int .i64 (((kc + bs : Nat) : Int)), .int .i64 ((nn : Int)), .bool b34, .slice (some ⟨g, 0, none⟩) nn c, .int .i64 ((kc : Int)), .int .i64 (((kc + bs : Nat) : Int)), .int .i64 ((nn : Int)), .func (.func 60) #[] #[], undef, .int .i64 ((bs : Int)), .int .i64 (((bs * 2 : Nat) : Int)), rfl, (by kernel_rfl), M46, (by omega), (by have h0 := hT38.1; rw [Nat.mul_comm 2 bs] at h0; exact h0), hT38.2, h41⟩
    · omega
   have p33 := of_decide_eq_true (k31.trans v32)
   refine wp_cond_true (ebool (b := b30) (by kernel_rfl) v32) ?_
   refine wp_skip (then_n (wp_block (wp_seq (rg_lit ?_))))
   refine wmv (v := .slice (some ⟨g, 0, none⟩) nn c) ?_
   refine wmv (v := .int .i64 ((kc : Int))) ?_
   refine wmv (v := .int .i64 ((kc : Int))) ?_
   refine wmv (v := .int .i64 ((bs : Int))) ?_
   refine wl (sv rfl (v := .int .i64 (((kc + bs : Nat) : Int))) (r_add (k := .i64) (m := ((kc : Int))) (n := ((bs : Int))) (c := (((kc + bs : Nat) : Int))) (by kernel_rfl) (by kernel_rfl) ((IntWalk.i64_in _ (by omega)).trans (by omega))) ?_)
   refine wmv (v := .int .i64 ((kd : Int))) ?_
   refine wmv (v := .func (.func 60) #[] #[]) ?_
   obtain ⟨p34, X34, Y34, q34, hI34, hp34, hX34, hY34, sX34, sY34, hA34, hN34⟩ := Pass.pair hF3_2 (by omega)
   have ho34 := ERow.to hF3_3 (congrArg (List.map f) hI34)
   refine wl (sc rfl (r_callv (caps := []) (all := [.slice (some ⟨g, 0, none⟩) nn c, .int .i64 ((kc : Int)), .int .i64 (((kc + bs : Nat) : Int)), .int .i64 ((kd : Int)), .func (.func 60) #[] #[]]) En.f163 (by kernel_rfl) (by kernel_rfl)) (sym_allE _ (Nat.le_refl _) ho34 hBb hn hNN hp34 (by omega) (by omega) (by omega) (by omega) sX34 sY34 hA34) ?_)
   rintro e w35 ⟨D36, rfl, h37, m38, c39⟩
   refine ⟨.tuple #[], rfl, ?_⟩
   have M40 := Mod.trans M26 (Mod.of_chg c39 (by simp))
   have M41 := Mod.trans M27 (Mod.of_chg c39 (by simp))
   have M42 := Mod.trans M28 (Mod.of_chg c39 (by simp))
   have M43 := Mod.trans hM3 (Mod.of_chg c39 (by simp))
   obtain ⟨_, _, _, cg44, hg44, _⟩ := ERow.blk h37
   have hT34 := hN34 _ m38
   refine wnil (then_n (wp_seq (rg_lit ?_)))
   refine wmv (v := .int .i64 ((kd : Int))) ?_
   refine was (v := .int .i64 ((kd : Int))) ?_
   refine wnil (then_n (rg_lit ?_))
   refine wmv (v := .int .i64 ((kd : Int))) ?_
   refine wmv (v := .int .i64 ((bs : Int))) ?_
   refine wl (sv rfl (v := .int .i64 (((2 * bs : Nat) : Int))) (r_mul (k := .i64) (m := 2) (n := ((bs : Int))) (c := (((2 * bs : Nat) : Int))) (by kernel_rfl) (by kernel_rfl) ((IntWalk.i64_in _ (by omega)).trans (by omega))) ?_)
   refine wl (sv rfl (v := .int .i64 (((kd + (2 * bs) : Nat) : Int))) (r_add (k := .i64) (m := ((kd : Int))) (n := (((2 * bs : Nat) : Int))) (c := (((kd + (2 * bs) : Nat) : Int))) (by kernel_rfl) (by kernel_rfl) ((IntWalk.i64_in _ (by omega)).trans (by omega))) ?_)
   refine was (v := .int .i64 (((kd + (2 * bs) : Nat) : Int))) ?_
   refine wnil (inb_n (then_n ?_))
   refine ⟨nn + 1 - kd, ?_, (p34 ++ (D36 ++ q34)), kd, (kd + (2 * bs)), .int .i64 ((kd : Int)), .int .i64 ((nn : Int)), .bool b30, .slice (some ⟨g, 0, none⟩) nn c, .int .i64 ((kc : Int)), .int .i64 ((kc : Int)), .int .i64 ((bs : Int)), .int .i64 (((kc + bs : Nat) : Int)), .int .i64 ((kd : Int)), .func (.func 60) #[] #[], undef, .int .i64 ((kd : Int)), .int .i64 ((kd : Int)), .int .i64 ((bs : Int)), .int .i64 (((2 * bs : Nat) : Int)), .int .i64 (((kd + (2 * bs) : Nat) : Int)), rfl, (by kernel_rfl), M43, (by omega), (by omega), (by have h0 := hT34; rw [show kc + 2 * bs = kd by omega] at h0; exact h0), h37⟩
   · omega
  have p6 := of_decide_eq_true (k4.trans v5)
  refine wp_cond_true (ebool (b := b3) (by kernel_rfl) v5) ?_
  refine wp_skip (then_n (wp_block (wp_seq (rg_lit ?_))))
  refine wmv (v := .slice (some ⟨g, 0, none⟩) nn c) ?_
  refine wmv (v := .int .i64 ((ka : Int))) ?_
  refine wmv (v := .int .i64 ((kb : Int))) ?_
  refine wmv (v := .func (.func 60) #[] #[]) ?_
  obtain ⟨p7, X7, q7, hI7, hp7, hX7, hlt7, hN7⟩ := Blocks.part hF1_2 (by omega)
  have ho7 := ERow.to hF1_3 (congrArg (List.map f) hI7)
  refine wl (sc rfl (r_callv (caps := []) (all := [.slice (some ⟨g, 0, none⟩) nn c, .int .i64 ((ka : Int)), .int .i64 ((kb : Int)), .func (.func 60) #[] #[]]) En.f162 (by kernel_rfl) (by kernel_rfl)) (insertion_atE ho7 hBb hn hNN hp7 (by omega) hlt7) ?_)
  rintro e w8 ⟨D9, rfl, h10, h11, m12, c13⟩
  refine ⟨.tuple #[], rfl, ?_⟩
  have M14 := Mod.trans M1 (Mod.of_chg c13 (by simp))
  have M15 := Mod.trans hM1 (Mod.of_chg c13 (by simp))
  obtain ⟨_, _, _, cg16, hg16, _⟩ := ERow.blk h10
  have hT7 := hN7 _ h11 m12
  refine wnil (then_n (wp_seq (rg_lit ?_)))
  refine wmv (v := .int .i64 ((kb : Int))) ?_
  refine was (v := .int .i64 ((kb : Int))) ?_
  refine wnil (then_n (rg_lit ?_))
  refine wmv (v := .int .i64 ((kb : Int))) ?_
  refine wmv (v := .int .i64 20) ?_
  refine wl (sv rfl (v := .int .i64 (((kb + 20 : Nat) : Int))) (r_add (k := .i64) (m := ((kb : Int))) (n := 20) (c := (((kb + 20 : Nat) : Int))) (by kernel_rfl) (by kernel_rfl) ((IntWalk.i64_in _ (by omega)).trans (by omega))) ?_)
  refine was (v := .int .i64 (((kb + 20 : Nat) : Int))) ?_
  refine wnil (inb_n (then_n ?_))
  refine ⟨nn + 1 - kb, ?_, (p7 ++ (D9 ++ q7)), kb, (kb + 20), .int .i64 ((kb : Int)), .int .i64 ((nn : Int)), .bool b3, .slice (some ⟨g, 0, none⟩) nn c, .int .i64 ((ka : Int)), .int .i64 ((kb : Int)), .func (.func 60) #[] #[], undef, .int .i64 ((kb : Int)), .int .i64 ((kb : Int)), .int .i64 20, .int .i64 (((kb + 20 : Nat) : Int)), rfl, (by kernel_rfl), M15, (by omega), (by omega), (by have h0 := hT7; rw [show ka + 20 = kb by omega] at h0; exact h0), h10⟩
  · omega
set_option maxHeartbeats 2000000 in
theorem sortStable_atE {B base : Nat} {w : World} {g nn c : Nat} {f : Nat → EntD} (h : ERow 35 B base w (.slice (some ⟨g, 0, none⟩) nn c) ((List.range nn).map f)) (hBb : B ≤ base) (hn : nn ≤ 1000000) {NN : Nat} (hNN : ∀ i, (f i).name.data.toList.length ≤ NN) :
    Calls Tryz.prog 59 #[.slice (some ⟨g, 0, none⟩) nn c, .func (.func 60) #[] #[]] w fun e w' => ∃ D, e = .returned (.tuple #[]) ∧ ERow 35 B base w' (.slice (some ⟨g, 0, none⟩) nn c) (D.map f) ∧ AllSorted (ky NN f) nn D ∧ Chg w w' g := by
  obtain ⟨hnL, hnc, hcm, cu0, hg, hcs0⟩ := ERow.blk h
  have hBg := ERow.ge h hBb
  go_enter Tryz.func59, Tryz.ntmps59
  refine rg_lit ?_
  refine wmv (v := .slice (some ⟨g, 0, none⟩) nn c) ?_
  refine wmv (v := .slice (some ⟨g, 0, none⟩) nn c) ?_
  refine wl (sv rfl (v := .int .i64 ((nn : Int))) (r_len Ty.un29 (ad := (some ⟨g, 0, none⟩)) (n := nn) (c := c) (by kernel_rfl)) ?_)
  refine wmv (v := .func (.func 60) #[] #[]) ?_
  refine wl (sc rfl (r_callv (caps := []) (all := [.slice (some ⟨g, 0, none⟩) nn c, .int .i64 ((nn : Int)), .func (.func 60) #[] #[]]) En.f118 (by kernel_rfl) (by kernel_rfl)) (stable_atE h hBb hn hNN) ?_)
  rintro e w1 ⟨D2, rfl, h3, m4, c5⟩
  refine ⟨.tuple #[], rfl, ?_⟩
  have M6 := md_old (Mod.refl [] w) c5
  obtain ⟨_, _, _, cg7, hg7, _⟩ := ERow.blk h3
  refine wnil ?_
  refine bodyPost_end (v := .tuple #[]) (res0 rfl ) (by kernel_rfl) ?_
  exact ⟨_, rfl, h3, m4, (Mod.chg M6)⟩
end Go.Proofs.YtefhfoioeoijlaaGreatDoor

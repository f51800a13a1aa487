/- GMN: printed by gen.py -/
import Derived.Test.YtefhfoioeoijlaaGreatDoorEnt2
import Derived.Test.YtefhfoioeoijlaaGreatDoorOrd
set_option linter.unusedVariables false
set_option linter.unusedSimpArgs false
namespace Go.Proofs.YtefhfoioeoijlaaGreatDoor
open Go Go.RowKit Go.Sort
set_option maxHeartbeats 2000000 in
theorem insNil_at {w : World} : Calls Tryz.prog 162 #[.slice none 0 0, .int .i64 0, .int .i64 0, .func (.func 60) #[] #[]] w fun e w' => e = .returned (.tuple #[]) ∧ Up w w' := by
  go_enter Tryz.func162, Tryz.ntmps162
  refine wp_seq (rg_lit ?_)
  refine wmv (v := .int .i64 0) ?_
  refine wl (sv (w' := w) rfl (v := .int .i64 1) (by kernel_rfl) ?_)
  refine was (v := .int .i64 1) ?_
  refine wnil (then_n (wp_block ?_))
  refine lp (fun n a r1 => ∃ (z9 z12 z13 z14 z15 z16 z17 z18 z19 z20 z21 z22 z23 z24 z25 z26 z27 z28 z29 z30 z31 z32 z33 z34 z35 z36 z37 z38 z39 z40 z41 z42 z43 z44 z45 z46 z47 z48 z49 z50 z51 z52 : Value), (n = 0) ∧ (a = ⟨#[.slice none 0 0, .int .i64 0, .int .i64 0, .func (.func 60) #[] #[], undef, undef, undef, undef, .int .i64 1, z9, .int .i64 0, .int .i64 1, z12, z13, z14, z15, z16, z17, z18, z19, z20, z21, z22, z23, z24, z25, z26, z27, z28, z29, z30, z31, z32, z33, z34, z35, z36, z37, z38, z39, z40, z41, z42, z43, z44, z45, z46, z47, z48, z49, z50, z51, z52], []⟩) ∧ (Mod [] w r1)) ⟨_, undef, undef, undef, undef, undef, undef, undef, undef, undef, undef, undef, undef, undef, undef, undef, undef, undef, undef, undef, undef, undef, undef, undef, undef, undef, undef, undef, undef, undef, undef, undef, undef, undef, undef, undef, undef, undef, undef, undef, undef, undef, undef, rfl, (by kernel_rfl), Mod.refl _ _⟩ ?_
  rintro _ _ r1 ⟨z9, z12, z13, z14, z15, z16, z17, z18, z19, z20, z21, z22, z23, z24, z25, z26, z27, z28, z29, z30, z31, z32, z33, z34, z35, z36, z37, z38, z39, z40, z41, z42, z43, z44, z45, z46, z47, z48, z49, z50, z51, z52, rfl, rfl, hM1⟩
  have M1 := Mod.thin (Mod.refl [] w) hM1 (by simp)
  refine wp_seq (wp_seq (rg_lit ?_))
  refine wmv (v := .int .i64 1) ?_
  refine wmv (v := .int .i64 0) ?_
  refine wl (sv (w' := r1) rfl (v := .bool false) (by kernel_rfl) ?_)
  refine wnil (then_n ?_)
  refine wp_cond_false (by kernel_rfl) ?_
  refine wp_exit (then_x (by nofun) (then_x (by nofun) (inb_hit ?_)))
  refine bodyPost_end (v := .tuple #[]) (res0 rfl ) (by kernel_rfl) ?_
  exact ⟨rfl, (Mod.up M1)⟩
set_option maxHeartbeats 2000000 in
theorem stableNil_at {w : World} : Calls Tryz.prog 118 #[.slice none 0 0, .int .i64 0, .func (.func 60) #[] #[]] w fun e w' => e = .returned (.tuple #[]) ∧ Up w w' := by
  go_enter Tryz.func118, Tryz.ntmps118
  refine wp_seq (rg_lit ?_)
  refine was (v := .int .i64 20) ?_
  refine wnil (then_n (wp_seq (rg_lit ?_)))
  refine wmv (v := .int .i64 20) ?_
  refine was (v := .int .i64 0) ?_
  refine was (v := .int .i64 20) ?_
  refine wnil (then_n (wp_seq (wp_block ?_)))
  refine lp (fun n a r1 => ∃ (z11 z12 z13 z14 z15 z16 z17 z18 z19 z20 z21 z22 : Value), (n = 0) ∧ (a = ⟨#[.slice none 0 0, .int .i64 0, .func (.func 60) #[] #[], undef, undef, undef, .int .i64 20, .int .i64 0, .int .i64 20, undef, .int .i64 20, z11, z12, z13, z14, z15, z16, z17, z18, z19, z20, z21, z22, undef, undef, undef, undef, undef, undef, undef, undef, undef, undef, undef, undef, undef, undef, undef, undef, undef, undef, undef, undef, undef, undef, undef, undef, undef, undef, undef, undef, undef, undef, undef, undef, undef, undef, undef, undef, undef, undef, undef, undef], []⟩) ∧ (Mod [] w r1)) ⟨_, undef, undef, undef, undef, undef, undef, undef, undef, undef, undef, undef, undef, rfl, (by kernel_rfl), Mod.refl _ _⟩ ?_
  rintro _ _ r1 ⟨z11, z12, z13, z14, z15, z16, z17, z18, z19, z20, z21, z22, rfl, rfl, hM1⟩
  have M1 := Mod.thin (Mod.refl [] w) hM1 (by simp)
  refine wp_seq (wp_seq (rg_lit ?_))
  refine wmv (v := .int .i64 20) ?_
  refine wmv (v := .int .i64 0) ?_
  refine wl (sv (w' := r1) rfl (v := .bool false) (by kernel_rfl) ?_)
  refine wnil (then_n ?_)
  refine wp_cond_false (by kernel_rfl) ?_
  refine wp_exit (then_x (by nofun) (then_x (by nofun) (inb_hit (then_n (wp_seq (rg_lit ?_))))))
  refine wmv (v := .slice none 0 0) ?_
  refine wmv (v := .int .i64 0) ?_
  refine wmv (v := .int .i64 0) ?_
  refine wmv (v := .func (.func 60) #[] #[]) ?_
  refine wl (sc rfl (r_callv (caps := []) (all := [.slice none 0 0, .int .i64 0, .int .i64 0, .func (.func 60) #[] #[]]) En.f162 (by kernel_rfl) (by kernel_rfl)) (insNil_at) ?_)
  rintro e w2 ⟨rfl, u3⟩
  refine ⟨.tuple #[], rfl, ?_⟩
  have M4 := Mod.trans M1 (Mod.of_up u3)
  have M5 := Mod.trans hM1 (Mod.of_up u3)
  refine wnil (then_n (wp_block ?_))
  refine lp (fun n a r2 => ∃ (z7 z8 z9 z28 z29 z30 z31 z32 z33 z34 z35 z36 z37 z38 z39 z40 z41 z42 z43 z44 z45 z46 z47 z48 z49 z50 z51 z52 z53 z54 z55 z56 z57 z58 z59 z60 z61 z62 : Value), (n = 0) ∧ (a = ⟨#[.slice none 0 0, .int .i64 0, .func (.func 60) #[] #[], undef, undef, undef, .int .i64 20, z7, z8, z9, .int .i64 20, .int .i64 20, .int .i64 0, .bool false, z14, z15, z16, z17, z18, z19, z20, z21, z22, .slice none 0 0, .int .i64 0, .int .i64 0, .func (.func 60) #[] #[], .tuple #[], z28, z29, z30, z31, z32, z33, z34, z35, z36, z37, z38, z39, z40, z41, z42, z43, z44, z45, z46, z47, z48, z49, z50, z51, z52, z53, z54, z55, z56, z57, z58, z59, z60, z61, z62], []⟩) ∧ (Mod [] w2 r2)) ⟨_, .int .i64 0, .int .i64 20, undef, undef, undef, undef, undef, undef, undef, undef, undef, undef, undef, undef, undef, undef, undef, undef, undef, undef, undef, undef, undef, undef, undef, undef, undef, undef, undef, undef, undef, undef, undef, undef, undef, undef, undef, undef, rfl, (by kernel_rfl), Mod.refl _ _⟩ ?_
  rintro _ _ r2 ⟨z7, z8, z9, z28, z29, z30, z31, z32, z33, z34, z35, z36, z37, z38, z39, z40, z41, z42, z43, z44, z45, z46, z47, z48, z49, z50, z51, z52, z53, z54, z55, z56, z57, z58, z59, z60, z61, z62, rfl, rfl, hM2⟩
  have M6 := Mod.thin M4 hM2 (by simp)
  have M7 := Mod.thin M5 hM2 (by simp)
  refine wp_seq (wp_seq (rg_lit ?_))
  refine wmv (v := .int .i64 20) ?_
  refine wmv (v := .int .i64 0) ?_
  refine wl (sv (w' := r2) rfl (v := .bool false) (by kernel_rfl) ?_)
  refine wnil (then_n ?_)
  refine wp_cond_false (by kernel_rfl) ?_
  refine wp_exit (then_x (by nofun) (then_x (by nofun) (inb_hit ?_)))
  refine bodyPost_end (v := .tuple #[]) (res0 rfl ) (by kernel_rfl) ?_
  exact ⟨rfl, (Mod.up M6)⟩
set_option maxHeartbeats 2000000 in
theorem sortNil_at {w : World} : Calls Tryz.prog 59 #[.slice none 0 0, .func (.func 60) #[] #[]] w fun e w' => e = .returned (.tuple #[]) ∧ Up w w' := by
  go_enter Tryz.func59, Tryz.ntmps59
  refine rg_lit ?_
  refine wmv (v := .slice none 0 0) ?_
  refine wmv (v := .slice none 0 0) ?_
  refine wl (sv rfl (v := .int .i64 0) (r_len Ty.un29 (ad := none) (n := 0) (c := 0) (by kernel_rfl)) ?_)
  refine wmv (v := .func (.func 60) #[] #[]) ?_
  refine wl (sc rfl (r_callv (caps := []) (all := [.slice none 0 0, .int .i64 0, .func (.func 60) #[] #[]]) En.f118 (by kernel_rfl) (by kernel_rfl)) (stableNil_at) ?_)
  rintro e w1 ⟨rfl, u2⟩
  refine ⟨.tuple #[], rfl, ?_⟩
  have M3 := Mod.trans (Mod.refl [] w) (Mod.of_up u2)
  refine wnil ?_
  refine bodyPost_end (v := .tuple #[]) (res0 rfl ) (by kernel_rfl) ?_
  exact ⟨rfl, (Mod.up M3)⟩
end Go.Proofs.YtefhfoioeoijlaaGreatDoor

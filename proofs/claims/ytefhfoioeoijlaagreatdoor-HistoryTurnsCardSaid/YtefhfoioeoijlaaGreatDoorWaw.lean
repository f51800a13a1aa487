/- HX, Turn -/
import Derived.Test.YtefhfoioeoijlaaGreatDoorWav
set_option linter.unusedVariables false
set_option linter.unusedSimpArgs false
namespace Go.Proofs.YtefhfoioeoijlaaGreatDoor
open Go Go.RowKit Go.Sort
set_option maxHeartbeats 2000000 in
theorem versions_at {B : Nat} {w : World} {lA : Option Addr} {lc : Nat} (h : OpRow B w lA vos) (hB : B ≤ w.heap.size) :
    Calls Tryz.prog 71 #[.slice lA 3 lc, .agg #[.int .i64 1, .int .i64 1]] w fun e w' => ∃ g c, e = .returned (.slice (some ⟨g, 0, none⟩) 1 c) ∧ VGot B w' g ∧ 1 ≤ c ∧ Up w w' := by
  go_enter Tryz.func71, Tryz.ntmps71
  refine wp_seq (rg_lit ?_)
  refine wl (sn rfl (cs := #[.int .i64 1, .int .i64 1]) (T := 24) (V := fun b => .pointer (some ⟨b, 0, none⟩)) (r_box (v := .agg #[.int .i64 1, .int .i64 1]) (by kernel_rfl) rfl) ?_)
  intro b3 w1 e2 h3 u4
  have g5 : w.heap.size ≤ b3 := by rw [e2]; exact (Mod.refl [] w).size
  have M6 := Mod.trans (Mod.refl [] w) (Mod.of_up u4)
  refine wl (sn rfl (cs := #[.slice none 0 0]) (T := 112) (V := fun b => .pointer (some ⟨b, 0, none⟩)) (r_alloc Ty.zv112 rfl) ?_)
  intro b4 w7 e8 h9 u10
  have l11 : b3 < b4 := by rw [e8]; exact lt_ob h3
  have g12 : w.heap.size ≤ b4 := by rw [e8]; exact M6.size
  have M13 := Mod.trans M6 (Mod.of_up u10)
  refine wnil (then_n (wp_seq (rg_lit ?_)))
  refine wmv (v := .slice lA 3 lc) ?_
  refine wl (sv rfl (v := .func (.func 128) #[] #[.pointer (some ⟨b3, 0, none⟩), .pointer (some ⟨b4, 0, none⟩)]) (r_makeFunc (us := []) (vs := [.pointer (some ⟨b3, 0, none⟩), .pointer (some ⟨b4, 0, none⟩)]) rfl (by kernel_rfl)) ?_)
  have h14 := (OpRow.up h (Mod.up M13))
  have h15 := (up_ob u10 h3)
  have hB4 : B ≤ b4 := Nat.le_trans hB g12
  refine wl (sc rfl (r_callv (caps := []) (all := [.slice lA 3 lc, .func (.func 128) #[] #[.pointer (some ⟨b3, 0, none⟩), .pointer (some ⟨b4, 0, none⟩)]]) En.f127 (by kernel_rfl) (by kernel_rfl)) (each_at h14 (Nat.le_trans hB M13.size) h15 h9 (Nat.ne_of_lt l11) hB4) ?_)
  rintro e w16 ⟨v17, rfl, h18, u19⟩
  refine ⟨v17, rfl, ?_⟩
  obtain ⟨vg, vc, h21, h20, hvne, hvc⟩ := VOne.got h18
  have M22 := Mod.trans' M13 u19 (fun i hi => by injection hi with hi; rw [← hi]; exact g12)
  refine wnil (then_n (wp_seq (rg_lit ?_)))
  refine wl (sv rfl (v := .slice (some ⟨vg, 0, none⟩) 1 vc) (r_load (k := 0) (by kernel_rfl) Ty.ag112 h21 (by kernel_rfl)) ?_)
  refine wl (ss rfl (k := 0) (v := .slice (some ⟨vg, 0, none⟩) 1 vc) (vs := [.slice (some ⟨vg, 0, none⟩) 1 vc]) (cs' := [.slice (some ⟨vg, 0, none⟩) 1 vc]) (by kernel_rfl) (by kernel_rfl) rfl Ty.sz112 h21 rfl (Nat.le_of_ble_eq_true rfl) rfl ?_)
  intro w23 h24 c25
  have M26 := Mod.trans' M22 c25 (fun i hi => by injection hi with hi; rw [← hi]; exact g12)
  refine wnil (then_n (wp_ret ?_))
  refine bodyPost_ret (v := .slice (some ⟨vg, 0, none⟩) 1 vc) (res1 rfl (rv_c (p := ⟨b4, 0, none⟩) (by kernel_rfl) (run_loadVar1 Ty.ag112 h24 (by kernel_rfl)))) (by kernel_rfl) ?_
  have h27 := (VGot.chg h20 c25 ⟨hB4, NotU8.of h21 (by decide)⟩ hvne)
  exact ⟨vg, vc, rfl, h27, hvc, (Mod.up M26)⟩
set_option maxHeartbeats 2000000 in
theorem alive20_at {w : World} : Calls Tryz.prog 23 #[] w fun e w' => e = .returned (.bool true) ∧ Up w w' := by
  obtain ⟨B, hBe⟩ : ∃ B, B = w.heap.size := ⟨_, rfl⟩
  have hB : B ≤ w.heap.size := Nat.le_of_eq hBe
  go_enter Tryz.func23, Tryz.ntmps23
  refine wp_seq (rg_lit ?_)
  refine was (v := .bool false) ?_
  refine wnil (then_n (wp_seq (rg_lit ?_)))
  refine wl (sv rfl (v := .agg #[.int .i64 1, .int .i64 1]) (r_build (ps := [(0, .int .i64 1), (1, .int .i64 1)]) (cs := [.int .i64 1, .int .i64 1]) Ty.un24 Ty.zv24 Ty.pl24 (by kernel_rfl) (by kernel_rfl)) ?_)
  refine wl (sn rfl (cs := #[.int .i64 0, .int .i64 0]) (T := 24) (V := fun b => .pointer (some ⟨b, 0, none⟩)) (r_alloc Ty.zv24 rfl) ?_)
  intro b1 w2 e3 h4 u5
  have g6 : w.heap.size ≤ b1 := by rw [e3]; exact (Mod.refl [] w).size
  have M7 := Mod.trans (Mod.refl [] w) (Mod.of_up u5)
  refine wl (ss rfl (k := 0) (v := .agg #[.int .i64 1, .int .i64 1]) (vs := [.int .i64 1, .int .i64 1]) (cs' := [.int .i64 1, .int .i64 1]) (by kernel_rfl) (by kernel_rfl) rfl Ty.sz24 h4 rfl (Nat.le_of_ble_eq_true rfl) rfl ?_)
  intro w8 h9 c10
  have M11 := Mod.trans' M7 c10 (fun i hi => by injection hi with hi; rw [← hi]; exact g6)
  refine wnil (then_n (wp_seq (rg_lit ?_)))
  refine wl (sv rfl (v := .agg #[.int .i64 1, .int .i64 1]) (r_loads (k := 0) (by kernel_rfl) Ty.ag24 Ty.sz24 h9 (by kernel_rfl)) ?_)
  refine wl (sv rfl (v := .agg #[.int .i64 1, .int .i64 1]) (r_loads (k := 0) (by kernel_rfl) Ty.ag24 Ty.sz24 h9 (by kernel_rfl)) ?_)
  refine wl (sv rfl (v := .agg #[.int .i64 1, .int .i64 1, .int .i64 1, .int .i64 1, .int .i64 1, .int .i64 0, .int .i64 0, .bool false, .string (⟨#[97]⟩), .slice none 0 0]) (r_build (ps := [(0, .int .i64 1), (1, .agg #[.int .i64 1, .int .i64 1]), (2, .agg #[.int .i64 1, .int .i64 1]), (5, .string (⟨#[97]⟩))]) (cs := [.int .i64 1, .int .i64 1, .int .i64 1, .int .i64 1, .int .i64 1, .int .i64 0, .int .i64 0, .bool false, .string (⟨#[97]⟩), .slice none 0 0]) Ty.un49 Ty.zv49 Ty.pl49 (by kernel_rfl) (by kernel_rfl)) ?_)
  refine wl (sv rfl (v := .agg #[.int .i64 2, .int .i64 1]) (r_build (ps := [(0, .int .i64 2), (1, .int .i64 1)]) (cs := [.int .i64 2, .int .i64 1]) Ty.un24 Ty.zv24 Ty.pl24 (by kernel_rfl) (by kernel_rfl)) ?_)
  refine wl (sv rfl (v := .agg #[.int .i64 1, .int .i64 1]) (r_loads (k := 0) (by kernel_rfl) Ty.ag24 Ty.sz24 h9 (by kernel_rfl)) ?_)
  refine wl (sn rfl (cs := #[.int .u8 120]) (T := 5) (V := fun b => .slice (some ⟨b, 0, none⟩) 1 1) (r_buildSlice (n := 1) (ps := [(0, .int .u8 120)]) Ty.un40 Ty.sz5 Ty.zv5 (by decide) (by decide) (by kernel_rfl) (by kernel_rfl)) ?_)
  intro b12 w13 e14 h15 u16
  have l17 : b1 < b12 := by rw [e14]; exact lt_ob h9
  have g18 : w.heap.size ≤ b12 := by rw [e14]; exact M11.size
  have M19 := Mod.trans M11 (Mod.of_up u16)
  refine wl (sFz rfl (b := b12) (n := 1) (c := 1) (by kernel_rfl) Ty.un40 h15 ?_)
  intro w20 h21 c22
  have M23 := Mod.trans' M19 c22 (fun i hi => by injection hi with hi; rw [← hi]; exact g18)
  refine wl (sv rfl (v := .agg #[.int .i64 4, .int .i64 2, .int .i64 1, .int .i64 1, .int .i64 1, .int .i64 0, .int .i64 0, .bool false, .string (⟨#[]⟩), .slice (some ⟨b12, 0, none⟩) 1 1]) (r_build (ps := [(0, .int .i64 4), (1, .agg #[.int .i64 2, .int .i64 1]), (2, .agg #[.int .i64 1, .int .i64 1]), (6, .slice (some ⟨b12, 0, none⟩) 1 1)]) (cs := [.int .i64 4, .int .i64 2, .int .i64 1, .int .i64 1, .int .i64 1, .int .i64 0, .int .i64 0, .bool false, .string (⟨#[]⟩), .slice (some ⟨b12, 0, none⟩) 1 1]) Ty.un49 Ty.zv49 Ty.pl49 (by kernel_rfl) (by kernel_rfl)) ?_)
  refine wl (sv rfl (v := .agg #[.int .i64 3, .int .i64 1]) (r_build (ps := [(0, .int .i64 3), (1, .int .i64 1)]) (cs := [.int .i64 3, .int .i64 1]) Ty.un24 Ty.zv24 Ty.pl24 (by kernel_rfl) (by kernel_rfl)) ?_)
  have h24 := (chg_ob c22 (Nat.ne_of_lt l17) (up_ob u16 h9))
  refine wl (sv rfl (v := .agg #[.int .i64 1, .int .i64 1]) (r_loads (k := 0) (by kernel_rfl) Ty.ag24 Ty.sz24 h24 (by kernel_rfl)) ?_)
  refine wl (sv rfl (v := .agg #[.int .i64 2, .int .i64 3, .int .i64 1, .int .i64 1, .int .i64 1, .int .i64 0, .int .i64 0, .bool false, .string (⟨#[98]⟩), .slice none 0 0]) (r_build (ps := [(0, .int .i64 2), (1, .agg #[.int .i64 3, .int .i64 1]), (2, .agg #[.int .i64 1, .int .i64 1]), (5, .string (⟨#[98]⟩))]) (cs := [.int .i64 2, .int .i64 3, .int .i64 1, .int .i64 1, .int .i64 1, .int .i64 0, .int .i64 0, .bool false, .string (⟨#[98]⟩), .slice none 0 0]) Ty.un49 Ty.zv49 Ty.pl49 (by kernel_rfl) (by kernel_rfl)) ?_)
  refine wl (sn rfl (cs := #[.int .i64 1, .int .i64 1, .int .i64 1, .int .i64 1, .int .i64 1, .int .i64 0, .int .i64 0, .bool false, .string (⟨#[97]⟩), .slice none 0 0, .int .i64 4, .int .i64 2, .int .i64 1, .int .i64 1, .int .i64 1, .int .i64 0, .int .i64 0, .bool false, .string (⟨#[]⟩), .slice (some ⟨b12, 0, none⟩) 1 1, .int .i64 2, .int .i64 3, .int .i64 1, .int .i64 1, .int .i64 1, .int .i64 0, .int .i64 0, .bool false, .string (⟨#[98]⟩), .slice none 0 0]) (T := 49) (V := fun b => .slice (some ⟨b, 0, none⟩) 3 3) (r_buildSlice (n := 3) (ps := [(0, .agg #[.int .i64 1, .int .i64 1, .int .i64 1, .int .i64 1, .int .i64 1, .int .i64 0, .int .i64 0, .bool false, .string (⟨#[97]⟩), .slice none 0 0]), (1, .agg #[.int .i64 4, .int .i64 2, .int .i64 1, .int .i64 1, .int .i64 1, .int .i64 0, .int .i64 0, .bool false, .string (⟨#[]⟩), .slice (some ⟨b12, 0, none⟩) 1 1]), (2, .agg #[.int .i64 2, .int .i64 3, .int .i64 1, .int .i64 1, .int .i64 1, .int .i64 0, .int .i64 0, .bool false, .string (⟨#[98]⟩), .slice none 0 0])]) Ty.un22 Ty.sz49 Ty.zv49 (by decide) (by decide) (by kernel_rfl) (by kernel_rfl)) ?_)
  intro b25 w26 e27 h28 u29
  have l30 : b1 < b25 := by rw [e27]; exact lt_ob h24
  have l31 : b12 < b25 := by rw [e27]; exact lt_ob h21
  have g32 : w.heap.size ≤ b25 := by rw [e27]; exact M23.size
  have M33 := Mod.trans M23 (Mod.of_up u29)
  have h34 := (up_ob u29 h21)
  have h35 : OpRow B w26 (some ⟨b25, 0, none⟩) vos := three_row h28 (lit_dat h34)
  refine was (v := .slice (some ⟨b25, 0, none⟩) 3 3) ?_
  refine wnil (then_n (wp_seq (rg_lit ?_)))
  refine wmv (v := .slice (some ⟨b25, 0, none⟩) 3 3) ?_
  have h36 := (up_ob u29 h24)
  refine wl (sv rfl (v := .agg #[.int .i64 1, .int .i64 1]) (r_loads (k := 0) (by kernel_rfl) Ty.ag24 Ty.sz24 h36 (by kernel_rfl)) ?_)
  refine wl (sc rfl (r_callv (caps := []) (all := [.slice (some ⟨b25, 0, none⟩) 3 3, .agg #[.int .i64 1, .int .i64 1]]) En.f71 (by kernel_rfl) (by kernel_rfl)) (versions_at h35 (Nat.le_trans hB M33.size)) ?_)
  rintro e w37 ⟨vg, vc, rfl, h38, h39, u40⟩
  refine ⟨.slice (some ⟨vg, 0, none⟩) 1 vc, rfl, ?_⟩
  have M41 := Mod.trans M33 (Mod.of_up u40)
  have hvk := h38
  obtain ⟨_, _, _, ⟨vcs, hvgb⟩, _⟩ := hvk
  refine was (v := .slice (some ⟨vg, 0, none⟩) 1 vc) ?_
  refine wnil (then_n (wp_seq ?_))
  refine rg_held [] (n := 10) (by kernel_rfl) rfl ?_
  intro w42 u43
  have M44 := Mod.trans M41 (Mod.of_up u43)
  refine hvq (i := 0) (fuel := 9) rfl (fun _ _ _ h => h) (Mod.refl _ _) rfl (v := .slice (some ⟨b25, 0, none⟩) 3 3) (fun _ _ => r_move (by kernel_rfl)) ?_
  have h45 := (up_ob u43 (up_ob u40 h36))
  refine hvq (i := 2) (fuel := 8) rfl (fun _ _ _ h => h) (Mod.refl _ _) rfl (v := .agg #[.int .i64 1, .int .i64 1]) (fun _ uz => r_loads (k := 0) (by kernel_rfl) Ty.ag24 Ty.sz24 (md_ob uz nin0 h45) (by kernel_rfl)) ?_
  refine h2 (i := 1) (j := 7) (fuel := 7) (by kernel_rfl) rfl rfl ?_ ?_
  ·
   have h46 := (OpRow.up h35 (up_up u40 u43))
   refine sc rfl (r_callv (caps := []) (all := [.slice (some ⟨b25, 0, none⟩) 3 3, .int .i64 2]) En.f72 (by kernel_rfl) (by kernel_rfl)) (asOf_at h46 (Nat.le_trans hB M44.size)) ?_
   rintro e w47 ⟨ta, ra, rfl, h48, u49⟩
   refine ⟨.pointer (some ⟨ta, 0, none⟩), rfl, ?_⟩
   have M50 := Mod.trans M44 (Mod.of_up u49)
   refine hx (Y := []) (Mod.of_up u49) (fun y hy => .inl hy) ?_
   refine h2 (i := 3) (j := 7) (fuel := 6) (by kernel_rfl) rfl rfl ?_ ?_
   ·
    refine sc rfl (r_callv (caps := []) (all := [.pointer (some ⟨ta, 0, none⟩), .agg #[.int .i64 1, .int .i64 1]]) En.f20 (by kernel_rfl) (by kernel_rfl)) (get_x h48 ⟨1, 1⟩ (x := (gotI (buildI [vo1, vo2]) ⟨1, 1⟩)) (b := true) rfl v_has) ?_
    rintro e w51 ⟨A52, n53, c54, rfl, h55, u56⟩
    refine ⟨.tuple #[itV (gotI (buildI [vo1, vo2]) ⟨1, 1⟩) (.slice A52 n53 c54), .bool true], rfl, ?_⟩
    have M57 := Mod.trans M50 (Mod.of_up u56)
    refine hx (Y := []) (Mod.of_up u56) (fun y hy => .inl hy) ?_
    refine hvq (i := 4) (fuel := 5) rfl (fun _ _ _ h => h) (Mod.refl _ _) rfl (v := .tuple #[itV (gotI (buildI [vo1, vo2]) ⟨1, 1⟩) (.slice A52 n53 c54), .bool true]) (fun _ _ => r_move (by kernel_rfl)) ?_
    refine hvq (i := 5) (fuel := 4) rfl (fun _ _ _ h => h) (Mod.refl _ _) rfl (v := itV (gotI (buildI [vo1, vo2]) ⟨1, 1⟩) (.slice A52 n53 c54)) (fun _ _ => r_extract (vs := [itV (gotI (buildI [vo1, vo2]) ⟨1, 1⟩) (.slice A52 n53 c54), .bool true]) (by kernel_rfl) rfl) ?_
    refine hvq (i := 6) (fuel := 3) rfl (fun _ _ _ h => h) (Mod.refl _ _) rfl (v := .bool true) (fun _ _ => r_extract (vs := [itV (gotI (buildI [vo1, vo2]) ⟨1, 1⟩) (.slice A52 n53 c54), .bool true]) (by kernel_rfl) rfl) ?_
    refine h1 (i := 7) (fuel := 2) (by kernel_rfl) rfl (sn rfl (cs := #[.int .i64 0, .int .i64 0, .int .i64 0, .int .i64 0, .string (⟨#[]⟩), .bool false, .bool false, .slice none 0 0, .int .i64 0, .int .i64 0]) (T := 42) (V := fun b => .pointer (some ⟨b, 0, none⟩)) (r_alloc Ty.zv42 rfl) ?_)
    intro b58 w59 e60 h61 u62
    have h63 := (up_ob u56 (up_ob u49 h45))
    have l64 : b1 < b58 := by rw [e60]; exact lt_ob h63
    have h65 := (up_ob u56 (up_ob u49 (up_ob u43 (up_ob u40 h34))))
    have l66 : b12 < b58 := by rw [e60]; exact lt_ob h65
    have h67 := (up_ob u56 (up_ob u49 (up_ob u43 (up_ob u40 h28))))
    have l68 : b25 < b58 := by rw [e60]; exact lt_ob h67
    have h69 := (up_ob u56 (up_ob u49 (up_ob u43 hvgb)))
    have l70 : vg < b58 := by rw [e60]; exact lt_ob h69
    have g71 : w.heap.size ≤ b58 := by rw [e60]; exact M57.size
    have M72 := Mod.trans M57 (Mod.of_up u62)
    refine hx (Y := [b58]) (Mod.of_up u62) (ynew e60) ?_
    refine h1 (i := 8) (fuel := 1) (by kernel_rfl) rfl (ss rfl (k := 0) (v := itV (gotI (buildI [vo1, vo2]) ⟨1, 1⟩) (.slice A52 n53 c54)) (vs := (itC (gotI (buildI [vo1, vo2]) ⟨1, 1⟩) (.slice A52 n53 c54))) (cs' := (itC (gotI (buildI [vo1, vo2]) ⟨1, 1⟩) (.slice A52 n53 c54))) (by kernel_rfl) (by kernel_rfl) rfl Ty.sz42 h61 rfl (Nat.le_of_ble_eq_true rfl) rfl ?_)
    intro w73 h74 c75
    have M76 := Mod.trans' M72 c75 (fun i hi => by injection hi with hi; rw [← hi]; exact g71)
    refine hx (Y := [b58]) (Mod.of_chg c75 (by simp)) (fun y hy => .inl hy) ?_
    refine hvq (i := 9) (fuel := 0) rfl (fun _ _ _ h => h) (Mod.refl _ _) rfl (v := .bool true) (fun _ _ => r_assign (by kernel_rfl)) ?_
    refine hend (by kernel_rfl) ?_
    refine then_n (wp_seq (rg_lit ?_))
    refine wmv (v := .slice (some ⟨vg, 0, none⟩) 1 vc) ?_
    refine wl (sv rfl (v := .int .i64 1) (r_len Ty.un112 (ad := (some ⟨vg, 0, none⟩)) (n := 1) (c := vc) (by kernel_rfl)) ?_)
    refine wl (sv (w' := w73) rfl (v := .bool true) (by kernel_rfl) ?_)
    refine wmv (v := .bool true) ?_
    refine wl (sv (by kernel_rfl) (v := .slice (some ⟨vg, 0, none⟩) 1 vc) (r_move (by kernel_rfl)) ?_)
    have h77 := (VGot.up h38 (up_chgn (up_up (up_up (up_up u43 u49) u56) u62) c75 (by rw [e60]; exact (up_up (up_up u43 u49) u56).size)))
    obtain ⟨vA78, vn78, vd78, ⟨vs78, hv78⟩, hw78, hx78⟩ := h77
    refine wl (sv (by kernel_rfl) (v := .pointer (some ⟨vg, 0, none⟩)) (r_ixaddr' (A := (some ⟨vg, 0, none⟩)) (b := vg) (o := 0) (n := 1) (c := vc) (sz := 3) (j := 0) (m := 0) (by kernel_rfl) rfl (by kernel_rfl) Ty.un112 Ty.sz116 (by omega) (by omega) (by simp)) ?_)
    refine wl (sv (by kernel_rfl) (v := .pointer (some ⟨vg, 0 + 2, none⟩)) (r_fieldAddr (u := .pointer (some ⟨vg, 0, none⟩)) (by kernel_rfl) (fun _ => (by kernel_rfl))) ?_)
    refine wl (sv (by kernel_rfl) (v := .slice vA78 vn78 vd78) (r_loadc (by kernel_rfl) Ty.ag40 hw78) ?_)
    refine wl (sv (by kernel_rfl) (v := .string (⟨#[120]⟩)) (r_convD (xs := [120]) (s := ⟨#[120]⟩) (by kernel_rfl) hx78 (by decide) rfl Ty.un40 Ty.un9) ?_)
    refine wl (sb (by kernel_rfl) (r_eqs (m := (⟨#[120]⟩)) (n := (⟨#[120]⟩)) (by kernel_rfl) (by kernel_rfl)) ?_)
    intro b79 k80
    refine wl (sv rfl (v := .bool b79) (r_pkT (by kernel_rfl) (by kernel_rfl)) ?_)
    refine wmv (v := .bool b79) ?_
    refine bcase b79 (fun v81 => ?_) (fun v81 => ?_)
    ·
     have p82 := of_decide_eq_false (k80.trans v81)
     exact absurd rfl p82
    have p82 := of_decide_eq_true (k80.trans v81)
    refine wl (sv (wt (b := b79) rfl (by kernel_rfl) v81) (v := .bool true) (r_move (by kernel_rfl)) ?_)
    refine wl (sv rfl (v := .bool true) (r_pkT (ebool (b := b79) (by kernel_rfl) v81) (by kernel_rfl)) ?_)
    refine wmv (v := .bool true) ?_
    refine wl (sv (by kernel_rfl) (v := .pointer (some ⟨b58, 4, none⟩)) (r_fieldAddr (u := .pointer (some ⟨b58, 0, none⟩)) (by kernel_rfl) (fun _ => (by kernel_rfl))) ?_)
    refine wl (sv (by kernel_rfl) (v := .string ((gotI (buildI [vo1, vo2]) ⟨1, 1⟩).name)) (r_load (k := 4) (by kernel_rfl) Ty.ag9 h74 (by kernel_rfl)) ?_)
    refine wl (sb (by kernel_rfl) (r_eqs (m := ((gotI (buildI [vo1, vo2]) ⟨1, 1⟩).name)) (n := (⟨#[97]⟩)) (by kernel_rfl) (by kernel_rfl)) ?_)
    intro b83 k84
    refine wl (sv rfl (v := .bool b83) (r_pkT (by kernel_rfl) (by kernel_rfl)) ?_)
    refine wmv (v := .bool b83) ?_
    refine bcase b83 (fun v85 => ?_) (fun v85 => ?_)
    ·
     have p86 := of_decide_eq_false (k84.trans v85)
     exact absurd v_name p86
    have p86 := of_decide_eq_true (k84.trans v85)
    refine wl (sv (wt (b := b83) rfl (by kernel_rfl) v85) (v := .slice (some ⟨b25, 0, none⟩) 3 3) (r_move (by kernel_rfl)) ?_)
    have h87 := (OpRow.up h46 (up_chgn (up_up (up_up u49 u56) u62) c75 (by rw [e60]; exact (up_up u49 u56).size)))
    refine wl (sc (wt (b := b83) rfl (by kernel_rfl) v85) (r_callv (caps := []) (all := [.slice (some ⟨b25, 0, none⟩) 3 3]) En.f15 (by kernel_rfl) (by kernel_rfl)) (build_at (os := vos) h87 (Nat.le_trans hB M76.size) (by decide)) ?_)
    rintro e w88 ⟨tz, rz, rfl, h89, u90, z91, z92⟩
    refine ⟨.pointer (some ⟨tz, 0, none⟩), rfl, ?_⟩
    have M93 := Mod.trans M76 (Mod.of_up u90)
    refine wl (sc (wt (b := b83) rfl (by kernel_rfl) v85) (r_callv (caps := []) (all := [.pointer (some ⟨tz, 0, none⟩)]) En.f29 (by kernel_rfl) (by kernel_rfl)) (bytes20_at (OT.of h89) (Nat.le_trans hB M93.size) (fit_build vos)) ?_)
    rintro e w94 ⟨rfl, u95⟩
    refine ⟨.int .i64 ((bytesI (buildI vos) (buildI vos) : Nat) : Int), rfl, ?_⟩
    have M96 := Mod.trans M93 (Mod.of_up u95)
    refine wl (sb (wt (b := b83) rfl (by kernel_rfl) v85) (r_eq (k := .i64) (m := ((bytesI (buildI vos) (buildI vos) : Nat) : Int)) (n := 1) (by kernel_rfl) (by kernel_rfl)) ?_)
    intro b97 k98
    refine wl (sv rfl (v := .bool b97) (r_pkT (ebool (b := b83) (by kernel_rfl) v85) (by kernel_rfl)) ?_)
    refine was (v := .bool b97) ?_
    refine wnil (then_n (wp_ret ?_))
    refine bodyPost_ret (v := .bool b97) (res1 rfl (rv_t (by kernel_rfl))) (by kernel_rfl) ?_
    exact ⟨ret_bool (k98.symm.trans (decide_eq_true v_bytes)), (Mod.up M96)⟩
   ·
    refine sn rfl (cs := #[.int .i64 0, .int .i64 0, .int .i64 0, .int .i64 0, .string (⟨#[]⟩), .bool false, .bool false, .slice none 0 0, .int .i64 0, .int .i64 0]) (T := 42) (V := fun b => .pointer (some ⟨b, 0, none⟩)) (r_alloc Ty.zv42 rfl) ?_
    intro b51 w52 e53 h54 u55
    have h56 := (up_ob u49 h45)
    have l57 : b1 < b51 := by rw [e53]; exact lt_ob h56
    have h58 := (up_ob u49 (up_ob u43 (up_ob u40 h34)))
    have l59 : b12 < b51 := by rw [e53]; exact lt_ob h58
    have h60 := (up_ob u49 (up_ob u43 (up_ob u40 h28)))
    have l61 : b25 < b51 := by rw [e53]; exact lt_ob h60
    have h62 := (up_ob u49 (up_ob u43 hvgb))
    have l63 : vg < b51 := by rw [e53]; exact lt_ob h62
    have g64 : w.heap.size ≤ b51 := by rw [e53]; exact M50.size
    have M65 := Mod.trans M50 (Mod.of_up u55)
    refine hx (Y := [b51]) (Mod.of_up u55) (ynew e53) ?_
    have h66 := (TreeIs.up h48 u55)
    refine h1 (i := 3) (fuel := 5) (by kernel_rfl) rfl (sc rfl (r_callv (caps := []) (all := [.pointer (some ⟨ta, 0, none⟩), .agg #[.int .i64 1, .int .i64 1]]) En.f20 (by kernel_rfl) (by kernel_rfl)) (get_x h66 ⟨1, 1⟩ (x := (gotI (buildI [vo1, vo2]) ⟨1, 1⟩)) (b := true) rfl v_has) ?_)
    rintro e w67 ⟨A68, n69, c70, rfl, h71, u72⟩
    refine ⟨.tuple #[itV (gotI (buildI [vo1, vo2]) ⟨1, 1⟩) (.slice A68 n69 c70), .bool true], rfl, ?_⟩
    have M73 := Mod.trans M65 (Mod.of_up u72)
    refine hx (Y := [b51]) (Mod.of_up u72) (fun y hy => .inl hy) ?_
    refine hvq (i := 4) (fuel := 4) rfl (fun _ _ _ h => h) (Mod.refl _ _) rfl (v := .tuple #[itV (gotI (buildI [vo1, vo2]) ⟨1, 1⟩) (.slice A68 n69 c70), .bool true]) (fun _ _ => r_move (by kernel_rfl)) ?_
    refine hvq (i := 5) (fuel := 3) rfl (fun _ _ _ h => h) (Mod.refl _ _) rfl (v := itV (gotI (buildI [vo1, vo2]) ⟨1, 1⟩) (.slice A68 n69 c70)) (fun _ _ => r_extract (vs := [itV (gotI (buildI [vo1, vo2]) ⟨1, 1⟩) (.slice A68 n69 c70), .bool true]) (by kernel_rfl) rfl) ?_
    refine hvq (i := 6) (fuel := 2) rfl (fun _ _ _ h => h) (Mod.refl _ _) rfl (v := .bool true) (fun _ _ => r_extract (vs := [itV (gotI (buildI [vo1, vo2]) ⟨1, 1⟩) (.slice A68 n69 c70), .bool true]) (by kernel_rfl) rfl) ?_
    have h74 := (up_ob u72 h54)
    refine h1 (i := 8) (fuel := 1) (by kernel_rfl) rfl (ss rfl (k := 0) (v := itV (gotI (buildI [vo1, vo2]) ⟨1, 1⟩) (.slice A68 n69 c70)) (vs := (itC (gotI (buildI [vo1, vo2]) ⟨1, 1⟩) (.slice A68 n69 c70))) (cs' := (itC (gotI (buildI [vo1, vo2]) ⟨1, 1⟩) (.slice A68 n69 c70))) (by kernel_rfl) (by kernel_rfl) rfl Ty.sz42 h74 rfl (Nat.le_of_ble_eq_true rfl) rfl ?_)
    intro w75 h76 c77
    have M78 := Mod.trans' M73 c77 (fun i hi => by injection hi with hi; rw [← hi]; exact g64)
    refine hx (Y := [b51]) (Mod.of_chg c77 (by simp)) (fun y hy => .inl hy) ?_
    refine hvq (i := 9) (fuel := 0) rfl (fun _ _ _ h => h) (Mod.refl _ _) rfl (v := .bool true) (fun _ _ => r_assign (by kernel_rfl)) ?_
    refine hend (by kernel_rfl) ?_
    refine then_n (wp_seq (rg_lit ?_))
    refine wmv (v := .slice (some ⟨vg, 0, none⟩) 1 vc) ?_
    refine wl (sv rfl (v := .int .i64 1) (r_len Ty.un112 (ad := (some ⟨vg, 0, none⟩)) (n := 1) (c := vc) (by kernel_rfl)) ?_)
    refine wl (sv (w' := w75) rfl (v := .bool true) (by kernel_rfl) ?_)
    refine wmv (v := .bool true) ?_
    refine wl (sv (by kernel_rfl) (v := .slice (some ⟨vg, 0, none⟩) 1 vc) (r_move (by kernel_rfl)) ?_)
    have h79 := (VGot.up h38 (up_chgn (up_up (up_up (up_up u43 u49) u55) u72) c77 (by rw [e53]; exact (up_up u43 u49).size)))
    obtain ⟨vA80, vn80, vd80, ⟨vs80, hv80⟩, hw80, hx80⟩ := h79
    refine wl (sv (by kernel_rfl) (v := .pointer (some ⟨vg, 0, none⟩)) (r_ixaddr' (A := (some ⟨vg, 0, none⟩)) (b := vg) (o := 0) (n := 1) (c := vc) (sz := 3) (j := 0) (m := 0) (by kernel_rfl) rfl (by kernel_rfl) Ty.un112 Ty.sz116 (by omega) (by omega) (by simp)) ?_)
    refine wl (sv (by kernel_rfl) (v := .pointer (some ⟨vg, 0 + 2, none⟩)) (r_fieldAddr (u := .pointer (some ⟨vg, 0, none⟩)) (by kernel_rfl) (fun _ => (by kernel_rfl))) ?_)
    refine wl (sv (by kernel_rfl) (v := .slice vA80 vn80 vd80) (r_loadc (by kernel_rfl) Ty.ag40 hw80) ?_)
    refine wl (sv (by kernel_rfl) (v := .string (⟨#[120]⟩)) (r_convD (xs := [120]) (s := ⟨#[120]⟩) (by kernel_rfl) hx80 (by decide) rfl Ty.un40 Ty.un9) ?_)
    refine wl (sb (by kernel_rfl) (r_eqs (m := (⟨#[120]⟩)) (n := (⟨#[120]⟩)) (by kernel_rfl) (by kernel_rfl)) ?_)
    intro b81 k82
    refine wl (sv rfl (v := .bool b81) (r_pkT (by kernel_rfl) (by kernel_rfl)) ?_)
    refine wmv (v := .bool b81) ?_
    refine bcase b81 (fun v83 => ?_) (fun v83 => ?_)
    ·
     have p84 := of_decide_eq_false (k82.trans v83)
     exact absurd rfl p84
    have p84 := of_decide_eq_true (k82.trans v83)
    refine wl (sv (wt (b := b81) rfl (by kernel_rfl) v83) (v := .bool true) (r_move (by kernel_rfl)) ?_)
    refine wl (sv rfl (v := .bool true) (r_pkT (ebool (b := b81) (by kernel_rfl) v83) (by kernel_rfl)) ?_)
    refine wmv (v := .bool true) ?_
    refine wl (sv (by kernel_rfl) (v := .pointer (some ⟨b51, 4, none⟩)) (r_fieldAddr (u := .pointer (some ⟨b51, 0, none⟩)) (by kernel_rfl) (fun _ => (by kernel_rfl))) ?_)
    refine wl (sv (by kernel_rfl) (v := .string ((gotI (buildI [vo1, vo2]) ⟨1, 1⟩).name)) (r_load (k := 4) (by kernel_rfl) Ty.ag9 h76 (by kernel_rfl)) ?_)
    refine wl (sb (by kernel_rfl) (r_eqs (m := ((gotI (buildI [vo1, vo2]) ⟨1, 1⟩).name)) (n := (⟨#[97]⟩)) (by kernel_rfl) (by kernel_rfl)) ?_)
    intro b85 k86
    refine wl (sv rfl (v := .bool b85) (r_pkT (by kernel_rfl) (by kernel_rfl)) ?_)
    refine wmv (v := .bool b85) ?_
    refine bcase b85 (fun v87 => ?_) (fun v87 => ?_)
    ·
     have p88 := of_decide_eq_false (k86.trans v87)
     exact absurd v_name p88
    have p88 := of_decide_eq_true (k86.trans v87)
    refine wl (sv (wt (b := b85) rfl (by kernel_rfl) v87) (v := .slice (some ⟨b25, 0, none⟩) 3 3) (r_move (by kernel_rfl)) ?_)
    have h89 := (OpRow.up h46 (up_chgn (up_up (up_up u49 u55) u72) c77 (by rw [e53]; exact u49.size)))
    refine wl (sc (wt (b := b85) rfl (by kernel_rfl) v87) (r_callv (caps := []) (all := [.slice (some ⟨b25, 0, none⟩) 3 3]) En.f15 (by kernel_rfl) (by kernel_rfl)) (build_at (os := vos) h89 (Nat.le_trans hB M78.size) (by decide)) ?_)
    rintro e w90 ⟨tz, rz, rfl, h91, u92, z93, z94⟩
    refine ⟨.pointer (some ⟨tz, 0, none⟩), rfl, ?_⟩
    have M95 := Mod.trans M78 (Mod.of_up u92)
    refine wl (sc (wt (b := b85) rfl (by kernel_rfl) v87) (r_callv (caps := []) (all := [.pointer (some ⟨tz, 0, none⟩)]) En.f29 (by kernel_rfl) (by kernel_rfl)) (bytes20_at (OT.of h91) (Nat.le_trans hB M95.size) (fit_build vos)) ?_)
    rintro e w96 ⟨rfl, u97⟩
    refine ⟨.int .i64 ((bytesI (buildI vos) (buildI vos) : Nat) : Int), rfl, ?_⟩
    have M98 := Mod.trans M95 (Mod.of_up u97)
    refine wl (sb (wt (b := b85) rfl (by kernel_rfl) v87) (r_eq (k := .i64) (m := ((bytesI (buildI vos) (buildI vos) : Nat) : Int)) (n := 1) (by kernel_rfl) (by kernel_rfl)) ?_)
    intro b99 k100
    refine wl (sv rfl (v := .bool b99) (r_pkT (ebool (b := b85) (by kernel_rfl) v87) (by kernel_rfl)) ?_)
    refine was (v := .bool b99) ?_
    refine wnil (then_n (wp_ret ?_))
    refine bodyPost_ret (v := .bool b99) (res1 rfl (rv_t (by kernel_rfl))) (by kernel_rfl) ?_
    exact ⟨ret_bool (k100.symm.trans (decide_eq_true v_bytes)), (Mod.up M98)⟩
  ·
   refine sn rfl (cs := #[.int .i64 0, .int .i64 0, .int .i64 0, .int .i64 0, .string (⟨#[]⟩), .bool false, .bool false, .slice none 0 0, .int .i64 0, .int .i64 0]) (T := 42) (V := fun b => .pointer (some ⟨b, 0, none⟩)) (r_alloc Ty.zv42 rfl) ?_
   intro b46 w47 e48 h49 u50
   have l51 : b1 < b46 := by rw [e48]; exact lt_ob h45
   have h52 := (up_ob u43 (up_ob u40 h34))
   have l53 : b12 < b46 := by rw [e48]; exact lt_ob h52
   have h54 := (up_ob u43 (up_ob u40 h28))
   have l55 : b25 < b46 := by rw [e48]; exact lt_ob h54
   have h56 := (up_ob u43 hvgb)
   have l57 : vg < b46 := by rw [e48]; exact lt_ob h56
   have g58 : w.heap.size ≤ b46 := by rw [e48]; exact M44.size
   have M59 := Mod.trans M44 (Mod.of_up u50)
   refine hx (Y := [b46]) (Mod.of_up u50) (ynew e48) ?_
   have h60 := (OpRow.up h35 (up_up (up_up u40 u43) u50))
   refine h1 (i := 1) (fuel := 6) (by kernel_rfl) rfl (sc rfl (r_callv (caps := []) (all := [.slice (some ⟨b25, 0, none⟩) 3 3, .int .i64 2]) En.f72 (by kernel_rfl) (by kernel_rfl)) (asOf_at h60 (Nat.le_trans hB M59.size)) ?_)
   rintro e w61 ⟨ta, ra, rfl, h62, u63⟩
   refine ⟨.pointer (some ⟨ta, 0, none⟩), rfl, ?_⟩
   have M64 := Mod.trans M59 (Mod.of_up u63)
   refine hx (Y := [b46]) (Mod.of_up u63) (fun y hy => .inl hy) ?_
   refine h1 (i := 3) (fuel := 5) (by kernel_rfl) rfl (sc rfl (r_callv (caps := []) (all := [.pointer (some ⟨ta, 0, none⟩), .agg #[.int .i64 1, .int .i64 1]]) En.f20 (by kernel_rfl) (by kernel_rfl)) (get_x h62 ⟨1, 1⟩ (x := (gotI (buildI [vo1, vo2]) ⟨1, 1⟩)) (b := true) rfl v_has) ?_)
   rintro e w65 ⟨A66, n67, c68, rfl, h69, u70⟩
   refine ⟨.tuple #[itV (gotI (buildI [vo1, vo2]) ⟨1, 1⟩) (.slice A66 n67 c68), .bool true], rfl, ?_⟩
   have M71 := Mod.trans M64 (Mod.of_up u70)
   refine hx (Y := [b46]) (Mod.of_up u70) (fun y hy => .inl hy) ?_
   refine hvq (i := 4) (fuel := 4) rfl (fun _ _ _ h => h) (Mod.refl _ _) rfl (v := .tuple #[itV (gotI (buildI [vo1, vo2]) ⟨1, 1⟩) (.slice A66 n67 c68), .bool true]) (fun _ _ => r_move (by kernel_rfl)) ?_
   refine hvq (i := 5) (fuel := 3) rfl (fun _ _ _ h => h) (Mod.refl _ _) rfl (v := itV (gotI (buildI [vo1, vo2]) ⟨1, 1⟩) (.slice A66 n67 c68)) (fun _ _ => r_extract (vs := [itV (gotI (buildI [vo1, vo2]) ⟨1, 1⟩) (.slice A66 n67 c68), .bool true]) (by kernel_rfl) rfl) ?_
   refine hvq (i := 6) (fuel := 2) rfl (fun _ _ _ h => h) (Mod.refl _ _) rfl (v := .bool true) (fun _ _ => r_extract (vs := [itV (gotI (buildI [vo1, vo2]) ⟨1, 1⟩) (.slice A66 n67 c68), .bool true]) (by kernel_rfl) rfl) ?_
   have h72 := (up_ob u70 (up_ob u63 h49))
   refine h1 (i := 8) (fuel := 1) (by kernel_rfl) rfl (ss rfl (k := 0) (v := itV (gotI (buildI [vo1, vo2]) ⟨1, 1⟩) (.slice A66 n67 c68)) (vs := (itC (gotI (buildI [vo1, vo2]) ⟨1, 1⟩) (.slice A66 n67 c68))) (cs' := (itC (gotI (buildI [vo1, vo2]) ⟨1, 1⟩) (.slice A66 n67 c68))) (by kernel_rfl) (by kernel_rfl) rfl Ty.sz42 h72 rfl (Nat.le_of_ble_eq_true rfl) rfl ?_)
   intro w73 h74 c75
   have M76 := Mod.trans' M71 c75 (fun i hi => by injection hi with hi; rw [← hi]; exact g58)
   refine hx (Y := [b46]) (Mod.of_chg c75 (by simp)) (fun y hy => .inl hy) ?_
   refine hvq (i := 9) (fuel := 0) rfl (fun _ _ _ h => h) (Mod.refl _ _) rfl (v := .bool true) (fun _ _ => r_assign (by kernel_rfl)) ?_
   refine hend (by kernel_rfl) ?_
   refine then_n (wp_seq (rg_lit ?_))
   refine wmv (v := .slice (some ⟨vg, 0, none⟩) 1 vc) ?_
   refine wl (sv rfl (v := .int .i64 1) (r_len Ty.un112 (ad := (some ⟨vg, 0, none⟩)) (n := 1) (c := vc) (by kernel_rfl)) ?_)
   refine wl (sv (w' := w73) rfl (v := .bool true) (by kernel_rfl) ?_)
   refine wmv (v := .bool true) ?_
   refine wl (sv (by kernel_rfl) (v := .slice (some ⟨vg, 0, none⟩) 1 vc) (r_move (by kernel_rfl)) ?_)
   have h77 := (VGot.up h38 (up_chgn (up_up (up_up (up_up u43 u50) u63) u70) c75 (by rw [e48]; exact u43.size)))
   obtain ⟨vA78, vn78, vd78, ⟨vs78, hv78⟩, hw78, hx78⟩ := h77
   refine wl (sv (by kernel_rfl) (v := .pointer (some ⟨vg, 0, none⟩)) (r_ixaddr' (A := (some ⟨vg, 0, none⟩)) (b := vg) (o := 0) (n := 1) (c := vc) (sz := 3) (j := 0) (m := 0) (by kernel_rfl) rfl (by kernel_rfl) Ty.un112 Ty.sz116 (by omega) (by omega) (by simp)) ?_)
   refine wl (sv (by kernel_rfl) (v := .pointer (some ⟨vg, 0 + 2, none⟩)) (r_fieldAddr (u := .pointer (some ⟨vg, 0, none⟩)) (by kernel_rfl) (fun _ => (by kernel_rfl))) ?_)
   refine wl (sv (by kernel_rfl) (v := .slice vA78 vn78 vd78) (r_loadc (by kernel_rfl) Ty.ag40 hw78) ?_)
   refine wl (sv (by kernel_rfl) (v := .string (⟨#[120]⟩)) (r_convD (xs := [120]) (s := ⟨#[120]⟩) (by kernel_rfl) hx78 (by decide) rfl Ty.un40 Ty.un9) ?_)
   refine wl (sb (by kernel_rfl) (r_eqs (m := (⟨#[120]⟩)) (n := (⟨#[120]⟩)) (by kernel_rfl) (by kernel_rfl)) ?_)
   intro b79 k80
   refine wl (sv rfl (v := .bool b79) (r_pkT (by kernel_rfl) (by kernel_rfl)) ?_)
   refine wmv (v := .bool b79) ?_
   refine bcase b79 (fun v81 => ?_) (fun v81 => ?_)
   ·
    have p82 := of_decide_eq_false (k80.trans v81)
    exact absurd rfl p82
   have p82 := of_decide_eq_true (k80.trans v81)
   refine wl (sv (wt (b := b79) rfl (by kernel_rfl) v81) (v := .bool true) (r_move (by kernel_rfl)) ?_)
   refine wl (sv rfl (v := .bool true) (r_pkT (ebool (b := b79) (by kernel_rfl) v81) (by kernel_rfl)) ?_)
   refine wmv (v := .bool true) ?_
   refine wl (sv (by kernel_rfl) (v := .pointer (some ⟨b46, 4, none⟩)) (r_fieldAddr (u := .pointer (some ⟨b46, 0, none⟩)) (by kernel_rfl) (fun _ => (by kernel_rfl))) ?_)
   refine wl (sv (by kernel_rfl) (v := .string ((gotI (buildI [vo1, vo2]) ⟨1, 1⟩).name)) (r_load (k := 4) (by kernel_rfl) Ty.ag9 h74 (by kernel_rfl)) ?_)
   refine wl (sb (by kernel_rfl) (r_eqs (m := ((gotI (buildI [vo1, vo2]) ⟨1, 1⟩).name)) (n := (⟨#[97]⟩)) (by kernel_rfl) (by kernel_rfl)) ?_)
   intro b83 k84
   refine wl (sv rfl (v := .bool b83) (r_pkT (by kernel_rfl) (by kernel_rfl)) ?_)
   refine wmv (v := .bool b83) ?_
   refine bcase b83 (fun v85 => ?_) (fun v85 => ?_)
   ·
    have p86 := of_decide_eq_false (k84.trans v85)
    exact absurd v_name p86
   have p86 := of_decide_eq_true (k84.trans v85)
   refine wl (sv (wt (b := b83) rfl (by kernel_rfl) v85) (v := .slice (some ⟨b25, 0, none⟩) 3 3) (r_move (by kernel_rfl)) ?_)
   have h87 := (OpRow.chgV (OpRow.up h60 (up_up u63 u70)) c75 ⟨(Nat.le_trans hB g58), NotU8.of h72 (by decide)⟩ (Nat.ne_of_lt l55))
   refine wl (sc (wt (b := b83) rfl (by kernel_rfl) v85) (r_callv (caps := []) (all := [.slice (some ⟨b25, 0, none⟩) 3 3]) En.f15 (by kernel_rfl) (by kernel_rfl)) (build_at (os := vos) h87 (Nat.le_trans hB M76.size) (by decide)) ?_)
   rintro e w88 ⟨tz, rz, rfl, h89, u90, z91, z92⟩
   refine ⟨.pointer (some ⟨tz, 0, none⟩), rfl, ?_⟩
   have M93 := Mod.trans M76 (Mod.of_up u90)
   refine wl (sc (wt (b := b83) rfl (by kernel_rfl) v85) (r_callv (caps := []) (all := [.pointer (some ⟨tz, 0, none⟩)]) En.f29 (by kernel_rfl) (by kernel_rfl)) (bytes20_at (OT.of h89) (Nat.le_trans hB M93.size) (fit_build vos)) ?_)
   rintro e w94 ⟨rfl, u95⟩
   refine ⟨.int .i64 ((bytesI (buildI vos) (buildI vos) : Nat) : Int), rfl, ?_⟩
   have M96 := Mod.trans M93 (Mod.of_up u95)
   refine wl (sb (wt (b := b83) rfl (by kernel_rfl) v85) (r_eq (k := .i64) (m := ((bytesI (buildI vos) (buildI vos) : Nat) : Int)) (n := 1) (by kernel_rfl) (by kernel_rfl)) ?_)
   intro b97 k98
   refine wl (sv rfl (v := .bool b97) (r_pkT (ebool (b := b83) (by kernel_rfl) v85) (by kernel_rfl)) ?_)
   refine was (v := .bool b97) ?_
   refine wnil (then_n (wp_ret ?_))
   refine bodyPost_ret (v := .bool b97) (res1 rfl (rv_t (by kernel_rfl))) (by kernel_rfl) ?_
   exact ⟨ret_bool (k98.symm.trans (decide_eq_true v_bytes)), (Mod.up M96)⟩
end Go.Proofs.YtefhfoioeoijlaaGreatDoor
set_option linter.unusedVariables false
set_option linter.unusedSimpArgs false
namespace Go.Proofs.YtefhfoioeoijlaaGreatDoor
open Go Go.RowKit Go.Sort
theorem fit_nil : Fit [] := ⟨Wf.nil, by simp, by simp⟩
theorem chgs_600 {La Lb : List Item} {D : List Stamp} (hFa : Fit La) (hFb : Fit Lb) (h : Thn (nodesI (La ++ Lb)) D) : (chgs La Lb D).length ≤ 600 := by
  have h1 := chgs_len La Lb D
  have h2 := h.len
  have h3 := hFa.len
  have h4 := hFb.len
  simp only [nodesI, List.length_map, List.length_append] at h2
  omega
theorem changesX_at {B : Nat} {w : World} {p q : Option Addr} {La Lb : List Item} (ha : OT B w p La) (hb : OT B w q Lb) (hB : B ≤ w.heap.size) (hFa : Fit La) (hFb : Fit Lb) (htab : Tab w) :
    Calls Tryz.prog 26 #[.pointer p, .pointer q] w fun e w' => ∃ A c D X, X = chgs La Lb D ∧ Thn (nodesI (La ++ Lb)) D ∧ X.length ≤ 600 ∧ e = .returned (.slice A X.length c) ∧ CRow 61 w.heap.size w' (.slice A X.length c) X ∧ Up w w' :=
  (changes_at ha hb hB hFa hFb htab).mono fun e w' ⟨A, c, D, h1, h2, h3, h4⟩ => ⟨A, c, D, _, rfl, h3, chgs_600 hFa hFb h3, h1, h2, h4⟩
theorem kind_range (a b : SideP) : 0 ≤ kindP a b ∧ kindP a b ≤ 4 := by
  unfold kindP
  split
  · decide
  · split
    · decide
    · split
      · decide
      · split
        · decide
        · split <;> decide
theorem chgs_kind {La Lb : List Item} {D : List Stamp} {X : List ChgD} (hX : X = chgs La Lb D) {k : Nat} {x : ChgD} (hx : X[k]? = some x) : 0 ≤ x.kind ∧ x.kind ≤ 4 := by
  have h := List.mem_of_getElem? hx
  rw [hX] at h
  simp only [chgs, List.mem_flatMap] at h
  obtain ⟨m, _, h⟩ := h
  unfold chg1 at h
  split at h
  · cases h
  · simp only [List.mem_singleton] at h
    subst h; exact kind_range _ _
theorem chgs_two {La Lb : List Item} {D D' : List Stamp} {X Y : List ChgD} (hX : X = chgs La Lb D) (hD : Thn (nodesI (La ++ Lb)) D) (hY : Y = chgs Lb La D') (hD' : Thn (nodesI (Lb ++ La)) D') : Y = X.map turnC := by
  obtain rfl := thn_swap hD hD'
  rw [hX, hY]; exact chgs_turn La Lb _
theorem chgs_none {D : List Stamp} {X : List ChgD} (hX : X = chgs [] [] D) (hD : Thn (nodesI (([] : List Item) ++ [])) D) : X = [] := by
  rw [hX, thn_none hD]; rfl
theorem chgs_one {La : List Item} {D D' : List Stamp} {X Y : List ChgD} (hX : X = chgs [] La D) (hD : Thn (nodesI ([] ++ La)) D) (hY : Y = chgs [] La D') (hD' : Thn (nodesI ([] ++ La)) D') : Y = X := by
  rw [hX, hY, hD'.one hD]
end Go.Proofs.YtefhfoioeoijlaaGreatDoor

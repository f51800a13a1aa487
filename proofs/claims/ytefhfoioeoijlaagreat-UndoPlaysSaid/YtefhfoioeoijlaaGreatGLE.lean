/- GLE: printed by gen.py -/
import Derived.Test.YtefhfoioeoijlaaGreatLogs
set_option linter.unusedVariables false
set_option linter.unusedSimpArgs false
namespace Go.Proofs.YtefhfoioeoijlaaGreat
open Go Go.RowKit Go.Sort
def bo1 : OpD := ⟨1, ⟨2, 1⟩, ⟨2, 1⟩, ⟨0, 0⟩, true, ⟨#[98]⟩, []⟩
def bo2 : OpD := ⟨2, ⟨3, 1⟩, ⟨1, 1⟩, ⟨2, 1⟩, false, ⟨#[120]⟩, []⟩
def bo3 : OpD := ⟨1, ⟨1, 1⟩, ⟨1, 1⟩, ⟨0, 0⟩, false, ⟨#[97]⟩, []⟩
def bp1 : List OpD := insL [] bo1
def bp2 : List OpD := insL bp1 bo2
def bp3 : List OpD := insL bp2 bo3
theorem b_l1 : bp1.length = 1 := by kernel_rfl
theorem b_l2 : bp2.length = 2 := by kernel_rfl
theorem b_len : bp3.length = 3 := by kernel_rfl
def bx : Item := ⟨⟨1, 1⟩, ⟨2, 1⟩, ⟨#[120]⟩, false, false, [], ⟨0, 0⟩⟩
theorem b_g : gotI (playA bp3) ⟨1, 1⟩ = bx := by kernel_rfl
theorem b_h : hasI (playA bp3) ⟨1, 1⟩ = true := by kernel_rfl
theorem b_ans {nn kk : Int} (h : ansI bp2 bo3 nn kk) : nn = 2 ∧ kk = 0 := by
  have h1 : rightB bo3 = true := by kernel_rfl
  have h2 : hasL bp2 bo3.at_ = false := by kernel_rfl
  have h3 : afterN bp2 bo3.at_ = 2 := by kernel_rfl
  unfold ansI at h
  rw [h1, h2, h3] at h
  simpa using h
set_option maxHeartbeats 2000000 in
theorem alive17_at {w : World} : Calls Tryz.prog 5 #[] w fun e w' => e = .returned (.bool true) ∧ Up w w' := by
  obtain ⟨B, hBe⟩ : ∃ B, B = w.heap.size := ⟨_, rfl⟩
  have hB : B ≤ w.heap.size := Nat.le_of_eq hBe
  subst hBe
  go_enter Tryz.func5, Tryz.ntmps5
  refine wp_seq (rg_lit ?_)
  refine was (v := .bool false) ?_
  refine wnil (then_n (wp_seq (rg_lit ?_)))
  refine wl (sc rfl (r_callv (caps := []) (all := []) En.f6 (by kernel_rfl) (by kernel_rfl)) (lognew_at (Nat.le_trans hB (Mod.refl [] w).size)) ?_)
  rintro e w1 ⟨la, ta, ra, rfl, hL2, u3, z4, z5, z6⟩
  refine ⟨.pointer (some ⟨la, 0, none⟩), rfl, ?_⟩
  have hO7 : One w.heap.size w1 la [] := ⟨ta, ra, _, hL2⟩
  have M8 := Mod.trans (Mod.refl [] w) (Mod.of_up u3)
  refine was (v := .pointer (some ⟨la, 0, none⟩)) ?_
  refine wnil (then_n (wp_seq (rg_lit ?_)))
  refine wl (sv rfl (v := .agg #[.int .i64 1, .int .i64 1]) (r_build (ps := [(0, .int .i64 1), (1, .int .i64 1)]) (cs := [.int .i64 1, .int .i64 1]) Ty.un35 Ty.zv35 Ty.pl35 (by kernel_rfl) (by kernel_rfl)) ?_)
  refine wl (sv rfl (v := .agg #[.int .i64 2, .int .i64 1]) (r_build (ps := [(0, .int .i64 2), (1, .int .i64 1)]) (cs := [.int .i64 2, .int .i64 1]) Ty.un35 Ty.zv35 Ty.pl35 (by kernel_rfl) (by kernel_rfl)) ?_)
  refine wl (sn rfl (cs := #[.int .i64 0, .int .i64 0]) (T := 35) (V := fun b => .pointer (some ⟨b, 0, none⟩)) (r_alloc Ty.zv35 rfl) ?_)
  intro b9 w10 e11 h12 u13
  have g14 : w.heap.size ≤ b9 := by rw [e11]; exact M8.size
  have M15 := Mod.trans M8 (Mod.of_up u13)
  refine wl (sn rfl (cs := #[.int .i64 0, .int .i64 0]) (T := 35) (V := fun b => .pointer (some ⟨b, 0, none⟩)) (r_alloc Ty.zv35 rfl) ?_)
  intro b16 w17 e18 h19 u20
  have l21 : b9 < b16 := by rw [e18]; exact lt_ob h12
  have g22 : w.heap.size ≤ b16 := by rw [e18]; exact M15.size
  have M23 := Mod.trans M15 (Mod.of_up u20)
  have h24 := (up_ob u20 h12)
  refine wl (ss rfl (k := 0) (v := .agg #[.int .i64 1, .int .i64 1]) (vs := [.int .i64 1, .int .i64 1]) (cs' := [.int .i64 1, .int .i64 1]) (by kernel_rfl) (by kernel_rfl) rfl Ty.sz35 h24 rfl (Nat.le_of_ble_eq_true rfl) rfl ?_)
  intro w25 h26 c27
  have M28 := Mod.trans' M23 c27 (fun i hi => by injection hi with hi; rw [← hi]; exact g14)
  have h29 := (chg_ob c27 (Nat.ne_of_gt l21) h19)
  refine wl (ss rfl (k := 0) (v := .agg #[.int .i64 2, .int .i64 1]) (vs := [.int .i64 2, .int .i64 1]) (cs' := [.int .i64 2, .int .i64 1]) (by kernel_rfl) (by kernel_rfl) rfl Ty.sz35 h29 rfl (Nat.le_of_ble_eq_true rfl) rfl ?_)
  intro w30 h31 c32
  have M33 := Mod.trans' M28 c32 (fun i hi => by injection hi with hi; rw [← hi]; exact g22)
  refine wnil (then_n (wp_seq (rg_lit ?_)))
  refine wmv (v := .pointer (some ⟨la, 0, none⟩)) ?_
  refine wl (sv rfl (v := .agg #[.int .i64 2, .int .i64 1]) (r_loads (k := 0) (by kernel_rfl) Ty.ag35 Ty.sz35 h31 (by kernel_rfl)) ?_)
  refine wl (sv rfl (v := .agg #[.int .i64 2, .int .i64 1]) (r_loads (k := 0) (by kernel_rfl) Ty.ag35 Ty.sz35 h31 (by kernel_rfl)) ?_)
  refine wl (sv rfl (v := .agg #[.int .i64 1, .int .i64 2, .int .i64 1, .int .i64 2, .int .i64 1, .int .i64 0, .int .i64 0, .bool true, .string (⟨#[98]⟩), .slice none 0 0]) (r_build (ps := [(0, .int .i64 1), (1, .agg #[.int .i64 2, .int .i64 1]), (2, .agg #[.int .i64 2, .int .i64 1]), (4, .bool true), (5, .string (⟨#[98]⟩))]) (cs := [.int .i64 1, .int .i64 2, .int .i64 1, .int .i64 2, .int .i64 1, .int .i64 0, .int .i64 0, .bool true, .string (⟨#[98]⟩), .slice none 0 0]) Ty.un38 Ty.zv38 Ty.pl38 (by kernel_rfl) (by kernel_rfl)) ?_)
  have h34 := (One.chgT (One.chgT (One.up (One.up hO7 u13) u20) c27 h24 (Nat.le_trans hB g14) (by decide)) c32 h29 (Nat.le_trans hB g22) (by decide))
  refine wl (sc rfl (r_callv (caps := []) (all := [.pointer (some ⟨la, 0, none⟩), .agg #[.int .i64 1, .int .i64 2, .int .i64 1, .int .i64 2, .int .i64 1, .int .i64 0, .int .i64 0, .bool true, .string (⟨#[98]⟩), .slice none 0 0]]) En.f20 (by kernel_rfl) (by kernel_rfl)) (one_ins h34 (Nat.le_trans hB M33.size) (by decide) bo1 none 0 0 (Dat.nil _ _) (by decide)) ?_)
  rintro e w35 ⟨nn37, kk37, rfl, h36, o37, a38⟩
  refine ⟨.tuple #[.int .i64 nn37, .int .i64 kk37], rfl, ?_⟩
  have h39 := (chg_ob c32 (Nat.ne_of_lt l21) h26)
  have h40 := Only.ob o37 h39 (by decide) (by decide)
  have h41 := Only.ob o37 h31 (by decide) (by decide)
  have M42 := Only.of_up (Mod.up M33) o37
  refine wnil (then_n (wp_seq (rg_lit ?_)))
  refine wmv (v := .pointer (some ⟨la, 0, none⟩)) ?_
  refine wl (sv rfl (v := .agg #[.int .i64 3, .int .i64 1]) (r_build (ps := [(0, .int .i64 3), (1, .int .i64 1)]) (cs := [.int .i64 3, .int .i64 1]) Ty.un35 Ty.zv35 Ty.pl35 (by kernel_rfl) (by kernel_rfl)) ?_)
  refine wl (sv rfl (v := .agg #[.int .i64 1, .int .i64 1]) (r_loads (k := 0) (by kernel_rfl) Ty.ag35 Ty.sz35 h40 (by kernel_rfl)) ?_)
  refine wl (sv rfl (v := .agg #[.int .i64 2, .int .i64 1]) (r_loads (k := 0) (by kernel_rfl) Ty.ag35 Ty.sz35 h41 (by kernel_rfl)) ?_)
  refine wl (sv rfl (v := .agg #[.int .i64 2, .int .i64 3, .int .i64 1, .int .i64 1, .int .i64 1, .int .i64 2, .int .i64 1, .bool false, .string (⟨#[120]⟩), .slice none 0 0]) (r_build (ps := [(0, .int .i64 2), (1, .agg #[.int .i64 3, .int .i64 1]), (2, .agg #[.int .i64 1, .int .i64 1]), (3, .agg #[.int .i64 2, .int .i64 1]), (5, .string (⟨#[120]⟩))]) (cs := [.int .i64 2, .int .i64 3, .int .i64 1, .int .i64 1, .int .i64 1, .int .i64 2, .int .i64 1, .bool false, .string (⟨#[120]⟩), .slice none 0 0]) Ty.un38 Ty.zv38 Ty.pl38 (by kernel_rfl) (by kernel_rfl)) ?_)
  refine wl (sc rfl (r_callv (caps := []) (all := [.pointer (some ⟨la, 0, none⟩), .agg #[.int .i64 2, .int .i64 3, .int .i64 1, .int .i64 1, .int .i64 1, .int .i64 2, .int .i64 1, .bool false, .string (⟨#[120]⟩), .slice none 0 0]]) En.f20 (by kernel_rfl) (by kernel_rfl)) (one_ins (One.to (p' := bp1) h36 rfl) (Nat.le_trans hB (Mod.of_up (X := []) M42).size) (by rw [b_l1]; decide) bo2 none 0 0 (Dat.nil _ _) (by decide)) ?_)
  rintro e w43 ⟨nn45, kk45, rfl, h44, o45, a46⟩
  refine ⟨.tuple #[.int .i64 nn45, .int .i64 kk45], rfl, ?_⟩
  have h47 := Only.ob o45 h40 (by decide) (by decide)
  have h48 := Only.ob o45 h41 (by decide) (by decide)
  have M49 := Only.of_up (Mod.up (Mod.of_up (X := []) M42)) o45
  refine wnil (then_n (wp_seq (rg_lit ?_)))
  refine wmv (v := .pointer (some ⟨la, 0, none⟩)) ?_
  refine wl (sv rfl (v := .agg #[.int .i64 1, .int .i64 1]) (r_loads (k := 0) (by kernel_rfl) Ty.ag35 Ty.sz35 h47 (by kernel_rfl)) ?_)
  refine wl (sv rfl (v := .agg #[.int .i64 1, .int .i64 1]) (r_loads (k := 0) (by kernel_rfl) Ty.ag35 Ty.sz35 h47 (by kernel_rfl)) ?_)
  refine wl (sv rfl (v := .agg #[.int .i64 1, .int .i64 1, .int .i64 1, .int .i64 1, .int .i64 1, .int .i64 0, .int .i64 0, .bool false, .string (⟨#[97]⟩), .slice none 0 0]) (r_build (ps := [(0, .int .i64 1), (1, .agg #[.int .i64 1, .int .i64 1]), (2, .agg #[.int .i64 1, .int .i64 1]), (5, .string (⟨#[97]⟩))]) (cs := [.int .i64 1, .int .i64 1, .int .i64 1, .int .i64 1, .int .i64 1, .int .i64 0, .int .i64 0, .bool false, .string (⟨#[97]⟩), .slice none 0 0]) Ty.un38 Ty.zv38 Ty.pl38 (by kernel_rfl) (by kernel_rfl)) ?_)
  refine wl (sc rfl (r_callv (caps := []) (all := [.pointer (some ⟨la, 0, none⟩), .agg #[.int .i64 1, .int .i64 1, .int .i64 1, .int .i64 1, .int .i64 1, .int .i64 0, .int .i64 0, .bool false, .string (⟨#[97]⟩), .slice none 0 0]]) En.f20 (by kernel_rfl) (by kernel_rfl)) (one_ins (One.to (p' := bp2) h44 rfl) (Nat.le_trans hB (Mod.of_up (X := []) M49).size) (by rw [b_l2]; decide) bo3 none 0 0 (Dat.nil _ _) (by decide)) ?_)
  rintro e w50 ⟨nn52, kk52, rfl, h51, o52, a53⟩
  obtain ⟨rfl, rfl⟩ := b_ans a53
  refine ⟨.tuple #[.int .i64 2, .int .i64 0], rfl, ?_⟩
  have h54 := Only.ob o52 h47 (by decide) (by decide)
  have h55 := Only.ob o52 h48 (by decide) (by decide)
  have M56 := Only.of_up (Mod.up (Mod.of_up (X := []) M49)) o52
  refine wmv (v := .tuple #[.int .i64 2, .int .i64 0]) ?_
  refine wl (sv rfl (v := .int .i64 2) (r_extract (vs := [.int .i64 2, .int .i64 0]) (by kernel_rfl) rfl) ?_)
  refine wl (sv rfl (v := .int .i64 0) (r_extract (vs := [.int .i64 2, .int .i64 0]) (by kernel_rfl) rfl) ?_)
  refine was (v := .int .i64 2) ?_
  refine was (v := .int .i64 0) ?_
  refine wnil (then_n (wp_seq ?_))
  refine rg_held [] (n := 10) (by kernel_rfl) rfl ?_
  intro w57 u58
  have M59 := Mod.trans (Mod.of_up (X := []) M56) (Mod.of_up u58)
  refine hvq (i := 0) (fuel := 9) rfl (fun _ _ _ h => h) (Mod.refl _ _) rfl (v := .pointer (some ⟨la, 0, none⟩)) (fun _ _ => r_move (by kernel_rfl)) ?_
  have h60 := (up_ob u58 h54)
  refine hvq (i := 2) (fuel := 8) rfl (fun _ _ _ h => h) (Mod.refl _ _) rfl (v := .agg #[.int .i64 1, .int .i64 1]) (fun _ uz => r_loads (k := 0) (by kernel_rfl) Ty.ag35 Ty.sz35 (md_ob uz nin0 h60) (by kernel_rfl)) ?_
  refine h2 (i := 1) (j := 7) (fuel := 7) (by kernel_rfl) rfl rfl ?_ ?_
  ·
   have h61 := (One.up (One.to (p' := bp3) h51 rfl) u58)
   refine sc rfl (r_callv (caps := []) (all := [.pointer (some ⟨la, 0, none⟩)]) En.f15 (by kernel_rfl) (by kernel_rfl)) (one_tree h61 (by rw [b_len]; decide)) ?_
   rintro e w62 ⟨tz, rz, rfl, h63, u64⟩
   refine ⟨.pointer (some ⟨tz, 0, none⟩), rfl, ?_⟩
   have M65 := Mod.trans M59 (Mod.of_up u64)
   refine hx (Y := []) (Mod.of_up u64) (fun y hy => .inl hy) ?_
   refine h2 (i := 3) (j := 7) (fuel := 6) (by kernel_rfl) rfl rfl ?_ ?_
   ·
    refine sc rfl (r_callv (caps := []) (all := [.pointer (some ⟨tz, 0, none⟩), .agg #[.int .i64 1, .int .i64 1]]) En.f21 (by kernel_rfl) (by kernel_rfl)) (get_x h63 ⟨1, 1⟩ (x := bx) (b := true) b_g b_h) ?_
    rintro e w66 ⟨A67, n68, c69, rfl, h70, u71⟩
    refine ⟨.tuple #[.agg #[.int .i64 1, .int .i64 1, .int .i64 2, .int .i64 1, .string (⟨#[120]⟩), .bool false, .bool false, .slice A67 n68 c69, .int .i64 0, .int .i64 0], .bool true], rfl, ?_⟩
    have M72 := Mod.trans M65 (Mod.of_up u71)
    refine hx (Y := []) (Mod.of_up u71) (fun y hy => .inl hy) ?_
    refine hvq (i := 4) (fuel := 5) rfl (fun _ _ _ h => h) (Mod.refl _ _) rfl (v := .tuple #[.agg #[.int .i64 1, .int .i64 1, .int .i64 2, .int .i64 1, .string (⟨#[120]⟩), .bool false, .bool false, .slice A67 n68 c69, .int .i64 0, .int .i64 0], .bool true]) (fun _ _ => r_move (by kernel_rfl)) ?_
    refine hvq (i := 5) (fuel := 4) rfl (fun _ _ _ h => h) (Mod.refl _ _) rfl (v := .agg #[.int .i64 1, .int .i64 1, .int .i64 2, .int .i64 1, .string (⟨#[120]⟩), .bool false, .bool false, .slice A67 n68 c69, .int .i64 0, .int .i64 0]) (fun _ _ => r_extract (vs := [.agg #[.int .i64 1, .int .i64 1, .int .i64 2, .int .i64 1, .string (⟨#[120]⟩), .bool false, .bool false, .slice A67 n68 c69, .int .i64 0, .int .i64 0], .bool true]) (by kernel_rfl) rfl) ?_
    refine hvq (i := 6) (fuel := 3) rfl (fun _ _ _ h => h) (Mod.refl _ _) rfl (v := .bool true) (fun _ _ => r_extract (vs := [.agg #[.int .i64 1, .int .i64 1, .int .i64 2, .int .i64 1, .string (⟨#[120]⟩), .bool false, .bool false, .slice A67 n68 c69, .int .i64 0, .int .i64 0], .bool true]) (by kernel_rfl) rfl) ?_
    refine h1 (i := 7) (fuel := 2) (by kernel_rfl) rfl (sn rfl (cs := #[.int .i64 0, .int .i64 0, .int .i64 0, .int .i64 0, .string (⟨#[]⟩), .bool false, .bool false, .slice none 0 0, .int .i64 0, .int .i64 0]) (T := 61) (V := fun b => .pointer (some ⟨b, 0, none⟩)) (r_alloc Ty.zv61 rfl) ?_)
    intro b73 w74 e75 h76 u77
    have h78 := (up_ob u71 (up_ob u64 h60))
    have l79 : b9 < b73 := by rw [e75]; exact lt_ob h78
    have h80 := (up_ob u71 (up_ob u64 (up_ob u58 h55)))
    have l81 : b16 < b73 := by rw [e75]; exact lt_ob h80
    have g82 : w.heap.size ≤ b73 := by rw [e75]; exact M72.size
    have M83 := Mod.trans M72 (Mod.of_up u77)
    refine hx (Y := [b73]) (Mod.of_up u77) (ynew e75) ?_
    refine h1 (i := 8) (fuel := 1) (by kernel_rfl) rfl (ss rfl (k := 0) (v := .agg #[.int .i64 1, .int .i64 1, .int .i64 2, .int .i64 1, .string (⟨#[120]⟩), .bool false, .bool false, .slice A67 n68 c69, .int .i64 0, .int .i64 0]) (vs := [.int .i64 1, .int .i64 1, .int .i64 2, .int .i64 1, .string (⟨#[120]⟩), .bool false, .bool false, .slice A67 n68 c69, .int .i64 0, .int .i64 0]) (cs' := [.int .i64 1, .int .i64 1, .int .i64 2, .int .i64 1, .string (⟨#[120]⟩), .bool false, .bool false, .slice A67 n68 c69, .int .i64 0, .int .i64 0]) (by kernel_rfl) (by kernel_rfl) rfl Ty.sz61 h76 rfl (Nat.le_of_ble_eq_true rfl) rfl ?_)
    intro w84 h85 c86
    have M87 := Mod.trans' M83 c86 (fun i hi => by injection hi with hi; rw [← hi]; exact g82)
    refine hx (Y := [b73]) (Mod.of_chg c86 (by simp)) (fun y hy => .inl hy) ?_
    refine hvq (i := 9) (fuel := 0) rfl (fun _ _ _ h => h) (Mod.refl _ _) rfl (v := .bool true) (fun _ _ => r_assign (by kernel_rfl)) ?_
    refine hend (by kernel_rfl) ?_
    refine then_n (wp_seq (rg_lit ?_))
    refine wmv (v := .int .i64 0) ?_
    refine wl (sv (w' := w84) rfl (v := .bool true) (by kernel_rfl) ?_)
    refine wmv (v := .bool true) ?_
    refine wl (sv (by kernel_rfl) (v := .int .i64 2) (r_move (by kernel_rfl)) ?_)
    refine wl (sv (w' := w84) (by kernel_rfl) (v := .bool true) (by kernel_rfl) ?_)
    refine wl (sv rfl (v := .bool true) (r_pkT (by kernel_rfl) (by kernel_rfl)) ?_)
    refine wmv (v := .bool true) ?_
    refine wl (sv (by kernel_rfl) (v := .bool true) (r_move (by kernel_rfl)) ?_)
    refine wl (sv rfl (v := .bool true) (r_pkT (by kernel_rfl) (by kernel_rfl)) ?_)
    refine wmv (v := .bool true) ?_
    refine wl (sv (by kernel_rfl) (v := .pointer (some ⟨b73, 2, none⟩)) (r_fieldAddr (u := .pointer (some ⟨b73, 0, none⟩)) (by kernel_rfl) (fun _ => (by kernel_rfl))) ?_)
    refine wl (sv (by kernel_rfl) (v := .agg #[.int .i64 2, .int .i64 1]) (r_loads (k := 2) (by kernel_rfl) Ty.ag35 Ty.sz35 h85 (by kernel_rfl)) ?_)
    have h88 := (chg_ob c86 (Nat.ne_of_lt l81) (up_ob u77 h80))
    refine wl (sv (by kernel_rfl) (v := .agg #[.int .i64 2, .int .i64 1]) (r_loads (k := 0) (by kernel_rfl) Ty.ag35 Ty.sz35 h88 (by kernel_rfl)) ?_)
    refine wl (sv (by kernel_rfl) (v := .bool true) (dec_true (by decide) (r_eqS (a := 2) (b := 1) (c := 2) (e := 1) (by kernel_rfl) (by kernel_rfl))) ?_)
    refine wl (sv rfl (v := .bool true) (r_pkT (by kernel_rfl) (by kernel_rfl)) ?_)
    refine wmv (v := .bool true) ?_
    refine wl (sv (by kernel_rfl) (v := .pointer (some ⟨b73, 4, none⟩)) (r_fieldAddr (u := .pointer (some ⟨b73, 0, none⟩)) (by kernel_rfl) (fun _ => (by kernel_rfl))) ?_)
    refine wl (sv (by kernel_rfl) (v := .string (⟨#[120]⟩)) (r_load (k := 4) (by kernel_rfl) Ty.ag9 h85 (by kernel_rfl)) ?_)
    refine wl (sb (by kernel_rfl) (r_eqs (m := (⟨#[120]⟩)) (n := (⟨#[120]⟩)) (by kernel_rfl) (by kernel_rfl)) ?_)
    intro b89 k90
    refine wl (sv rfl (v := .bool b89) (r_pkT (by kernel_rfl) (by kernel_rfl)) ?_)
    refine wmv (v := .bool b89) ?_
    refine bcase b89 (fun v91 => ?_) (fun v91 => ?_)
    ·
     have p92 := of_decide_eq_false (k90.trans v91)
     exact absurd rfl p92
    have p92 := of_decide_eq_true (k90.trans v91)
    refine wl (sv (wt (b := b89) rfl (by kernel_rfl) v91) (v := .pointer (some ⟨la, 0, none⟩)) (r_move (by kernel_rfl)) ?_)
    have h93 := (One.chgT (One.up (One.up (One.up h61 u64) u71) u77) c86 h76 (Nat.le_trans hB g82) (by decide))
    refine wl (sc (wt (b := b89) rfl (by kernel_rfl) v91) (r_callv (caps := []) (all := [.pointer (some ⟨la, 0, none⟩)]) En.f10 (by kernel_rfl) (by kernel_rfl)) (one_len h93 (by rw [b_len]; decide)) ?_)
    rintro e w94 ⟨rfl, u95⟩
    rw [show (bp3.length : Int) = 3 from by rw [b_len]; rfl]
    refine ⟨.int .i64 3, rfl, ?_⟩
    have M96 := Mod.trans M87 (Mod.of_up u95)
    refine wl (sv (w' := w94) (wt (b := b89) rfl (by kernel_rfl) v91) (v := .bool true) (by kernel_rfl) ?_)
    refine wl (sv rfl (v := .bool true) (r_pkT (ebool (b := b89) (by kernel_rfl) v91) (by kernel_rfl)) ?_)
    refine was (v := .bool true) ?_
    refine wnil (then_n (wp_ret ?_))
    refine bodyPost_ret (v := .bool true) (res1 rfl (rv_t (by kernel_rfl))) (by kernel_rfl) ?_
    exact ⟨rfl, (Mod.up M96)⟩
   ·
    refine sn rfl (cs := #[.int .i64 0, .int .i64 0, .int .i64 0, .int .i64 0, .string (⟨#[]⟩), .bool false, .bool false, .slice none 0 0, .int .i64 0, .int .i64 0]) (T := 61) (V := fun b => .pointer (some ⟨b, 0, none⟩)) (r_alloc Ty.zv61 rfl) ?_
    intro b66 w67 e68 h69 u70
    have h71 := (up_ob u64 h60)
    have l72 : b9 < b66 := by rw [e68]; exact lt_ob h71
    have h73 := (up_ob u64 (up_ob u58 h55))
    have l74 : b16 < b66 := by rw [e68]; exact lt_ob h73
    have g75 : w.heap.size ≤ b66 := by rw [e68]; exact M65.size
    have M76 := Mod.trans M65 (Mod.of_up u70)
    refine hx (Y := [b66]) (Mod.of_up u70) (ynew e68) ?_
    have h77 := (TreeIs.up h63 u70)
    refine h1 (i := 3) (fuel := 5) (by kernel_rfl) rfl (sc rfl (r_callv (caps := []) (all := [.pointer (some ⟨tz, 0, none⟩), .agg #[.int .i64 1, .int .i64 1]]) En.f21 (by kernel_rfl) (by kernel_rfl)) (get_x h77 ⟨1, 1⟩ (x := bx) (b := true) b_g b_h) ?_)
    rintro e w78 ⟨A79, n80, c81, rfl, h82, u83⟩
    refine ⟨.tuple #[.agg #[.int .i64 1, .int .i64 1, .int .i64 2, .int .i64 1, .string (⟨#[120]⟩), .bool false, .bool false, .slice A79 n80 c81, .int .i64 0, .int .i64 0], .bool true], rfl, ?_⟩
    have M84 := Mod.trans M76 (Mod.of_up u83)
    refine hx (Y := [b66]) (Mod.of_up u83) (fun y hy => .inl hy) ?_
    refine hvq (i := 4) (fuel := 4) rfl (fun _ _ _ h => h) (Mod.refl _ _) rfl (v := .tuple #[.agg #[.int .i64 1, .int .i64 1, .int .i64 2, .int .i64 1, .string (⟨#[120]⟩), .bool false, .bool false, .slice A79 n80 c81, .int .i64 0, .int .i64 0], .bool true]) (fun _ _ => r_move (by kernel_rfl)) ?_
    refine hvq (i := 5) (fuel := 3) rfl (fun _ _ _ h => h) (Mod.refl _ _) rfl (v := .agg #[.int .i64 1, .int .i64 1, .int .i64 2, .int .i64 1, .string (⟨#[120]⟩), .bool false, .bool false, .slice A79 n80 c81, .int .i64 0, .int .i64 0]) (fun _ _ => r_extract (vs := [.agg #[.int .i64 1, .int .i64 1, .int .i64 2, .int .i64 1, .string (⟨#[120]⟩), .bool false, .bool false, .slice A79 n80 c81, .int .i64 0, .int .i64 0], .bool true]) (by kernel_rfl) rfl) ?_
    refine hvq (i := 6) (fuel := 2) rfl (fun _ _ _ h => h) (Mod.refl _ _) rfl (v := .bool true) (fun _ _ => r_extract (vs := [.agg #[.int .i64 1, .int .i64 1, .int .i64 2, .int .i64 1, .string (⟨#[120]⟩), .bool false, .bool false, .slice A79 n80 c81, .int .i64 0, .int .i64 0], .bool true]) (by kernel_rfl) rfl) ?_
    have h85 := (up_ob u83 h69)
    refine h1 (i := 8) (fuel := 1) (by kernel_rfl) rfl (ss rfl (k := 0) (v := .agg #[.int .i64 1, .int .i64 1, .int .i64 2, .int .i64 1, .string (⟨#[120]⟩), .bool false, .bool false, .slice A79 n80 c81, .int .i64 0, .int .i64 0]) (vs := [.int .i64 1, .int .i64 1, .int .i64 2, .int .i64 1, .string (⟨#[120]⟩), .bool false, .bool false, .slice A79 n80 c81, .int .i64 0, .int .i64 0]) (cs' := [.int .i64 1, .int .i64 1, .int .i64 2, .int .i64 1, .string (⟨#[120]⟩), .bool false, .bool false, .slice A79 n80 c81, .int .i64 0, .int .i64 0]) (by kernel_rfl) (by kernel_rfl) rfl Ty.sz61 h85 rfl (Nat.le_of_ble_eq_true rfl) rfl ?_)
    intro w86 h87 c88
    have M89 := Mod.trans' M84 c88 (fun i hi => by injection hi with hi; rw [← hi]; exact g75)
    refine hx (Y := [b66]) (Mod.of_chg c88 (by simp)) (fun y hy => .inl hy) ?_
    refine hvq (i := 9) (fuel := 0) rfl (fun _ _ _ h => h) (Mod.refl _ _) rfl (v := .bool true) (fun _ _ => r_assign (by kernel_rfl)) ?_
    refine hend (by kernel_rfl) ?_
    refine then_n (wp_seq (rg_lit ?_))
    refine wmv (v := .int .i64 0) ?_
    refine wl (sv (w' := w86) rfl (v := .bool true) (by kernel_rfl) ?_)
    refine wmv (v := .bool true) ?_
    refine wl (sv (by kernel_rfl) (v := .int .i64 2) (r_move (by kernel_rfl)) ?_)
    refine wl (sv (w' := w86) (by kernel_rfl) (v := .bool true) (by kernel_rfl) ?_)
    refine wl (sv rfl (v := .bool true) (r_pkT (by kernel_rfl) (by kernel_rfl)) ?_)
    refine wmv (v := .bool true) ?_
    refine wl (sv (by kernel_rfl) (v := .bool true) (r_move (by kernel_rfl)) ?_)
    refine wl (sv rfl (v := .bool true) (r_pkT (by kernel_rfl) (by kernel_rfl)) ?_)
    refine wmv (v := .bool true) ?_
    refine wl (sv (by kernel_rfl) (v := .pointer (some ⟨b66, 2, none⟩)) (r_fieldAddr (u := .pointer (some ⟨b66, 0, none⟩)) (by kernel_rfl) (fun _ => (by kernel_rfl))) ?_)
    refine wl (sv (by kernel_rfl) (v := .agg #[.int .i64 2, .int .i64 1]) (r_loads (k := 2) (by kernel_rfl) Ty.ag35 Ty.sz35 h87 (by kernel_rfl)) ?_)
    have h90 := (chg_ob c88 (Nat.ne_of_lt l74) (up_ob u83 (up_ob u70 h73)))
    refine wl (sv (by kernel_rfl) (v := .agg #[.int .i64 2, .int .i64 1]) (r_loads (k := 0) (by kernel_rfl) Ty.ag35 Ty.sz35 h90 (by kernel_rfl)) ?_)
    refine wl (sv (by kernel_rfl) (v := .bool true) (dec_true (by decide) (r_eqS (a := 2) (b := 1) (c := 2) (e := 1) (by kernel_rfl) (by kernel_rfl))) ?_)
    refine wl (sv rfl (v := .bool true) (r_pkT (by kernel_rfl) (by kernel_rfl)) ?_)
    refine wmv (v := .bool true) ?_
    refine wl (sv (by kernel_rfl) (v := .pointer (some ⟨b66, 4, none⟩)) (r_fieldAddr (u := .pointer (some ⟨b66, 0, none⟩)) (by kernel_rfl) (fun _ => (by kernel_rfl))) ?_)
    refine wl (sv (by kernel_rfl) (v := .string (⟨#[120]⟩)) (r_load (k := 4) (by kernel_rfl) Ty.ag9 h87 (by kernel_rfl)) ?_)
    refine wl (sb (by kernel_rfl) (r_eqs (m := (⟨#[120]⟩)) (n := (⟨#[120]⟩)) (by kernel_rfl) (by kernel_rfl)) ?_)
    intro b91 k92
    refine wl (sv rfl (v := .bool b91) (r_pkT (by kernel_rfl) (by kernel_rfl)) ?_)
    refine wmv (v := .bool b91) ?_
    refine bcase b91 (fun v93 => ?_) (fun v93 => ?_)
    ·
     have p94 := of_decide_eq_false (k92.trans v93)
     exact absurd rfl p94
    have p94 := of_decide_eq_true (k92.trans v93)
    refine wl (sv (wt (b := b91) rfl (by kernel_rfl) v93) (v := .pointer (some ⟨la, 0, none⟩)) (r_move (by kernel_rfl)) ?_)
    have h95 := (One.chgT (One.up (One.up (One.up h61 u64) u70) u83) c88 h85 (Nat.le_trans hB g75) (by decide))
    refine wl (sc (wt (b := b91) rfl (by kernel_rfl) v93) (r_callv (caps := []) (all := [.pointer (some ⟨la, 0, none⟩)]) En.f10 (by kernel_rfl) (by kernel_rfl)) (one_len h95 (by rw [b_len]; decide)) ?_)
    rintro e w96 ⟨rfl, u97⟩
    rw [show (bp3.length : Int) = 3 from by rw [b_len]; rfl]
    refine ⟨.int .i64 3, rfl, ?_⟩
    have M98 := Mod.trans M89 (Mod.of_up u97)
    refine wl (sv (w' := w96) (wt (b := b91) rfl (by kernel_rfl) v93) (v := .bool true) (by kernel_rfl) ?_)
    refine wl (sv rfl (v := .bool true) (r_pkT (ebool (b := b91) (by kernel_rfl) v93) (by kernel_rfl)) ?_)
    refine was (v := .bool true) ?_
    refine wnil (then_n (wp_ret ?_))
    refine bodyPost_ret (v := .bool true) (res1 rfl (rv_t (by kernel_rfl))) (by kernel_rfl) ?_
    exact ⟨rfl, (Mod.up M98)⟩
  ·
   refine sn rfl (cs := #[.int .i64 0, .int .i64 0, .int .i64 0, .int .i64 0, .string (⟨#[]⟩), .bool false, .bool false, .slice none 0 0, .int .i64 0, .int .i64 0]) (T := 61) (V := fun b => .pointer (some ⟨b, 0, none⟩)) (r_alloc Ty.zv61 rfl) ?_
   intro b61 w62 e63 h64 u65
   have l66 : b9 < b61 := by rw [e63]; exact lt_ob h60
   have h67 := (up_ob u58 h55)
   have l68 : b16 < b61 := by rw [e63]; exact lt_ob h67
   have g69 : w.heap.size ≤ b61 := by rw [e63]; exact M59.size
   have M70 := Mod.trans M59 (Mod.of_up u65)
   refine hx (Y := [b61]) (Mod.of_up u65) (ynew e63) ?_
   have h71 := (One.up (One.up (One.to (p' := bp3) h51 rfl) u58) u65)
   refine h1 (i := 1) (fuel := 6) (by kernel_rfl) rfl (sc rfl (r_callv (caps := []) (all := [.pointer (some ⟨la, 0, none⟩)]) En.f15 (by kernel_rfl) (by kernel_rfl)) (one_tree h71 (by rw [b_len]; decide)) ?_)
   rintro e w72 ⟨tz, rz, rfl, h73, u74⟩
   refine ⟨.pointer (some ⟨tz, 0, none⟩), rfl, ?_⟩
   have M75 := Mod.trans M70 (Mod.of_up u74)
   refine hx (Y := [b61]) (Mod.of_up u74) (fun y hy => .inl hy) ?_
   refine h1 (i := 3) (fuel := 5) (by kernel_rfl) rfl (sc rfl (r_callv (caps := []) (all := [.pointer (some ⟨tz, 0, none⟩), .agg #[.int .i64 1, .int .i64 1]]) En.f21 (by kernel_rfl) (by kernel_rfl)) (get_x h73 ⟨1, 1⟩ (x := bx) (b := true) b_g b_h) ?_)
   rintro e w76 ⟨A77, n78, c79, rfl, h80, u81⟩
   refine ⟨.tuple #[.agg #[.int .i64 1, .int .i64 1, .int .i64 2, .int .i64 1, .string (⟨#[120]⟩), .bool false, .bool false, .slice A77 n78 c79, .int .i64 0, .int .i64 0], .bool true], rfl, ?_⟩
   have M82 := Mod.trans M75 (Mod.of_up u81)
   refine hx (Y := [b61]) (Mod.of_up u81) (fun y hy => .inl hy) ?_
   refine hvq (i := 4) (fuel := 4) rfl (fun _ _ _ h => h) (Mod.refl _ _) rfl (v := .tuple #[.agg #[.int .i64 1, .int .i64 1, .int .i64 2, .int .i64 1, .string (⟨#[120]⟩), .bool false, .bool false, .slice A77 n78 c79, .int .i64 0, .int .i64 0], .bool true]) (fun _ _ => r_move (by kernel_rfl)) ?_
   refine hvq (i := 5) (fuel := 3) rfl (fun _ _ _ h => h) (Mod.refl _ _) rfl (v := .agg #[.int .i64 1, .int .i64 1, .int .i64 2, .int .i64 1, .string (⟨#[120]⟩), .bool false, .bool false, .slice A77 n78 c79, .int .i64 0, .int .i64 0]) (fun _ _ => r_extract (vs := [.agg #[.int .i64 1, .int .i64 1, .int .i64 2, .int .i64 1, .string (⟨#[120]⟩), .bool false, .bool false, .slice A77 n78 c79, .int .i64 0, .int .i64 0], .bool true]) (by kernel_rfl) rfl) ?_
   refine hvq (i := 6) (fuel := 2) rfl (fun _ _ _ h => h) (Mod.refl _ _) rfl (v := .bool true) (fun _ _ => r_extract (vs := [.agg #[.int .i64 1, .int .i64 1, .int .i64 2, .int .i64 1, .string (⟨#[120]⟩), .bool false, .bool false, .slice A77 n78 c79, .int .i64 0, .int .i64 0], .bool true]) (by kernel_rfl) rfl) ?_
   have h83 := (up_ob u81 (up_ob u74 h64))
   refine h1 (i := 8) (fuel := 1) (by kernel_rfl) rfl (ss rfl (k := 0) (v := .agg #[.int .i64 1, .int .i64 1, .int .i64 2, .int .i64 1, .string (⟨#[120]⟩), .bool false, .bool false, .slice A77 n78 c79, .int .i64 0, .int .i64 0]) (vs := [.int .i64 1, .int .i64 1, .int .i64 2, .int .i64 1, .string (⟨#[120]⟩), .bool false, .bool false, .slice A77 n78 c79, .int .i64 0, .int .i64 0]) (cs' := [.int .i64 1, .int .i64 1, .int .i64 2, .int .i64 1, .string (⟨#[120]⟩), .bool false, .bool false, .slice A77 n78 c79, .int .i64 0, .int .i64 0]) (by kernel_rfl) (by kernel_rfl) rfl Ty.sz61 h83 rfl (Nat.le_of_ble_eq_true rfl) rfl ?_)
   intro w84 h85 c86
   have M87 := Mod.trans' M82 c86 (fun i hi => by injection hi with hi; rw [← hi]; exact g69)
   refine hx (Y := [b61]) (Mod.of_chg c86 (by simp)) (fun y hy => .inl hy) ?_
   refine hvq (i := 9) (fuel := 0) rfl (fun _ _ _ h => h) (Mod.refl _ _) rfl (v := .bool true) (fun _ _ => r_assign (by kernel_rfl)) ?_
   refine hend (by kernel_rfl) ?_
   refine then_n (wp_seq (rg_lit ?_))
   refine wmv (v := .int .i64 0) ?_
   refine wl (sv (w' := w84) rfl (v := .bool true) (by kernel_rfl) ?_)
   refine wmv (v := .bool true) ?_
   refine wl (sv (by kernel_rfl) (v := .int .i64 2) (r_move (by kernel_rfl)) ?_)
   refine wl (sv (w' := w84) (by kernel_rfl) (v := .bool true) (by kernel_rfl) ?_)
   refine wl (sv rfl (v := .bool true) (r_pkT (by kernel_rfl) (by kernel_rfl)) ?_)
   refine wmv (v := .bool true) ?_
   refine wl (sv (by kernel_rfl) (v := .bool true) (r_move (by kernel_rfl)) ?_)
   refine wl (sv rfl (v := .bool true) (r_pkT (by kernel_rfl) (by kernel_rfl)) ?_)
   refine wmv (v := .bool true) ?_
   refine wl (sv (by kernel_rfl) (v := .pointer (some ⟨b61, 2, none⟩)) (r_fieldAddr (u := .pointer (some ⟨b61, 0, none⟩)) (by kernel_rfl) (fun _ => (by kernel_rfl))) ?_)
   refine wl (sv (by kernel_rfl) (v := .agg #[.int .i64 2, .int .i64 1]) (r_loads (k := 2) (by kernel_rfl) Ty.ag35 Ty.sz35 h85 (by kernel_rfl)) ?_)
   have h88 := (chg_ob c86 (Nat.ne_of_lt l68) (up_ob u81 (up_ob u74 (up_ob u65 h67))))
   refine wl (sv (by kernel_rfl) (v := .agg #[.int .i64 2, .int .i64 1]) (r_loads (k := 0) (by kernel_rfl) Ty.ag35 Ty.sz35 h88 (by kernel_rfl)) ?_)
   refine wl (sv (by kernel_rfl) (v := .bool true) (dec_true (by decide) (r_eqS (a := 2) (b := 1) (c := 2) (e := 1) (by kernel_rfl) (by kernel_rfl))) ?_)
   refine wl (sv rfl (v := .bool true) (r_pkT (by kernel_rfl) (by kernel_rfl)) ?_)
   refine wmv (v := .bool true) ?_
   refine wl (sv (by kernel_rfl) (v := .pointer (some ⟨b61, 4, none⟩)) (r_fieldAddr (u := .pointer (some ⟨b61, 0, none⟩)) (by kernel_rfl) (fun _ => (by kernel_rfl))) ?_)
   refine wl (sv (by kernel_rfl) (v := .string (⟨#[120]⟩)) (r_load (k := 4) (by kernel_rfl) Ty.ag9 h85 (by kernel_rfl)) ?_)
   refine wl (sb (by kernel_rfl) (r_eqs (m := (⟨#[120]⟩)) (n := (⟨#[120]⟩)) (by kernel_rfl) (by kernel_rfl)) ?_)
   intro b89 k90
   refine wl (sv rfl (v := .bool b89) (r_pkT (by kernel_rfl) (by kernel_rfl)) ?_)
   refine wmv (v := .bool b89) ?_
   refine bcase b89 (fun v91 => ?_) (fun v91 => ?_)
   ·
    have p92 := of_decide_eq_false (k90.trans v91)
    exact absurd rfl p92
   have p92 := of_decide_eq_true (k90.trans v91)
   refine wl (sv (wt (b := b89) rfl (by kernel_rfl) v91) (v := .pointer (some ⟨la, 0, none⟩)) (r_move (by kernel_rfl)) ?_)
   have h93 := (One.chgT (One.up (One.up h71 u74) u81) c86 h83 (Nat.le_trans hB g69) (by decide))
   refine wl (sc (wt (b := b89) rfl (by kernel_rfl) v91) (r_callv (caps := []) (all := [.pointer (some ⟨la, 0, none⟩)]) En.f10 (by kernel_rfl) (by kernel_rfl)) (one_len h93 (by rw [b_len]; decide)) ?_)
   rintro e w94 ⟨rfl, u95⟩
   rw [show (bp3.length : Int) = 3 from by rw [b_len]; rfl]
   refine ⟨.int .i64 3, rfl, ?_⟩
   have M96 := Mod.trans M87 (Mod.of_up u95)
   refine wl (sv (w' := w94) (wt (b := b89) rfl (by kernel_rfl) v91) (v := .bool true) (by kernel_rfl) ?_)
   refine wl (sv rfl (v := .bool true) (r_pkT (ebool (b := b89) (by kernel_rfl) v91) (by kernel_rfl)) ?_)
   refine was (v := .bool true) ?_
   refine wnil (then_n (wp_ret ?_))
   refine bodyPost_ret (v := .bool true) (res1 rfl (rv_t (by kernel_rfl))) (by kernel_rfl) ?_
   exact ⟨rfl, (Mod.up M96)⟩
end Go.Proofs.YtefhfoioeoijlaaGreat

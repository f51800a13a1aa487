/- GG: printed by gen.py -/
import Derived.Test.YtefhfoioeoijlaaGF
set_option linter.unusedVariables false
set_option linter.unusedSimpArgs false
namespace Go.Proofs.Ytefhfoioeoijlaa
open Go Go.RowKit Go.Sort
set_option maxHeartbeats 2000000 in
theorem alive_at {w : World} : Calls Try.prog 13 #[] w fun e w' => e = .returned (.bool true) ∧ Up w w' := by
  obtain ⟨B, hBe⟩ : ∃ B, B = w.heap.size := ⟨_, rfl⟩
  have hB : B ≤ w.heap.size := Nat.le_of_eq hBe
  go_enter Try.func13, Try.ntmps13
  refine wp_seq (rg_lit ?_)
  refine was (v := .bool false) ?_
  refine wnil (then_n (wp_seq (rg_lit ?_)))
  refine wl (sv rfl (v := .agg #[.int .i64 1, .int .i64 1]) (r_build (ps := [(0, .int .i64 1), (1, .int .i64 1)]) (cs := [.int .i64 1, .int .i64 1]) Ty.un24 Ty.zv24 Ty.pl24 (by kernel_rfl) (by kernel_rfl)) ?_)
  refine wl (sv rfl (v := .agg #[.int .i64 2, .int .i64 1]) (r_build (ps := [(0, .int .i64 2), (1, .int .i64 1)]) (cs := [.int .i64 2, .int .i64 1]) Ty.un24 Ty.zv24 Ty.pl24 (by kernel_rfl) (by kernel_rfl)) ?_)
  refine wl (sn rfl (cs := #[.int .i64 0, .int .i64 0]) (T := 24) (V := fun b => .pointer (some ⟨b, 0, none⟩)) (r_alloc Ty.zv24 rfl) ?_)
  intro b1 w2 e3 h4 u5
  have g6 : w.heap.size ≤ b1 := by rw [e3]; exact (Mod.refl [] w).size
  have M7 := Mod.trans (Mod.refl [] w) (Mod.of_up u5)
  refine wl (sn rfl (cs := #[.int .i64 0, .int .i64 0]) (T := 24) (V := fun b => .pointer (some ⟨b, 0, none⟩)) (r_alloc Ty.zv24 rfl) ?_)
  intro b8 w9 e10 h11 u12
  have l13 : b1 < b8 := by rw [e10]; exact lt_ob h4
  have g14 : w.heap.size ≤ b8 := by rw [e10]; exact M7.size
  have M15 := Mod.trans M7 (Mod.of_up u12)
  have h16 := (up_ob u12 h4)
  refine wl (ss rfl (k := 0) (v := .agg #[.int .i64 1, .int .i64 1]) (vs := [.int .i64 1, .int .i64 1]) (cs' := [.int .i64 1, .int .i64 1]) (by kernel_rfl) (by kernel_rfl) rfl Ty.sz24 h16 rfl (Nat.le_of_ble_eq_true rfl) rfl ?_)
  intro w17 h18 c19
  have M20 := Mod.trans' M15 c19 (fun i hi => by injection hi with hi; rw [← hi]; exact g6)
  have h21 := (chg_ob c19 (Nat.ne_of_gt l13) h11)
  refine wl (ss rfl (k := 0) (v := .agg #[.int .i64 2, .int .i64 1]) (vs := [.int .i64 2, .int .i64 1]) (cs' := [.int .i64 2, .int .i64 1]) (by kernel_rfl) (by kernel_rfl) rfl Ty.sz24 h21 rfl (Nat.le_of_ble_eq_true rfl) rfl ?_)
  intro w22 h23 c24
  have M25 := Mod.trans' M20 c24 (fun i hi => by injection hi with hi; rw [← hi]; exact g14)
  refine wnil (then_n (wp_seq (rg_lit ?_)))
  refine wl (sc rfl (r_callv (caps := []) (all := []) En.f14 (by kernel_rfl) (by kernel_rfl)) (tnew_any (Nat.le_trans hB M25.size)) ?_)
  rintro e w26 ⟨tb, r, rfl, h29, u30, z31, z32⟩
  refine ⟨.pointer (some ⟨tb, 0, none⟩), rfl, ?_⟩
  have h33 := (chg_ob c24 (Nat.ne_of_lt l13) h18)
  have l34 : b1 < r := Nat.lt_of_lt_of_le (lt_ob h33) z32
  have l35 : b8 < r := Nat.lt_of_lt_of_le (lt_ob h23) z32
  have l36 : b1 < tb := Nat.lt_of_lt_of_le (lt_ob h33) z31
  have l37 : b8 < tb := Nat.lt_of_lt_of_le (lt_ob h23) z31
  have M38 := Mod.trans M25 (Mod.of_up u30)
  obtain ⟨eshr39, clhr39, xshr39, hr39, _⟩ := h29.2.2.2.1
  refine was (v := .pointer (some ⟨tb, 0, none⟩)) ?_
  refine wnil (then_n (wp_seq (rg_lit ?_)))
  refine wmv (v := .pointer (some ⟨tb, 0, none⟩)) ?_
  have h40 := (up_ob u30 h33)
  refine wl (sv rfl (v := .agg #[.int .i64 1, .int .i64 1]) (r_loads (k := 0) (by kernel_rfl) Ty.ag24 Ty.sz24 h40 (by kernel_rfl)) ?_)
  refine wl (sv rfl (v := .agg #[.int .i64 1, .int .i64 1]) (r_loads (k := 0) (by kernel_rfl) Ty.ag24 Ty.sz24 h40 (by kernel_rfl)) ?_)
  refine wl (sv rfl (v := .agg #[.int .i64 1, .int .i64 1, .int .i64 1, .int .i64 1, .int .i64 1, .int .i64 0, .int .i64 0, .bool true, .string (⟨#[97]⟩), .slice none 0 0]) (r_build (ps := [(0, .int .i64 1), (1, .agg #[.int .i64 1, .int .i64 1]), (2, .agg #[.int .i64 1, .int .i64 1]), (4, .bool true), (5, .string (⟨#[97]⟩))]) (cs := [.int .i64 1, .int .i64 1, .int .i64 1, .int .i64 1, .int .i64 1, .int .i64 0, .int .i64 0, .bool true, .string (⟨#[97]⟩), .slice none 0 0]) Ty.un40 Ty.zv40 Ty.pl40 (by kernel_rfl) (by kernel_rfl)) ?_)
  have h48 := (up_ob u30 h23)
  refine wl (sc rfl (r_callv (caps := []) (all := [.pointer (some ⟨tb, 0, none⟩), .agg #[.int .i64 1, .int .i64 1, .int .i64 1, .int .i64 1, .int .i64 1, .int .i64 0, .int .i64 0, .bool true, .string (⟨#[97]⟩), .slice none 0 0]]) En.f15 (by kernel_rfl) (by kernel_rfl)) (do_x (L' := aL1) h29 (Nat.le_trans hB M38.size) ao1 none 0 0 (Dat.nil B _) (by decide) rfl) ?_)
  rintro e w41 ⟨A42, n43, c44, rfl, h45, h46, u47⟩
  refine ⟨.tuple #[.agg #[.int .i64 ((doI ([]) ao1).1.1.node.t), .int .i64 ((doI ([]) ao1).1.1.node.w), .int .i64 ((doI ([]) ao1).1.1.parent.t), .int .i64 ((doI ([]) ao1).1.1.parent.w), .string ((doI ([]) ao1).1.1.name), .bool ((doI ([]) ao1).1.1.dir), .bool ((doI ([]) ao1).1.1.gone), .slice A42 n43 c44, .int .i64 ((doI ([]) ao1).1.1.by_.t), .int .i64 ((doI ([]) ao1).1.1.by_.w)], .bool ((doI ([]) ao1).1.2.1), .int .i64 ((doI ([]) ao1).1.2.2)], rfl, ?_⟩
  have M49 := Mod.trans' M38 u47 (fun i hi => by injection hi with hi; rw [← hi]; exact (Nat.le_trans M25.size z32))
  obtain ⟨eshr50, clhr50, xshr50, hr50, _⟩ := h46.2.2.2.1
  refine wnil (then_n (wp_seq (rg_lit ?_)))
  refine wmv (v := .pointer (some ⟨tb, 0, none⟩)) ?_
  have h51 := (chg_ob u47 (Nat.ne_of_lt l35) h48)
  refine wl (sv rfl (v := .agg #[.int .i64 2, .int .i64 1]) (r_loads (k := 0) (by kernel_rfl) Ty.ag24 Ty.sz24 h51 (by kernel_rfl)) ?_)
  refine wl (sv rfl (v := .agg #[.int .i64 2, .int .i64 1]) (r_loads (k := 0) (by kernel_rfl) Ty.ag24 Ty.sz24 h51 (by kernel_rfl)) ?_)
  refine wl (sv rfl (v := .agg #[.int .i64 1, .int .i64 2, .int .i64 1, .int .i64 2, .int .i64 1, .int .i64 0, .int .i64 0, .bool true, .string (⟨#[98]⟩), .slice none 0 0]) (r_build (ps := [(0, .int .i64 1), (1, .agg #[.int .i64 2, .int .i64 1]), (2, .agg #[.int .i64 2, .int .i64 1]), (4, .bool true), (5, .string (⟨#[98]⟩))]) (cs := [.int .i64 1, .int .i64 2, .int .i64 1, .int .i64 2, .int .i64 1, .int .i64 0, .int .i64 0, .bool true, .string (⟨#[98]⟩), .slice none 0 0]) Ty.un40 Ty.zv40 Ty.pl40 (by kernel_rfl) (by kernel_rfl)) ?_)
  have h59 := (chg_ob u47 (Nat.ne_of_lt l34) h40)
  refine wl (sc rfl (r_callv (caps := []) (all := [.pointer (some ⟨tb, 0, none⟩), .agg #[.int .i64 1, .int .i64 2, .int .i64 1, .int .i64 2, .int .i64 1, .int .i64 0, .int .i64 0, .bool true, .string (⟨#[98]⟩), .slice none 0 0]]) En.f15 (by kernel_rfl) (by kernel_rfl)) (do_x (L' := aL2) h46 (Nat.le_trans hB M49.size) ao2 none 0 0 (Dat.nil B _) (by decide) rfl) ?_)
  rintro e w52 ⟨A53, n54, c55, rfl, h56, h57, u58⟩
  refine ⟨.tuple #[.agg #[.int .i64 ((doI aL1 ao2).1.1.node.t), .int .i64 ((doI aL1 ao2).1.1.node.w), .int .i64 ((doI aL1 ao2).1.1.parent.t), .int .i64 ((doI aL1 ao2).1.1.parent.w), .string ((doI aL1 ao2).1.1.name), .bool ((doI aL1 ao2).1.1.dir), .bool ((doI aL1 ao2).1.1.gone), .slice A53 n54 c55, .int .i64 ((doI aL1 ao2).1.1.by_.t), .int .i64 ((doI aL1 ao2).1.1.by_.w)], .bool ((doI aL1 ao2).1.2.1), .int .i64 ((doI aL1 ao2).1.2.2)], rfl, ?_⟩
  have M60 := Mod.trans' M49 u58 (fun i hi => by injection hi with hi; rw [← hi]; exact (Nat.le_trans M25.size z32))
  obtain ⟨eshr61, clhr61, xshr61, hr61, _⟩ := h57.2.2.2.1
  refine wnil (then_n (wp_seq (rg_lit ?_)))
  refine wmv (v := .pointer (some ⟨tb, 0, none⟩)) ?_
  refine wl (sv rfl (v := .agg #[.int .i64 3, .int .i64 1]) (r_build (ps := [(0, .int .i64 3), (1, .int .i64 1)]) (cs := [.int .i64 3, .int .i64 1]) Ty.un24 Ty.zv24 Ty.pl24 (by kernel_rfl) (by kernel_rfl)) ?_)
  have h62 := (chg_ob u58 (Nat.ne_of_lt l34) h59)
  refine wl (sv rfl (v := .agg #[.int .i64 1, .int .i64 1]) (r_loads (k := 0) (by kernel_rfl) Ty.ag24 Ty.sz24 h62 (by kernel_rfl)) ?_)
  have h63 := (chg_ob u58 (Nat.ne_of_lt l35) h51)
  refine wl (sv rfl (v := .agg #[.int .i64 2, .int .i64 1]) (r_loads (k := 0) (by kernel_rfl) Ty.ag24 Ty.sz24 h63 (by kernel_rfl)) ?_)
  refine wl (sv rfl (v := .agg #[.int .i64 2, .int .i64 3, .int .i64 1, .int .i64 1, .int .i64 1, .int .i64 2, .int .i64 1, .bool false, .string (⟨#[97]⟩), .slice none 0 0]) (r_build (ps := [(0, .int .i64 2), (1, .agg #[.int .i64 3, .int .i64 1]), (2, .agg #[.int .i64 1, .int .i64 1]), (3, .agg #[.int .i64 2, .int .i64 1]), (5, .string (⟨#[97]⟩))]) (cs := [.int .i64 2, .int .i64 3, .int .i64 1, .int .i64 1, .int .i64 1, .int .i64 2, .int .i64 1, .bool false, .string (⟨#[97]⟩), .slice none 0 0]) Ty.un40 Ty.zv40 Ty.pl40 (by kernel_rfl) (by kernel_rfl)) ?_)
  refine wl (sc rfl (r_callv (caps := []) (all := [.pointer (some ⟨tb, 0, none⟩), .agg #[.int .i64 2, .int .i64 3, .int .i64 1, .int .i64 1, .int .i64 1, .int .i64 2, .int .i64 1, .bool false, .string (⟨#[97]⟩), .slice none 0 0]]) En.f15 (by kernel_rfl) (by kernel_rfl)) (do_x (L' := aL3) h57 (Nat.le_trans hB M60.size) ao3 none 0 0 (Dat.nil B _) (by decide) rfl) ?_)
  rintro e w64 ⟨A65, n66, c67, rfl, h68, h69, u70⟩
  refine ⟨.tuple #[.agg #[.int .i64 ((doI aL2 ao3).1.1.node.t), .int .i64 ((doI aL2 ao3).1.1.node.w), .int .i64 ((doI aL2 ao3).1.1.parent.t), .int .i64 ((doI aL2 ao3).1.1.parent.w), .string ((doI aL2 ao3).1.1.name), .bool ((doI aL2 ao3).1.1.dir), .bool ((doI aL2 ao3).1.1.gone), .slice A65 n66 c67, .int .i64 ((doI aL2 ao3).1.1.by_.t), .int .i64 ((doI aL2 ao3).1.1.by_.w)], .bool ((doI aL2 ao3).1.2.1), .int .i64 ((doI aL2 ao3).1.2.2)], rfl, ?_⟩
  have M71 := Mod.trans' M60 u70 (fun i hi => by injection hi with hi; rw [← hi]; exact (Nat.le_trans M25.size z32))
  obtain ⟨eshr72, clhr72, xshr72, hr72, _⟩ := h69.2.2.2.1
  refine wnil (then_n (wp_seq (rg_lit ?_)))
  refine wmv (v := .pointer (some ⟨tb, 0, none⟩)) ?_
  refine wl (sv rfl (v := .agg #[.int .i64 4, .int .i64 1]) (r_build (ps := [(0, .int .i64 4), (1, .int .i64 1)]) (cs := [.int .i64 4, .int .i64 1]) Ty.un24 Ty.zv24 Ty.pl24 (by kernel_rfl) (by kernel_rfl)) ?_)
  have h73 := (chg_ob u70 (Nat.ne_of_lt l35) h63)
  refine wl (sv rfl (v := .agg #[.int .i64 2, .int .i64 1]) (r_loads (k := 0) (by kernel_rfl) Ty.ag24 Ty.sz24 h73 (by kernel_rfl)) ?_)
  have h74 := (chg_ob u70 (Nat.ne_of_lt l34) h62)
  refine wl (sv rfl (v := .agg #[.int .i64 1, .int .i64 1]) (r_loads (k := 0) (by kernel_rfl) Ty.ag24 Ty.sz24 h74 (by kernel_rfl)) ?_)
  refine wl (sv rfl (v := .agg #[.int .i64 2, .int .i64 4, .int .i64 1, .int .i64 2, .int .i64 1, .int .i64 1, .int .i64 1, .bool false, .string (⟨#[98]⟩), .slice none 0 0]) (r_build (ps := [(0, .int .i64 2), (1, .agg #[.int .i64 4, .int .i64 1]), (2, .agg #[.int .i64 2, .int .i64 1]), (3, .agg #[.int .i64 1, .int .i64 1]), (5, .string (⟨#[98]⟩))]) (cs := [.int .i64 2, .int .i64 4, .int .i64 1, .int .i64 2, .int .i64 1, .int .i64 1, .int .i64 1, .bool false, .string (⟨#[98]⟩), .slice none 0 0]) Ty.un40 Ty.zv40 Ty.pl40 (by kernel_rfl) (by kernel_rfl)) ?_)
  refine wl (sc rfl (r_callv (caps := []) (all := [.pointer (some ⟨tb, 0, none⟩), .agg #[.int .i64 2, .int .i64 4, .int .i64 1, .int .i64 2, .int .i64 1, .int .i64 1, .int .i64 1, .bool false, .string (⟨#[98]⟩), .slice none 0 0]]) En.f15 (by kernel_rfl) (by kernel_rfl)) (do_x (L' := aL4) h69 (Nat.le_trans hB M71.size) ao4 none 0 0 (Dat.nil B _) (by decide) rfl) ?_)
  rintro e w75 ⟨A76, n77, c78, rfl, h79, h80, u81⟩
  refine ⟨.tuple #[.agg #[.int .i64 ((doI aL3 ao4).1.1.node.t), .int .i64 ((doI aL3 ao4).1.1.node.w), .int .i64 ((doI aL3 ao4).1.1.parent.t), .int .i64 ((doI aL3 ao4).1.1.parent.w), .string ((doI aL3 ao4).1.1.name), .bool ((doI aL3 ao4).1.1.dir), .bool ((doI aL3 ao4).1.1.gone), .slice A76 n77 c78, .int .i64 ((doI aL3 ao4).1.1.by_.t), .int .i64 ((doI aL3 ao4).1.1.by_.w)], .bool ((doI aL3 ao4).1.2.1), .int .i64 ((doI aL3 ao4).1.2.2)], rfl, ?_⟩
  have M82 := Mod.trans' M71 u81 (fun i hi => by injection hi with hi; rw [← hi]; exact (Nat.le_trans M25.size z32))
  obtain ⟨eshr83, clhr83, xshr83, hr83, _⟩ := h80.2.2.2.1
  refine wnil (then_n (wp_seq (rg_lit ?_)))
  refine wmv (v := .pointer (some ⟨tb, 0, none⟩)) ?_
  have h84 := (chg_ob u81 (Nat.ne_of_lt l34) h74)
  refine wl (sv rfl (v := .agg #[.int .i64 1, .int .i64 1]) (r_loads (k := 0) (by kernel_rfl) Ty.ag24 Ty.sz24 h84 (by kernel_rfl)) ?_)
  refine wl (sc rfl (r_callv (caps := []) (all := [.pointer (some ⟨tb, 0, none⟩), .agg #[.int .i64 1, .int .i64 1]]) En.f23 (by kernel_rfl) (by kernel_rfl)) (get_x h80 ⟨1, 1⟩ (x := ax1) (b := true) a_g1 a_h1) ?_)
  rintro e w85 ⟨A86, n87, c88, rfl, h89, u90⟩
  refine ⟨.tuple #[.agg #[.int .i64 1, .int .i64 1, .int .i64 2, .int .i64 1, .string (⟨#[97]⟩), .bool true, .bool false, .slice A86 n87 c88, .int .i64 0, .int .i64 0], .bool true], rfl, ?_⟩
  have M91 := Mod.trans M82 (Mod.of_up u90)
  refine wmv (v := .tuple #[.agg #[.int .i64 1, .int .i64 1, .int .i64 2, .int .i64 1, .string (⟨#[97]⟩), .bool true, .bool false, .slice A86 n87 c88, .int .i64 0, .int .i64 0], .bool true]) ?_
  refine wl (sv rfl (v := .agg #[.int .i64 1, .int .i64 1, .int .i64 2, .int .i64 1, .string (⟨#[97]⟩), .bool true, .bool false, .slice A86 n87 c88, .int .i64 0, .int .i64 0]) (r_extract (vs := [.agg #[.int .i64 1, .int .i64 1, .int .i64 2, .int .i64 1, .string (⟨#[97]⟩), .bool true, .bool false, .slice A86 n87 c88, .int .i64 0, .int .i64 0], .bool true]) (by kernel_rfl) rfl) ?_)
  refine wl (sv rfl (v := .bool true) (r_extract (vs := [.agg #[.int .i64 1, .int .i64 1, .int .i64 2, .int .i64 1, .string (⟨#[97]⟩), .bool true, .bool false, .slice A86 n87 c88, .int .i64 0, .int .i64 0], .bool true]) (by kernel_rfl) rfl) ?_)
  refine wl (sn rfl (cs := #[.int .i64 0, .int .i64 0, .int .i64 0, .int .i64 0, .string (⟨#[]⟩), .bool false, .bool false, .slice none 0 0, .int .i64 0, .int .i64 0]) (T := 35) (V := fun b => .pointer (some ⟨b, 0, none⟩)) (r_alloc Ty.zv35 rfl) ?_)
  intro b92 w93 e94 h95 u96
  have h97 := (up_ob u90 h84)
  have l98 : b1 < b92 := by rw [e94]; exact lt_ob h97
  have h99 := (up_ob u90 (chg_ob u81 (Nat.ne_of_lt l35) h73))
  have l100 : b8 < b92 := by rw [e94]; exact lt_ob h99
  have h101 := (up_ob u90 hr83)
  have l102 : r < b92 := by rw [e94]; exact lt_ob h101
  have h103 := (up_ob u90 h80.1)
  have l104 : tb < b92 := by rw [e94]; exact lt_ob h103
  have g105 : w.heap.size ≤ b92 := by rw [e94]; exact M91.size
  have M106 := Mod.trans M91 (Mod.of_up u96)
  refine wl (ss rfl (k := 0) (v := .agg #[.int .i64 1, .int .i64 1, .int .i64 2, .int .i64 1, .string (⟨#[97]⟩), .bool true, .bool false, .slice A86 n87 c88, .int .i64 0, .int .i64 0]) (vs := [.int .i64 1, .int .i64 1, .int .i64 2, .int .i64 1, .string (⟨#[97]⟩), .bool true, .bool false, .slice A86 n87 c88, .int .i64 0, .int .i64 0]) (cs' := [.int .i64 1, .int .i64 1, .int .i64 2, .int .i64 1, .string (⟨#[97]⟩), .bool true, .bool false, .slice A86 n87 c88, .int .i64 0, .int .i64 0]) (by kernel_rfl) (by kernel_rfl) rfl Ty.sz35 h95 rfl (Nat.le_of_ble_eq_true rfl) rfl ?_)
  intro w107 h108 c109
  have M110 := Mod.trans' M106 c109 (fun i hi => by injection hi with hi; rw [← hi]; exact g105)
  refine was (v := .bool true) ?_
  refine wnil (then_n (wp_seq (rg_lit ?_)))
  refine wmv (v := .pointer (some ⟨tb, 0, none⟩)) ?_
  have h111 := (chg_ob c109 (Nat.ne_of_lt l100) (up_ob u96 h99))
  refine wl (sv rfl (v := .agg #[.int .i64 2, .int .i64 1]) (r_loads (k := 0) (by kernel_rfl) Ty.ag24 Ty.sz24 h111 (by kernel_rfl)) ?_)
  have h112 := (TreeIs.up h80 (up_chgn (up_up u90 u96) c109 (by rw [e94]; exact u90.size)))
  refine wl (sc rfl (r_callv (caps := []) (all := [.pointer (some ⟨tb, 0, none⟩), .agg #[.int .i64 2, .int .i64 1]]) En.f23 (by kernel_rfl) (by kernel_rfl)) (get_x h112 ⟨2, 1⟩ (x := ax2) (b := true) a_g2 a_h2) ?_)
  rintro e w113 ⟨A114, n115, c116, rfl, h117, u118⟩
  refine ⟨.tuple #[.agg #[.int .i64 2, .int .i64 1, .int .i64 0, .int .i64 0, .string (⟨#[98]⟩), .bool true, .bool false, .slice A114 n115 c116, .int .i64 0, .int .i64 0], .bool true], rfl, ?_⟩
  have M119 := Mod.trans M110 (Mod.of_up u118)
  refine wmv (v := .tuple #[.agg #[.int .i64 2, .int .i64 1, .int .i64 0, .int .i64 0, .string (⟨#[98]⟩), .bool true, .bool false, .slice A114 n115 c116, .int .i64 0, .int .i64 0], .bool true]) ?_
  refine wl (sv rfl (v := .agg #[.int .i64 2, .int .i64 1, .int .i64 0, .int .i64 0, .string (⟨#[98]⟩), .bool true, .bool false, .slice A114 n115 c116, .int .i64 0, .int .i64 0]) (r_extract (vs := [.agg #[.int .i64 2, .int .i64 1, .int .i64 0, .int .i64 0, .string (⟨#[98]⟩), .bool true, .bool false, .slice A114 n115 c116, .int .i64 0, .int .i64 0], .bool true]) (by kernel_rfl) rfl) ?_)
  refine wl (sv rfl (v := .bool true) (r_extract (vs := [.agg #[.int .i64 2, .int .i64 1, .int .i64 0, .int .i64 0, .string (⟨#[98]⟩), .bool true, .bool false, .slice A114 n115 c116, .int .i64 0, .int .i64 0], .bool true]) (by kernel_rfl) rfl) ?_)
  refine wl (sn rfl (cs := #[.int .i64 0, .int .i64 0, .int .i64 0, .int .i64 0, .string (⟨#[]⟩), .bool false, .bool false, .slice none 0 0, .int .i64 0, .int .i64 0]) (T := 35) (V := fun b => .pointer (some ⟨b, 0, none⟩)) (r_alloc Ty.zv35 rfl) ?_)
  intro b120 w121 e122 h123 u124
  have h125 := (up_ob u118 (chg_ob c109 (Nat.ne_of_lt l98) (up_ob u96 h97)))
  have l126 : b1 < b120 := by rw [e122]; exact lt_ob h125
  have h127 := (up_ob u118 h111)
  have l128 : b8 < b120 := by rw [e122]; exact lt_ob h127
  have h129 := (up_ob u118 (chg_ob c109 (Nat.ne_of_lt l102) (up_ob u96 h101)))
  have l130 : r < b120 := by rw [e122]; exact lt_ob h129
  have h131 := (up_ob u118 (chg_ob c109 (Nat.ne_of_lt l104) (up_ob u96 h103)))
  have l132 : tb < b120 := by rw [e122]; exact lt_ob h131
  have h133 := (up_ob u118 h108)
  have l134 : b92 < b120 := by rw [e122]; exact lt_ob h133
  have g135 : w.heap.size ≤ b120 := by rw [e122]; exact M119.size
  have M136 := Mod.trans M119 (Mod.of_up u124)
  refine wl (ss rfl (k := 0) (v := .agg #[.int .i64 2, .int .i64 1, .int .i64 0, .int .i64 0, .string (⟨#[98]⟩), .bool true, .bool false, .slice A114 n115 c116, .int .i64 0, .int .i64 0]) (vs := [.int .i64 2, .int .i64 1, .int .i64 0, .int .i64 0, .string (⟨#[98]⟩), .bool true, .bool false, .slice A114 n115 c116, .int .i64 0, .int .i64 0]) (cs' := [.int .i64 2, .int .i64 1, .int .i64 0, .int .i64 0, .string (⟨#[98]⟩), .bool true, .bool false, .slice A114 n115 c116, .int .i64 0, .int .i64 0]) (by kernel_rfl) (by kernel_rfl) rfl Ty.sz35 h123 rfl (Nat.le_of_ble_eq_true rfl) rfl ?_)
  intro w137 h138 c139
  have M140 := Mod.trans' M136 c139 (fun i hi => by injection hi with hi; rw [← hi]; exact g135)
  refine was (v := .bool true) ?_
  refine wnil (then_n (wp_seq (rg_lit ?_)))
  refine wmv (v := .bool true) ?_
  refine wmv (v := .bool true) ?_
  refine wl (sv (by kernel_rfl) (v := .bool true) (r_move (by kernel_rfl)) ?_)
  refine wl (sv rfl (v := .bool true) (r_pkT (by kernel_rfl) (by kernel_rfl)) ?_)
  refine wmv (v := .bool true) ?_
  refine wl (sv (by kernel_rfl) (v := .pointer (some ⟨b92, 2, none⟩)) (r_fieldAddr (u := .pointer (some ⟨b92, 0, none⟩)) (by kernel_rfl) (fun _ => (by kernel_rfl))) ?_)
  have h141 := (chg_ob c139 (Nat.ne_of_lt l134) (up_ob u124 h133))
  refine wl (sv (by kernel_rfl) (v := .agg #[.int .i64 2, .int .i64 1]) (r_loads (k := 2) (by kernel_rfl) Ty.ag24 Ty.sz24 h141 (by kernel_rfl)) ?_)
  have h142 := (chg_ob c139 (Nat.ne_of_lt l128) (up_ob u124 h127))
  refine wl (sv (by kernel_rfl) (v := .agg #[.int .i64 2, .int .i64 1]) (r_loads (k := 0) (by kernel_rfl) Ty.ag24 Ty.sz24 h142 (by kernel_rfl)) ?_)
  refine wl (sv (by kernel_rfl) (v := .bool true) (dec_true (by decide) (r_eqS (a := 2) (b := 1) (c := 2) (e := 1) (by kernel_rfl) (by kernel_rfl))) ?_)
  refine wl (sv rfl (v := .bool true) (r_pkT (by kernel_rfl) (by kernel_rfl)) ?_)
  refine wmv (v := .bool true) ?_
  refine wl (sv (by kernel_rfl) (v := .pointer (some ⟨b120, 2, none⟩)) (r_fieldAddr (u := .pointer (some ⟨b120, 0, none⟩)) (by kernel_rfl) (fun _ => (by kernel_rfl))) ?_)
  refine wl (sv (by kernel_rfl) (v := .agg #[.int .i64 0, .int .i64 0]) (r_loads (k := 2) (by kernel_rfl) Ty.ag24 Ty.sz24 h138 (by kernel_rfl)) ?_)
  refine wl (sv (by kernel_rfl) (v := .agg #[.int .i64 0, .int .i64 0]) (r_build (ps := []) (cs := [.int .i64 0, .int .i64 0]) Ty.un24 Ty.zv24 Ty.pl24 (by kernel_rfl) (by kernel_rfl)) ?_)
  refine wl (sv (by kernel_rfl) (v := .bool true) (dec_true (by decide) (r_eqS (a := 0) (b := 0) (c := 0) (e := 0) (by kernel_rfl) (by kernel_rfl))) ?_)
  refine wl (sv rfl (v := .bool true) (r_pkT (by kernel_rfl) (by kernel_rfl)) ?_)
  refine wmv (v := .bool true) ?_
  refine wl (sv (by kernel_rfl) (v := .pointer (some ⟨tb, 0, none⟩)) (r_move (by kernel_rfl)) ?_)
  have h143 := (TreeIs.up h112 (up_chgn (up_up u118 u124) c139 (by rw [e122]; exact u118.size)))
  refine wl (sc (by kernel_rfl) (r_callv (caps := []) (all := [.pointer (some ⟨tb, 0, none⟩)]) En.f22 (by kernel_rfl) (by kernel_rfl)) (tlen_any h143) ?_)
  rintro e w144 ⟨rfl, rfl⟩
  rw [show (aL4.length : Int) = 2 from by rw [a_len]; rfl]
  refine ⟨.int .i64 2, rfl, ?_⟩
  refine wl (sv (w' := w144) (by kernel_rfl) (v := .bool true) (by kernel_rfl) ?_)
  refine wl (sv rfl (v := .bool true) (r_pkT (by kernel_rfl) (by kernel_rfl)) ?_)
  refine was (v := .bool true) ?_
  refine wnil (then_n (wp_ret ?_))
  refine bodyPost_ret (v := .bool true) (res1 rfl (rv_t (by kernel_rfl))) (by kernel_rfl) ?_
  exact ⟨rfl, (Mod.up M140)⟩
end Go.Proofs.Ytefhfoioeoijlaa

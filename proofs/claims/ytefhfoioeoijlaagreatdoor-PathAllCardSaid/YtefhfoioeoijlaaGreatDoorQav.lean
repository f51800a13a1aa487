/- Pth4, PD, Pth5 -/
import Derived.Test.YtefhfoioeoijlaaGreatDoorQas
import Derived.Test.YtefhfoioeoijlaaGreatDoorQau
set_option linter.unusedVariables false
set_option linter.unusedSimpArgs false
namespace Go.Proofs.YtefhfoioeoijlaaGreatDoor
open Go Go.RowKit Go.Sort
def po1 : OpD := ⟨1, ⟨1, 1⟩, ⟨1, 1⟩, ⟨0, 0⟩, true, ⟨#[120]⟩, []⟩
def po2 : OpD := ⟨1, ⟨2, 1⟩, ⟨2, 1⟩, ⟨1, 1⟩, false, ⟨#[121]⟩, []⟩
theorem p_clean : cleanB ⟨#[47, 97, 47, 46, 46, 47, 98, 47, 47, 99]⟩ = ⟨#[47, 98, 47, 99]⟩ := by kernel_rfl
theorem p_cleanK : cleanK ⟨#[47, 97, 47, 46, 46, 47, 98, 47, 47, 99]⟩ = 0 := by kernel_rfl
theorem p_of : ofB (buildI [po1, po2]) ⟨2, 1⟩ = ⟨#[47, 120, 47, 121]⟩ := by kernel_rfl
theorem p_ofK : ofK (buildI [po1, po2]) ⟨2, 1⟩ = 0 := by kernel_rfl
theorem p_walk : walkS (buildI [po1, po2]) ⟨#[47, 120, 47, 121]⟩ = ⟨2, 1⟩ := by kernel_rfl
theorem p_walkK : walkK (buildI [po1, po2]) ⟨#[47, 120, 47, 121]⟩ = 0 := by kernel_rfl
theorem two_rowP {B : Nat} {w : World} {g : Nat} (h : w.heap[g]? = some (.cells ((opC po1 (.slice none 0 0) ++ opC po2 (.slice none 0 0)).toArray) 49 (0, 0))) : OpRow B w (some ⟨g, 0, none⟩) [po1, po2] := fun i o hi => by
  have hlt : g < w.heap.size := lt_ob h
  match i, hi with
  | 0, hi =>
    simp at hi; subst hi
    refine ⟨g, 0, none, 0, 0, rfl, hlt, fun j v hj => ?_, Dat.nil B w, by decide⟩
    have hj10 : j < 10 := (List.getElem?_eq_some_iff.1 hj).1
    simp only [World.cell?, h, Nat.zero_add, Nat.zero_mul]
    rw [List.getElem?_toArray, List.getElem?_append_left (by exact hj10)]
    exact hj
  | 1, hi =>
    simp at hi; subst hi
    refine ⟨g, 0, none, 0, 0, rfl, hlt, fun j v hj => ?_, Dat.nil B w, by decide⟩
    have hj10 : j < 10 := (List.getElem?_eq_some_iff.1 hj).1
    simp only [World.cell?, h, Nat.zero_add, Nat.one_mul]
    rw [List.getElem?_toArray, List.getElem?_append_right (by show 10 ≤ 10 + j; omega)]
    have e : 10 + j - (opC po1 (.slice none 0 0)).length = j := by show 10 + j - 10 = j; omega
    rw [e]; exact hj
  | i + 2, hi => simp at hi
theorem build2P_at {B : Nat} {w : World} {g : Nat} (h : w.heap[g]? = some (.cells ((opC po1 (.slice none 0 0) ++ opC po2 (.slice none 0 0)).toArray) 49 (0, 0))) (hB : B ≤ w.heap.size) :
    Calls Tryz.prog 15 #[.slice (some ⟨g, 0, none⟩) 2 2] w fun e w' => ∃ tb r, e = .returned (trP tb) ∧ TreeIs B w' tb r (buildI [po1, po2]) ∧ Up w w' ∧ w.heap.size ≤ tb ∧ w.heap.size ≤ r := build_at (two_rowP h) hB (by decide)
theorem of2_at {B : Nat} {w : World} {tb r : Nat} (h : TreeIs B w tb r (buildI [po1, po2])) (hB : B ≤ w.heap.size) (htab : Tab w) : Calls Tryz.prog 42 #[trP tb, .agg #[.int .i64 2, .int .i64 1]] w fun e w' => e = .returned (.tuple #[.string ⟨#[47, 120, 47, 121]⟩, .int .i64 0]) ∧ Up w w' := by
  refine (of_at h hB (fit_build _) htab 2 1).mono ?_
  rintro e w' ⟨rfl, u⟩
  rw [p_of, p_ofK]; exact ⟨rfl, u⟩
theorem walk2_at {B : Nat} {w : World} {tb r : Nat} (h : TreeIs B w tb r (buildI [po1, po2])) (hB : B ≤ w.heap.size) (htab : Tab w) (hmx : Mx w) : Calls Tryz.prog 43 #[trP tb, .string ⟨#[47, 120, 47, 121]⟩] w fun e w' => e = .returned (.tuple #[.agg #[.int .i64 2, .int .i64 1], .int .i64 0]) ∧ Up w w' := by
  refine (walk_at h hB (fit_build _) htab hmx ⟨#[47, 120, 47, 121]⟩ (by decide)).mono ?_
  rintro e w' ⟨rfl, u⟩
  rw [p_walk, p_walkK]; exact ⟨rfl, u⟩
theorem clean2_at {w : World} (hmx : Mx w) : Calls Tryz.prog 50 #[.string ⟨#[47, 97, 47, 46, 46, 47, 98, 47, 47, 99]⟩] w fun e w' => e = .returned (.tuple #[.string ⟨#[47, 98, 47, 99]⟩, .int .i64 0]) ∧ Up w w' := by
  refine (clean_at hmx ⟨#[47, 97, 47, 46, 46, 47, 98, 47, 47, 99]⟩ (by decide)).mono ?_
  rintro e w' ⟨rfl, u⟩
  rw [p_clean, p_cleanK]; exact ⟨rfl, u⟩
end Go.Proofs.YtefhfoioeoijlaaGreatDoor
set_option linter.unusedVariables false
set_option linter.unusedSimpArgs false
namespace Go.Proofs.YtefhfoioeoijlaaGreatDoor
open Go Go.RowKit Go.Sort
set_option maxHeartbeats 2000000 in
theorem alive19_at {w : World} (htab : Tab w) (hmx : Mx w) : Calls Tryz.prog 40 #[] w fun e w' => e = .returned (.bool true) ∧ Up w w' := by
  obtain ⟨B, hBe⟩ : ∃ B, B = w.heap.size := ⟨_, rfl⟩
  have hB : B ≤ w.heap.size := Nat.le_of_eq hBe
  go_enter Tryz.func40, Tryz.ntmps40
  refine wp_seq (rg_lit ?_)
  refine was (v := .bool false) ?_
  refine wnil (then_n (wp_seq (rg_lit ?_)))
  refine wl (sv rfl (v := .agg #[.int .i64 1, .int .i64 1]) (r_build (ps := [(0, .int .i64 1), (1, .int .i64 1)]) (cs := [.int .i64 1, .int .i64 1]) Ty.un24 Ty.zv24 Ty.pl24 (by kernel_rfl) (by kernel_rfl)) ?_)
  refine wl (sv rfl (v := .agg #[.int .i64 2, .int .i64 1]) (r_build (ps := [(0, .int .i64 2), (1, .int .i64 1)]) (cs := [.int .i64 2, .int .i64 1]) Ty.un24 Ty.zv24 Ty.pl24 (by kernel_rfl) (by kernel_rfl)) ?_)
  refine wl (sn rfl (cs := #[.int .i64 0, .int .i64 0]) (T := 24) (V := fun b => .pointer (some ⟨b, 0, none⟩)) (r_alloc Ty.zv24 rfl) ?_)
  intro b1 w2 e3 h4 u5
  have g6 : w.heap.size ≤ b1 := by rw [e3]; exact (Mod.refl [] w).size
  have M7 := Mod.trans (Mod.refl [] w) (Mod.of_up u5)
  refine wl (sn rfl (cs := #[.int .i64 0, .int .i64 0]) (T := 24) (V := fun b => .pointer (some ⟨b, 0, none⟩)) (r_alloc Ty.zv24 rfl) ?_)
  intro b8 w9 e10 h11 u12
  have l13 : b1 < b8 := by rw [e10]; exact lt_ob h4
  have g14 : w.heap.size ≤ b8 := by rw [e10]; exact M7.size
  have M15 := Mod.trans M7 (Mod.of_up u12)
  have h16 := (up_ob u12 h4)
  refine wl (ss rfl (k := 0) (v := .agg #[.int .i64 1, .int .i64 1]) (vs := [.int .i64 1, .int .i64 1]) (cs' := [.int .i64 1, .int .i64 1]) (by kernel_rfl) (by kernel_rfl) rfl Ty.sz24 h16 rfl (Nat.le_of_ble_eq_true rfl) rfl ?_)
  intro w17 h18 c19
  have M20 := Mod.trans' M15 c19 (fun i hi => by injection hi with hi; rw [← hi]; exact g6)
  have h21 := (chg_ob c19 (Nat.ne_of_gt l13) h11)
  refine wl (ss rfl (k := 0) (v := .agg #[.int .i64 2, .int .i64 1]) (vs := [.int .i64 2, .int .i64 1]) (cs' := [.int .i64 2, .int .i64 1]) (by kernel_rfl) (by kernel_rfl) rfl Ty.sz24 h21 rfl (Nat.le_of_ble_eq_true rfl) rfl ?_)
  intro w22 h23 c24
  have M25 := Mod.trans' M20 c24 (fun i hi => by injection hi with hi; rw [← hi]; exact g14)
  refine wnil (then_n (wp_seq (rg_lit ?_)))
  have h26 := (chg_ob c24 (Nat.ne_of_lt l13) h18)
  refine wl (sv rfl (v := .agg #[.int .i64 1, .int .i64 1]) (r_loads (k := 0) (by kernel_rfl) Ty.ag24 Ty.sz24 h26 (by kernel_rfl)) ?_)
  refine wl (sv rfl (v := .agg #[.int .i64 1, .int .i64 1]) (r_loads (k := 0) (by kernel_rfl) Ty.ag24 Ty.sz24 h26 (by kernel_rfl)) ?_)
  refine wl (sv rfl (v := .agg #[.int .i64 1, .int .i64 1, .int .i64 1, .int .i64 1, .int .i64 1, .int .i64 0, .int .i64 0, .bool true, .string (⟨#[120]⟩), .slice none 0 0]) (r_build (ps := [(0, .int .i64 1), (1, .agg #[.int .i64 1, .int .i64 1]), (2, .agg #[.int .i64 1, .int .i64 1]), (4, .bool true), (5, .string (⟨#[120]⟩))]) (cs := [.int .i64 1, .int .i64 1, .int .i64 1, .int .i64 1, .int .i64 1, .int .i64 0, .int .i64 0, .bool true, .string (⟨#[120]⟩), .slice none 0 0]) Ty.un49 Ty.zv49 Ty.pl49 (by kernel_rfl) (by kernel_rfl)) ?_)
  refine wl (sv rfl (v := .agg #[.int .i64 2, .int .i64 1]) (r_loads (k := 0) (by kernel_rfl) Ty.ag24 Ty.sz24 h23 (by kernel_rfl)) ?_)
  refine wl (sv rfl (v := .agg #[.int .i64 2, .int .i64 1]) (r_loads (k := 0) (by kernel_rfl) Ty.ag24 Ty.sz24 h23 (by kernel_rfl)) ?_)
  refine wl (sv rfl (v := .agg #[.int .i64 1, .int .i64 1]) (r_loads (k := 0) (by kernel_rfl) Ty.ag24 Ty.sz24 h26 (by kernel_rfl)) ?_)
  refine wl (sv rfl (v := .agg #[.int .i64 1, .int .i64 2, .int .i64 1, .int .i64 2, .int .i64 1, .int .i64 1, .int .i64 1, .bool false, .string (⟨#[121]⟩), .slice none 0 0]) (r_build (ps := [(0, .int .i64 1), (1, .agg #[.int .i64 2, .int .i64 1]), (2, .agg #[.int .i64 2, .int .i64 1]), (3, .agg #[.int .i64 1, .int .i64 1]), (5, .string (⟨#[121]⟩))]) (cs := [.int .i64 1, .int .i64 2, .int .i64 1, .int .i64 2, .int .i64 1, .int .i64 1, .int .i64 1, .bool false, .string (⟨#[121]⟩), .slice none 0 0]) Ty.un49 Ty.zv49 Ty.pl49 (by kernel_rfl) (by kernel_rfl)) ?_)
  refine wl (sn rfl (cs := #[.int .i64 1, .int .i64 1, .int .i64 1, .int .i64 1, .int .i64 1, .int .i64 0, .int .i64 0, .bool true, .string (⟨#[120]⟩), .slice none 0 0, .int .i64 1, .int .i64 2, .int .i64 1, .int .i64 2, .int .i64 1, .int .i64 1, .int .i64 1, .bool false, .string (⟨#[121]⟩), .slice none 0 0]) (T := 49) (V := fun b => .slice (some ⟨b, 0, none⟩) 2 2) (r_buildSlice (n := 2) (ps := [(0, .agg #[.int .i64 1, .int .i64 1, .int .i64 1, .int .i64 1, .int .i64 1, .int .i64 0, .int .i64 0, .bool true, .string (⟨#[120]⟩), .slice none 0 0]), (1, .agg #[.int .i64 1, .int .i64 2, .int .i64 1, .int .i64 2, .int .i64 1, .int .i64 1, .int .i64 1, .bool false, .string (⟨#[121]⟩), .slice none 0 0])]) Ty.un22 Ty.sz49 Ty.zv49 (by decide) (by decide) (by kernel_rfl) (by kernel_rfl)) ?_)
  intro b27 w28 e29 h30 u31
  have l32 : b1 < b27 := by rw [e29]; exact lt_ob h26
  have l33 : b8 < b27 := by rw [e29]; exact lt_ob h23
  have g34 : w.heap.size ≤ b27 := by rw [e29]; exact M25.size
  have M35 := Mod.trans M25 (Mod.of_up u31)
  have h41 := (up_ob u31 h26)
  have h42 := (up_ob u31 h23)
  refine wl (sc rfl (r_callv (caps := []) (all := [.slice (some ⟨b27, 0, none⟩) 2 2]) En.f15 (by kernel_rfl) (by kernel_rfl)) (build2P_at h30 (Nat.le_trans hB M35.size)) ?_)
  rintro e w36 ⟨tb, r, rfl, h37, u38, z39, z40⟩
  refine ⟨.pointer (some ⟨tb, 0, none⟩), rfl, ?_⟩
  have M43 := Mod.trans M35 (Mod.of_up u38)
  refine was (v := .pointer (some ⟨tb, 0, none⟩)) ?_
  refine wnil (then_n (wp_seq (rg_lit ?_)))
  refine wl (sc rfl (r_callv (caps := []) (all := [.string (⟨#[47, 97, 47, 46, 46, 47, 98, 47, 47, 99]⟩)]) En.f50 (by kernel_rfl) (by kernel_rfl)) (clean2_at (Mx.up hmx (Mod.up M43))) ?_)
  rintro e w44 ⟨rfl, u45⟩
  refine ⟨.tuple #[.string (⟨#[47, 98, 47, 99]⟩), .int .i64 0], rfl, ?_⟩
  have M46 := Mod.trans M43 (Mod.of_up u45)
  refine wmv (v := .tuple #[.string (⟨#[47, 98, 47, 99]⟩), .int .i64 0]) ?_
  refine wl (sv rfl (v := .string (⟨#[47, 98, 47, 99]⟩)) (r_extract (vs := [.string (⟨#[47, 98, 47, 99]⟩), .int .i64 0]) (by kernel_rfl) rfl) ?_)
  refine wl (sv rfl (v := .int .i64 0) (r_extract (vs := [.string (⟨#[47, 98, 47, 99]⟩), .int .i64 0]) (by kernel_rfl) rfl) ?_)
  refine was (v := .string (⟨#[47, 98, 47, 99]⟩)) ?_
  refine was (v := .int .i64 0) ?_
  refine wnil (then_n (wp_seq (rg_lit ?_)))
  refine wmv (v := .pointer (some ⟨tb, 0, none⟩)) ?_
  have h47 := (up_ob u45 (up_ob u38 h42))
  refine wl (sv rfl (v := .agg #[.int .i64 2, .int .i64 1]) (r_loads (k := 0) (by kernel_rfl) Ty.ag24 Ty.sz24 h47 (by kernel_rfl)) ?_)
  have h48 := (TreeIs.up h37 u45)
  refine wl (sc rfl (r_callv (caps := []) (all := [.pointer (some ⟨tb, 0, none⟩), .agg #[.int .i64 2, .int .i64 1]]) En.f42 (by kernel_rfl) (by kernel_rfl)) (of2_at h48 (Nat.le_trans hB M46.size) (TabIs.up htab (Mod.up M46))) ?_)
  rintro e w49 ⟨rfl, u50⟩
  refine ⟨.tuple #[.string (⟨#[47, 120, 47, 121]⟩), .int .i64 0], rfl, ?_⟩
  have M51 := Mod.trans M46 (Mod.of_up u50)
  refine wmv (v := .tuple #[.string (⟨#[47, 120, 47, 121]⟩), .int .i64 0]) ?_
  refine wl (sv rfl (v := .string (⟨#[47, 120, 47, 121]⟩)) (r_extract (vs := [.string (⟨#[47, 120, 47, 121]⟩), .int .i64 0]) (by kernel_rfl) rfl) ?_)
  refine wl (sv rfl (v := .int .i64 0) (r_extract (vs := [.string (⟨#[47, 120, 47, 121]⟩), .int .i64 0]) (by kernel_rfl) rfl) ?_)
  refine was (v := .string (⟨#[47, 120, 47, 121]⟩)) ?_
  refine was (v := .int .i64 0) ?_
  refine wnil (then_n (wp_seq (rg_lit ?_)))
  refine wmv (v := .pointer (some ⟨tb, 0, none⟩)) ?_
  have h52 := (TreeIs.up h48 u50)
  refine wl (sc rfl (r_callv (caps := []) (all := [.pointer (some ⟨tb, 0, none⟩), .string (⟨#[47, 120, 47, 121]⟩)]) En.f43 (by kernel_rfl) (by kernel_rfl)) (walk2_at h52 (Nat.le_trans hB M51.size) (TabIs.up htab (Mod.up M51)) (Mx.up hmx (Mod.up M51))) ?_)
  rintro e w53 ⟨rfl, u54⟩
  refine ⟨.tuple #[.agg #[.int .i64 2, .int .i64 1], .int .i64 0], rfl, ?_⟩
  have M55 := Mod.trans M51 (Mod.of_up u54)
  refine wmv (v := .tuple #[.agg #[.int .i64 2, .int .i64 1], .int .i64 0]) ?_
  refine wl (sv rfl (v := .agg #[.int .i64 2, .int .i64 1]) (r_extract (vs := [.agg #[.int .i64 2, .int .i64 1], .int .i64 0]) (by kernel_rfl) rfl) ?_)
  refine wl (sv rfl (v := .int .i64 0) (r_extract (vs := [.agg #[.int .i64 2, .int .i64 1], .int .i64 0]) (by kernel_rfl) rfl) ?_)
  refine wl (sn rfl (cs := #[.int .i64 0, .int .i64 0]) (T := 24) (V := fun b => .pointer (some ⟨b, 0, none⟩)) (r_alloc Ty.zv24 rfl) ?_)
  intro b56 w57 e58 h59 u60
  have h61 := (up_ob u54 (up_ob u50 (up_ob u45 (up_ob u38 h41))))
  have l62 : b1 < b56 := by rw [e58]; exact lt_ob h61
  have h63 := (up_ob u54 (up_ob u50 h47))
  have l64 : b8 < b56 := by rw [e58]; exact lt_ob h63
  have h65 := (up_ob u54 (up_ob u50 (up_ob u45 (up_ob u38 h30))))
  have l66 : b27 < b56 := by rw [e58]; exact lt_ob h65
  have g67 : w.heap.size ≤ b56 := by rw [e58]; exact M55.size
  have M68 := Mod.trans M55 (Mod.of_up u60)
  refine wl (ss rfl (k := 0) (v := .agg #[.int .i64 2, .int .i64 1]) (vs := [.int .i64 2, .int .i64 1]) (cs' := [.int .i64 2, .int .i64 1]) (by kernel_rfl) (by kernel_rfl) rfl Ty.sz24 h59 rfl (Nat.le_of_ble_eq_true rfl) rfl ?_)
  intro w69 h70 c71
  have M72 := Mod.trans' M68 c71 (fun i hi => by injection hi with hi; rw [← hi]; exact g67)
  refine was (v := .int .i64 0) ?_
  refine wnil (then_n (wp_seq (rg_lit ?_)))
  refine wmv (v := .int .i64 0) ?_
  refine wl (sv (w' := w69) rfl (v := .bool true) (by kernel_rfl) ?_)
  refine wmv (v := .bool true) ?_
  refine wl (sv (by kernel_rfl) (v := .string (⟨#[47, 98, 47, 99]⟩)) (r_move (by kernel_rfl)) ?_)
  refine wl (sv (w' := w69) (by kernel_rfl) (v := .bool true) (by kernel_rfl) ?_)
  refine wl (sv rfl (v := .bool true) (r_pkT (by kernel_rfl) (by kernel_rfl)) ?_)
  refine wmv (v := .bool true) ?_
  refine wl (sv (by kernel_rfl) (v := .int .i64 0) (r_move (by kernel_rfl)) ?_)
  refine wl (sv (w' := w69) (by kernel_rfl) (v := .bool true) (by kernel_rfl) ?_)
  refine wl (sv rfl (v := .bool true) (r_pkT (by kernel_rfl) (by kernel_rfl)) ?_)
  refine wmv (v := .bool true) ?_
  refine wl (sv (by kernel_rfl) (v := .string (⟨#[47, 120, 47, 121]⟩)) (r_move (by kernel_rfl)) ?_)
  refine wl (sv (w' := w69) (by kernel_rfl) (v := .bool true) (by kernel_rfl) ?_)
  refine wl (sv rfl (v := .bool true) (r_pkT (by kernel_rfl) (by kernel_rfl)) ?_)
  refine wmv (v := .bool true) ?_
  refine wl (sv (by kernel_rfl) (v := .int .i64 0) (r_move (by kernel_rfl)) ?_)
  refine wl (sv (w' := w69) (by kernel_rfl) (v := .bool true) (by kernel_rfl) ?_)
  refine wl (sv rfl (v := .bool true) (r_pkT (by kernel_rfl) (by kernel_rfl)) ?_)
  refine wmv (v := .bool true) ?_
  refine wl (sv (by kernel_rfl) (v := .agg #[.int .i64 2, .int .i64 1]) (r_loads (k := 0) (by kernel_rfl) Ty.ag24 Ty.sz24 h70 (by kernel_rfl)) ?_)
  have h73 := (chg_ob c71 (Nat.ne_of_lt l64) (up_ob u60 h63))
  refine wl (sv (by kernel_rfl) (v := .agg #[.int .i64 2, .int .i64 1]) (r_loads (k := 0) (by kernel_rfl) Ty.ag24 Ty.sz24 h73 (by kernel_rfl)) ?_)
  refine wl (sv (w' := w69) (by kernel_rfl) (v := .bool true) (by kernel_rfl) ?_)
  refine wl (sv rfl (v := .bool true) (r_pkT (by kernel_rfl) (by kernel_rfl)) ?_)
  refine was (v := .bool true) ?_
  refine wnil (then_n (wp_ret ?_))
  refine bodyPost_ret (v := .bool true) (res1 rfl (rv_t (by kernel_rfl))) (by kernel_rfl) ?_
  exact ⟨rfl, (Mod.up M72)⟩
end Go.Proofs.YtefhfoioeoijlaaGreatDoor
set_option linter.unusedVariables false
set_option linter.unusedSimpArgs false
namespace Go.Proofs.YtefhfoioeoijlaaGreatDoor
open Go Go.RowKit Go.Sort
theorem slash_is {s : ByteArray} (h : slashB s = true) : s = (⟨#[47]⟩ : ByteArray) ++ restB s := by
  apply ba_ext
  have h1 : ([47] : List UInt8).isPrefixOf s.data.toList = true := h
  have h2 : (restB s).data.toList = if ([47] : List UInt8).isPrefixOf s.data.toList then s.data.toList.drop 1 else s.data.toList := rfl
  rw [if_pos h1] at h2
  rw [show ((⟨#[47]⟩ : ByteArray) ++ restB s).data.toList = [47] ++ (restB s).data.toList by simp, h2]
  cases e : s.data.toList with
  | nil => rw [e] at h1; simp at h1
  | cons b l => rw [e] at h1; simp at h1; rw [← h1]; rfl
end Go.Proofs.YtefhfoioeoijlaaGreatDoor

/- NC: printed by gen.py -/
import Derived.Test.YtefhfoioeoijlaaGreatDoorNm4
set_option linter.unusedVariables false
set_option linter.unusedSimpArgs false
namespace Go.Proofs.YtefhfoioeoijlaaGreatDoor
open Go Go.RowKit Go.Sort
set_option maxHeartbeats 2000000 in
theorem alive18_at {w : World} (htab : Tab w) : Calls Tryz.prog 14 #[] w fun e w' => e = .returned (.bool true) ∧ Up w w' := by
  obtain ⟨B, hBe⟩ : ∃ B, B = w.heap.size := ⟨_, rfl⟩
  have hB : B ≤ w.heap.size := Nat.le_of_eq hBe
  go_enter Tryz.func14, Tryz.ntmps14
  refine wp_seq (rg_lit ?_)
  refine was (v := .bool false) ?_
  refine wnil (then_n (wp_seq (rg_lit ?_)))
  refine wl (sv rfl (v := .agg #[.int .i64 1, .int .i64 1]) (r_build (ps := [(0, .int .i64 1), (1, .int .i64 1)]) (cs := [.int .i64 1, .int .i64 1]) Ty.un24 Ty.zv24 Ty.pl24 (by kernel_rfl) (by kernel_rfl)) ?_)
  refine wl (sv rfl (v := .agg #[.int .i64 2, .int .i64 1]) (r_build (ps := [(0, .int .i64 2), (1, .int .i64 1)]) (cs := [.int .i64 2, .int .i64 1]) Ty.un24 Ty.zv24 Ty.pl24 (by kernel_rfl) (by kernel_rfl)) ?_)
  refine wl (sn rfl (cs := #[.int .i64 0, .int .i64 0]) (T := 24) (V := fun b => .pointer (some ⟨b, 0, none⟩)) (r_alloc Ty.zv24 rfl) ?_)
  intro b1 w2 e3 h4 u5
  have g6 : w.heap.size ≤ b1 := by rw [e3]; exact (Mod.refl [] w).size
  have M7 := Mod.trans (Mod.refl [] w) (Mod.of_up u5)
  refine wl (sn rfl (cs := #[.int .i64 0, .int .i64 0]) (T := 24) (V := fun b => .pointer (some ⟨b, 0, none⟩)) (r_alloc Ty.zv24 rfl) ?_)
  intro b8 w9 e10 h11 u12
  have l13 : b1 < b8 := by rw [e10]; exact lt_ob h4
  have g14 : w.heap.size ≤ b8 := by rw [e10]; exact M7.size
  have M15 := Mod.trans M7 (Mod.of_up u12)
  have h16 := (up_ob u12 h4)
  refine wl (ss rfl (k := 0) (v := .agg #[.int .i64 1, .int .i64 1]) (vs := [.int .i64 1, .int .i64 1]) (cs' := [.int .i64 1, .int .i64 1]) (by kernel_rfl) (by kernel_rfl) rfl Ty.sz24 h16 rfl (Nat.le_of_ble_eq_true rfl) rfl ?_)
  intro w17 h18 c19
  have M20 := Mod.trans' M15 c19 (fun i hi => by injection hi with hi; rw [← hi]; exact g6)
  have h21 := (chg_ob c19 (Nat.ne_of_gt l13) h11)
  refine wl (ss rfl (k := 0) (v := .agg #[.int .i64 2, .int .i64 1]) (vs := [.int .i64 2, .int .i64 1]) (cs' := [.int .i64 2, .int .i64 1]) (by kernel_rfl) (by kernel_rfl) rfl Ty.sz24 h21 rfl (Nat.le_of_ble_eq_true rfl) rfl ?_)
  intro w22 h23 c24
  have M25 := Mod.trans' M20 c24 (fun i hi => by injection hi with hi; rw [← hi]; exact g14)
  refine wnil (then_n (wp_seq (rg_lit ?_)))
  have h26 := (chg_ob c24 (Nat.ne_of_lt l13) h18)
  refine wl (sv rfl (v := .agg #[.int .i64 1, .int .i64 1]) (r_loads (k := 0) (by kernel_rfl) Ty.ag24 Ty.sz24 h26 (by kernel_rfl)) ?_)
  refine wl (sv rfl (v := .agg #[.int .i64 1, .int .i64 1]) (r_loads (k := 0) (by kernel_rfl) Ty.ag24 Ty.sz24 h26 (by kernel_rfl)) ?_)
  refine wl (sv rfl (v := .agg #[.int .i64 1, .int .i64 1, .int .i64 1, .int .i64 1, .int .i64 1, .int .i64 0, .int .i64 0, .bool false, .string (⟨#[97]⟩), .slice none 0 0]) (r_build (ps := [(0, .int .i64 1), (1, .agg #[.int .i64 1, .int .i64 1]), (2, .agg #[.int .i64 1, .int .i64 1]), (5, .string (⟨#[97]⟩))]) (cs := [.int .i64 1, .int .i64 1, .int .i64 1, .int .i64 1, .int .i64 1, .int .i64 0, .int .i64 0, .bool false, .string (⟨#[97]⟩), .slice none 0 0]) Ty.un49 Ty.zv49 Ty.pl49 (by kernel_rfl) (by kernel_rfl)) ?_)
  refine wl (sv rfl (v := .agg #[.int .i64 2, .int .i64 1]) (r_loads (k := 0) (by kernel_rfl) Ty.ag24 Ty.sz24 h23 (by kernel_rfl)) ?_)
  refine wl (sv rfl (v := .agg #[.int .i64 2, .int .i64 1]) (r_loads (k := 0) (by kernel_rfl) Ty.ag24 Ty.sz24 h23 (by kernel_rfl)) ?_)
  refine wl (sv rfl (v := .agg #[.int .i64 1, .int .i64 2, .int .i64 1, .int .i64 2, .int .i64 1, .int .i64 0, .int .i64 0, .bool false, .string (⟨#[97]⟩), .slice none 0 0]) (r_build (ps := [(0, .int .i64 1), (1, .agg #[.int .i64 2, .int .i64 1]), (2, .agg #[.int .i64 2, .int .i64 1]), (5, .string (⟨#[97]⟩))]) (cs := [.int .i64 1, .int .i64 2, .int .i64 1, .int .i64 2, .int .i64 1, .int .i64 0, .int .i64 0, .bool false, .string (⟨#[97]⟩), .slice none 0 0]) Ty.un49 Ty.zv49 Ty.pl49 (by kernel_rfl) (by kernel_rfl)) ?_)
  refine wl (sn rfl (cs := #[.int .i64 1, .int .i64 1, .int .i64 1, .int .i64 1, .int .i64 1, .int .i64 0, .int .i64 0, .bool false, .string (⟨#[97]⟩), .slice none 0 0, .int .i64 1, .int .i64 2, .int .i64 1, .int .i64 2, .int .i64 1, .int .i64 0, .int .i64 0, .bool false, .string (⟨#[97]⟩), .slice none 0 0]) (T := 49) (V := fun b => .slice (some ⟨b, 0, none⟩) 2 2) (r_buildSlice (n := 2) (ps := [(0, .agg #[.int .i64 1, .int .i64 1, .int .i64 1, .int .i64 1, .int .i64 1, .int .i64 0, .int .i64 0, .bool false, .string (⟨#[97]⟩), .slice none 0 0]), (1, .agg #[.int .i64 1, .int .i64 2, .int .i64 1, .int .i64 2, .int .i64 1, .int .i64 0, .int .i64 0, .bool false, .string (⟨#[97]⟩), .slice none 0 0])]) Ty.un22 Ty.sz49 Ty.zv49 (by decide) (by decide) (by kernel_rfl) (by kernel_rfl)) ?_)
  intro b27 w28 e29 h30 u31
  have l32 : b1 < b27 := by rw [e29]; exact lt_ob h26
  have l33 : b8 < b27 := by rw [e29]; exact lt_ob h23
  have g34 : w.heap.size ≤ b27 := by rw [e29]; exact M25.size
  have M35 := Mod.trans M25 (Mod.of_up u31)
  have h41 := (up_ob u31 h26)
  have h42 := (up_ob u31 h23)
  refine wl (sc rfl (r_callv (caps := []) (all := [.slice (some ⟨b27, 0, none⟩) 2 2]) En.f15 (by kernel_rfl) (by kernel_rfl)) (build2_at h30 (Nat.le_trans hB M35.size)) ?_)
  rintro e w36 ⟨tb, r, rfl, h37, u38, z39, z40⟩
  refine ⟨.pointer (some ⟨tb, 0, none⟩), rfl, ?_⟩
  have M43 := Mod.trans M35 (Mod.of_up u38)
  refine was (v := .pointer (some ⟨tb, 0, none⟩)) ?_
  refine wnil (then_n (wp_seq (rg_lit ?_)))
  refine wmv (v := .pointer (some ⟨tb, 0, none⟩)) ?_
  refine wl (sv rfl (v := .agg #[.int .i64 0, .int .i64 0]) (r_build (ps := []) (cs := [.int .i64 0, .int .i64 0]) Ty.un24 Ty.zv24 Ty.pl24 (by kernel_rfl) (by kernel_rfl)) ?_)
  refine wl (sc rfl (r_callv (caps := []) (all := [.pointer (some ⟨tb, 0, none⟩), .agg #[.int .i64 0, .int .i64 0]]) En.f16 (by kernel_rfl) (by kernel_rfl)) (list2_at h37 (Nat.le_trans hB M43.size) (TabIs.up htab (Mod.up M43))) ?_)
  rintro e w44 ⟨A45, c46, rfl, h47, u48⟩
  refine ⟨.tuple #[.slice A45 2 c46, .int .i64 0], rfl, ?_⟩
  have M49 := Mod.trans M43 (Mod.of_up u48)
  refine wmv (v := .tuple #[.slice A45 2 c46, .int .i64 0]) ?_
  refine wl (sv rfl (v := .slice A45 2 c46) (r_extract (vs := [.slice A45 2 c46, .int .i64 0]) (by kernel_rfl) rfl) ?_)
  refine wl (sv rfl (v := .int .i64 0) (r_extract (vs := [.slice A45 2 c46, .int .i64 0]) (by kernel_rfl) rfl) ?_)
  refine was (v := .slice A45 2 c46) ?_
  refine was (v := .int .i64 0) ?_
  refine wnil (then_n (wp_seq ?_))
  refine rg_all (by kernel_rfl) (by kernel_rfl) ?_
  refine qmv (v := .int .i64 0) ?_
  refine qv rfl (v := .bool true) (fun _ _ => by kernel_rfl) ?_
  refine qmv (v := .bool true) ?_
  refine qv (by kernel_rfl) (v := .slice A45 2 c46) (fun _ _ => r_move (by kernel_rfl)) ?_
  refine qv (by kernel_rfl) (v := .int .i64 2) (fun _ _ => r_len Ty.un29 (ad := A45) (n := 2) (c := c46) (by kernel_rfl)) ?_
  refine qv (by kernel_rfl) (v := .bool true) (fun _ _ => by kernel_rfl) ?_
  refine qv rfl (v := .bool true) (fun _ _ => r_pkT (by kernel_rfl) (by kernel_rfl)) ?_
  refine qmv (v := .bool true) ?_
  refine qv (by kernel_rfl) (v := .slice A45 2 c46) (fun _ _ => r_move (by kernel_rfl)) ?_
  obtain ⟨g50, cp50, cu50, hA50, hg50, hb50, he50⟩ := ERow.get h47 (show [ne1, ne2][0]? = some ne1 from rfl)
  injection hA50 with hA50 _ _
  replace he50 : (cu50.toList.drop (0 + 0 * 5)).take 5 = enC ne1 := by rw [Nat.zero_add]; exact he50
  refine qv (by kernel_rfl) (v := .pointer (some ⟨g50, 0 + 0 * 5, none⟩)) (fun _ _ => r_ixaddr' (A := A45) (b := g50) (o := 0) (n := 2) (c := c46) (sz := 5) (j := 0) (by kernel_rfl) hA50 (by kernel_rfl) Ty.un29 Ty.sz35 (by decide) (by omega) (by simp)) ?_
  refine qv (by kernel_rfl) (v := .pointer (some ⟨g50, 0 + 0 * 5, none⟩)) (fun _ _ => r_fieldAddr (u := .pointer (some ⟨g50, 0 + 0 * 5, none⟩)) (by kernel_rfl) (fun _ => (by kernel_rfl))) ?_
  refine qv (by kernel_rfl) (v := .string ne1.name) (fun _ uz => r_load (k := 0 + 0 * 5) (v := .string ne1.name) (by kernel_rfl) Ty.ag9 (up_ob uz hb50) (el_get he50 0 rfl)) ?_
  refine qb (by kernel_rfl) (fun _ _ => r_eqs (m := ne1.name) (n := (⟨#[97]⟩)) (by kernel_rfl) (by kernel_rfl)) ?_
  intro b51 k52
  refine qv rfl (v := .bool b51) (fun _ _ => r_pkT (by kernel_rfl) (by kernel_rfl)) ?_
  refine qmv (v := .bool b51) ?_
  refine bcase b51 (fun v53 => ?_) (fun v53 => ?_)
  ·
   have p54 := of_decide_eq_false (k52.trans v53)
   exact absurd rfl p54
  have p54 := of_decide_eq_true (k52.trans v53)
  refine qv (wt (b := b51) rfl (by kernel_rfl) v53) (v := .slice A45 2 c46) (fun _ _ => r_move (by kernel_rfl)) ?_
  obtain ⟨g55, cp55, cu55, hA55, hg55, hb55, he55⟩ := ERow.get h47 (show [ne1, ne2][0]? = some ne1 from rfl)
  injection hA55 with hA55 _ _
  replace he55 : (cu55.toList.drop (0 + 0 * 5)).take 5 = enC ne1 := by rw [Nat.zero_add]; exact he55
  refine qv (wt (b := b51) rfl (by kernel_rfl) v53) (v := .pointer (some ⟨g55, 0 + 0 * 5, none⟩)) (fun _ _ => r_ixaddr' (A := A45) (b := g55) (o := 0) (n := 2) (c := c46) (sz := 5) (j := 0) (by kernel_rfl) hA55 (by kernel_rfl) Ty.un29 Ty.sz35 (by decide) (by omega) (by simp)) ?_
  refine qv (wt (b := b51) rfl (by kernel_rfl) v53) (v := .pointer (some ⟨g55, 0 + 0 * 5 + 1, none⟩)) (fun _ _ => r_fieldAddr (u := .pointer (some ⟨g55, 0 + 0 * 5, none⟩)) (by kernel_rfl) (fun _ => (by kernel_rfl))) ?_
  refine qv (wt (b := b51) rfl (by kernel_rfl) v53) (v := .agg #[.int .i64 ne1.node.t, .int .i64 ne1.node.w]) (fun _ uz => r_loads (k := 0 + 0 * 5 + 1) (by kernel_rfl) Ty.ag24 Ty.sz24 (up_ob uz hb55) (el_sub he55 1 rfl)) ?_
  have h56 := (up_ob u48 (up_ob u38 h41))
  refine qv (wt (b := b51) rfl (by kernel_rfl) v53) (v := .agg #[.int .i64 1, .int .i64 1]) (fun _ uz => r_loads (k := 0) (by kernel_rfl) Ty.ag24 Ty.sz24 (up_ob uz h56) (by kernel_rfl)) ?_
  refine qb (wt (b := b51) rfl (by kernel_rfl) v53) (fun _ _ => r_eqS (a := ne1.node.t) (b := ne1.node.w) (c := 1) (e := 1) (by kernel_rfl) (by kernel_rfl)) ?_
  intro b57 k58
  refine qv rfl (v := .bool b57) (fun _ _ => r_pkT (ebool (b := b51) (by kernel_rfl) v53) (by kernel_rfl)) ?_
  refine qmv (v := .bool b57) ?_
  refine bcase b57 (fun v59 => ?_) (fun v59 => ?_)
  ·
   have p60 := of_decide_eq_false (k58.trans v59)
   exact absurd rfl p60
  have p60 := of_decide_eq_true (k58.trans v59)
  refine qv (wt (b := b57) rfl (by kernel_rfl) v59) (v := .slice A45 2 c46) (fun _ _ => r_move (by kernel_rfl)) ?_
  obtain ⟨g61, cp61, cu61, hA61, hg61, hb61, he61⟩ := ERow.get h47 (show [ne1, ne2][1]? = some ne2 from rfl)
  injection hA61 with hA61 _ _
  replace he61 : (cu61.toList.drop (0 + 1 * 5)).take 5 = enC ne2 := by rw [Nat.zero_add]; exact he61
  refine qv (wt (b := b57) rfl (by kernel_rfl) v59) (v := .pointer (some ⟨g61, 0 + 1 * 5, none⟩)) (fun _ _ => r_ixaddr' (A := A45) (b := g61) (o := 0) (n := 2) (c := c46) (sz := 5) (j := 1) (by kernel_rfl) hA61 (by kernel_rfl) Ty.un29 Ty.sz35 (by decide) (by omega) (by simp)) ?_
  refine qv (wt (b := b57) rfl (by kernel_rfl) v59) (v := .pointer (some ⟨g61, 0 + 1 * 5, none⟩)) (fun _ _ => r_fieldAddr (u := .pointer (some ⟨g61, 0 + 1 * 5, none⟩)) (by kernel_rfl) (fun _ => (by kernel_rfl))) ?_
  refine qv (wt (b := b57) rfl (by kernel_rfl) v59) (v := .string ne2.name) (fun _ uz => r_load (k := 0 + 1 * 5) (v := .string ne2.name) (by kernel_rfl) Ty.ag9 (up_ob uz hb61) (el_get he61 0 rfl)) ?_
  refine qb (wt (b := b57) rfl (by kernel_rfl) v59) (fun _ _ => r_eqs (m := ne2.name) (n := (⟨#[97, 126, 50, 46, 49]⟩)) (by kernel_rfl) (by kernel_rfl)) ?_
  intro b62 k63
  refine qv rfl (v := .bool b62) (fun _ _ => r_pkT (ebool (b := b57) (by kernel_rfl) v59) (by kernel_rfl)) ?_
  refine qas (v := .bool b62) ?_
  refine qnil ?_
  intro w64 u65
  have M66 := Mod.trans M49 (Mod.of_up u65)
  refine then_n (wp_ret ?_)
  refine bodyPost_ret (v := .bool b62) (res1 rfl (rv_t (by kernel_rfl))) (by kernel_rfl) ?_
  exact ⟨ret_bool (k63.symm.trans (decide_eq_true rfl)), (Mod.up M66)⟩
end Go.Proofs.YtefhfoioeoijlaaGreatDoor

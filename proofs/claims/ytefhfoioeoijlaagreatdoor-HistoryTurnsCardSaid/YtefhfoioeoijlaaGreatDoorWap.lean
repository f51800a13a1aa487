/- NB, Lib3, BRow, Pth, Nm5, PA, Met -/
import Derived.ArgAppend
import Derived.Lib.SplitLaws
import Derived.Shelf.Slices.In.SortNone
import Derived.Shelf.Sort.Plain
import Derived.Shelf.Strings.Builder1
import Derived.Shelf.Strings.Builder2
import Derived.Shelf.Strings.Explode
import Derived.Shelf.Strings.OnBuilder
import Derived.Shelf.Strings.RuneCount
import Derived.Shelf.Strings.SlTrimAscii
import Derived.Shelf.Strings.Split
import Derived.Shelf.Strings.SplitShaped
import Derived.Shelf.Strings.Trim
import Derived.Shelf.Unicode.Decode
import Derived.Shelf.Utf8.RuneCount
import Derived.Test.YtefhfoioeoijlaaGreatDoorWaa
import Derived.Test.YtefhfoioeoijlaaGreatDoorWaf
import Derived.Test.YtefhfoioeoijlaaGreatDoorWan
import Derived.Test.YtefhfoioeoijlaaGreatDoorWao
set_option linter.unusedVariables false
set_option linter.unusedSimpArgs false
namespace Go.Proofs.YtefhfoioeoijlaaGreatDoor
open Go Go.RowKit Go.Sort
set_option maxHeartbeats 2000000 in
theorem shown18_at {B : Nat} {w : World} {tb r : Nat} {L : List Item} (h : TreeIs B w tb r L) (hB : B ≤ w.heap.size) (hF : Fit L) (htab : Tab w) (m1 m2 : Int) : Calls Tryz.prog 19 #[trP tb, .agg #[.int .i64 m1, .int .i64 m2]] w fun e w' => e = .returned (.tuple #[.string (shownB L ⟨m1, m2⟩), .int .i64 (shownK L ⟨m1, m2⟩)]) ∧ Up w w' := by
  go_enter Tryz.func19, Tryz.ntmps19
  refine wp_seq (rg_lit ?_)
  refine wl (sn rfl (cs := #[.int .i64 m1, .int .i64 m2]) (T := 24) (V := fun b => .pointer (some ⟨b, 0, none⟩)) (r_box (v := .agg #[.int .i64 m1, .int .i64 m2]) (by kernel_rfl) rfl) ?_)
  intro b1 w2 e3 h4 u5
  have l6 : tb < b1 := by rw [e3]; exact lt_ob h.1
  have g7 : w.heap.size ≤ b1 := by rw [e3]; exact (Mod.refl [] w).size
  have M8 := Mod.trans (Mod.refl [] w) (Mod.of_up u5)
  refine was (v := .string (⟨#[]⟩)) ?_
  refine was (v := .int .i64 0) ?_
  refine wnil (then_n (wp_seq (wp_seq (rg_lit ?_))))
  refine wmv (v := .pointer (some ⟨tb, 0, none⟩)) ?_
  refine wl (sv (w' := w2) rfl (v := .bool false) (by kernel_rfl) ?_)
  refine wnil (then_n ?_)
  refine wp_cond_false (by kernel_rfl) ?_
  refine wp_skip (then_n (wp_seq (rg_lit ?_)))
  refine wmv (v := .pointer (some ⟨tb, 0, none⟩)) ?_
  refine wl (sv rfl (v := .agg #[.int .i64 m1, .int .i64 m2]) (r_loads (k := 0) (by kernel_rfl) Ty.ag24 Ty.sz24 h4 (by kernel_rfl)) ?_)
  have h9 := (TreeIs.up h (Mod.up M8))
  refine wl (sc rfl (r_callv (caps := []) (all := [.pointer (some ⟨tb, 0, none⟩), .agg #[.int .i64 m1, .int .i64 m2]]) En.f20 (by kernel_rfl) (by kernel_rfl)) (get_x h9 ⟨m1, m2⟩ (x := (gotI L ⟨m1, m2⟩)) (b := (hasI L ⟨m1, m2⟩)) rfl rfl) ?_)
  rintro e w10 ⟨A11, n12, c13, rfl, h14, u15⟩
  refine ⟨.tuple #[itV (gotI L ⟨m1, m2⟩) (.slice A11 n12 c13), .bool (hasI L ⟨m1, m2⟩)], rfl, ?_⟩
  have M16 := Mod.trans M8 (Mod.of_up u15)
  refine wmv (v := .tuple #[itV (gotI L ⟨m1, m2⟩) (.slice A11 n12 c13), .bool (hasI L ⟨m1, m2⟩)]) ?_
  refine wl (sv rfl (v := itV (gotI L ⟨m1, m2⟩) (.slice A11 n12 c13)) (r_extract (vs := [itV (gotI L ⟨m1, m2⟩) (.slice A11 n12 c13), .bool (hasI L ⟨m1, m2⟩)]) (by kernel_rfl) rfl) ?_)
  refine wl (sv rfl (v := .bool (hasI L ⟨m1, m2⟩)) (r_extract (vs := [itV (gotI L ⟨m1, m2⟩) (.slice A11 n12 c13), .bool (hasI L ⟨m1, m2⟩)]) (by kernel_rfl) rfl) ?_)
  refine wl (sn rfl (cs := #[.int .i64 0, .int .i64 0, .int .i64 0, .int .i64 0, .string (⟨#[]⟩), .bool false, .bool false, .slice none 0 0, .int .i64 0, .int .i64 0]) (T := 42) (V := fun b => .pointer (some ⟨b, 0, none⟩)) (r_alloc Ty.zv42 rfl) ?_)
  intro b17 w18 e19 h20 u21
  have h22 := md_ob M16 nin0 h.1
  have l23 : tb < b17 := by rw [e19]; exact lt_ob h22
  have h24 := (up_ob u15 h4)
  have l25 : b1 < b17 := by rw [e19]; exact lt_ob h24
  have g26 : w.heap.size ≤ b17 := by rw [e19]; exact M16.size
  have M27 := Mod.trans M16 (Mod.of_up u21)
  refine wl (ss rfl (k := 0) (v := itV (gotI L ⟨m1, m2⟩) (.slice A11 n12 c13)) (vs := (itC (gotI L ⟨m1, m2⟩) (.slice A11 n12 c13))) (cs' := (itC (gotI L ⟨m1, m2⟩) (.slice A11 n12 c13))) (by kernel_rfl) (by kernel_rfl) rfl Ty.sz42 h20 rfl (Nat.le_of_ble_eq_true rfl) rfl ?_)
  intro w28 h29 c30
  have M31 := Mod.trans' M27 c30 (fun i hi => by injection hi with hi; rw [← hi]; exact g26)
  refine was (v := .bool (hasI L ⟨m1, m2⟩)) ?_
  refine wnil (then_n (wp_seq (wp_seq (rg_lit ?_))))
  refine wmv (v := .bool (hasI L ⟨m1, m2⟩)) ?_
  refine wl (sv rfl (v := .bool (!(hasI L ⟨m1, m2⟩))) (r_not (b := (hasI L ⟨m1, m2⟩)) (by kernel_rfl)) ?_)
  refine wmv (v := .bool (!(hasI L ⟨m1, m2⟩))) ?_
  refine bcase (hasI L ⟨m1, m2⟩) (fun v32 => ?_) (fun v32 => ?_)
  ·
   refine wl (sp (wf (b := !(hasI L ⟨m1, m2⟩)) rfl (by kernel_rfl) (bneg v32)) ?_)
   refine wl (sp (wf (b := !(hasI L ⟨m1, m2⟩)) rfl (by kernel_rfl) (bneg v32)) ?_)
   refine wl (sp (wf (b := !(hasI L ⟨m1, m2⟩)) rfl (by kernel_rfl) (bneg v32)) ?_)
   refine wl (sp (wf (b := !(hasI L ⟨m1, m2⟩)) rfl (by kernel_rfl) (bneg v32)) ?_)
   refine wl (sv rfl (v := .bool true) (r_pkT (ebool (b := !(hasI L ⟨m1, m2⟩)) (by kernel_rfl) (bneg v32)) (by kernel_rfl)) ?_)
   refine wnil (then_n ?_)
   refine wp_cond_true (by kernel_rfl) ?_
   refine wp_seq (rg_lit ?_)
   refine was (v := .string (⟨#[]⟩)) ?_
   refine was (v := .int .i64 12) ?_
   refine wnil (then_n (wp_ret (then_x (by nofun) ?_)))
   refine bodyPost_ret (v := .tuple #[.string (⟨#[]⟩), .int .i64 12]) (res2 rfl (rv_t (by kernel_rfl)) (rv_t (by kernel_rfl))) (by kernel_rfl) ?_
   exact ⟨shown_ret (shown_no1 v32), (Mod.up M31)⟩
  refine wl (sv (wt (b := !(hasI L ⟨m1, m2⟩)) rfl (by kernel_rfl) (bneg v32)) (v := .pointer (some ⟨tb, 0, none⟩)) (r_move (by kernel_rfl)) ?_)
  have h33 := (chg_ob c30 (Nat.ne_of_lt l25) (up_ob u21 h24))
  refine wl (sv (wt (b := !(hasI L ⟨m1, m2⟩)) rfl (by kernel_rfl) (bneg v32)) (v := .agg #[.int .i64 m1, .int .i64 m2]) (r_loads (k := 0) (by kernel_rfl) Ty.ag24 Ty.sz24 h33 (by kernel_rfl)) ?_)
  have h34 := (TreeIs.up h (Mod.up M31))
  refine wl (sc (wt (b := !(hasI L ⟨m1, m2⟩)) rfl (by kernel_rfl) (bneg v32)) (r_callv (caps := []) (all := [.pointer (some ⟨tb, 0, none⟩), .agg #[.int .i64 m1, .int .i64 m2]]) En.f39 (by kernel_rfl) (by kernel_rfl)) (hangs_at h34 m1 m2) ?_)
  rintro e w35 ⟨rfl, u36⟩
  refine ⟨.bool (hangsI L 301 ⟨m1, m2⟩), rfl, ?_⟩
  have M37 := Mod.trans M31 (Mod.of_up u36)
  refine wl (sv (wt (b := !(hasI L ⟨m1, m2⟩)) rfl (by kernel_rfl) (bneg v32)) (v := .bool (!(hangsI L 301 ⟨m1, m2⟩))) (r_not (b := (hangsI L 301 ⟨m1, m2⟩)) (by kernel_rfl)) ?_)
  refine wl (sv rfl (v := .bool (!(hangsI L 301 ⟨m1, m2⟩))) (r_pkF (ebool (b := !(hasI L ⟨m1, m2⟩)) (by kernel_rfl) (bneg v32)) (by kernel_rfl)) ?_)
  refine wnil (then_n ?_)
  refine bcase (hangsI L 301 ⟨m1, m2⟩) (fun v38 => ?_) (fun v38 => ?_)
  ·
   refine wp_cond_true (ebool (b := !(hangsI L 301 ⟨m1, m2⟩)) (by kernel_rfl) (bneg v38)) ?_
   refine wp_seq (rg_lit ?_)
   refine was (v := .string (⟨#[]⟩)) ?_
   refine was (v := .int .i64 12) ?_
   refine wnil (then_n (wp_ret (then_x (by nofun) ?_)))
   refine bodyPost_ret (v := .tuple #[.string (⟨#[]⟩), .int .i64 12]) (res2 rfl (rv_t (by kernel_rfl)) (rv_t (by kernel_rfl))) (by kernel_rfl) ?_
   exact ⟨shown_ret (shown_no2 v38), (Mod.up M37)⟩
  refine wp_cond_false (ebool (b := !(hangsI L 301 ⟨m1, m2⟩)) (by kernel_rfl) (bneg v38)) ?_
  refine wp_skip (then_n (wp_seq (wp_seq (rg_lit ?_))))
  refine wmv (v := .pointer (some ⟨tb, 0, none⟩)) ?_
  refine wl (sv rfl (v := .pointer (some ⟨b17, 2, none⟩)) (r_fieldAddr (u := .pointer (some ⟨b17, 0, none⟩)) (by kernel_rfl) (fun _ => (by kernel_rfl))) ?_)
  have h39 := (up_ob u36 h29)
  refine wl (sv rfl (v := .agg #[.int .i64 ((gotI L ⟨m1, m2⟩).parent.t), .int .i64 ((gotI L ⟨m1, m2⟩).parent.w)]) (r_loads (k := 2) (by kernel_rfl) Ty.ag24 Ty.sz24 h39 (by kernel_rfl)) ?_)
  have h46 := (TreeIs.up h (Mod.up M37))
  refine wl (sc rfl (r_callv (caps := []) (all := [.pointer (some ⟨tb, 0, none⟩), .agg #[.int .i64 ((gotI L ⟨m1, m2⟩).parent.t), .int .i64 ((gotI L ⟨m1, m2⟩).parent.w)]]) En.f38 (by kernel_rfl) (by kernel_rfl)) (row_sl (kids_at h46 (Nat.le_trans hB M37.size) ((gotI L ⟨m1, m2⟩).parent.t) ((gotI L ⟨m1, m2⟩).parent.w))) ?_)
  rintro e w40 ⟨A41, c42, rfl, h43, u44⟩
  have h45 := IRow.base h43 M37.size
  refine ⟨.slice A41 ((kidsI ⟨(gotI L ⟨m1, m2⟩).parent.t, (gotI L ⟨m1, m2⟩).parent.w⟩ L).length) c42, rfl, ?_⟩
  have M47 := Mod.trans M37 (Mod.of_up u44)
  refine wl (sc rfl (r_callv (caps := []) (all := [.slice A41 ((kidsI ⟨(gotI L ⟨m1, m2⟩).parent.t, (gotI L ⟨m1, m2⟩).parent.w⟩ L).length) c42]) En.f58 (by kernel_rfl) (by kernel_rfl)) (ents_at h45 (Nat.le_trans hB M47.size) (TabIs.up htab (Mod.up M47)) (Fit.kids hF _).1 (kids_300 hF _)) ?_)
  rintro e w48 ⟨v49, rfl, h52, u53⟩
  obtain ⟨A50, c51, rfl⟩ := ERow.form h52
  have h54 := ERow.base h52 M47.size
  have z55 := ERow.le h52
  refine ⟨.slice A50 ((entsI (kidsI ⟨(gotI L ⟨m1, m2⟩).parent.t, (gotI L ⟨m1, m2⟩).parent.w⟩ L)).length) c51, rfl, ?_⟩
  have M56 := Mod.trans M47 (Mod.of_up u53)
  refine wl (sv rfl (v := .int .i64 (((entsI (kidsI ⟨(gotI L ⟨m1, m2⟩).parent.t, (gotI L ⟨m1, m2⟩).parent.w⟩ L)).length) : Int)) (r_len Ty.un29 (ad := A50) (n := ((entsI (kidsI ⟨(gotI L ⟨m1, m2⟩).parent.t, (gotI L ⟨m1, m2⟩).parent.w⟩ L)).length)) (c := c51) (by kernel_rfl)) ?_)
  refine wmv (v := .int .i64 0) ?_
  refine wnil (then_n (wp_block ?_))
  have h57 := md_ob M56 nin0 h.1
  have h58 := (up_ob u53 (up_ob u44 (up_ob u36 h33)))
  have h59 := (up_ob u53 (up_ob u44 h39))
  have h60 := (TreeIs.up h (Mod.up M56))
  have h61 := (Dat.up h14 (up_up (up_up (up_up (up_chgn u21 c30 (by rw [e19]; exact Nat.le_refl _)) u36) u44) u53))
  have h62 := (IRow.up h45 u53)
  refine lp (fun n a r1 => ∃ (k : Nat) (z4 z5 z9 z33 z34 z35 z36 z37 z38 z39 z40 z41 z42 : Value), (n = (entsI (kidsI ⟨(gotI L ⟨m1, m2⟩).parent.t, (gotI L ⟨m1, m2⟩).parent.w⟩ L)).length - k) ∧ (a = ⟨#[.pointer (some ⟨tb, 0, none⟩), .agg #[.int .i64 m1, .int .i64 m2], undef, .pointer (some ⟨b1, 0, none⟩), z4, z5, .pointer (some ⟨b17, 0, none⟩), .bool (hasI L ⟨m1, m2⟩), undef, z9, .pointer (some ⟨tb, 0, none⟩), .bool false, .tuple #[itV (gotI L ⟨m1, m2⟩) (.slice A11 n12 c13), .bool (hasI L ⟨m1, m2⟩)], .pointer (some ⟨tb, 0, none⟩), .agg #[.int .i64 m1, .int .i64 m2], .tuple #[itV (gotI L ⟨m1, m2⟩) (.slice A11 n12 c13), .bool (hasI L ⟨m1, m2⟩)], itV (gotI L ⟨m1, m2⟩) (.slice A11 n12 c13), .bool (hasI L ⟨m1, m2⟩), .bool (hasI L ⟨m1, m2⟩), .bool (!(hasI L ⟨m1, m2⟩)), .bool (!(hasI L ⟨m1, m2⟩)), .pointer (some ⟨tb, 0, none⟩), .agg #[.int .i64 m1, .int .i64 m2], .bool (hangsI L 301 ⟨m1, m2⟩), .bool (!(hangsI L 301 ⟨m1, m2⟩)), .bool (!(hangsI L 301 ⟨m1, m2⟩)), .pointer (some ⟨tb, 0, none⟩), .pointer (some ⟨b17, 2, none⟩), .agg #[.int .i64 ((gotI L ⟨m1, m2⟩).parent.t), .int .i64 ((gotI L ⟨m1, m2⟩).parent.w)], .slice A41 ((kidsI ⟨(gotI L ⟨m1, m2⟩).parent.t, (gotI L ⟨m1, m2⟩).parent.w⟩ L).length) c42, .slice A50 ((entsI (kidsI ⟨(gotI L ⟨m1, m2⟩).parent.t, (gotI L ⟨m1, m2⟩).parent.w⟩ L)).length) c51, .int .i64 (((entsI (kidsI ⟨(gotI L ⟨m1, m2⟩).parent.t, (gotI L ⟨m1, m2⟩).parent.w⟩ L)).length) : Int), .int .i64 (k : Int), z33, z34, z35, z36, z37, z38, z39, z40, z41, z42], []⟩) ∧ (Mod [] w48 r1) ∧ (k ≤ (entsI (kidsI ⟨(gotI L ⟨m1, m2⟩).parent.t, (gotI L ⟨m1, m2⟩).parent.w⟩ L)).length) ∧ (Hid (∀ (j : Nat) (y : EntD), j < k → (entsI (kidsI ⟨(gotI L ⟨m1, m2⟩).parent.t, (gotI L ⟨m1, m2⟩).parent.w⟩ L))[j]? = some y → ¬ y.node = ⟨m1, m2⟩))) ⟨_, 0, .string (⟨#[]⟩), .int .i64 0, undef, undef, undef, undef, undef, undef, undef, undef, undef, undef, undef, rfl, (by kernel_rfl), Mod.refl _ _, (Nat.zero_le _), (fun j y hj => absurd hj (Nat.not_lt_zero _))⟩ ?_
  rintro _ _ r1 ⟨k, z4, z5, z9, z33, z34, z35, z36, z37, z38, z39, z40, z41, z42, rfl, rfl, hM1, hF1_0, hF1_1⟩
  have M63 := Mod.thin M56 hM1 (by simp)
  refine wp_seq (rg_lit ?_)
  refine wl (sb rfl (r_lt (k := .i64) (m := (k : Int)) (n := (((entsI (kidsI ⟨(gotI L ⟨m1, m2⟩).parent.t, (gotI L ⟨m1, m2⟩).parent.w⟩ L)).length) : Int)) (by kernel_rfl) (by kernel_rfl)) ?_)
  intro b64 k65
  refine wnil (then_n (wp_seq ?_))
  refine bcase b64 (fun v66 => ?_) (fun v66 => ?_)
  ·
   have p67 := of_decide_eq_false (k65.trans v66)
   refine wp_cond_false (ebool (b := b64) (by kernel_rfl) v66) ?_
   refine wp_exit (then_x (by nofun) (then_x (by nofun) (inb_hit (then_n (wp_seq (rg_lit ?_))))))
   refine was (v := .string (⟨#[]⟩)) ?_
   refine was (v := .int .i64 12) ?_
   refine wnil (then_n (wp_ret ?_))
   refine bodyPost_ret (v := .tuple #[.string (⟨#[]⟩), .int .i64 12]) (res2 rfl (rv_t (by kernel_rfl)) (rv_t (by kernel_rfl))) (by kernel_rfl) ?_
   exact ⟨shown_ret (shown_miss (none_end (D := (entsI (kidsI ⟨(gotI L ⟨m1, m2⟩).parent.t, (gotI L ⟨m1, m2⟩).parent.w⟩ L))) hF1_1 (by omega))), (Mod.up M63)⟩
  have p67 := of_decide_eq_true (k65.trans v66)
  refine wp_cond_true (ebool (b := b64) (by kernel_rfl) v66) ?_
  refine wp_skip (then_n (wp_seq (wp_block (wp_seq (rg_lit ?_)))))
  have h68 := (ERow.up h54 (Mod.up hM1))
  obtain ⟨y69, hy69⟩ : ∃ x, (entsI (kidsI ⟨(gotI L ⟨m1, m2⟩).parent.t, (gotI L ⟨m1, m2⟩).parent.w⟩ L))[k]? = some x := ⟨_, List.getElem?_eq_getElem (by omega)⟩
  obtain ⟨g69, cp69, cu69, hA69, hg69, hb69, he69⟩ := ERow.get h68 hy69
  injection hA69 with hA69 _ _
  replace he69 : (cu69.toList.drop (0 + k * 5)).take 5 = enC y69 := by rw [Nat.zero_add]; exact he69
  refine wl (sv rfl (v := .pointer (some ⟨g69, 0 + k * 5, none⟩)) (r_ixaddr' (A := A50) (b := g69) (o := 0) (n := ((entsI (kidsI ⟨(gotI L ⟨m1, m2⟩).parent.t, (gotI L ⟨m1, m2⟩).parent.w⟩ L)).length)) (c := c51) (sz := 5) (j := (k : Int)) (by kernel_rfl) hA69 (by kernel_rfl) Ty.un29 Ty.sz35 (by omega) (by omega) (by simp)) ?_)
  refine wl (sv rfl (v := .agg #[.string y69.name, .int .i64 y69.node.t, .int .i64 y69.node.w, .bool y69.dir, .int .i64 y69.size]) (r_loads (k := 0 + k * 5) (by kernel_rfl) Ty.ag35 Ty.sz35 hb69 (el_sub0 he69 rfl)) ?_)
  refine wl (sn rfl (cs := #[.string (⟨#[]⟩), .int .i64 0, .int .i64 0, .bool false, .int .i64 0]) (T := 35) (V := fun b => .pointer (some ⟨b, 0, none⟩)) (r_alloc Ty.zv35 rfl) ?_)
  intro b70 w71 e72 h73 u74
  have h75 := md_ob M63 nin0 h.1
  have l76 : tb < b70 := by rw [e72]; exact lt_ob h75
  have h77 := md_ob hM1 nin0 h58
  have l78 : b1 < b70 := by rw [e72]; exact lt_ob h77
  have h79 := md_ob hM1 nin0 h59
  have l80 : b17 < b70 := by rw [e72]; exact lt_ob h79
  have l81 : g69 < b70 := by rw [e72]; exact lt_ob hb69
  have g82 : w.heap.size ≤ b70 := by rw [e72]; exact M63.size
  have g83 : w48.heap.size ≤ b70 := by rw [e72]; exact hM1.size
  have M84 := Mod.trans M63 (Mod.of_up u74)
  have M85 := Mod.trans hM1 (Mod.of_up u74)
  refine wl (ss rfl (k := 0) (v := .agg #[.string y69.name, .int .i64 y69.node.t, .int .i64 y69.node.w, .bool y69.dir, .int .i64 y69.size]) (vs := [.string y69.name, .int .i64 y69.node.t, .int .i64 y69.node.w, .bool y69.dir, .int .i64 y69.size]) (cs' := [.string y69.name, .int .i64 y69.node.t, .int .i64 y69.node.w, .bool y69.dir, .int .i64 y69.size]) (by kernel_rfl) (by kernel_rfl) rfl Ty.sz35 h73 rfl (Nat.le_of_ble_eq_true rfl) rfl ?_)
  intro w86 h87 c88
  have M89 := Mod.trans' M84 c88 (fun i hi => by injection hi with hi; rw [← hi]; exact g82)
  have M90 := Mod.trans' M85 c88 (fun i hi => by injection hi with hi; rw [← hi]; exact g83)
  refine wnil (then_n (wp_seq (rg_lit ?_)))
  refine wl (sv rfl (v := .pointer (some ⟨b70, 1, none⟩)) (r_fieldAddr (u := .pointer (some ⟨b70, 0, none⟩)) (by kernel_rfl) (fun _ => (by kernel_rfl))) ?_)
  refine wl (sv rfl (v := .agg #[.int .i64 y69.node.t, .int .i64 y69.node.w]) (r_loads (k := 1) (by kernel_rfl) Ty.ag24 Ty.sz24 h87 (by kernel_rfl)) ?_)
  have h91 := md_ob M90 nin0 h58
  refine wl (sv rfl (v := .agg #[.int .i64 m1, .int .i64 m2]) (r_loads (k := 0) (by kernel_rfl) Ty.ag24 Ty.sz24 h91 (by kernel_rfl)) ?_)
  refine wl (sb rfl (r_eqS (a := y69.node.t) (b := y69.node.w) (c := m1) (e := m2) (by kernel_rfl) (by kernel_rfl)) ?_)
  intro b92 k93
  refine wnil (then_n ?_)
  refine bcase b92 (fun v94 => ?_) (fun v94 => ?_)
  ·
   have p95 := of_decide_eq_false (k93.trans v94)
   refine wp_cond_false (ebool (b := b92) (by kernel_rfl) v94) ?_
   refine wp_skip (inb_n (then_n (rg_lit ?_)))
   refine wl (sv rfl (v := .int .i64 ((k : Int) + 1)) (r_add (k := .i64) (m := (k : Int)) (n := 1) (by kernel_rfl) (by kernel_rfl) (IntWalk.i64_in _ (by omega))) ?_)
   refine wmv (v := .int .i64 ((k : Int) + 1)) ?_
   refine wnil (then_n ?_)
   refine ⟨(entsI (kidsI ⟨(gotI L ⟨m1, m2⟩).parent.t, (gotI L ⟨m1, m2⟩).parent.w⟩ L)).length - (k + 1), ?_, (k + 1), z4, z5, .pointer (some ⟨b70, 0, none⟩), .bool b64, .pointer (some ⟨g69, 0 + k * 5, none⟩), .agg #[.string y69.name, .int .i64 y69.node.t, .int .i64 y69.node.w, .bool y69.dir, .int .i64 y69.size], .pointer (some ⟨b70, 1, none⟩), .agg #[.int .i64 y69.node.t, .int .i64 y69.node.w], .agg #[.int .i64 m1, .int .i64 m2], .bool b92, z40, z41, .int .i64 ((k : Int) + 1), rfl, (by kernel_rfl), M90, (by omega), (none_next (p := fun y : EntD => y.node = ⟨m1, m2⟩) hF1_1 hy69 p95)⟩
   · omega
  have p95 := of_decide_eq_true (k93.trans v94)
  refine wp_cond_true (ebool (b := b92) (by kernel_rfl) v94) ?_
  refine wp_seq (rg_lit ?_)
  refine wl (sv rfl (v := .pointer (some ⟨b70, 0, none⟩)) (r_fieldAddr (u := .pointer (some ⟨b70, 0, none⟩)) (by kernel_rfl) (fun _ => (by kernel_rfl))) ?_)
  refine wl (sv rfl (v := .string y69.name) (r_load (k := 0) (by kernel_rfl) Ty.ag9 h87 (by kernel_rfl)) ?_)
  refine was (v := .string y69.name) ?_
  refine was (v := .int .i64 0) ?_
  refine wnil (then_n (wp_ret (inb_r (then_x (by nofun) (then_x (by nofun) (inb_r (then_x (by nofun) ?_)))))))
  refine bodyPost_ret (v := .tuple #[.string y69.name, .int .i64 0]) (res2 rfl (rv_t (by kernel_rfl)) (rv_t (by kernel_rfl))) (by kernel_rfl) ?_
  exact ⟨shown_ret (shown_hit hF v32 v38 hy69 p95), (Mod.up M89)⟩
end Go.Proofs.YtefhfoioeoijlaaGreatDoor
namespace Go.Proofs
open Go.Shelf
def Tryz.lays156_ren : Go.Shelf.Ren := ⟨fun | 156 => 102 | 165 => 150 | 166 => 151 | 169 => 152 | 240 => 181 | 241 => 182 | 276 => 212 | 277 => 213 | n => n, fun | 31 => 69 | 9 => 9 | 3 => 3 | 4 => 4 | 0 => 0 | 20 => 20 | 72 => 189 | 76 => 193 | 70 => 187 | 37 => 40 | 75 => 192 | 127 => 223 | 164 => 247 | 5 => 5 | 80 => 195 | n => n, fun | n => n⟩
theorem Tryz.lays156 : Go.Proofs.Lays.n156 Tryz.prog Tryz.lays156_ren := {
  mixed := by kernel_rfl
  f156 := Tryz.func102.trans (congrArg some (by kernel_rfl))
  f165 := Tryz.func150.trans (congrArg some (by kernel_rfl))
  f166 := Tryz.func151.trans (congrArg some (by kernel_rfl))
  f169 := Tryz.func152.trans (congrArg some (by kernel_rfl))
  f240 := Tryz.func181.trans (congrArg some (by kernel_rfl))
  f241 := Tryz.func182.trans (congrArg some (by kernel_rfl))
  f276 := Tryz.func212.trans (congrArg some (by kernel_rfl))
  f277 := Tryz.func213.trans (congrArg some (by kernel_rfl))
  t0 := Tryz.underlying0
  a0 := Tryz.isAgg0
  z0 := Tryz.sizeOf0
  v0 := Tryz.zeroValue0
  t3 := Tryz.underlying3
  a3 := Tryz.isAgg3
  z3 := Tryz.sizeOf3
  v3 := Tryz.zeroValue3
  t4 := Tryz.underlying4
  a4 := Tryz.isAgg4
  z4 := Tryz.sizeOf4
  v4 := Tryz.zeroValue4
  t9 := Tryz.underlying9
  a9 := Tryz.isAgg9
  z9 := Tryz.sizeOf9
  v9 := Tryz.zeroValue9
  t20 := Tryz.underlying20
  a20 := Tryz.isAgg20
  z20 := Tryz.sizeOf20
  v20 := Tryz.zeroValue20
  t31 := Tryz.underlying69
  a31 := Tryz.isAgg69
  z31 := Tryz.sizeOf69
  v31 := Tryz.zeroValue69
  t37 := Tryz.underlying40
  a37 := Tryz.isAgg40
  z37 := Tryz.sizeOf40
  v37 := Tryz.zeroValue40
  t70 := Tryz.underlying187
  a70 := Tryz.isAgg187
  z70 := Tryz.sizeOf187
  v70 := Tryz.zeroValue187
  t72 := Tryz.underlying189
  a72 := Tryz.isAgg189
  z72 := Tryz.sizeOf189
  v72 := Tryz.zeroValue189
  t75 := Tryz.underlying192
  a75 := Tryz.isAgg192
  z75 := Tryz.sizeOf192
  v75 := Tryz.zeroValue192
  t76 := Tryz.underlying193
  a76 := Tryz.isAgg193
  z76 := Tryz.sizeOf193
  v76 := Tryz.zeroValue193
  t127 := Tryz.underlying223
  a127 := Tryz.isAgg223
  z127 := Tryz.sizeOf223
  v127 := Tryz.zeroValue223
  t164 := Tryz.underlying247
  a164 := Tryz.isAgg247
  z164 := Tryz.sizeOf247
  v164 := Tryz.zeroValue247 }
theorem Tryz.Builder_Extra_156 : Builder.Extra Tryz.prog Tryz.lays156_ren := {
  sizeBuilder := by kernel_rfl
  liesBuilder := by kernel_rfl
  t5 := Tryz.underlying5
  a5 := Tryz.isAgg5
  z5 := Tryz.sizeOf5
  v5 := Tryz.zeroValue5
  infoByte := by kernel_rfl
  cellsByte := by kernel_rfl
  sizeByte := by kernel_rfl
  neB5 := by decide }
open Go.RowKit in
theorem Tryz.strings_Join_none (a : Option Addr) (c : Nat) (sep : ByteArray) (w : World) :
    Calls Tryz.prog 102 #[.slice a 0 c, .string sep] w fun e w' => e = .returned (.string ⟨#[]⟩) ∧ w' = w := Any.strings_Join_none Tryz.lays156 Tryz.Builder_Extra_156 a c sep w
open Go.RowKit in
theorem Tryz.strings_Join (bk o c : Nat) (xs : List ByteArray) (sep : ByteArray) (w : World) (hcells : ∀ (j : Nat) x, xs[j]? = some x → w.cell? ⟨bk, o + j, none⟩ = some (.string x)) (hbk : bk < w.heap.size) (hN : xs.length ≤ 140737488355328) (hcap : xs.length ≤ c) (hlen : (Lib.join (xs.map (·.data.toList)) sep.data.toList).length ≤ 140737488355328) :
    Calls Tryz.prog 102 #[.slice (some ⟨bk, o, none⟩) xs.length c, .string sep] w fun e w' => e = .returned (.string ⟨(Lib.join (xs.map (·.data.toList)) sep.data.toList).toArray⟩) ∧ Below w.heap.size w w' := Any.strings_Join Tryz.lays156 Tryz.Builder_Extra_156 bk o c xs sep w hcells hbk hN hcap hlen
end Go.Proofs
set_option linter.unusedVariables false
set_option linter.unusedSimpArgs false
namespace Go.Proofs.YtefhfoioeoijlaaGreatDoor
open Go Go.RowKit Go.Sort
def BRow (base : Nat) (w : World) (v : Value) (L : List ByteArray) : Prop := w.ownsRow base 9 1 v L.length (L.map Value.string)
theorem BRow.nil (base : Nat) (w : World) : BRow base w (.slice none 0 0) [] := World.ownsRow_nil w base _ 1
theorem BRow.keep {base : Nat} {w w' : World} {v : Value} {L : List ByteArray} (h : BRow base w v L) {q : Option Nat} (hg : w.grownBy w' q) (hv : v.ownBlock = none ∨ v.ownBlock ≠ q) : BRow base w' v L := World.ownsRow.kept h hg hv
theorem BRow.up {base : Nat} {w w' : World} {v : Value} {L : List ByteArray} (h : BRow base w v L) (hb : Up w w') : BRow base w' v L :=
  h.keep (q := none) ⟨hb.os, hb.tape, hb.output, hb.size, fun k hk _ => hb.block k hk⟩ (by cases hv : v.ownBlock <;> simp)
theorem BRow.chgm {base b : Nat} {w w' : World} {v : Value} {L : List ByteArray} (h : BRow base w v L) (c : Chg w w' b) (hn : v.ownBlock ≠ some b) : BRow base w' v L := World.ownsRow.kept h c (.inr hn)
theorem BRow.form {base : Nat} {w : World} {v : Value} {L : List ByteArray} (h : BRow base w v L) : ∃ A c, v = .slice A L.length c := by
  obtain ⟨_, ⟨rfl, h0⟩ | ⟨g, cap, cur, rfl, _⟩⟩ := h
  · exact ⟨none, 0, by rw [h0]⟩
  · exact ⟨_, cap, rfl⟩
theorem BRow.own {base : Nat} {w : World} {v : Value} {L : List ByteArray} (h : BRow base w v L) : ∀ k, v.ownBlock = some k → base ≤ k ∧ k < w.heap.size := World.ownsRow.lt h
theorem BRow.ne_old {base b : Nat} {w : World} {v : Value} {L : List ByteArray} (h : BRow base w v L) (e : b < base) : v.ownBlock ≠ some b := fun hh => by have := (h.own _ hh).1; omega
theorem info_str : ∃ i z, Tryz.prog.info? 9 = some i ∧ i.zero = some z ∧ i.size = 1 ∧ i.bytes = 16 ∧ z.cells.size = 1 := by
  have h : (Tryz.prog.info? 9).map (fun i => (i.zero.map (·.cells.size), i.size, i.bytes)) = some (some 1, 1, 16) := by kernel_rfl
  cases hi : Tryz.prog.info? 9 with
  | none => rw [hi] at h; cases h
  | some i =>
    rw [hi] at h; simp at h
    obtain ⟨⟨z, hz, h1⟩, h2, h3⟩ := h
    exact ⟨i, z, rfl, hz, h2, h3, h1⟩
theorem BRow.snoc {base : Nat} {w : World} {v : Value} {L : List ByteArray} (h : BRow base w v L) {t ty : TypeId} (ht : Tryz.prog.underlying t = some (.slice 9)) {b : Nat} {x : ByteArray} (hb : w.heap[b]? = some (.cells #[.string x] 9 (0, 0))) (hbase : base ≤ w.heap.size) (hlen : L.length ≤ 100000) :
    ∃ v' w', (Builtin.append_ #[t, t] ty #[v, .slice (some ⟨b, 0, none⟩) 1 1]).run Tryz.prog w = .ok v' w' ∧ BRow base w' v' (L ++ [x]) ∧ w.grownBy w' v.ownBlock := by
  obtain ⟨i, z, hi, hz, hsize, hby, hzs⟩ := info_str
  obtain ⟨v', w', h1, h2, h3, h4⟩ := run_append_own (P := Tryz.prog) w base t ty 9 i z 1 16 ht hi hz hsize hby hzs (by decide) v L.length (L.map Value.string) h ⟨b, 0, none⟩ 1 1 [.string x] (by simp)
    (fun j u hj => by
      rw [add_at, Nat.zero_add]
      have : (#[.string x] : Array Value)[j]? = some u := by simpa using hj
      simp only [World.cell?, hb]; simpa using this) (by intro u hu; simp at hu; subst hu; rfl) (by unfold maxLen; omega) (by omega) hbase
  refine ⟨v', w', h1, ?_, h3⟩
  unfold BRow
  rw [List.map_append]
  simpa using h2
theorem snB {ops : Array Oper} {Q : Exit → Act → World → Prop} {a : Act} {w : World} {J : Act → World → Prop} {d : Option Tmp} {ty : TypeId} {pos : String} {af : Array Edge} {g : Option (Nat × Bool)}
    {base : Nat} {v : Value} {L : List ByteArray} {t : TypeId} {s y : Operand} {b : Nat} {x : ByteArray}
    (hw : Region.wanted (⟨d, .call ⟨.builtin .append, #[s, y], #[t, t]⟩, ty, pos, af, g⟩ : Oper) (yielded ops a.tmps) = true) (hs : a.eval s = v) (hy : a.eval y = .slice (some ⟨b, 0, none⟩) 1 1)
    (h : BRow base w v L) (ht : Tryz.prog.underlying t = some (.slice 9)) (hb : w.heap[b]? = some (.cells #[.string x] 9 (0, 0))) (hbase : base ≤ w.heap.size) (hlen : L.length ≤ 100000)
    (k : ∀ A c w', BRow base w' (.slice A (L ++ [x]).length c) (L ++ [x]) → w.grownBy w' v.ownBlock → J (a.put d (.slice A (L ++ [x]).length c)) w') : St1 Tryz.prog ops Q ⟨d, .call ⟨.builtin .append, #[s, y], #[t, t]⟩, ty, pos, af, g⟩ J a w := by
  obtain ⟨v', w', h1, h2, h3⟩ := h.snoc (ty := ty) ht hb hbase hlen
  obtain ⟨A, c, rfl⟩ := h2.form
  refine sv hw ?_ (k A c w' h2 h3)
  simp [execOp, resolve, invoke, builtin, hs, hy, h1]
def SSRow (w : World) (v : Value) (L : List ByteArray) : Prop :=
  ∃ A c, v = .slice A L.length c ∧ L.length ≤ c ∧ (L = [] ∨ ∃ g f, A = some ⟨g, f, none⟩ ∧ g < w.heap.size ∧ ∀ (j : Nat) (x : ByteArray), L[j]? = some x → w.cell? ⟨g, f + j, none⟩ = some (.string x))
def joinB (L : List ByteArray) : ByteArray := ⟨(Lib.join (L.map (·.data.toList)) [47]).toArray⟩
theorem encStr_is (x : ByteArray) : encStr x.data.toList = .string x := by cases x; simp [encStr]
theorem rev_at {base : Nat} {w : World} {v : Value} {L : List ByteArray} (h : BRow base w v L) (hlen : L.length ≤ 100000) :
    Calls Tryz.prog 101 #[v] w fun e w' => e = .returned (.tuple #[]) ∧ SSRow w' v L.reverse ∧ w.grownBy w' v.ownBlock := by
  obtain ⟨hl, ⟨rfl, h0⟩ | ⟨g, cap, cur, rfl, hb, hg, hc, hm, hcs, htk⟩⟩ := h
  · have hL : L = [] := List.length_eq_zero_iff.1 h0
    subst hL
    refine (Tryz.slices_Reverse_string_empty none 0 w).mono ?_
    rintro e w' ⟨rfl, rfl⟩
    exact ⟨rfl, ⟨none, 0, rfl, Nat.le_refl _, .inl rfl⟩, rfl, rfl, rfl, Nat.le_refl _, fun k hk _ => rfl⟩
  · have hcell : ∀ (j : Nat) (x : ByteArray), L[j]? = some x → w.cell? ⟨g, 0 + j, none⟩ = some (.string x) := fun j x hx => by
      have hj := (List.getElem?_eq_some_iff.1 hx).1
      have h1 : (L.map Value.string)[j]? = some (.string x) := by rw [List.getElem?_map, hx]; rfl
      rw [← htk, List.getElem?_take, if_pos (by omega), Array.getElem?_toList] at h1
      simp only [World.cell?, hg, Nat.zero_add]
      exact h1
    have hH : Holds encStr w g 0 (L.map (·.data.toList)).toArray := by
      intro j hj
      simp only [List.size_toArray, List.length_map] at hj
      refine ⟨?_, by simp [World.frozen?, hg]⟩
      rw [hcell j _ (List.getElem?_eq_getElem hj)]
      congr 1
      rw [← encStr_is]
      congr 1
      simp [getElem!_pos, hj]
    have key := Tryz.slices_Reverse_string g 0 cap (L.map (·.data.toList)) w hH (by simp; omega)
    rw [List.length_map] at key
    refine key.mono ?_
    rintro e w' ⟨rfl, q, rfl⟩
    have hH' : Holds encStr (putRow encStr (Sort.ahead w q) g 0 (L.map (·.data.toList)).reverse.toArray) g 0 (L.map (·.data.toList)).reverse.toArray := holds_putRow encStr (Sort.ahead w q) g 0 (L.map (·.data.toList)).toArray _ (show Holds encStr (Sort.ahead w q) g 0 (L.map (·.data.toList)).toArray from fun j hj => hH j hj) (by simp)
    have hglt : g < w.heap.size := lt_ob hg
    refine ⟨rfl, ⟨some ⟨g, 0, none⟩, cap, by rw [List.length_reverse], by rw [List.length_reverse]; exact hc, .inr ⟨g, 0, rfl, by rw [size_putRow]; exact hglt, fun j x hx => ?_⟩⟩, ?_⟩
    · have hj := (List.getElem?_eq_some_iff.1 hx).1
      have := (hH' j (by simpa using hj)).1
      rw [this]
      congr 1
      rw [← encStr_is]
      congr 1
      have hx2 : (L.map (·.data.toList)).reverse[j]? = some x.data.toList := by rw [← List.map_reverse, List.getElem?_map, hx]; rfl
      obtain ⟨h3, h4⟩ := List.getElem?_eq_some_iff.1 hx2
      rw [getElem!_pos _ _ (by simpa using h3)]
      simpa using h4
    · refine ⟨rfl, rfl, rfl, by rw [size_putRow]; exact Nat.le_refl _, fun k hk hne => ?_⟩
      unfold putRow mapBlock
      simp only [Array.getElem?_modify]
      rw [if_neg (by intro e; exact hne (by rw [e]; rfl))]
      rfl
theorem join_at {w : World} {v : Value} {L : List ByteArray} (h : SSRow w v L) (hl : L.length ≤ 1000) (hlen : (joinB L).size ≤ 1000000) :
    Calls Tryz.prog 102 #[v, .string ⟨#[47]⟩] w fun e w' => e = .returned (.string (joinB L)) ∧ Up w w' := by
  have hlen' : (Lib.join (L.map (·.data.toList)) [47]).length ≤ 1000000 := by simpa [joinB, ByteArray.size] using hlen
  obtain ⟨A, c, rfl, hc, h0 | ⟨g, f, rfl, hg, hcell⟩⟩ := h
  · subst h0
    refine (Tryz.strings_Join_none A c ⟨#[47]⟩ w).mono ?_
    rintro e w' ⟨rfl, rfl⟩
    exact ⟨rfl, Below.refl _ _⟩
  · exact Tryz.strings_Join g f c L ⟨#[47]⟩ w hcell hg (by omega) hc (by show (Lib.join (L.map (·.data.toList)) [47]).length ≤ _; omega)
end Go.Proofs.YtefhfoioeoijlaaGreatDoor
set_option linter.unusedVariables false
set_option linter.unusedSimpArgs false
namespace Go.Proofs.YtefhfoioeoijlaaGreatDoor
open Go Go.RowKit Go.Sort
def ofL (L : List Item) : Nat → Stamp → List ByteArray → Option (List ByteArray)
  | 0, m, acc => if m = nilS then some acc else none
  | f + 1, m, acc => if m = nilS then some acc else ofL L f (gotI L m).parent (acc ++ [shownB L m])
def pathB (l : List ByteArray) : ByteArray := (⟨#[47]⟩ : ByteArray) ++ joinB l.reverse
def ofB (L : List Item) (m : Stamp) : ByteArray := if hangsI L 301 m = false then ⟨#[]⟩ else match ofL L 16 m [] with | none => ⟨#[]⟩ | some l => pathB l
def ofK (L : List Item) (m : Stamp) : Int := if hangsI L 301 m = false then 12 else match ofL L 16 m [] with | none => 3 | some _ => 0
theorem of_no {L : List Item} {m : Stamp} (h : hangsI L 301 m = false) : ofB L m = ⟨#[]⟩ ∧ ofK L m = 12 := by unfold ofB ofK; rw [if_pos h, if_pos h]; exact ⟨rfl, rfl⟩
theorem of_deep {L : List Item} {m : Stamp} (h : hangsI L 301 m = true) (e : ofL L 16 m [] = none) : ofB L m = ⟨#[]⟩ ∧ ofK L m = 3 := by
  have h' : ¬ hangsI L 301 m = false := by rw [h]; decide
  unfold ofB ofK; rw [if_neg h', if_neg h', e]; exact ⟨rfl, rfl⟩
theorem of_yes {L : List Item} {m : Stamp} {l : List ByteArray} (h : hangsI L 301 m = true) (e : ofL L 16 m [] = some l) : ofB L m = pathB l ∧ ofK L m = 0 := by
  have h' : ¬ hangsI L 301 m = false := by rw [h]; decide
  unfold ofB ofK; rw [if_neg h', if_neg h', e]; exact ⟨rfl, rfl⟩
theorem of_ret {L : List Item} {m : Stamp} {b : ByteArray} {k : Int} (h : ofB L m = b ∧ ofK L m = k) : Ending.returned (.tuple #[.string b, .int .i64 k]) = .returned (.tuple #[.string (ofB L m), .int .i64 (ofK L m)]) := by rw [h.1, h.2]
theorem ofL_nil {L : List Item} {f : Nat} {acc : List ByteArray} : ofL L f ⟨0, 0⟩ acc = some acc := by cases f <;> simp [ofL, nilS]
theorem ofL_stop {L : List Item} {m : Stamp} {acc : List ByteArray} (h : m ≠ ⟨0, 0⟩) : ofL L 0 m acc = none := by unfold ofL; rw [if_neg (show ¬ m = nilS from h)]
theorem ofL_go {L : List Item} {k : Nat} {m : Stamp} {acc : List ByteArray} (hk : k < 16) (h : m ≠ ⟨0, 0⟩) : ofL L (16 - k) m acc = ofL L (16 - (k + 1)) (gotI L m).parent (acc ++ [shownB L m]) := by
  rw [show 16 - k = (16 - (k + 1)) + 1 by omega]
  conv => lhs; unfold ofL
  rw [if_neg (show ¬ m = nilS from h)]
theorem shown_short {L : List Item} (hF : Fit L) (m : Stamp) : (shownB L m).data.toList.length ≤ 100 := by
  unfold shownB
  split
  · unfold nodeE
    cases e : (entsI (kidsI (gotI L m).parent L)).find? (fun e => decide (e.node = m)) with
    | none => decide
    | some y => exact ents_short (hF.kids _).1 y (List.mem_of_find?_eq_some e)
  · decide
def Shorts (l : List ByteArray) : Prop := ∀ x ∈ l, x.data.toList.length ≤ 100
theorem Shorts.snoc {l : List ByteArray} {x : ByteArray} (h : Shorts l) (hx : x.data.toList.length ≤ 100) : Shorts (l ++ [x]) := fun y hy => by
  rcases List.mem_append.1 hy with hy | hy
  · exact h y hy
  · simp at hy; subst hy; exact hx
theorem join_short : ∀ {l : List (List UInt8)}, (∀ x ∈ l, x.length ≤ 100) → (Lib.join l [47]).length ≤ l.length * 101
  | [], _ => by simp [Lib.join]
  | [x], h => by have := h x (by simp); simp [Lib.join]; omega
  | x :: y :: l, h => by
    have ih := join_short (l := y :: l) (fun z hz => h z (by simp [hz]))
    have h1 := h x (by simp)
    have e : Lib.join (x :: y :: l) [47] = x ++ ([47] ++ Lib.join (y :: l) [47]) := by simp [Lib.join, List.intercalate, List.intersperse]
    rw [e]
    simp only [List.length_append, List.length_cons, List.length_nil] at ih ⊢
    omega
theorem joinB_short {l : List ByteArray} (h : Shorts l) (hl : l.length ≤ 16) : (joinB l.reverse).size ≤ 1616 := by
  have h1 := join_short (l := l.reverse.map (·.data.toList)) (fun x hx => by
    obtain ⟨y, hy, rfl⟩ := List.mem_map.1 hx
    exact h y (List.mem_reverse.1 hy))
  simp only [List.length_map, List.length_reverse] at h1
  have : (joinB l.reverse).size = (Lib.join (l.reverse.map (·.data.toList)) [47]).length := by simp [joinB, ByteArray.size]
  omega
end Go.Proofs.YtefhfoioeoijlaaGreatDoor
set_option linter.unusedVariables false
set_option linter.unusedSimpArgs false
namespace Go.Proofs.YtefhfoioeoijlaaGreatDoor
open Go Go.RowKit Go.Sort
section
variable {d : Option Tmp} {ty : TypeId} {pos : String} {af : Array Edge} {g : Option (Nat × Bool)} {ρ : Operand → Value} {w : World}
theorem r_neS2 {x y : Operand} {yt : TypeId} {a b c e : Int} (hx : ρ x = .agg #[.int .i64 a, .int .i64 b]) (hy : ρ y = .agg #[.int .i64 c, .int .i64 e]) :
    (execOp ρ ⟨d, .binOp .neq 24 x y yt, ty, pos, af, g⟩).run Tryz.prog w = .ok (.value (.bool (decide ((⟨a, b⟩ : Stamp) ≠ ⟨c, e⟩)))) w := by
  have h := stamp_eq' a b c e w
  simp [execOp, hx, hy, eqGuard, stamp_noguard, binOp, h]
end
end Go.Proofs.YtefhfoioeoijlaaGreatDoor
set_option linter.unusedVariables false
set_option linter.unusedSimpArgs false
namespace Go.Proofs.YtefhfoioeoijlaaGreatDoor
open Go Go.RowKit Go.Sort
set_option maxRecDepth 20000 in
set_option maxHeartbeats 2000000 in
theorem of_at {B : Nat} {w : World} {tb r : Nat} {L : List Item} (h : TreeIs B w tb r L) (hB : B ≤ w.heap.size) (hF : Fit L) (htab : Tab w) (m1 m2 : Int) : Calls Tryz.prog 42 #[trP tb, .agg #[.int .i64 m1, .int .i64 m2]] w fun e w' => e = .returned (.tuple #[.string (ofB L ⟨m1, m2⟩), .int .i64 (ofK L ⟨m1, m2⟩)]) ∧ Up w w' := by
  go_enter Tryz.func42, Tryz.ntmps42
  refine wp_seq (rg_lit ?_)
  refine wl (sn rfl (cs := #[.int .i64 m1, .int .i64 m2]) (T := 24) (V := fun b => .pointer (some ⟨b, 0, none⟩)) (r_box (v := .agg #[.int .i64 m1, .int .i64 m2]) (by kernel_rfl) rfl) ?_)
  intro pb w1 e2 h3 u4
  have l5 : tb < pb := by rw [e2]; exact lt_ob h.1
  have g6 : w.heap.size ≤ pb := by rw [e2]; exact (Mod.refl [] w).size
  have M7 := Mod.trans (Mod.refl [] w) (Mod.of_up u4)
  refine was (v := .string (⟨#[]⟩)) ?_
  refine was (v := .int .i64 0) ?_
  refine wnil (then_n (wp_seq (wp_block (wp_seq (rg_lit ?_)))))
  refine wmv (v := .pointer (some ⟨tb, 0, none⟩)) ?_
  refine wl (sv (w' := w1) rfl (v := .bool false) (by kernel_rfl) ?_)
  refine was (v := .bool false) ?_
  refine wnil (then_n ?_)
  refine wp_cond_false (by kernel_rfl) ?_
  refine wp_seq (rg_lit ?_)
  refine wmv (v := .pointer (some ⟨tb, 0, none⟩)) ?_
  refine wl (sv rfl (v := .agg #[.int .i64 m1, .int .i64 m2]) (r_loads (k := 0) (by kernel_rfl) Ty.ag24 Ty.sz24 h3 (by kernel_rfl)) ?_)
  have h8 := (TreeIs.up h (Mod.up M7))
  refine wl (sc rfl (r_callv (caps := []) (all := [.pointer (some ⟨tb, 0, none⟩), .agg #[.int .i64 m1, .int .i64 m2]]) En.f39 (by kernel_rfl) (by kernel_rfl)) (hangs_at h8 m1 m2) ?_)
  rintro e w9 ⟨rfl, u10⟩
  refine ⟨.bool (hangsI L 301 ⟨m1, m2⟩), rfl, ?_⟩
  have M11 := Mod.trans M7 (Mod.of_up u10)
  refine wl (sv rfl (v := .bool (!(hangsI L 301 ⟨m1, m2⟩))) (r_not (b := (hangsI L 301 ⟨m1, m2⟩)) (by kernel_rfl)) ?_)
  refine was (v := .bool (!(hangsI L 301 ⟨m1, m2⟩))) ?_
  refine wnil (then_n ?_)
  refine bcase (hangsI L 301 ⟨m1, m2⟩) (fun v12 => ?_) (fun v12 => ?_)
  ·
   refine wp_cond_true (ebool (b := !(hangsI L 301 ⟨m1, m2⟩)) (by kernel_rfl) (bneg v12)) ?_
   refine wp_seq (rg_lit ?_)
   refine was (v := .string (⟨#[]⟩)) ?_
   refine was (v := .int .i64 12) ?_
   refine wnil (then_n (wp_ret (inb_r (then_x (by nofun) ?_))))
   refine bodyPost_ret (v := .tuple #[.string (⟨#[]⟩), .int .i64 12]) (res2 rfl (rv_t (by kernel_rfl)) (rv_t (by kernel_rfl))) (by kernel_rfl) ?_
   exact ⟨of_ret (of_no v12), (Mod.up M11)⟩
  refine wp_cond_false (ebool (b := !(hangsI L 301 ⟨m1, m2⟩)) (by kernel_rfl) (bneg v12)) ?_
  refine wp_skip (inb_n (then_n (wp_seq (rg_lit ?_))))
  refine was (v := .slice none 0 0) ?_
  refine wnil (then_n (wp_seq (wp_block ?_)))
  have h13 := md_ob M11 nin0 h.1
  have h14 := (up_ob u10 h3)
  have h15 := (TreeIs.up h (Mod.up M11))
  refine lp (fun n a r1 => ∃ (k : Nat) (s1 : Int) (s2 : Int) (acc : List ByteArray) (oA : Option Addr) (oc : Nat) (Z : Nat → Value), (n = 17 - k) ∧ (a = ⟨#[.pointer (some ⟨tb, 0, none⟩), .agg #[.int .i64 m1, .int .i64 m2], undef, .pointer (some ⟨pb, 0, none⟩), (Z 4), (Z 5), .slice oA acc.length oc, (Z 7), (Z 8), (Z 9), (Z 10), .bool false, .pointer (some ⟨tb, 0, none⟩), .bool false, .bool (!(hangsI L 301 ⟨m1, m2⟩)), .pointer (some ⟨tb, 0, none⟩), .agg #[.int .i64 m1, .int .i64 m2], .bool (hangsI L 301 ⟨m1, m2⟩), .bool (!(hangsI L 301 ⟨m1, m2⟩)), (Z 19), (Z 20), (Z 21), (Z 22), (Z 23), (Z 24), (Z 25), (Z 26), (Z 27), (Z 28), (Z 29), (Z 30), (Z 31), (Z 32), (Z 33), (Z 34), (Z 35), (Z 36), (Z 37), (Z 38), (Z 39), (Z 40), (Z 41), (Z 42), undef, undef, undef, undef, undef], []⟩) ∧ (Mod [pb] w9 r1) ∧ (r1.heap[pb]? = some (.cells #[.int .i64 s1, .int .i64 s2] 24 (0, 0))) ∧ (k ≤ 16) ∧ (acc.length = k) ∧ (ofL L (16 - k) ⟨s1, s2⟩ acc = ofL L 16 ⟨m1, m2⟩ []) ∧ (Shorts acc) ∧ (BRow w9.heap.size r1 (.slice oA acc.length oc) acc)) ⟨_, 0, m1, m2, [], none, 0, tget [undef, undef, undef, undef, .string (⟨#[]⟩), .int .i64 0, undef, undef, undef, undef, undef, undef, undef, undef, undef, undef, undef, undef, undef, undef, undef, undef, undef, undef, undef, undef, undef, undef, undef, undef, undef, undef, undef, undef, undef, undef, undef, undef, undef, undef, undef, undef, undef], rfl, (by kernel_rfl), Mod.refl _ _, h14, (Nat.zero_le _), rfl, rfl, (fun x hx => absurd hx (by simp)), (BRow.nil _ _)⟩ ?_
  rintro _ _ r1 ⟨k, s1, s2, acc, oA, oc, Z, rfl, rfl, hM1, hX1pb, hF1_0, hF1_1, hF1_2, hF1_3, hF1_4⟩
  have M16 := Mod.thin M11 hM1 (fun y hy => by simp only [List.mem_cons, List.not_mem_nil, or_false] at hy; subst hy; exact .inr g6)
  refine wp_seq (wp_seq ?_)
  refine rg_all (by kernel_rfl) (by kernel_rfl) ?_
  refine qv rfl (v := .agg #[.int .i64 s1, .int .i64 s2]) (fun _ uz => r_loads (k := 0) (by kernel_rfl) Ty.ag24 Ty.sz24 (up_ob uz hX1pb) (by kernel_rfl)) ?_
  refine qc rfl (v := .agg #[.int .i64 0, .int .i64 0]) (fun _ _ => r_callv (caps := []) (all := []) En.f99 (by kernel_rfl) (by kernel_rfl)) (fun wz uz => root_at _) ?_ ?_
  · rintro w1 e w2 hC ⟨rfl, hu⟩; exact ⟨rfl, up_step hC hu.below⟩
  refine qb rfl (fun _ _ => r_neS2 (a := s1) (b := s2) (c := 0) (e := 0) (by kernel_rfl) (by kernel_rfl)) ?_
  intro b17 k18
  refine qnil ?_
  intro w19 u20
  have M21 := Mod.trans M16 (Mod.of_up u20)
  have M22 := Mod.trans hM1 (Mod.of_up u20)
  refine then_n ?_
  refine bcase b17 (fun v23 => ?_) (fun v23 => ?_)
  ·
   have p24 := of_decide_eq_false (k18.trans v23)
   refine wp_cond_false (ebool (b := b17) (by kernel_rfl) v23) ?_
   refine wp_exit (then_x (by nofun) (then_x (by nofun) (inb_hit (then_n (wp_seq (rg_lit ?_))))))
   refine wmv (v := .slice oA acc.length oc) ?_
   have h25 := (BRow.up hF1_4 u20)
   refine wl (sc rfl (r_callv (caps := []) (all := [.slice oA acc.length oc]) En.f101 (by kernel_rfl) (by kernel_rfl)) (rev_at h25 (by omega)) ?_)
   rintro e w26 ⟨rfl, h27, u28⟩
   refine ⟨.tuple #[], rfl, ?_⟩
   have M29 := Mod.trans' M21 u28 (fun k hk => Nat.le_trans M11.size (h25.own k hk).1)
   have M30 := Mod.trans' M22 u28 (fun k hk => Nat.le_trans (Nat.le_refl _) (h25.own k hk).1)
   refine wnil (then_n (wp_seq (rg_lit ?_)))
   refine wmv (v := .slice oA acc.length oc) ?_
   have hjs := joinB_short hF1_3 (by omega)
   refine wl (sc rfl (r_callv (caps := []) (all := [.slice oA acc.length oc, .string (⟨#[47]⟩)]) En.f102 (by kernel_rfl) (by kernel_rfl)) (join_at (L := acc.reverse) h27 (by simp; omega) (by omega)) ?_)
   rintro e w31 ⟨rfl, u32⟩
   refine ⟨.string (joinB acc.reverse), rfl, ?_⟩
   have M33 := Mod.trans M29 (Mod.of_up u32)
   have M34 := Mod.trans M30 (Mod.of_up u32)
   refine wl (sv rfl (v := .string ((⟨#[47]⟩ : ByteArray) ++ (joinB acc.reverse))) (r_adds (m := (⟨#[47]⟩)) (n := (joinB acc.reverse)) (by kernel_rfl) (by kernel_rfl) (by have : (⟨#[47]⟩ : ByteArray).size = 1 := rfl; omega)) ?_)
   refine was (v := .string ((⟨#[47]⟩ : ByteArray) ++ (joinB acc.reverse))) ?_
   refine was (v := .int .i64 0) ?_
   refine wnil (then_n (wp_ret ?_))
   refine bodyPost_ret (v := .tuple #[.string ((⟨#[47]⟩ : ByteArray) ++ (joinB acc.reverse)), .int .i64 0]) (res2 rfl (rv_t (by kernel_rfl)) (rv_t (by kernel_rfl))) (by kernel_rfl) ?_
   have hz0 : ofL L 16 ⟨m1, m2⟩ [] = some acc := by rw [← hF1_2, Decidable.not_not.1 p24]; exact ofL_nil
   exact ⟨of_ret (of_yes v12 hz0), (Mod.up M33)⟩
  have p24 := of_decide_eq_true (k18.trans v23)
  refine wp_cond_true (ebool (b := b17) (by kernel_rfl) v23) ?_
  refine wp_skip (then_n (wp_block (wp_seq (wp_seq (rg_lit ?_)))))
  refine wmv (v := .slice oA acc.length oc) ?_
  refine wl (sv rfl (v := .int .i64 (acc.length : Int)) (r_len Ty.un69 (ad := oA) (n := acc.length) (c := oc) (by kernel_rfl)) ?_)
  refine wl (sb rfl (r_eq (k := .i64) (m := (acc.length : Int)) (n := 16) (by kernel_rfl) (by kernel_rfl)) ?_)
  intro b25 k26
  refine wnil (then_n ?_)
  refine bcase b25 (fun v27 => ?_) (fun v27 => ?_)
  ·
   have p28 := of_decide_eq_false (k26.trans v27)
   refine wp_cond_false (ebool (b := b25) (by kernel_rfl) v27) ?_
   refine wp_skip (then_n (wp_seq (rg_lit ?_)))
   refine wmv (v := .pointer (some ⟨tb, 0, none⟩)) ?_
   have h29 := (up_ob u20 hX1pb)
   refine wl (sv rfl (v := .agg #[.int .i64 s1, .int .i64 s2]) (r_loads (k := 0) (by kernel_rfl) Ty.ag24 Ty.sz24 h29 (by kernel_rfl)) ?_)
   have h30 := (TreeIs.up h (Mod.up M21))
   refine wl (sc rfl (r_callv (caps := []) (all := [.pointer (some ⟨tb, 0, none⟩), .agg #[.int .i64 s1, .int .i64 s2]]) En.f19 (by kernel_rfl) (by kernel_rfl)) (shown18_at h30 (Nat.le_trans hB M21.size) hF (TabIs.up htab (Mod.up M21)) s1 s2) ?_)
   rintro e w31 ⟨rfl, u32⟩
   refine ⟨.tuple #[.string (shownB L ⟨s1, s2⟩), .int .i64 (shownK L ⟨s1, s2⟩)], rfl, ?_⟩
   have M33 := Mod.trans M21 (Mod.of_up u32)
   have M34 := Mod.trans M22 (Mod.of_up u32)
   refine wmv (v := .tuple #[.string (shownB L ⟨s1, s2⟩), .int .i64 (shownK L ⟨s1, s2⟩)]) ?_
   refine wl (sv rfl (v := .string (shownB L ⟨s1, s2⟩)) (r_extract (vs := [.string (shownB L ⟨s1, s2⟩), .int .i64 (shownK L ⟨s1, s2⟩)]) (by kernel_rfl) rfl) ?_)
   refine wl (sv rfl (v := .int .i64 (shownK L ⟨s1, s2⟩)) (r_extract (vs := [.string (shownB L ⟨s1, s2⟩), .int .i64 (shownK L ⟨s1, s2⟩)]) (by kernel_rfl) rfl) ?_)
   refine was (v := .string (shownB L ⟨s1, s2⟩)) ?_
   refine was (v := .int .i64 (shownK L ⟨s1, s2⟩)) ?_
   refine wnil (then_n (wp_seq (rg_lit ?_)))
   refine wmv (v := .slice oA acc.length oc) ?_
   refine wmv (v := .string (shownB L ⟨s1, s2⟩)) ?_
   refine wl (sn rfl (cs := #[.string (shownB L ⟨s1, s2⟩)]) (T := 9) (V := fun b => .slice (some ⟨b, 0, none⟩) 1 1) (r_buildSlice (n := 1) (ps := [(0, .string (shownB L ⟨s1, s2⟩))]) Ty.un69 Ty.sz9 Ty.zv9 (by decide) (by decide) (by kernel_rfl) (by kernel_rfl)) ?_)
   intro b35 w36 e37 h38 u39
   have h40 := md_ob M33 nin0 h.1
   have l41 : tb < b35 := by rw [e37]; exact lt_ob h40
   have h42 := (up_ob u32 h29)
   have l43 : pb < b35 := by rw [e37]; exact lt_ob h42
   have g44 : w.heap.size ≤ b35 := by rw [e37]; exact M33.size
   have g45 : w9.heap.size ≤ b35 := by rw [e37]; exact M34.size
   have M46 := Mod.trans M33 (Mod.of_up u39)
   have M47 := Mod.trans M34 (Mod.of_up u39)
   have h48 := (BRow.up hF1_4 (up_up (up_up u20 u32) u39))
   refine wl (snB rfl (L := acc) (x := (shownB L ⟨s1, s2⟩)) (by kernel_rfl) (by kernel_rfl) h48 Ty.un69 h38 M47.size (by omega) ?_)
   intro A49 c50 w51 h52 u53
   have M54 := Mod.trans' M46 u53 (fun k hk => Nat.le_trans M11.size (h48.own k hk).1)
   have M55 := Mod.trans' M47 u53 (fun k hk => Nat.le_trans (Nat.le_refl _) (h48.own k hk).1)
   refine was (v := .slice A49 ((acc ++ [(shownB L ⟨s1, s2⟩)]).length) c50) ?_
   refine wnil (then_n (wp_seq (rg_lit ?_)))
   refine wmv (v := .pointer (some ⟨tb, 0, none⟩)) ?_
   have h56 := (own_ob u53 (h48.ne_old (lt_ob h14)) (up_ob u39 h42))
   refine wl (sv rfl (v := .agg #[.int .i64 s1, .int .i64 s2]) (r_loads (k := 0) (by kernel_rfl) Ty.ag24 Ty.sz24 h56 (by kernel_rfl)) ?_)
   have h57 := (TreeIs.up h (Mod.up M54))
   refine wl (sc rfl (r_callv (caps := []) (all := [.pointer (some ⟨tb, 0, none⟩), .agg #[.int .i64 s1, .int .i64 s2]]) En.f20 (by kernel_rfl) (by kernel_rfl)) (get_x h57 ⟨s1, s2⟩ (x := (gotI L ⟨s1, s2⟩)) (b := (hasI L ⟨s1, s2⟩)) rfl rfl) ?_)
   rintro e w58 ⟨A59, n60, c61, rfl, h62, u63⟩
   refine ⟨.tuple #[itV (gotI L ⟨s1, s2⟩) (.slice A59 n60 c61), .bool (hasI L ⟨s1, s2⟩)], rfl, ?_⟩
   have M64 := Mod.trans M54 (Mod.of_up u63)
   have M65 := Mod.trans M55 (Mod.of_up u63)
   refine wmv (v := .tuple #[itV (gotI L ⟨s1, s2⟩) (.slice A59 n60 c61), .bool (hasI L ⟨s1, s2⟩)]) ?_
   refine wl (sv rfl (v := itV (gotI L ⟨s1, s2⟩) (.slice A59 n60 c61)) (r_extract (vs := [itV (gotI L ⟨s1, s2⟩) (.slice A59 n60 c61), .bool (hasI L ⟨s1, s2⟩)]) (by kernel_rfl) rfl) ?_)
   refine wl (sv rfl (v := .bool (hasI L ⟨s1, s2⟩)) (r_extract (vs := [itV (gotI L ⟨s1, s2⟩) (.slice A59 n60 c61), .bool (hasI L ⟨s1, s2⟩)]) (by kernel_rfl) rfl) ?_)
   refine wl (sn rfl (cs := #[.int .i64 0, .int .i64 0, .int .i64 0, .int .i64 0, .string (⟨#[]⟩), .bool false, .bool false, .slice none 0 0, .int .i64 0, .int .i64 0]) (T := 42) (V := fun b => .pointer (some ⟨b, 0, none⟩)) (r_alloc Ty.zv42 rfl) ?_)
   intro b66 w67 e68 h69 u70
   have h71 := md_ob M64 nin0 h.1
   have l72 : tb < b66 := by rw [e68]; exact lt_ob h71
   have h73 := (up_ob u63 h56)
   have l74 : pb < b66 := by rw [e68]; exact lt_ob h73
   have g75 : w.heap.size ≤ b66 := by rw [e68]; exact M64.size
   have g76 : w9.heap.size ≤ b66 := by rw [e68]; exact M65.size
   have M77 := Mod.trans M64 (Mod.of_up u70)
   have M78 := Mod.trans M65 (Mod.of_up u70)
   refine wl (ss rfl (k := 0) (v := itV (gotI L ⟨s1, s2⟩) (.slice A59 n60 c61)) (vs := (itC (gotI L ⟨s1, s2⟩) (.slice A59 n60 c61))) (cs' := (itC (gotI L ⟨s1, s2⟩) (.slice A59 n60 c61))) (by kernel_rfl) (by kernel_rfl) rfl Ty.sz42 h69 rfl (Nat.le_of_ble_eq_true rfl) rfl ?_)
   intro w79 h80 c81
   have M82 := Mod.trans' M77 c81 (fun i hi => by injection hi with hi; rw [← hi]; exact g75)
   have M83 := Mod.trans' M78 c81 (fun i hi => by injection hi with hi; rw [← hi]; exact g76)
   refine was (v := .bool (hasI L ⟨s1, s2⟩)) ?_
   refine wnil (then_n (rg_lit ?_))
   refine wl (sv rfl (v := .pointer (some ⟨b66, 2, none⟩)) (r_fieldAddr (u := .pointer (some ⟨b66, 0, none⟩)) (by kernel_rfl) (fun _ => (by kernel_rfl))) ?_)
   refine wl (sv rfl (v := .agg #[.int .i64 ((gotI L ⟨s1, s2⟩).parent.t), .int .i64 ((gotI L ⟨s1, s2⟩).parent.w)]) (r_loads (k := 2) (by kernel_rfl) Ty.ag24 Ty.sz24 h80 (by kernel_rfl)) ?_)
   have h84 := (chg_ob c81 (Nat.ne_of_lt l74) (up_ob u70 h73))
   refine wl (ss rfl (k := 0) (v := .agg #[.int .i64 ((gotI L ⟨s1, s2⟩).parent.t), .int .i64 ((gotI L ⟨s1, s2⟩).parent.w)]) (vs := [.int .i64 ((gotI L ⟨s1, s2⟩).parent.t), .int .i64 ((gotI L ⟨s1, s2⟩).parent.w)]) (cs' := [.int .i64 ((gotI L ⟨s1, s2⟩).parent.t), .int .i64 ((gotI L ⟨s1, s2⟩).parent.w)]) (by kernel_rfl) (by kernel_rfl) rfl Ty.sz24 h84 rfl (Nat.le_of_ble_eq_true rfl) rfl ?_)
   intro w85 h86 c87
   have M88 := Mod.trans' M82 c87 (fun i hi => by injection hi with hi; rw [← hi]; exact g6)
   have M89 := Mod.trans M83 (Mod.of_chg c87 (by simp))
   refine wnil (inb_n (then_n ?_))
   have h90 := (BRow.chgm (BRow.up h52 (up_chgn (up_up u63 u70) c81 (by rw [e68]; exact u63.size))) c87 (BRow.ne_old (BRow.up h52 (up_chgn (up_up u63 u70) c81 (by rw [e68]; exact u63.size))) (lt_ob h14)))
   refine ⟨17 - (k + 1), ?_, (k + 1), (gotI L ⟨s1, s2⟩).parent.t, (gotI L ⟨s1, s2⟩).parent.w, (acc ++ [(shownB L ⟨s1, s2⟩)]), A49, c50, tget [undef, undef, undef, undef, (Z 4), (Z 5), undef, .string (shownB L ⟨s1, s2⟩), .int .i64 (shownK L ⟨s1, s2⟩), .pointer (some ⟨b66, 0, none⟩), .bool (hasI L ⟨s1, s2⟩), undef, undef, undef, undef, undef, undef, undef, undef, .agg #[.int .i64 s1, .int .i64 s2], .agg #[.int .i64 0, .int .i64 0], .bool b17, .slice oA acc.length oc, .int .i64 (acc.length : Int), .bool b25, .tuple #[.string (shownB L ⟨s1, s2⟩), .int .i64 (shownK L ⟨s1, s2⟩)], .pointer (some ⟨tb, 0, none⟩), .agg #[.int .i64 s1, .int .i64 s2], .tuple #[.string (shownB L ⟨s1, s2⟩), .int .i64 (shownK L ⟨s1, s2⟩)], .string (shownB L ⟨s1, s2⟩), .int .i64 (shownK L ⟨s1, s2⟩), .slice oA acc.length oc, .string (shownB L ⟨s1, s2⟩), .slice (some ⟨b35, 0, none⟩) 1 1, .slice A49 ((acc ++ [(shownB L ⟨s1, s2⟩)]).length) c50, .tuple #[itV (gotI L ⟨s1, s2⟩) (.slice A59 n60 c61), .bool (hasI L ⟨s1, s2⟩)], .pointer (some ⟨tb, 0, none⟩), .agg #[.int .i64 s1, .int .i64 s2], .tuple #[itV (gotI L ⟨s1, s2⟩) (.slice A59 n60 c61), .bool (hasI L ⟨s1, s2⟩)], itV (gotI L ⟨s1, s2⟩) (.slice A59 n60 c61), .bool (hasI L ⟨s1, s2⟩), .pointer (some ⟨b66, 2, none⟩), .agg #[.int .i64 ((gotI L ⟨s1, s2⟩).parent.t), .int .i64 ((gotI L ⟨s1, s2⟩).parent.w)]], rfl, (by kernel_rfl), M89, h86, (by omega), (by simp only [List.length_append, List.length_cons, List.length_nil]; omega), ((ofL_go (by omega) p24).symm.trans hF1_2), (Shorts.snoc hF1_3 (shown_short hF _)), h90⟩
   · omega
  have p28 := of_decide_eq_true (k26.trans v27)
  refine wp_cond_true (ebool (b := b25) (by kernel_rfl) v27) ?_
  refine wp_seq (rg_lit ?_)
  refine was (v := .string (⟨#[]⟩)) ?_
  refine was (v := .int .i64 3) ?_
  refine wnil (then_n (wp_ret (then_x (by nofun) (inb_r (then_x (by nofun) (inb_r (then_x (by nofun) ?_)))))))
  refine bodyPost_ret (v := .tuple #[.string (⟨#[]⟩), .int .i64 3]) (res2 rfl (rv_t (by kernel_rfl)) (rv_t (by kernel_rfl))) (by kernel_rfl) ?_
  have hz0 : ofL L 16 ⟨m1, m2⟩ [] = none := by rw [← hF1_2, show 16 - k = 0 by omega]; exact ofL_stop p24
  exact ⟨of_ret (of_deep v12 hz0), (Mod.up M21)⟩
end Go.Proofs.YtefhfoioeoijlaaGreatDoor
set_option linter.unusedVariables false
set_option linter.unusedSimpArgs false
namespace Go.Proofs.YtefhfoioeoijlaaGreatDoor
open Go Go.RowKit Go.Sort
def MRow (base : Nat) (w : World) (v : Value) (L : List Stamp) : Prop := w.ownsRow base 24 2 v L.length (flatS L)
theorem MRow.nil (base : Nat) (w : World) : MRow base w (.slice none 0 0) [] := World.ownsRow_nil w base _ 2
theorem MRow.keep {base : Nat} {w w' : World} {v : Value} {L : List Stamp} (h : MRow base w v L) {q : Option Nat} (hg : w.grownBy w' q) (hv : v.ownBlock = none ∨ v.ownBlock ≠ q) : MRow base w' v L := World.ownsRow.kept h hg hv
theorem MRow.up {base : Nat} {w w' : World} {v : Value} {L : List Stamp} (h : MRow base w v L) (hb : Up w w') : MRow base w' v L :=
  h.keep (q := none) ⟨hb.os, hb.tape, hb.output, hb.size, fun k hk _ => hb.block k hk⟩ (by cases hv : v.ownBlock <;> simp)
theorem MRow.form {base : Nat} {w : World} {v : Value} {L : List Stamp} (h : MRow base w v L) : ∃ A c, v = .slice A L.length c := by
  obtain ⟨_, ⟨rfl, h0⟩ | ⟨g, cap, cur, rfl, _⟩⟩ := h
  · exact ⟨none, 0, by rw [h0]⟩
  · exact ⟨_, cap, rfl⟩
theorem MRow.own {base : Nat} {w : World} {v : Value} {L : List Stamp} (h : MRow base w v L) : ∀ k, v.ownBlock = some k → base ≤ k ∧ k < w.heap.size := World.ownsRow.lt h
theorem info_st : ∃ i z, Tryz.prog.info? 24 = some i ∧ i.zero = some z ∧ i.size = 2 ∧ i.bytes = 16 ∧ z.cells.size = 2 := by
  have h : (Tryz.prog.info? 24).map (fun i => (i.zero.map (·.cells.size), i.size, i.bytes)) = some (some 2, 2, 16) := by kernel_rfl
  cases hi : Tryz.prog.info? 24 with
  | none => rw [hi] at h; cases h
  | some i =>
    rw [hi] at h; simp at h
    obtain ⟨⟨z, hz, h1⟩, h2, h3⟩ := h
    exact ⟨i, z, rfl, hz, h2, h3, h1⟩
theorem flatS_app (L M : List Stamp) : flatS (L ++ M) = flatS L ++ flatS M := by simp [flatS]
theorem MRow.snoc {base : Nat} {w : World} {v : Value} {L : List Stamp} (h : MRow base w v L) {t ty : TypeId} (ht : Tryz.prog.underlying t = some (.slice 24)) {b : Nat} {x y : Int} (hb : w.heap[b]? = some (.cells #[.int .i64 x, .int .i64 y] 24 (0, 0))) (hbase : base ≤ w.heap.size) (hlen : L.length ≤ 100000) :
    ∃ v' w', (Builtin.append_ #[t, t] ty #[v, .slice (some ⟨b, 0, none⟩) 1 1]).run Tryz.prog w = .ok v' w' ∧ MRow base w' v' (L ++ [(⟨x, y⟩ : Stamp)]) ∧ w.grownBy w' v.ownBlock := by
  obtain ⟨i, z, hi, hz, hsize, hby, hzs⟩ := info_st
  obtain ⟨v', w', h1, h2, h3, h4⟩ := run_append_own (P := Tryz.prog) w base t ty 24 i z 2 16 ht hi hz hsize hby hzs (by decide) v L.length (flatS L) h ⟨b, 0, none⟩ 1 1 [.int .i64 x, .int .i64 y] (by simp)
    (fun j u hj => by
      rw [add_at, Nat.zero_add]
      have : (#[.int .i64 x, .int .i64 y] : Array Value)[j]? = some u := by simpa using hj
      simp only [World.cell?, hb]; simpa using this) (by intro u hu; simp at hu; rcases hu with rfl | rfl <;> rfl) (by unfold maxLen; omega) (by omega) hbase
  refine ⟨v', w', h1, ?_, h3⟩
  unfold MRow
  rw [flatS_app]
  simpa [flatS, stC] using h2
theorem snM {ops : Array Oper} {Q : Exit → Act → World → Prop} {a : Act} {w : World} {J : Act → World → Prop} {d : Option Tmp} {ty : TypeId} {pos : String} {af : Array Edge} {g : Option (Nat × Bool)}
    {base : Nat} {v : Value} {L : List Stamp} {t : TypeId} {s p : Operand} {b : Nat} {x y : Int}
    (hw : Region.wanted (⟨d, .call ⟨.builtin .append, #[s, p], #[t, t]⟩, ty, pos, af, g⟩ : Oper) (yielded ops a.tmps) = true) (hs : a.eval s = v) (hy : a.eval p = .slice (some ⟨b, 0, none⟩) 1 1)
    (h : MRow base w v L) (ht : Tryz.prog.underlying t = some (.slice 24)) (hb : w.heap[b]? = some (.cells #[.int .i64 x, .int .i64 y] 24 (0, 0))) (hbase : base ≤ w.heap.size) (hlen : L.length ≤ 100000)
    (k : ∀ A c w', MRow base w' (.slice A (L ++ [(⟨x, y⟩ : Stamp)]).length c) (L ++ [(⟨x, y⟩ : Stamp)]) → w.grownBy w' v.ownBlock → J (a.put d (.slice A (L ++ [(⟨x, y⟩ : Stamp)]).length c)) w') : St1 Tryz.prog ops Q ⟨d, .call ⟨.builtin .append, #[s, p], #[t, t]⟩, ty, pos, af, g⟩ J a w := by
  obtain ⟨v', w', h1, h2, h3⟩ := h.snoc (ty := ty) ht hb hbase hlen
  obtain ⟨A, c, rfl⟩ := h2.form
  refine sv hw ?_ (k A c w' h2 h3)
  simp [execOp, resolve, invoke, builtin, hs, hy, h1]
theorem flatS_at : ∀ {L : List Stamp} {i : Nat} {x : Stamp}, L[i]? = some x → (flatS L)[i * 2]? = some (.int .i64 x.t) ∧ (flatS L)[i * 2 + 1]? = some (.int .i64 x.w)
  | y :: L, 0, x, h => by simp at h; subst h; simp [flatS, stC]
  | y :: L, i + 1, x, h => by
    have ih := flatS_at (L := L) (i := i) (x := x) (by simpa using h)
    have e : flatS (y :: L) = .int .i64 y.t :: .int .i64 y.w :: flatS L := by simp [flatS, stC]
    rw [e, show (i + 1) * 2 = i * 2 + 1 + 1 by omega]
    exact ih
theorem MRow.get {base : Nat} {w : World} {A : Option Addr} {n c i : Nat} {L : List Stamp} {x : Stamp} (h : MRow base w (.slice A n c) L) (hx : L[i]? = some x) :
    ∃ g, A = some ⟨g, 0, none⟩ ∧ g < w.heap.size ∧ w.cell? ⟨g, i * 2, none⟩ = some (.int .i64 x.t) ∧ w.cell? ⟨g, i * 2 + 1, none⟩ = some (.int .i64 x.w) := by
  obtain ⟨hl, ⟨e, h0⟩ | ⟨g, cap, cur, e, hb, hg, hc, hm, hcs, htk⟩⟩ := h
  · have := (List.getElem?_eq_some_iff.1 hx).1; omega
  · injection e with e1 _ e3
    subst e1
    have hi := (List.getElem?_eq_some_iff.1 hx).1
    have hf := flatS_at hx
    refine ⟨g, rfl, lt_ob hg, ?_, ?_⟩
    · have h1 := hf.1
      rw [← htk, List.getElem?_take, if_pos (by omega), Array.getElem?_toList] at h1
      simp only [World.cell?, hg]; exact h1
    · have h1 := hf.2
      rw [← htk, List.getElem?_take, if_pos (by omega), Array.getElem?_toList] at h1
      simp only [World.cell?, hg]; exact h1
end Go.Proofs.YtefhfoioeoijlaaGreatDoor

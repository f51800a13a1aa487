/- NA -/
import Derived.Test.YtefhfoioeoijlaaGreatDoorQab
import Derived.Test.YtefhfoioeoijlaaGreatDoorQap
import Derived.Test.YtefhfoioeoijlaaGreatDoorQaq
set_option linter.unusedVariables false
set_option linter.unusedSimpArgs false
namespace Go.Proofs.YtefhfoioeoijlaaGreatDoor
open Go Go.RowKit Go.Sort
set_option maxHeartbeats 2000000 in
theorem mark_at {w : World} (htab : Tab w) (m1 m2 : Int) (h1 : 0 ≤ m1 ∧ m1 ≤ 1099511627776) (h2 : 0 ≤ m2 ∧ m2 ≤ 8) : Calls Tryz.prog 36 #[.agg #[.int .i64 m1, .int .i64 m2]] w fun e w' => e = .returned (.string (markB ⟨m1, m2⟩)) ∧ Up w w' := by
  have hz1 := itoa_size (n := m1) (by omega) (by omega)
  have hz2 := itoa_size (n := m2) (by omega) (by omega)
  have hz3 : (⟨#[126]⟩ : ByteArray).size = 1 := rfl
  have hz4 : (⟨#[46]⟩ : ByteArray).size = 1 := rfl
  go_enter Tryz.func36, Tryz.ntmps36
  refine wp_seq (rg_lit ?_)
  refine wl (sn rfl (cs := #[.int .i64 m1, .int .i64 m2]) (T := 24) (V := fun b => .pointer (some ⟨b, 0, none⟩)) (r_box (v := .agg #[.int .i64 m1, .int .i64 m2]) (by kernel_rfl) rfl) ?_)
  intro b1 w2 e3 h4 u5
  have g6 : w.heap.size ≤ b1 := by rw [e3]; exact (Mod.refl [] w).size
  have M7 := Mod.trans (Mod.refl [] w) (Mod.of_up u5)
  refine was (v := .string (⟨#[]⟩)) ?_
  refine wnil (then_n (wp_seq ?_))
  refine rg_all (by kernel_rfl) (by kernel_rfl) ?_
  refine qv rfl (v := .pointer (some ⟨b1, 0, none⟩)) (fun _ _ => r_fieldAddr (u := .pointer (some ⟨b1, 0, none⟩)) (by kernel_rfl) (fun _ => (by kernel_rfl))) ?_
  refine qv rfl (v := .int .i64 m1) (fun _ uz => r_load (k := 0) (by kernel_rfl) Ty.ag2 (up_ob uz h4) (by kernel_rfl)) ?_
  refine qc rfl (v := .string (⟨(Lib.itoa m1).toArray⟩)) (fun _ _ => r_callv (caps := []) (all := [.int .i64 m1, .int .i64 10]) En.f94 (by kernel_rfl) (by kernel_rfl)) (fun wz uz => fmt_at (TabIs.up (TabIs.up htab (Mod.up M7)) uz) m1 (by omega) (by omega)) ?_ ?_
  · rintro w1 e w2 hC ⟨rfl, hu⟩; exact ⟨rfl, up_step hC hu⟩
  refine qv rfl (v := .string ((⟨#[126]⟩ : ByteArray) ++ (⟨(Lib.itoa m1).toArray⟩ : ByteArray))) (fun _ _ => r_adds (m := (⟨#[126]⟩)) (n := (⟨(Lib.itoa m1).toArray⟩)) (by kernel_rfl) (by kernel_rfl) (by (try simp only [ByteArray.size_append]); omega)) ?_
  refine qv rfl (v := .string (((⟨#[126]⟩ : ByteArray) ++ (⟨(Lib.itoa m1).toArray⟩ : ByteArray)) ++ (⟨#[46]⟩ : ByteArray))) (fun _ _ => r_adds (m := ((⟨#[126]⟩ : ByteArray) ++ (⟨(Lib.itoa m1).toArray⟩ : ByteArray))) (n := (⟨#[46]⟩)) (by kernel_rfl) (by kernel_rfl) (by (try simp only [ByteArray.size_append]); omega)) ?_
  refine qv rfl (v := .pointer (some ⟨b1, 1, none⟩)) (fun _ _ => r_fieldAddr (u := .pointer (some ⟨b1, 0, none⟩)) (by kernel_rfl) (fun _ => (by kernel_rfl))) ?_
  refine qv rfl (v := .int .i64 m2) (fun _ uz => r_load (k := 1) (by kernel_rfl) Ty.ag3 (up_ob uz h4) (by kernel_rfl)) ?_
  refine qc rfl (v := .string (⟨(Lib.itoa m2).toArray⟩)) (fun _ _ => r_callv (caps := []) (all := [.int .i64 m2]) En.f95 (by kernel_rfl) (by kernel_rfl)) (fun wz uz => itoa_at (TabIs.up (TabIs.up htab (Mod.up M7)) uz) m2 (by omega) (by omega)) ?_ ?_
  · rintro w1 e w2 hC ⟨rfl, hu⟩; exact ⟨rfl, up_step hC hu⟩
  refine qv rfl (v := .string ((((⟨#[126]⟩ : ByteArray) ++ (⟨(Lib.itoa m1).toArray⟩ : ByteArray)) ++ (⟨#[46]⟩ : ByteArray)) ++ (⟨(Lib.itoa m2).toArray⟩ : ByteArray))) (fun _ _ => r_adds (m := (((⟨#[126]⟩ : ByteArray) ++ (⟨(Lib.itoa m1).toArray⟩ : ByteArray)) ++ (⟨#[46]⟩ : ByteArray))) (n := (⟨(Lib.itoa m2).toArray⟩)) (by kernel_rfl) (by kernel_rfl) (by (try simp only [ByteArray.size_append]); omega)) ?_
  refine qas (v := .string ((((⟨#[126]⟩ : ByteArray) ++ (⟨(Lib.itoa m1).toArray⟩ : ByteArray)) ++ (⟨#[46]⟩ : ByteArray)) ++ (⟨(Lib.itoa m2).toArray⟩ : ByteArray))) ?_
  refine qnil ?_
  intro w8 u9
  have M10 := Mod.trans M7 (Mod.of_up u9)
  refine then_n (wp_ret ?_)
  refine bodyPost_ret (v := .string ((((⟨#[126]⟩ : ByteArray) ++ (⟨(Lib.itoa m1).toArray⟩ : ByteArray)) ++ (⟨#[46]⟩ : ByteArray)) ++ (⟨(Lib.itoa m2).toArray⟩ : ByteArray))) (res1 rfl (rv_t (by kernel_rfl))) (by kernel_rfl) ?_
  exact ⟨rfl, (Mod.up M10)⟩
set_option maxHeartbeats 2000000 in
theorem shownE_at {w : World} (x : EntD) (nm : ByteArray) : Calls Tryz.prog 64 #[.agg #[.string x.name, .int .i64 x.node.t, .int .i64 x.node.w, .bool x.dir, .int .i64 x.size], .string nm] w fun e w' => e = .returned (.bool (decide (x.name = nm))) ∧ Up w w' := by
  go_enter Tryz.func64, Tryz.ntmps64
  refine wp_seq (rg_lit ?_)
  refine wl (sn rfl (cs := #[.string x.name, .int .i64 x.node.t, .int .i64 x.node.w, .bool x.dir, .int .i64 x.size]) (T := 35) (V := fun b => .pointer (some ⟨b, 0, none⟩)) (r_box (v := .agg #[.string x.name, .int .i64 x.node.t, .int .i64 x.node.w, .bool x.dir, .int .i64 x.size]) (by kernel_rfl) rfl) ?_)
  intro b1 w2 e3 h4 u5
  have g6 : w.heap.size ≤ b1 := by rw [e3]; exact (Mod.refl [] w).size
  have M7 := Mod.trans (Mod.refl [] w) (Mod.of_up u5)
  refine was (v := .bool false) ?_
  refine wnil (then_n (wp_seq (rg_lit ?_)))
  refine wl (sv rfl (v := .pointer (some ⟨b1, 0, none⟩)) (r_fieldAddr (u := .pointer (some ⟨b1, 0, none⟩)) (by kernel_rfl) (fun _ => (by kernel_rfl))) ?_)
  refine wl (sv rfl (v := .string x.name) (r_load (k := 0) (by kernel_rfl) Ty.ag9 h4 (by kernel_rfl)) ?_)
  refine wmv (v := .string nm) ?_
  refine wl (sb rfl (r_eqs (m := x.name) (n := nm) (by kernel_rfl) (by kernel_rfl)) ?_)
  intro b8 k9
  refine was (v := .bool b8) ?_
  refine wnil (then_n (wp_ret ?_))
  refine bodyPost_ret (v := .bool b8) (res1 rfl (rv_t (by kernel_rfl))) (by kernel_rfl) ?_
  exact ⟨by rw [← k9], (Mod.up M7)⟩
set_option maxHeartbeats 2000000 in
theorem kids18_at {B : Nat} {w : World} {tb r : Nat} {L : List Item} (h : TreeIs B w tb r L) (hB : B ≤ w.heap.size) (n1 n2 : Int) : Calls Tryz.prog 57 #[trP tb, .agg #[.int .i64 n1, .int .i64 n2]] w fun e w' => ∃ v, e = .returned (.tuple #[v, .int .i64 (kidK L ⟨n1, n2⟩)]) ∧ IRow 42 B w.heap.size w' v (kidsO L ⟨n1, n2⟩) ∧ Up w w' := by
  go_enter Tryz.func57, Tryz.ntmps57
  refine wp_seq (rg_lit ?_)
  refine wl (sn rfl (cs := #[.int .i64 n1, .int .i64 n2]) (T := 24) (V := fun b => .pointer (some ⟨b, 0, none⟩)) (r_box (v := .agg #[.int .i64 n1, .int .i64 n2]) (by kernel_rfl) rfl) ?_)
  intro b1 w2 e3 h4 u5
  have l6 : tb < b1 := by rw [e3]; exact lt_ob h.1
  have g7 : w.heap.size ≤ b1 := by rw [e3]; exact (Mod.refl [] w).size
  have M8 := Mod.trans (Mod.refl [] w) (Mod.of_up u5)
  refine was (v := .slice none 0 0) ?_
  refine was (v := .int .i64 0) ?_
  refine wnil (then_n (wp_seq (wp_seq (rg_lit ?_))))
  refine wmv (v := .pointer (some ⟨tb, 0, none⟩)) ?_
  refine wl (sv (w' := w2) rfl (v := .bool false) (by kernel_rfl) ?_)
  refine wnil (then_n ?_)
  refine wp_cond_false (by kernel_rfl) ?_
  refine wp_skip (then_n (wp_seq (rg_lit ?_)))
  refine wmv (v := .pointer (some ⟨tb, 0, none⟩)) ?_
  refine wl (sv rfl (v := .agg #[.int .i64 n1, .int .i64 n2]) (r_loads (k := 0) (by kernel_rfl) Ty.ag24 Ty.sz24 h4 (by kernel_rfl)) ?_)
  have h9 := (TreeIs.up h (Mod.up M8))
  refine wl (sc rfl (r_callv (caps := []) (all := [.pointer (some ⟨tb, 0, none⟩), .agg #[.int .i64 n1, .int .i64 n2]]) En.f20 (by kernel_rfl) (by kernel_rfl)) (get_x h9 ⟨n1, n2⟩ (x := (gotI L ⟨n1, n2⟩)) (b := (hasI L ⟨n1, n2⟩)) rfl rfl) ?_)
  rintro e w10 ⟨A11, n12, c13, rfl, h14, u15⟩
  refine ⟨.tuple #[itV (gotI L ⟨n1, n2⟩) (.slice A11 n12 c13), .bool (hasI L ⟨n1, n2⟩)], rfl, ?_⟩
  have M16 := Mod.trans M8 (Mod.of_up u15)
  refine wmv (v := .tuple #[itV (gotI L ⟨n1, n2⟩) (.slice A11 n12 c13), .bool (hasI L ⟨n1, n2⟩)]) ?_
  refine wl (sv rfl (v := itV (gotI L ⟨n1, n2⟩) (.slice A11 n12 c13)) (r_extract (vs := [itV (gotI L ⟨n1, n2⟩) (.slice A11 n12 c13), .bool (hasI L ⟨n1, n2⟩)]) (by kernel_rfl) rfl) ?_)
  refine wl (sv rfl (v := .bool (hasI L ⟨n1, n2⟩)) (r_extract (vs := [itV (gotI L ⟨n1, n2⟩) (.slice A11 n12 c13), .bool (hasI L ⟨n1, n2⟩)]) (by kernel_rfl) rfl) ?_)
  refine wl (sn rfl (cs := #[.int .i64 0, .int .i64 0, .int .i64 0, .int .i64 0, .string (⟨#[]⟩), .bool false, .bool false, .slice none 0 0, .int .i64 0, .int .i64 0]) (T := 42) (V := fun b => .pointer (some ⟨b, 0, none⟩)) (r_alloc Ty.zv42 rfl) ?_)
  intro b17 w18 e19 h20 u21
  have h22 := md_ob M16 nin0 h.1
  have l23 : tb < b17 := by rw [e19]; exact lt_ob h22
  have h24 := (up_ob u15 h4)
  have l25 : b1 < b17 := by rw [e19]; exact lt_ob h24
  have g26 : w.heap.size ≤ b17 := by rw [e19]; exact M16.size
  have M27 := Mod.trans M16 (Mod.of_up u21)
  refine wl (ss rfl (k := 0) (v := itV (gotI L ⟨n1, n2⟩) (.slice A11 n12 c13)) (vs := (itC (gotI L ⟨n1, n2⟩) (.slice A11 n12 c13))) (cs' := (itC (gotI L ⟨n1, n2⟩) (.slice A11 n12 c13))) (by kernel_rfl) (by kernel_rfl) rfl Ty.sz42 h20 rfl (Nat.le_of_ble_eq_true rfl) rfl ?_)
  intro w28 h29 c30
  have M31 := Mod.trans' M27 c30 (fun i hi => by injection hi with hi; rw [← hi]; exact g26)
  refine was (v := .bool (hasI L ⟨n1, n2⟩)) ?_
  refine wnil (then_n (wp_seq (wp_block (wp_seq (rg_lit ?_)))))
  refine wmv (v := .pointer (some ⟨tb, 0, none⟩)) ?_
  have h32 := (chg_ob c30 (Nat.ne_of_lt l25) (up_ob u21 h24))
  refine wl (sv rfl (v := .agg #[.int .i64 n1, .int .i64 n2]) (r_loads (k := 0) (by kernel_rfl) Ty.ag24 Ty.sz24 h32 (by kernel_rfl)) ?_)
  have h33 := (TreeIs.up h (Mod.up M31))
  refine wl (sc rfl (r_callv (caps := []) (all := [.pointer (some ⟨tb, 0, none⟩), .agg #[.int .i64 n1, .int .i64 n2]]) En.f39 (by kernel_rfl) (by kernel_rfl)) (hangs_at h33 n1 n2) ?_)
  rintro e w34 ⟨rfl, u35⟩
  refine ⟨.bool (hangsI L 301 ⟨n1, n2⟩), rfl, ?_⟩
  have M36 := Mod.trans M31 (Mod.of_up u35)
  refine wl (sv rfl (v := .bool (!(hangsI L 301 ⟨n1, n2⟩))) (r_not (b := (hangsI L 301 ⟨n1, n2⟩)) (by kernel_rfl)) ?_)
  refine was (v := .bool (!(hangsI L 301 ⟨n1, n2⟩))) ?_
  refine wnil (then_n ?_)
  refine bcase (hangsI L 301 ⟨n1, n2⟩) (fun v37 => ?_) (fun v37 => ?_)
  ·
   refine wp_cond_true (ebool (b := !(hangsI L 301 ⟨n1, n2⟩)) (by kernel_rfl) (bneg v37)) ?_
   refine wp_seq (rg_lit ?_)
   refine was (v := .slice none 0 0) ?_
   refine was (v := .int .i64 12) ?_
   refine wnil (then_n (wp_ret (inb_r (then_x (by nofun) ?_))))
   refine bodyPost_ret (v := .tuple #[.slice none 0 0, .int .i64 12]) (res2 rfl (rv_t (by kernel_rfl)) (rv_t (by kernel_rfl))) (by kernel_rfl) ?_
   exact ⟨.slice none 0 0, by rw [kidK_12 v37], IRow.kidsNo (by rw [kidK_12 v37]; decide), (Mod.up M36)⟩
  refine wp_cond_false (ebool (b := !(hangsI L 301 ⟨n1, n2⟩)) (by kernel_rfl) (bneg v37)) ?_
  refine wp_seq (rg_lit ?_)
  refine wmv (v := .bool (hasI L ⟨n1, n2⟩)) ?_
  refine wmv (v := .bool (hasI L ⟨n1, n2⟩)) ?_
  refine bcase (hasI L ⟨n1, n2⟩) (fun v38 => ?_) (fun v38 => ?_)
  ·
   refine wl (sp (wf (b := (hasI L ⟨n1, n2⟩)) rfl (by kernel_rfl) v38) ?_)
   refine wl (sp (wf (b := (hasI L ⟨n1, n2⟩)) rfl (by kernel_rfl) v38) ?_)
   refine wl (sp (wf (b := (hasI L ⟨n1, n2⟩)) rfl (by kernel_rfl) v38) ?_)
   refine wl (sv rfl (v := .bool false) (r_pkF (ebool (b := (hasI L ⟨n1, n2⟩)) (by kernel_rfl) v38) (by kernel_rfl)) ?_)
   refine was (v := .bool false) ?_
   refine wnil (then_n ?_)
   refine wp_cond_false (by kernel_rfl) ?_
   refine wp_skip (inb_n (then_n (wp_seq (rg_lit ?_))))
   refine wmv (v := .pointer (some ⟨tb, 0, none⟩)) ?_
   have h39 := (up_ob u35 h32)
   refine wl (sv rfl (v := .agg #[.int .i64 n1, .int .i64 n2]) (r_loads (k := 0) (by kernel_rfl) Ty.ag24 Ty.sz24 h39 (by kernel_rfl)) ?_)
   have h46 := (TreeIs.up h (Mod.up M36))
   refine wl (sc rfl (r_callv (caps := []) (all := [.pointer (some ⟨tb, 0, none⟩), .agg #[.int .i64 n1, .int .i64 n2]]) En.f38 (by kernel_rfl) (by kernel_rfl)) (row_sl (kids_at h46 (Nat.le_trans hB M36.size) n1 n2)) ?_)
   rintro e w40 ⟨A41, c42, rfl, h43, u44⟩
   have h45 := IRow.base h43 M36.size
   refine ⟨.slice A41 ((kidsI ⟨n1, n2⟩ L).length) c42, rfl, ?_⟩
   have M47 := Mod.trans M36 (Mod.of_up u44)
   refine was (v := .slice A41 ((kidsI ⟨n1, n2⟩ L).length) c42) ?_
   refine was (v := .int .i64 0) ?_
   refine wnil (then_n (wp_ret ?_))
   refine bodyPost_ret (v := .tuple #[.slice A41 ((kidsI ⟨n1, n2⟩ L).length) c42, .int .i64 0]) (res2 rfl (rv_t (by kernel_rfl)) (rv_t (by kernel_rfl))) (by kernel_rfl) ?_
   exact ⟨_, by rw [kidK_0a v37 v38], IRow.kidsYes h45 (kidK_0a v37 v38), (Mod.up M47)⟩
  refine wl (sv (wt (b := (hasI L ⟨n1, n2⟩)) rfl (by kernel_rfl) v38) (v := .pointer (some ⟨b17, 5, none⟩)) (r_fieldAddr (u := .pointer (some ⟨b17, 0, none⟩)) (by kernel_rfl) (fun _ => (by kernel_rfl))) ?_)
  have h39 := (up_ob u35 h29)
  refine wl (sv (wt (b := (hasI L ⟨n1, n2⟩)) rfl (by kernel_rfl) v38) (v := .bool ((gotI L ⟨n1, n2⟩).dir)) (r_load (k := 5) (by kernel_rfl) Ty.ag4 h39 (by kernel_rfl)) ?_)
  refine wl (sv (wt (b := (hasI L ⟨n1, n2⟩)) rfl (by kernel_rfl) v38) (v := .bool (!((gotI L ⟨n1, n2⟩).dir))) (r_not (b := ((gotI L ⟨n1, n2⟩).dir)) (by kernel_rfl)) ?_)
  refine wl (sv rfl (v := .bool (!((gotI L ⟨n1, n2⟩).dir))) (r_pkT (ebool (b := (hasI L ⟨n1, n2⟩)) (by kernel_rfl) v38) (by kernel_rfl)) ?_)
  refine was (v := .bool (!((gotI L ⟨n1, n2⟩).dir))) ?_
  refine wnil (then_n ?_)
  refine bcase ((gotI L ⟨n1, n2⟩).dir) (fun v40 => ?_) (fun v40 => ?_)
  ·
   refine wp_cond_true (ebool (b := !((gotI L ⟨n1, n2⟩).dir)) (by kernel_rfl) (bneg v40)) ?_
   refine wp_seq (rg_lit ?_)
   refine was (v := .slice none 0 0) ?_
   refine was (v := .int .i64 14) ?_
   refine wnil (then_n (wp_ret (inb_r (then_x (by nofun) ?_))))
   refine bodyPost_ret (v := .tuple #[.slice none 0 0, .int .i64 14]) (res2 rfl (rv_t (by kernel_rfl)) (rv_t (by kernel_rfl))) (by kernel_rfl) ?_
   exact ⟨.slice none 0 0, by rw [kidK_14 v37 v38 v40], IRow.kidsNo (by rw [kidK_14 v37 v38 v40]; decide), (Mod.up M36)⟩
  refine wp_cond_false (ebool (b := !((gotI L ⟨n1, n2⟩).dir)) (by kernel_rfl) (bneg v40)) ?_
  refine wp_skip (inb_n (then_n (wp_seq (rg_lit ?_))))
  refine wmv (v := .pointer (some ⟨tb, 0, none⟩)) ?_
  have h41 := (up_ob u35 h32)
  refine wl (sv rfl (v := .agg #[.int .i64 n1, .int .i64 n2]) (r_loads (k := 0) (by kernel_rfl) Ty.ag24 Ty.sz24 h41 (by kernel_rfl)) ?_)
  have h48 := (TreeIs.up h (Mod.up M36))
  refine wl (sc rfl (r_callv (caps := []) (all := [.pointer (some ⟨tb, 0, none⟩), .agg #[.int .i64 n1, .int .i64 n2]]) En.f38 (by kernel_rfl) (by kernel_rfl)) (row_sl (kids_at h48 (Nat.le_trans hB M36.size) n1 n2)) ?_)
  rintro e w42 ⟨A43, c44, rfl, h45, u46⟩
  have h47 := IRow.base h45 M36.size
  refine ⟨.slice A43 ((kidsI ⟨n1, n2⟩ L).length) c44, rfl, ?_⟩
  have M49 := Mod.trans M36 (Mod.of_up u46)
  refine was (v := .slice A43 ((kidsI ⟨n1, n2⟩ L).length) c44) ?_
  refine was (v := .int .i64 0) ?_
  refine wnil (then_n (wp_ret ?_))
  refine bodyPost_ret (v := .tuple #[.slice A43 ((kidsI ⟨n1, n2⟩ L).length) c44, .int .i64 0]) (res2 rfl (rv_t (by kernel_rfl)) (rv_t (by kernel_rfl))) (by kernel_rfl) ?_
  exact ⟨_, by rw [kidK_0b v37 v38 v40], IRow.kidsYes h47 (kidK_0b v37 v38 v40), (Mod.up M49)⟩
theorem OKI.st {x : Item} (h : OKI x) : (0 ≤ x.node.t ∧ x.node.t ≤ 1099511627776) ∧ (0 ≤ x.node.w ∧ x.node.w ≤ 8) := ⟨⟨h.2.1, h.2.2.2.2.1⟩, ⟨h.2.2.1, h.2.2.2.2.2⟩⟩
set_option maxHeartbeats 2000000 in
theorem ents_at {B : Nat} {w : World} {l : List Item} {xA : Option Addr} {xc : Nat} {base0 : Nat} (hl : IRow 42 B base0 w (.slice xA l.length xc) l) (hB : B ≤ w.heap.size) (htab : Tab w) (hOK : ∀ x ∈ l, OKI x) (hlen : l.length ≤ 300) :
    Calls Tryz.prog 58 #[.slice xA l.length xc] w fun e w' => ∃ v, e = .returned v ∧ ERow 35 B w.heap.size w' v (entsI l) ∧ Up w w' := by
  obtain ⟨iE, zE, hiE, hzE, hsE, hbE, hcE⟩ := info_ent
  obtain ⟨ii_p, iz_p, hi_p, hz_p, hs_p, hb_p, hc_p⟩ := info_item
  go_enter Tryz.func58, Tryz.ntmps58
  refine wp_seq (rg_lit ?_)
  refine was (v := .slice none 0 0) ?_
  refine wnil (then_n (wp_seq (rg_lit ?_)))
  refine wl (snm rfl (V := fun b => .map (some b)) r_makeMap ?_)
  intro mp w1 e2 h3 u4
  have g5 : w.heap.size ≤ mp := by rw [e2]; exact (Mod.refl [] w).size
  have M6 := Mod.trans (Mod.refl [] w) (Mod.of_up u4)
  refine was (v := .map (some mp)) ?_
  refine wnil (then_n (wp_seq (wp_seq (rg_lit ?_))))
  refine wmv (v := .slice xA l.length xc) ?_
  refine wl (sv rfl (v := .int .i64 (l.length : Int)) (r_len Ty.un74 (ad := xA) (n := l.length) (c := xc) (by kernel_rfl)) ?_)
  refine wmv (v := .int .i64 0) ?_
  refine wnil (then_n (wp_block ?_))
  have h7 := (IRow.up hl (Mod.up M6))
  refine lp (fun n a r1 => ∃ (k : Nat) (oA : Option Addr) (on : Nat) (oc : Nat) (z5 z6 z11 z12 z13 z14 z15 z16 z17 z18 z19 z20 z21 z22 z23 z24 z25 z26 z27 z28 z29 z30 z31 z32 z33 z34 z35 z36 z37 z38 z39 z40 z41 z42 : Value), (n = l.length - k) ∧ (a = ⟨#[.slice xA l.length xc, undef, .slice oA on oc, .map (some mp), undef, z5, z6, .map (some mp), .slice xA l.length xc, .int .i64 (l.length : Int), .int .i64 (k : Int), z11, z12, z13, z14, z15, z16, z17, z18, z19, z20, z21, z22, z23, z24, z25, z26, z27, z28, z29, z30, z31, z32, z33, z34, z35, z36, z37, z38, z39, z40, z41, z42, undef], []⟩) ∧ (Mod [mp] w1 r1) ∧ (k ≤ l.length) ∧ (SMap r1 mp (metF (namesI (l.take k)))) ∧ (ERow 35 B w1.heap.size r1 (.slice oA on oc) (entsI (l.take k)))) ⟨_, 0, none, 0, 0, undef, undef, undef, undef, undef, undef, undef, undef, undef, undef, undef, undef, undef, undef, undef, undef, undef, undef, undef, undef, undef, undef, undef, undef, undef, undef, undef, undef, undef, undef, undef, undef, undef, undef, rfl, (by kernel_rfl), Mod.refl _ _, (Nat.zero_le _), (SMap.to (SMap.new h3) (metF_nil l)), (ERow.nil _ _ _ _)⟩ ?_
  rintro _ _ r1 ⟨k, oA, on, oc, z5, z6, z11, z12, z13, z14, z15, z16, z17, z18, z19, z20, z21, z22, z23, z24, z25, z26, z27, z28, z29, z30, z31, z32, z33, z34, z35, z36, z37, z38, z39, z40, z41, z42, rfl, rfl, hM1, hF1_0, hF1_1, hF1_2⟩
  have M8 := Mod.thin M6 hM1 (fun y hy => by simp only [List.mem_cons, List.not_mem_nil, or_false] at hy; subst hy; exact .inr g5)
  obtain ⟨ech9, cch9, h9⟩ := SMap.ob hF1_1
  refine wp_seq (rg_lit ?_)
  refine wl (sb rfl (r_lt (k := .i64) (m := (k : Int)) (n := (l.length : Int)) (by kernel_rfl) (by kernel_rfl)) ?_)
  intro b10 k11
  refine wnil (then_n (wp_seq ?_))
  refine bcase b10 (fun v12 => ?_) (fun v12 => ?_)
  ·
   have p13 := of_decide_eq_false (k11.trans v12)
   refine wp_cond_false (ebool (b := b10) (by kernel_rfl) v12) ?_
   refine wp_exit (then_x (by nofun) (then_x (by nofun) (inb_hit (then_n (wp_seq (rg_lit ?_))))))
   refine wmv (v := .slice oA on oc) ?_
   refine was (v := .slice oA on oc) ?_
   refine wnil (then_n (wp_ret ?_))
   refine bodyPost_ret (v := .slice oA on oc) (res1 rfl (rv_t (by kernel_rfl))) (by kernel_rfl) ?_
   exact ⟨_, rfl, ERow.base (ERow.to hF1_2 (entsI_take (by omega))) M6.size, (Mod.up M8)⟩
  have p13 := of_decide_eq_true (k11.trans v12)
  have q14 : k < l.length := by omega
  have q15 : k < l.length := by omega
  refine wp_cond_true (ebool (b := b10) (by kernel_rfl) v12) ?_
  refine wp_skip (then_n (wp_seq (wp_block (wp_seq (rg_lit ?_)))))
  have h16 := (IRow.up hl (Mod.up M8))
  obtain ⟨y17, hy17⟩ : ∃ x, l[k]? = some x := ⟨_, List.getElem?_eq_getElem q15⟩
  obtain ⟨g17, cp17, cu17, dA17, dn17, dc17, hA17, hg17, hb17, he17, hD17⟩ := h16.get hy17
  injection hA17 with hA17 _ _
  replace he17 : (cu17.toList.drop (0 + k * 10)).take 10 = (itC y17 (.slice dA17 dn17 dc17)) := by rw [Nat.zero_add]; exact he17
  refine wl (sv rfl (v := .pointer (some ⟨g17, 0 + k * 10, none⟩)) (r_ixaddr' (A := xA) (b := g17) (o := 0) (n := l.length) (c := xc) (sz := 10) (j := (k : Int)) (by kernel_rfl) hA17 (by kernel_rfl) Ty.un74 Ty.sz42 (by omega) (by omega) (by simp)) ?_)
  refine wl (sv rfl (v := itV y17 (.slice dA17 dn17 dc17)) (r_loads (k := 0 + k * 10) (by kernel_rfl) Ty.ag42 Ty.sz42 hb17 (el_sub0 he17 rfl)) ?_)
  refine wl (sn rfl (cs := #[.int .i64 0, .int .i64 0, .int .i64 0, .int .i64 0, .string (⟨#[]⟩), .bool false, .bool false, .slice none 0 0, .int .i64 0, .int .i64 0]) (T := 42) (V := fun b => .pointer (some ⟨b, 0, none⟩)) (r_alloc Ty.zv42 rfl) ?_)
  intro b18 w19 e20 h21 u22
  have l23 : mp < b18 := by rw [e20]; exact lt_ob h9
  have l24 : g17 < b18 := by rw [e20]; exact lt_ob hb17
  have g25 : w.heap.size ≤ b18 := by rw [e20]; exact M8.size
  have g26 : w1.heap.size ≤ b18 := by rw [e20]; exact hM1.size
  have M27 := Mod.trans M8 (Mod.of_up u22)
  have M28 := Mod.trans hM1 (Mod.of_up u22)
  refine wl (ss rfl (k := 0) (v := itV y17 (.slice dA17 dn17 dc17)) (vs := (itC y17 (.slice dA17 dn17 dc17))) (cs' := (itC y17 (.slice dA17 dn17 dc17))) (by kernel_rfl) (by kernel_rfl) rfl Ty.sz42 h21 rfl (Nat.le_of_ble_eq_true rfl) rfl ?_)
  intro w29 h30 c31
  have M32 := Mod.trans' M27 c31 (fun i hi => by injection hi with hi; rw [← hi]; exact g25)
  have M33 := Mod.trans' M28 c31 (fun i hi => by injection hi with hi; rw [← hi]; exact g26)
  refine wnil (then_n (wp_seq (rg_lit ?_)))
  refine wl (sv rfl (v := .pointer (some ⟨b18, 4, none⟩)) (r_fieldAddr (u := .pointer (some ⟨b18, 0, none⟩)) (by kernel_rfl) (fun _ => (by kernel_rfl))) ?_)
  refine wl (sv rfl (v := .string y17.name) (r_load (k := 4) (by kernel_rfl) Ty.ag9 h30 (by kernel_rfl)) ?_)
  refine wl (sv rfl (v := .pointer (some ⟨b18, 0, none⟩)) (r_fieldAddr (u := .pointer (some ⟨b18, 0, none⟩)) (by kernel_rfl) (fun _ => (by kernel_rfl))) ?_)
  refine wl (sv rfl (v := .agg #[.int .i64 y17.node.t, .int .i64 y17.node.w]) (r_loads (k := 0) (by kernel_rfl) Ty.ag24 Ty.sz24 h30 (by kernel_rfl)) ?_)
  refine wl (sv rfl (v := .pointer (some ⟨b18, 5, none⟩)) (r_fieldAddr (u := .pointer (some ⟨b18, 0, none⟩)) (by kernel_rfl) (fun _ => (by kernel_rfl))) ?_)
  refine wl (sv rfl (v := .bool y17.dir) (r_load (k := 5) (by kernel_rfl) Ty.ag4 h30 (by kernel_rfl)) ?_)
  refine wl (sv rfl (v := .pointer (some ⟨b18, 7, none⟩)) (r_fieldAddr (u := .pointer (some ⟨b18, 0, none⟩)) (by kernel_rfl) (fun _ => (by kernel_rfl))) ?_)
  refine wl (sv rfl (v := .slice dA17 dn17 dc17) (r_load (k := 7) (by kernel_rfl) Ty.ag40 h30 (by kernel_rfl)) ?_)
  refine wl (sv rfl (v := .int .i64 (dn17 : Int)) (r_len Ty.un40 (ad := dA17) (n := dn17) (c := dc17) (by kernel_rfl)) ?_)
  refine wl (sv rfl (v := .agg #[.string y17.name, .int .i64 y17.node.t, .int .i64 y17.node.w, .bool y17.dir, .int .i64 (dn17 : Int)]) (r_build (ps := [(0, .string y17.name), (1, .agg #[.int .i64 y17.node.t, .int .i64 y17.node.w]), (2, .bool y17.dir), (3, .int .i64 (dn17 : Int))]) (cs := [.string y17.name, .int .i64 y17.node.t, .int .i64 y17.node.w, .bool y17.dir, .int .i64 (dn17 : Int)]) Ty.un35 Ty.zv35 Ty.pl35 (by kernel_rfl) (by kernel_rfl)) ?_)
  refine wl (sn rfl (cs := #[.string (⟨#[]⟩), .int .i64 0, .int .i64 0, .bool false, .int .i64 0]) (T := 35) (V := fun b => .pointer (some ⟨b, 0, none⟩)) (r_alloc Ty.zv35 rfl) ?_)
  intro b34 w35 e36 h37 u38
  have h39 := (chg_ob c31 (Nat.ne_of_lt l23) (up_ob u22 h9))
  have l40 : mp < b34 := by rw [e36]; exact lt_ob h39
  have h41 := (chg_ob c31 (Nat.ne_of_lt l24) (up_ob u22 hb17))
  have l42 : g17 < b34 := by rw [e36]; exact lt_ob h41
  have l43 : b18 < b34 := by rw [e36]; exact lt_ob h30
  have g44 : w.heap.size ≤ b34 := by rw [e36]; exact M32.size
  have g45 : w1.heap.size ≤ b34 := by rw [e36]; exact M33.size
  have M46 := Mod.trans M32 (Mod.of_up u38)
  have M47 := Mod.trans M33 (Mod.of_up u38)
  refine wl (ss rfl (k := 0) (v := .agg #[.string y17.name, .int .i64 y17.node.t, .int .i64 y17.node.w, .bool y17.dir, .int .i64 (dn17 : Int)]) (vs := [.string y17.name, .int .i64 y17.node.t, .int .i64 y17.node.w, .bool y17.dir, .int .i64 (dn17 : Int)]) (cs' := [.string y17.name, .int .i64 y17.node.t, .int .i64 y17.node.w, .bool y17.dir, .int .i64 (dn17 : Int)]) (by kernel_rfl) (by kernel_rfl) rfl Ty.sz35 h37 rfl (Nat.le_of_ble_eq_true rfl) rfl ?_)
  intro w48 h49 c50
  have M51 := Mod.trans' M46 c50 (fun i hi => by injection hi with hi; rw [← hi]; exact g44)
  have M52 := Mod.trans' M47 c50 (fun i hi => by injection hi with hi; rw [← hi]; exact g45)
  refine wnil (then_n (wp_seq (wp_seq (rg_lit ?_))))
  refine wmv (v := .map (some mp)) ?_
  refine wl (sv rfl (v := .pointer (some ⟨b18, 4, none⟩)) (r_fieldAddr (u := .pointer (some ⟨b18, 0, none⟩)) (by kernel_rfl) (fun _ => (by kernel_rfl))) ?_)
  have h53 := (chg_ob c50 (Nat.ne_of_lt l43) (up_ob u38 h30))
  refine wl (sv rfl (v := .string y17.name) (r_load (k := 4) (by kernel_rfl) Ty.ag9 h53 (by kernel_rfl)) ?_)
  have h54 := (SMap.up hF1_1 (up_chgn (up_up (up_chgn u22 c31 (by rw [e20]; exact Nat.le_refl _)) u38) c50 (by rw [e36]; exact (up_chgn u22 c31 (by rw [e20]; exact Nat.le_refl _)).size)))
  refine wl (sv rfl (v := .bool (metB (namesI (l.take k)) y17.name)) (r_lookS (r := mp) (s := y17.name) (v := .bool (metB (namesI (l.take k)) y17.name)) (by kernel_rfl) (by kernel_rfl) h54 Ty.un168 Ty.un9 (fun _ => by kernel_rfl) (metF_get _ _)) ?_)
  refine wnil (then_n ?_)
  refine bcase (metB (namesI (l.take k)) y17.name) (fun v55 => ?_) (fun v55 => ?_)
  ·
   refine wp_cond_false (ebool (b := (metB (namesI (l.take k)) y17.name)) (by kernel_rfl) v55) ?_
   refine wp_skip (then_n (wp_seq (rg_lit ?_)))
   refine wmv (v := .map (some mp)) ?_
   refine wl (sv rfl (v := .pointer (some ⟨b18, 4, none⟩)) (r_fieldAddr (u := .pointer (some ⟨b18, 0, none⟩)) (by kernel_rfl) (fun _ => (by kernel_rfl))) ?_)
   refine wl (sv rfl (v := .string y17.name) (r_load (k := 4) (by kernel_rfl) Ty.ag9 h53 (by kernel_rfl)) ?_)
   have h56 := (chg_ob c50 (Nat.ne_of_lt l40) (up_ob u38 h39))
   obtain ⟨w57, hr57, hc57, hm57⟩ := SMap.store (P := Tryz.prog) h54 Ty.un168 Ty.un9 y17.name (.bool true)
   refine wl (sk rfl (r_mapUpdate (mv := .map (some mp)) (kv := .string y17.name) (vv := .bool true) (by kernel_rfl) (by kernel_rfl) (by kernel_rfl) hr57) ?_)
   have M58 := Mod.trans' M51 hc57 (fun i hi => by injection hi with hi; rw [← hi]; exact g5)
   have M59 := Mod.trans M52 (Mod.of_chg hc57 (by simp))
   obtain ⟨ech60, cch60, h60⟩ := SMap.ob hm57
   refine wnil (then_n (rg_lit ?_))
   refine wmv (v := .slice oA on oc) ?_
   have h61 := (chg_ob hc57 (Nat.ne_of_gt l40) h49)
   refine wl (sv rfl (v := .agg #[.string y17.name, .int .i64 y17.node.t, .int .i64 y17.node.w, .bool y17.dir, .int .i64 (dn17 : Int)]) (r_loads (k := 0) (by kernel_rfl) Ty.ag35 Ty.sz35 h61 (by kernel_rfl)) ?_)
   refine wl (sn rfl (cs := #[.string y17.name, .int .i64 y17.node.t, .int .i64 y17.node.w, .bool y17.dir, .int .i64 (dn17 : Int)]) (T := 35) (V := fun b => .slice (some ⟨b, 0, none⟩) 1 1) (r_buildSlice (n := 1) (ps := [(0, .agg #[.string y17.name, .int .i64 y17.node.t, .int .i64 y17.node.w, .bool y17.dir, .int .i64 (dn17 : Int)])]) Ty.un29 Ty.sz35 Ty.zv35 (by decide) (by decide) (by kernel_rfl) (by kernel_rfl)) ?_)
   intro b62 w63 e64 h65 u66
   have l67 : mp < b62 := by rw [e64]; exact lt_ob h60
   have h68 := (chg_ob hc57 (Nat.ne_of_gt l23) h53)
   have l69 : b18 < b62 := by rw [e64]; exact lt_ob h68
   have l70 : b34 < b62 := by rw [e64]; exact lt_ob h61
   have g71 : w.heap.size ≤ b62 := by rw [e64]; exact M58.size
   have g72 : w1.heap.size ≤ b62 := by rw [e64]; exact M59.size
   have M73 := Mod.trans M58 (Mod.of_up u66)
   have M74 := Mod.trans M59 (Mod.of_up u66)
   have h75 := (ERow.up (ERow.chgm (ERow.up hF1_2 (up_chgn (up_up (up_chgn u22 c31 (by rw [e20]; exact Nat.le_refl _)) u38) c50 (by rw [e36]; exact (up_chgn u22 c31 (by rw [e20]; exact Nat.le_refl _)).size))) hc57 (ERow.ne_old (ERow.up hF1_2 (up_chgn (up_up (up_chgn u22 c31 (by rw [e20]; exact Nat.le_refl _)) u38) c50 (by rw [e36]; exact (up_chgn u22 c31 (by rw [e20]; exact Nat.le_refl _)).size))) (lt_ob h3))) u66)
   refine wl (snE rfl (L := (entsI (l.take k))) (x := (⟨y17.name, ⟨y17.node.t, y17.node.w⟩, y17.dir, (dn17 : Int)⟩ : EntD)) (by kernel_rfl) (by kernel_rfl) h75 Ty.un29 hiE hzE hsE hbE hcE h65 M74.size (by have := ents_le l k; omega) ?_)
   intro A76 n77 c78 w79 e80 h81 u82
   have M83 := Mod.trans' M73 u82 (fun k hk => Nat.le_trans M6.size (h75.own k hk).1)
   have M84 := Mod.trans' M74 u82 (fun k hk => Nat.le_trans (Nat.le_refl _) (h75.own k hk).1)
   refine was (v := .slice A76 n77 c78) ?_
   refine wnil (inb_n (then_n (rg_lit ?_)))
   refine wl (sv rfl (v := .int .i64 ((k : Int) + 1)) (r_add (k := .i64) (m := (k : Int)) (n := 1) (by kernel_rfl) (by kernel_rfl) (IntWalk.i64_in _ (by omega))) ?_)
   refine wmv (v := .int .i64 ((k : Int) + 1)) ?_
   refine wnil (then_n ?_)
   have h85 := (SMap.own (SMap.up hm57 u66) u82 (h75.ne_old (lt_ob h3)))
   refine ⟨l.length - (k + 1), ?_, (k + 1), A76, n77, c78, .pointer (some ⟨b18, 0, none⟩), .pointer (some ⟨b34, 0, none⟩), .bool b10, .pointer (some ⟨g17, 0 + k * 10, none⟩), itV y17 (.slice dA17 dn17 dc17), .pointer (some ⟨b18, 4, none⟩), .string y17.name, .pointer (some ⟨b18, 0, none⟩), .agg #[.int .i64 y17.node.t, .int .i64 y17.node.w], .pointer (some ⟨b18, 5, none⟩), .bool y17.dir, .pointer (some ⟨b18, 7, none⟩), .slice dA17 dn17 dc17, .int .i64 (dn17 : Int), .agg #[.string y17.name, .int .i64 y17.node.t, .int .i64 y17.node.w, .bool y17.dir, .int .i64 (dn17 : Int)], .map (some mp), .pointer (some ⟨b18, 4, none⟩), .string y17.name, .bool (metB (namesI (l.take k)) y17.name), z28, z29, z30, z31, z32, z33, z34, .map (some mp), .pointer (some ⟨b18, 4, none⟩), .string y17.name, .slice oA on oc, .agg #[.string y17.name, .int .i64 y17.node.t, .int .i64 y17.node.w, .bool y17.dir, .int .i64 (dn17 : Int)], .slice (some ⟨b62, 0, none⟩) 1 1, .slice A76 n77 c78, .int .i64 ((k : Int) + 1), rfl, (by kernel_rfl), M84, (by omega), (SMap.to h85 (metF_next hy17)), (ERow.to h81 (ents_not hy17 (Dat.len hD17).1 v55))⟩
   · omega
  refine wp_cond_true (ebool (b := (metB (namesI (l.take k)) y17.name)) (by kernel_rfl) v55) ?_
  refine rg_tail 7 (by kernel_rfl) (by kernel_rfl) rfl rfl ?_
  refine qv rfl (v := .pointer (some ⟨b34, 0, none⟩)) (fun _ _ => r_fieldAddr (u := .pointer (some ⟨b34, 0, none⟩)) (by kernel_rfl) (fun _ => (by kernel_rfl))) ?_
  refine qv rfl (v := .string y17.name) (fun _ uz => r_load (k := 0) (by kernel_rfl) Ty.ag9 (up_ob uz h49) (by kernel_rfl)) ?_
  refine qv rfl (v := .pointer (some ⟨b18, 0, none⟩)) (fun _ _ => r_fieldAddr (u := .pointer (some ⟨b18, 0, none⟩)) (by kernel_rfl) (fun _ => (by kernel_rfl))) ?_
  refine qv rfl (v := .agg #[.int .i64 y17.node.t, .int .i64 y17.node.w]) (fun _ uz => r_loads (k := 0) (by kernel_rfl) Ty.ag24 Ty.sz24 (up_ob uz h53) (by kernel_rfl)) ?_
  refine qc rfl (v := .string (markB ⟨y17.node.t, y17.node.w⟩)) (fun _ _ => r_callv (caps := []) (all := [.agg #[.int .i64 y17.node.t, .int .i64 y17.node.w]]) En.f36 (by kernel_rfl) (by kernel_rfl)) (fun wz uz => mark_at (TabIs.up (TabIs.up htab (Mod.up M51)) uz) y17.node.t y17.node.w (OKI.st (hOK _ (List.mem_of_getElem? hy17))).1 (OKI.st (hOK _ (List.mem_of_getElem? hy17))).2) ?_ ?_
  · rintro w1 e w2 hC ⟨rfl, hu⟩; exact ⟨rfl, up_step hC hu⟩
  refine qv rfl (v := .string (y17.name ++ (markB ⟨y17.node.t, y17.node.w⟩))) (fun _ _ => r_adds (m := y17.name) (n := (markB ⟨y17.node.t, y17.node.w⟩)) (by kernel_rfl) (by kernel_rfl) (mark_size (hOK _ (List.mem_of_getElem? hy17)))) ?_
  refine qv rfl (v := .pointer (some ⟨b34, 0, none⟩)) (fun _ _ => r_fieldAddr (u := .pointer (some ⟨b34, 0, none⟩)) (by kernel_rfl) (fun _ => (by kernel_rfl))) ?_
  refine qnil ?_
  intro w56 u57
  have M58 := Mod.trans M51 (Mod.of_up u57)
  have M59 := Mod.trans M52 (Mod.of_up u57)
  have h60 := (up_ob u57 h49)
  refine wl (ss rfl (k := 0) (v := .string (y17.name ++ (markB ⟨y17.node.t, y17.node.w⟩))) (vs := [.string (y17.name ++ (markB ⟨y17.node.t, y17.node.w⟩))]) (cs' := [.string (y17.name ++ (markB ⟨y17.node.t, y17.node.w⟩)), .int .i64 y17.node.t, .int .i64 y17.node.w, .bool y17.dir, .int .i64 (dn17 : Int)]) (by kernel_rfl) (by kernel_rfl) rfl Ty.sz9 h60 rfl (Nat.le_of_ble_eq_true rfl) rfl ?_)
  intro w61 h62 c63
  have M64 := Mod.trans' M58 c63 (fun i hi => by injection hi with hi; rw [← hi]; exact g44)
  have M65 := Mod.trans' M59 c63 (fun i hi => by injection hi with hi; rw [← hi]; exact g45)
  refine wnil (then_n (wp_seq (rg_lit ?_)))
  refine wmv (v := .map (some mp)) ?_
  refine wl (sv rfl (v := .pointer (some ⟨b18, 4, none⟩)) (r_fieldAddr (u := .pointer (some ⟨b18, 0, none⟩)) (by kernel_rfl) (fun _ => (by kernel_rfl))) ?_)
  have h66 := (chg_ob c63 (Nat.ne_of_lt l43) (up_ob u57 h53))
  refine wl (sv rfl (v := .string y17.name) (r_load (k := 4) (by kernel_rfl) Ty.ag9 h66 (by kernel_rfl)) ?_)
  have h67 := (SMap.chg (SMap.up h54 u57) c63 (Nat.ne_of_lt l40))
  have h68 := (chg_ob c63 (Nat.ne_of_lt l40) (up_ob u57 (chg_ob c50 (Nat.ne_of_lt l40) (up_ob u38 h39))))
  obtain ⟨w69, hr69, hc69, hm69⟩ := SMap.store (P := Tryz.prog) h67 Ty.un168 Ty.un9 y17.name (.bool true)
  refine wl (sk rfl (r_mapUpdate (mv := .map (some mp)) (kv := .string y17.name) (vv := .bool true) (by kernel_rfl) (by kernel_rfl) (by kernel_rfl) hr69) ?_)
  have M70 := Mod.trans' M64 hc69 (fun i hi => by injection hi with hi; rw [← hi]; exact g5)
  have M71 := Mod.trans M65 (Mod.of_chg hc69 (by simp))
  obtain ⟨ech72, cch72, h72⟩ := SMap.ob hm69
  refine wnil (then_n (rg_lit ?_))
  refine wmv (v := .slice oA on oc) ?_
  have h73 := (chg_ob hc69 (Nat.ne_of_gt l40) h62)
  refine wl (sv rfl (v := .agg #[.string (y17.name ++ (markB ⟨y17.node.t, y17.node.w⟩)), .int .i64 y17.node.t, .int .i64 y17.node.w, .bool y17.dir, .int .i64 (dn17 : Int)]) (r_loads (k := 0) (by kernel_rfl) Ty.ag35 Ty.sz35 h73 (by kernel_rfl)) ?_)
  refine wl (sn rfl (cs := #[.string (y17.name ++ (markB ⟨y17.node.t, y17.node.w⟩)), .int .i64 y17.node.t, .int .i64 y17.node.w, .bool y17.dir, .int .i64 (dn17 : Int)]) (T := 35) (V := fun b => .slice (some ⟨b, 0, none⟩) 1 1) (r_buildSlice (n := 1) (ps := [(0, .agg #[.string (y17.name ++ (markB ⟨y17.node.t, y17.node.w⟩)), .int .i64 y17.node.t, .int .i64 y17.node.w, .bool y17.dir, .int .i64 (dn17 : Int)])]) Ty.un29 Ty.sz35 Ty.zv35 (by decide) (by decide) (by kernel_rfl) (by kernel_rfl)) ?_)
  intro b74 w75 e76 h77 u78
  have l79 : mp < b74 := by rw [e76]; exact lt_ob h72
  have h80 := (chg_ob hc69 (Nat.ne_of_gt l23) h66)
  have l81 : b18 < b74 := by rw [e76]; exact lt_ob h80
  have l82 : b34 < b74 := by rw [e76]; exact lt_ob h73
  have g83 : w.heap.size ≤ b74 := by rw [e76]; exact M70.size
  have g84 : w1.heap.size ≤ b74 := by rw [e76]; exact M71.size
  have M85 := Mod.trans M70 (Mod.of_up u78)
  have M86 := Mod.trans M71 (Mod.of_up u78)
  have h87 := (ERow.up (ERow.chgm (ERow.up hF1_2 (up_chgn (up_up (up_chgn (up_up (up_chgn u22 c31 (by rw [e20]; exact Nat.le_refl _)) u38) c50 (by rw [e36]; exact (up_chgn u22 c31 (by rw [e20]; exact Nat.le_refl _)).size)) u57) c63 (by rw [e36]; exact (up_chgn u22 c31 (by rw [e20]; exact Nat.le_refl _)).size))) hc69 (ERow.ne_old (ERow.up hF1_2 (up_chgn (up_up (up_chgn (up_up (up_chgn u22 c31 (by rw [e20]; exact Nat.le_refl _)) u38) c50 (by rw [e36]; exact (up_chgn u22 c31 (by rw [e20]; exact Nat.le_refl _)).size)) u57) c63 (by rw [e36]; exact (up_chgn u22 c31 (by rw [e20]; exact Nat.le_refl _)).size))) (lt_ob h3))) u78)
  refine wl (snE rfl (L := (entsI (l.take k))) (x := (⟨(y17.name ++ (markB ⟨y17.node.t, y17.node.w⟩)), ⟨y17.node.t, y17.node.w⟩, y17.dir, (dn17 : Int)⟩ : EntD)) (by kernel_rfl) (by kernel_rfl) h87 Ty.un29 hiE hzE hsE hbE hcE h77 M86.size (by have := ents_le l k; omega) ?_)
  intro A88 n89 c90 w91 e92 h93 u94
  have M95 := Mod.trans' M85 u94 (fun k hk => Nat.le_trans M6.size (h87.own k hk).1)
  have M96 := Mod.trans' M86 u94 (fun k hk => Nat.le_trans (Nat.le_refl _) (h87.own k hk).1)
  refine was (v := .slice A88 n89 c90) ?_
  refine wnil (inb_n (then_n (rg_lit ?_)))
  refine wl (sv rfl (v := .int .i64 ((k : Int) + 1)) (r_add (k := .i64) (m := (k : Int)) (n := 1) (by kernel_rfl) (by kernel_rfl) (IntWalk.i64_in _ (by omega))) ?_)
  refine wmv (v := .int .i64 ((k : Int) + 1)) ?_
  refine wnil (then_n ?_)
  have h97 := (SMap.own (SMap.up hm69 u78) u94 (h87.ne_old (lt_ob h3)))
  refine ⟨l.length - (k + 1), ?_, (k + 1), A88, n89, c90, .pointer (some ⟨b18, 0, none⟩), .pointer (some ⟨b34, 0, none⟩), .bool b10, .pointer (some ⟨g17, 0 + k * 10, none⟩), itV y17 (.slice dA17 dn17 dc17), .pointer (some ⟨b18, 4, none⟩), .string y17.name, .pointer (some ⟨b18, 0, none⟩), .agg #[.int .i64 y17.node.t, .int .i64 y17.node.w], .pointer (some ⟨b18, 5, none⟩), .bool y17.dir, .pointer (some ⟨b18, 7, none⟩), .slice dA17 dn17 dc17, .int .i64 (dn17 : Int), .agg #[.string y17.name, .int .i64 y17.node.t, .int .i64 y17.node.w, .bool y17.dir, .int .i64 (dn17 : Int)], .map (some mp), .pointer (some ⟨b18, 4, none⟩), .string y17.name, .bool (metB (namesI (l.take k)) y17.name), .pointer (some ⟨b34, 0, none⟩), .string y17.name, .pointer (some ⟨b18, 0, none⟩), .agg #[.int .i64 y17.node.t, .int .i64 y17.node.w], .string (markB ⟨y17.node.t, y17.node.w⟩), .string (y17.name ++ (markB ⟨y17.node.t, y17.node.w⟩)), .pointer (some ⟨b34, 0, none⟩), .map (some mp), .pointer (some ⟨b18, 4, none⟩), .string y17.name, .slice oA on oc, .agg #[.string (y17.name ++ (markB ⟨y17.node.t, y17.node.w⟩)), .int .i64 y17.node.t, .int .i64 y17.node.w, .bool y17.dir, .int .i64 (dn17 : Int)], .slice (some ⟨b74, 0, none⟩) 1 1, .slice A88 n89 c90, .int .i64 ((k : Int) + 1), rfl, (by kernel_rfl), M96, (by omega), (SMap.to h97 (metF_next hy17)), (ERow.to h93 (ents_yes hy17 (Dat.len hD17).1 v55))⟩
  · omega
end Go.Proofs.YtefhfoioeoijlaaGreatDoor

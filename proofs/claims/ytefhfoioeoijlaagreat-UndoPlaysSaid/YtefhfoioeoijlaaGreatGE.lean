/- GE: printed by gen.py -/
import Derived.Test.YtefhfoioeoijlaaGreatRws
set_option linter.unusedVariables false
set_option linter.unusedSimpArgs false
namespace Go.Proofs.YtefhfoioeoijlaaGreat
open Go Go.RowKit Go.Sort
set_option maxHeartbeats 2000000 in
theorem all1_at {w : World} (x : Item) (xA : Option Addr) (xn xc : Nat) : Calls Tryz.prog 32 #[itV x (.slice xA xn xc)] w fun e w' => e = .returned (.bool true) ∧ Up w w' := by
  go_enter Tryz.func32, Tryz.ntmps32
  refine wp_seq (rg_lit ?_)
  refine wl (sn rfl (cs := (itC x (.slice xA xn xc)).toArray) (T := 61) (V := fun b => .pointer (some ⟨b, 0, none⟩)) (r_box (v := itV x (.slice xA xn xc)) (by kernel_rfl) rfl) ?_)
  intro b1 w2 e3 h4 u5
  have g6 : w.heap.size ≤ b1 := by rw [e3]; exact (Mod.refl [] w).size
  have M7 := Mod.trans (Mod.refl [] w) (Mod.of_up u5)
  refine was (v := .bool false) ?_
  refine wnil (then_n (wp_seq (rg_lit ?_)))
  refine was (v := .bool true) ?_
  refine wnil (then_n (wp_ret ?_))
  refine bodyPost_ret (v := .bool true) (res1 rfl (rv_t (by kernel_rfl))) (by kernel_rfl) ?_
  exact ⟨rfl, (Mod.up M7)⟩
set_option maxHeartbeats 2000000 in
theorem some_all_at {B : Nat} {w : World} {tb r : Nat} {L : List Item} (h : TreeIs B w tb r L) (hB : B ≤ w.heap.size) :
    Calls Tryz.prog 31 #[trP tb, .func (.func 32) #[] #[]] w fun e w' => ∃ v, e = .returned v ∧ IRow 61 B w.heap.size w' v L ∧ Up w w' := by
  have hsrt := h.2.2.2.1.srt
  obtain ⟨hr_es, hr_cl, hr_xs, hr, _⟩ := h.2.2.2.1
  have hL := h.2.2.2.2
  obtain ⟨ii_p, iz_p, hi_p, hz_p, hs_p, hb_p, hc_p⟩ := info_item
  go_enter Tryz.func31, Tryz.ntmps31
  refine wp_seq (rg_lit ?_)
  refine was (v := .slice none 0 0) ?_
  refine wnil (then_n (wp_seq (wp_seq (rg_lit ?_))))
  refine wmv (v := .pointer (some ⟨tb, 0, none⟩)) ?_
  refine wl (sv (w' := w) rfl (v := .bool false) (by kernel_rfl) ?_)
  refine wnil (then_n ?_)
  refine wp_cond_false (by kernel_rfl) ?_
  refine wp_skip (then_n (wp_seq (wp_seq (rg_lit ?_))))
  refine wmv (v := .pointer (some ⟨tb, 0, none⟩)) ?_
  refine wl (sv rfl (v := .pointer (some ⟨tb, 0, none⟩)) (r_nilCheck (by kernel_rfl)) ?_)
  refine wl (sv rfl (v := .pointer (some ⟨tb, 0, none⟩)) (r_fieldAddr (u := .pointer (some ⟨tb, 0, none⟩)) (by kernel_rfl) (fun _ => (by kernel_rfl))) ?_)
  refine wl (sv rfl (v := .map (some r)) (r_load (k := 0) (by kernel_rfl) Ty.ag86 h.1 (by kernel_rfl)) ?_)
  refine wl (sc rfl (r_callv (caps := []) (all := [.map (some r)]) En.f48 (by kernel_rfl) (by kernel_rfl)) (mkeys_at r) ?_)
  rintro e w1 ⟨b2, rfl, h3, u4⟩
  refine ⟨.func (.func 67) #[] #[.pointer (some ⟨b2, 0, none⟩)], rfl, ?_⟩
  have M5 := Mod.trans (Mod.refl [] w) (Mod.of_up u4)
  have h6 := (TreeIs.up h (Mod.up M5))
  refine wl (sc rfl (r_callv (caps := []) (all := [.func (.func 67) #[] #[.pointer (some ⟨b2, 0, none⟩)], .func (.func 49) #[] #[]]) En.f47 (by kernel_rfl) (by kernel_rfl)) (sorted_sl h6 h3) ?_)
  rintro e w7 ⟨A8, c9, rfl, h10, u11⟩
  refine ⟨.slice A8 L.length c9, rfl, ?_⟩
  have M12 := Mod.trans M5 (Mod.of_up u11)
  refine wl (sv rfl (v := .int .i64 ((L.length : Int))) (r_len Ty.un94 (ad := A8) (n := L.length) (c := c9) (by kernel_rfl)) ?_)
  refine wmv (v := .int .i64 0) ?_
  refine wnil (then_n (wp_block ?_))
  have h13 := md_ob M12 nin0 h.1
  have h14 := md_ob M12 nin0 hr
  have h15 := (TreeIs.up h (Mod.up M12))
  have h16 := ((Below.cell u11 (World.block_lt_of_cell? _ _ h3)).trans h3)
  refine lp (fun n a r1 => ∃ (k : Nat) (oA : Option Addr) (on : Nat) (oc : Nat) (z6 z7 z18 z19 z20 z21 z22 z23 z24 z25 z26 z27 z28 z29 z30 z31 z32 z33 z34 z35 : Value), (n = L.length - k) ∧ (a = ⟨#[.pointer (some ⟨tb, 0, none⟩), .func (.func 32) #[] #[], undef, undef, .slice oA on oc, undef, z6, z7, .pointer (some ⟨tb, 0, none⟩), .bool false, .pointer (some ⟨tb, 0, none⟩), .pointer (some ⟨tb, 0, none⟩), .pointer (some ⟨tb, 0, none⟩), .map (some r), .func (.func 67) #[] #[.pointer (some ⟨b2, 0, none⟩)], .slice A8 L.length c9, .int .i64 ((L.length : Int)), .int .i64 ((k : Int)), z18, z19, z20, z21, z22, z23, z24, z25, z26, z27, z28, z29, z30, z31, z32, z33, z34, z35, undef], []⟩) ∧ (Mod [] w7 r1) ∧ (k ≤ L.length) ∧ (IRow 61 B w7.heap.size r1 (.slice oA on oc) (L.take k))) ⟨_, 0, none, 0, 0, undef, undef, undef, undef, undef, undef, undef, undef, undef, undef, undef, undef, undef, undef, undef, undef, undef, undef, undef, undef, rfl, (by kernel_rfl), Mod.refl _ _, Nat.zero_le _, IRow.nil _ _ _ _⟩ ?_
  rintro _ _ r1 ⟨k, oA, on, oc, z6, z7, z18, z19, z20, z21, z22, z23, z24, z25, z26, z27, z28, z29, z30, z31, z32, z33, z34, z35, rfl, rfl, hM1, hF1_0, hF1_1⟩
  have M17 := Mod.thin M12 hM1 (by simp)
  refine wp_seq (rg_lit ?_)
  refine wl (sb rfl (r_lt (k := .i64) (m := ((k : Int))) (n := ((L.length : Int))) (by kernel_rfl) (by kernel_rfl)) ?_)
  intro b18 k19
  refine wnil (then_n (wp_seq ?_))
  refine bcase b18 (fun v20 => ?_) (fun v20 => ?_)
  ·
   have p21 := of_decide_eq_false (k19.trans v20)
   refine wp_cond_false (ebool (b := b18) (by kernel_rfl) v20) ?_
   refine wp_exit (then_x (by nofun) (then_x (by nofun) (inb_hit (then_n (wp_seq (rg_lit ?_))))))
   refine wmv (v := .slice oA on oc) ?_
   refine was (v := .slice oA on oc) ?_
   refine wnil (then_n (wp_ret ?_))
   refine bodyPost_ret (v := .slice oA on oc) (res1 rfl (rv_t (by kernel_rfl))) (by kernel_rfl) ?_
   refine ⟨_, rfl, ?_, (Mod.up M17)⟩
   have hk : L.take k = L := List.take_of_length_le (by omega)
   rw [hk] at hF1_1; exact IRow.base hF1_1 M12.size
  have p21 := of_decide_eq_true (k19.trans v20)
  have q22 : k < L.length := by omega
  have q23 : k < L.length := by omega
  refine wp_cond_true (ebool (b := b18) (by kernel_rfl) v20) ?_
  refine wp_skip (then_n (wp_seq (wp_block (wp_seq (rg_lit ?_)))))
  have h24 := (SRow.up h10 (Mod.up hM1))
  obtain ⟨x25, hx25⟩ : ∃ x, L[k]? = some x := ⟨_, List.getElem?_eq_getElem q23⟩
  obtain ⟨g25, hA25, hl25, hc25, hd25⟩ := SRow.item h24 hx25
  refine wl (sv rfl (v := .pointer (some ⟨g25, k * 2, none⟩)) (r_ixaddr' (A := A8) (b := g25) (o := 0) (n := L.length) (c := c9) (sz := 2) (j := (k : Int)) (m := k * 2) (by kernel_rfl) hA25 (by kernel_rfl) Ty.un94 Ty.sz35 (by omega) (by omega) (by simp)) ?_)
  refine wl (sv rfl (v := .agg #[.int .i64 x25.node.t, .int .i64 x25.node.w]) (r_loadc2 (by kernel_rfl) Ty.ag35 Ty.sz35 hc25 hd25) ?_)
  refine wl (sn rfl (cs := #[.int .i64 0, .int .i64 0]) (T := 35) (V := fun b => .pointer (some ⟨b, 0, none⟩)) (r_alloc Ty.zv35 rfl) ?_)
  intro b26 w27 e28 h29 u30
  have h31 := md_ob M17 nin0 h.1
  have l32 : tb < b26 := by rw [e28]; exact lt_ob h31
  have h33 := md_ob M17 nin0 hr
  have l34 : r < b26 := by rw [e28]; exact lt_ob h33
  have n35 := hF1_1.ne_fresh e28
  have g36 : w.heap.size ≤ b26 := by rw [e28]; exact M17.size
  have g37 : w7.heap.size ≤ b26 := by rw [e28]; exact hM1.size
  have M38 := Mod.trans M17 (Mod.of_up u30)
  have M39 := Mod.trans hM1 (Mod.of_up u30)
  refine wl (ss rfl (k := 0) (v := .agg #[.int .i64 x25.node.t, .int .i64 x25.node.w]) (vs := [.int .i64 x25.node.t, .int .i64 x25.node.w]) (cs' := [.int .i64 x25.node.t, .int .i64 x25.node.w]) (by kernel_rfl) (by kernel_rfl) rfl Ty.sz35 h29 rfl (Nat.le_of_ble_eq_true rfl) rfl ?_)
  intro w40 h41 c42
  have M43 := Mod.trans' M38 c42 (fun i hi => by injection hi with hi; rw [← hi]; exact g36)
  have M44 := Mod.trans' M39 c42 (fun i hi => by injection hi with hi; rw [← hi]; exact g37)
  refine wnil (then_n (wp_seq ?_))
  refine rg_held [] (n := 8) (by kernel_rfl) rfl ?_
  intro w45 u46
  have M47 := Mod.trans M43 (Mod.of_up u46)
  have M48 := Mod.trans M44 (Mod.of_up u46)
  refine hvq (i := 0) (fuel := 7) rfl (fun _ _ _ h => h) (Mod.refl _ _) rfl (v := .pointer (some ⟨tb, 0, none⟩)) (fun _ _ => r_move (by kernel_rfl)) ?_
  refine hvq (i := 1) (fuel := 6) rfl (fun _ _ _ h => h) (Mod.refl _ _) rfl (v := .pointer (some ⟨tb, 0, none⟩)) (fun _ _ => r_nilCheck (by kernel_rfl)) ?_
  refine hvq (i := 2) (fuel := 5) rfl (fun _ _ _ h => h) (Mod.refl _ _) rfl (v := .pointer (some ⟨tb, 0, none⟩)) (fun _ _ => r_fieldAddr (u := .pointer (some ⟨tb, 0, none⟩)) (by kernel_rfl) (fun _ => (by kernel_rfl))) ?_
  have h49 := md_ob M47 nin0 h.1
  refine hvq (i := 3) (fuel := 4) rfl (fun _ _ _ h => h) (Mod.refl _ _) rfl (v := .map (some r)) (fun _ uz => r_load (k := 0) (by kernel_rfl) Ty.ag86 (md_ob uz nin0 h49) (by kernel_rfl)) ?_
  have h50 := (up_ob u46 h41)
  refine hvq (i := 4) (fuel := 3) rfl (fun _ _ _ h => h) (Mod.refl _ _) rfl (v := .agg #[.int .i64 x25.node.t, .int .i64 x25.node.w]) (fun _ uz => r_loads (k := 0) (by kernel_rfl) Ty.ag35 Ty.sz35 (md_ob uz nin0 h50) (by kernel_rfl)) ?_
  have h51 := (TreeIs.up h (Mod.up M47))
  obtain ⟨d52, hd52, hl52⟩ := h51.2.2.2.1.look ⟨x25.node.t, x25.node.w⟩
  have hg52 : gotI L ⟨x25.node.t, x25.node.w⟩ = x25 := gotI_idx hsrt hx25
  rw [hg52] at hd52 hl52
  obtain ⟨dA52, dn52, dc52, rfl⟩ := hd52.form
  refine hvq (i := 5) (fuel := 2) rfl (fun _ _ _ h => h) (Mod.refl _ _) rfl (v := itV x25 (.slice dA52 dn52 dc52)) (fun wz uz => r_look (mv := .map (some r)) (kv := .agg #[.int .i64 x25.node.t, .int .i64 x25.node.w]) (by kernel_rfl) (by kernel_rfl) (hl52 wz (uz.block _ h51.2.2.2.1.lt nin0)).2) ?_
  refine h1 (i := 6) (fuel := 1) (by kernel_rfl) rfl (sn rfl (cs := #[.int .i64 0, .int .i64 0, .int .i64 0, .int .i64 0, .string (⟨#[]⟩), .bool false, .bool false, .slice none 0 0, .int .i64 0, .int .i64 0]) (T := 61) (V := fun b => .pointer (some ⟨b, 0, none⟩)) (r_alloc Ty.zv61 rfl) ?_)
  intro b53 w54 e55 h56 u57
  have l58 : tb < b53 := by rw [e55]; exact lt_ob h49
  have h59 := md_ob M47 nin0 hr
  have l60 : r < b53 := by rw [e55]; exact lt_ob h59
  have l61 : b26 < b53 := by rw [e55]; exact lt_ob h50
  have h62 := (IRow.up (IRow.chgn (IRow.up hF1_1 u30) c42 ⟨(Nat.le_trans hB g36), NotU8.of h29 (by decide)⟩ n35) u46)
  have n63 := h62.ne_fresh e55
  have g64 : w.heap.size ≤ b53 := by rw [e55]; exact M47.size
  have g65 : w7.heap.size ≤ b53 := by rw [e55]; exact M48.size
  have M66 := Mod.trans M47 (Mod.of_up u57)
  have M67 := Mod.trans M48 (Mod.of_up u57)
  refine hx (Y := [b53]) (Mod.of_up u57) (ynew e55) ?_
  refine h1 (i := 7) (fuel := 0) (by kernel_rfl) rfl (ss rfl (k := 0) (v := itV x25 (.slice dA52 dn52 dc52)) (vs := (itC x25 (.slice dA52 dn52 dc52))) (cs' := (itC x25 (.slice dA52 dn52 dc52))) (by kernel_rfl) (by kernel_rfl) rfl Ty.sz61 h56 rfl (Nat.le_of_ble_eq_true rfl) rfl ?_)
  intro w68 h69 c70
  have M71 := Mod.trans' M66 c70 (fun i hi => by injection hi with hi; rw [← hi]; exact g64)
  have M72 := Mod.trans' M67 c70 (fun i hi => by injection hi with hi; rw [← hi]; exact g65)
  refine hx (Y := [b53]) (Mod.of_chg c70 (by simp)) (fun y hy => .inl hy) ?_
  refine hend (by kernel_rfl) ?_
  refine then_n (wp_seq (rg_lit ?_))
  refine wmv (v := .func (.func 32) #[] #[]) ?_
  refine wl (sv rfl (v := itV x25 (.slice dA52 dn52 dc52)) (r_loads (k := 0) (by kernel_rfl) Ty.ag61 Ty.sz61 h69 (by kernel_rfl)) ?_)
  refine wl (sc rfl (r_callv (caps := []) (all := [itV x25 (.slice dA52 dn52 dc52)]) En.f32 (by kernel_rfl) (by kernel_rfl)) (all1_at x25 _ _ _) ?_)
  rintro e w73 ⟨rfl, u74⟩
  refine ⟨.bool true, rfl, ?_⟩
  have M75 := Mod.trans M71 (Mod.of_up u74)
  have M76 := Mod.trans M72 (Mod.of_up u74)
  refine wnil (then_n ?_)
  refine wp_cond_true (by kernel_rfl) ?_
  refine rg_lit ?_
  refine wmv (v := .slice oA on oc) ?_
  have h77 := (up_ob u74 h69)
  refine wl (sv rfl (v := itV x25 (.slice dA52 dn52 dc52)) (r_loads (k := 0) (by kernel_rfl) Ty.ag61 Ty.sz61 h77 (by kernel_rfl)) ?_)
  have h78 := (Dat.up (Dat.chg (Dat.up hd52 u57) c70 ⟨(Nat.le_trans hB g64), NotU8.of h56 (by decide)⟩) u74)
  refine wl (sc rfl (r_callv (caps := []) (all := [itV x25 (.slice dA52 dn52 dc52)]) En.f39 (by kernel_rfl) (by kernel_rfl)) (own_sl (Nat.le_trans hB M75.size) h78) ?_)
  rintro e w79 ⟨A80, n81, c82, rfl, h83, u84⟩
  refine ⟨itV x25 (.slice A80 n81 c82), rfl, ?_⟩
  have M85 := Mod.trans M75 (Mod.of_up u84)
  have M86 := Mod.trans M76 (Mod.of_up u84)
  refine wl (sn rfl (cs := (itC x25 (.slice A80 n81 c82)).toArray) (T := 61) (V := fun b => .slice (some ⟨b, 0, none⟩) 1 1) (r_buildSlice (n := 1) (ps := [(0, itV x25 (.slice A80 n81 c82))]) Ty.un49 Ty.sz61 Ty.zv61 (by decide) (by decide) (by kernel_rfl) (by kernel_rfl)) ?_)
  intro b87 w88 e89 h90 u91
  have h92 := md_ob M85 nin0 h.1
  have l93 : tb < b87 := by rw [e89]; exact lt_ob h92
  have h94 := md_ob M85 nin0 hr
  have l95 : r < b87 := by rw [e89]; exact lt_ob h94
  have h96 := (up_ob u84 (up_ob u74 (chg_ob c70 (Nat.ne_of_lt l61) (up_ob u57 h50))))
  have l97 : b26 < b87 := by rw [e89]; exact lt_ob h96
  have h98 := (up_ob u84 h77)
  have l99 : b53 < b87 := by rw [e89]; exact lt_ob h98
  have h100 := (IRow.up (IRow.up (IRow.chgn (IRow.up h62 u57) c70 ⟨(Nat.le_trans hB g64), NotU8.of h56 (by decide)⟩ n63) u74) u84)
  have n101 := h100.ne_fresh e89
  have g102 : w.heap.size ≤ b87 := by rw [e89]; exact M85.size
  have g103 : w7.heap.size ≤ b87 := by rw [e89]; exact M86.size
  have M104 := Mod.trans M85 (Mod.of_up u91)
  have M105 := Mod.trans M86 (Mod.of_up u91)
  have h106 := (IRow.up h100 u91)
  have h107 := (Dat.up h83 u91)
  refine wl (snI rfl (L := (L.take k)) (x := x25) (e := .slice A80 n81 c82) (by kernel_rfl) (by kernel_rfl) h106 Ty.un49 hi_p hz_p hs_p hb_p hc_p h90 h107 (by decide) (Nat.le_trans hB M12.size) M105.size (by simp; omega) ?_)
  intro A108 n109 c110 w111 e112 h113 u114
  have M115 := Mod.trans' M104 u114 (fun k hk => Nat.le_trans M12.size (h106.own k hk).1)
  have M116 := Mod.trans' M105 u114 (fun k hk => Nat.le_trans (Nat.le_refl _) (h106.own k hk).1)
  refine was (v := .slice A108 n109 c110) ?_
  refine wnil (inb_n (then_n (rg_lit ?_)))
  refine wl (sv rfl (v := .int .i64 (((k : Int)) + 1)) (r_add (k := .i64) (m := ((k : Int))) (n := 1) (by kernel_rfl) (by kernel_rfl) (IntWalk.i64_in _ (by omega))) ?_)
  refine wmv (v := .int .i64 (((k : Int)) + 1)) ?_
  refine wnil (then_n ?_)
  refine ⟨L.length - (k + 1), ?_, (k + 1), A108, n109, c110, .pointer (some ⟨b26, 0, none⟩), .pointer (some ⟨b53, 0, none⟩), .bool b18, .pointer (some ⟨g25, k * 2, none⟩), .agg #[.int .i64 x25.node.t, .int .i64 x25.node.w], .pointer (some ⟨tb, 0, none⟩), .pointer (some ⟨tb, 0, none⟩), .pointer (some ⟨tb, 0, none⟩), .map (some r), .agg #[.int .i64 x25.node.t, .int .i64 x25.node.w], itV x25 (.slice dA52 dn52 dc52), .func (.func 32) #[] #[], itV x25 (.slice dA52 dn52 dc52), .bool true, .slice oA on oc, itV x25 (.slice dA52 dn52 dc52), itV x25 (.slice A80 n81 c82), .slice (some ⟨b87, 0, none⟩) 1 1, .slice A108 n109 c110, .int .i64 (((k : Int)) + 1), rfl, (by kernel_rfl), M116, (by omega), (by rw [tk hx25]; exact h113)⟩
  · omega
end Go.Proofs.YtefhfoioeoijlaaGreat

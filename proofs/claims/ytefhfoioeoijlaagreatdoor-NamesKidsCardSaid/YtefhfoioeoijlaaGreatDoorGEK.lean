/- GEK: printed by gen.py -/
import Derived.Test.YtefhfoioeoijlaaGreatDoorGE
set_option linter.unusedVariables false
set_option linter.unusedSimpArgs false
namespace Go.Proofs.YtefhfoioeoijlaaGreatDoor
open Go Go.RowKit Go.Sort
set_option maxHeartbeats 2000000 in
theorem kids1_at {w : World} (x : Item) (xA : Option Addr) (xn xc kb : Nat) (m1 m2 : Int) (hkb : w.heap[kb]? = some (.cells #[.int .i64 m1, .int .i64 m2] 24 (0, 0))) : Calls Tryz.prog 98 #[itV x (.slice xA xn xc), .pointer (some ⟨kb, 0, none⟩)] w fun e w' => e = .returned (.bool (decide (x.parent = ⟨m1, m2⟩) && !x.gone)) ∧ Up w w' := by
  go_enter Tryz.func98, Tryz.ntmps98
  refine wp_seq (rg_lit ?_)
  refine wl (sn rfl (cs := (itC x (.slice xA xn xc)).toArray) (T := 42) (V := fun b => .pointer (some ⟨b, 0, none⟩)) (r_box (v := itV x (.slice xA xn xc)) (by kernel_rfl) rfl) ?_)
  intro b1 w2 e3 h4 u5
  have l6 : kb < b1 := by rw [e3]; exact lt_ob hkb
  have g7 : w.heap.size ≤ b1 := by rw [e3]; exact (Mod.refl [] w).size
  have M8 := Mod.trans (Mod.refl [] w) (Mod.of_up u5)
  refine was (v := .bool false) ?_
  refine wnil (then_n (wp_seq (rg_lit ?_)))
  refine wl (sv rfl (v := .pointer (some ⟨b1, 2, none⟩)) (r_fieldAddr (u := .pointer (some ⟨b1, 0, none⟩)) (by kernel_rfl) (fun _ => (by kernel_rfl))) ?_)
  refine wl (sv rfl (v := .agg #[.int .i64 x.parent.t, .int .i64 x.parent.w]) (r_loads (k := 2) (by kernel_rfl) Ty.ag24 Ty.sz24 h4 (by kernel_rfl)) ?_)
  have h9 := md_ob M8 nin0 hkb
  refine wl (sv rfl (v := .agg #[.int .i64 m1, .int .i64 m2]) (r_loads (k := 0) (by kernel_rfl) Ty.ag24 Ty.sz24 h9 (by kernel_rfl)) ?_)
  refine wl (sb rfl (r_eqS (a := x.parent.t) (b := x.parent.w) (c := m1) (e := m2) (by kernel_rfl) (by kernel_rfl)) ?_)
  intro b10 k11
  refine wmv (v := .bool b10) ?_
  refine bcase b10 (fun v12 => ?_) (fun v12 => ?_)
  ·
   have p13 := of_decide_eq_false (k11.trans v12)
   refine wl (sp (wf (b := b10) rfl (by kernel_rfl) v12) ?_)
   refine wl (sp (wf (b := b10) rfl (by kernel_rfl) v12) ?_)
   refine wl (sp (wf (b := b10) rfl (by kernel_rfl) v12) ?_)
   refine wl (sv rfl (v := .bool false) (r_pkF (ebool (b := b10) (by kernel_rfl) v12) (by kernel_rfl)) ?_)
   refine was (v := .bool false) ?_
   refine wnil (then_n (wp_ret ?_))
   refine bodyPost_ret (v := .bool false) (res1 rfl (rv_t (by kernel_rfl))) (by kernel_rfl) ?_
   have f14 : ¬ (x.parent = ⟨m1, m2⟩) := p13
   exact ⟨by simp [f14], (Mod.up M8)⟩
  have p13 := of_decide_eq_true (k11.trans v12)
  refine wl (sv (wt (b := b10) rfl (by kernel_rfl) v12) (v := .pointer (some ⟨b1, 6, none⟩)) (r_fieldAddr (u := .pointer (some ⟨b1, 0, none⟩)) (by kernel_rfl) (fun _ => (by kernel_rfl))) ?_)
  refine wl (sv (wt (b := b10) rfl (by kernel_rfl) v12) (v := .bool x.gone) (r_load (k := 6) (by kernel_rfl) Ty.ag4 h4 (by kernel_rfl)) ?_)
  refine wl (sv (wt (b := b10) rfl (by kernel_rfl) v12) (v := .bool (!x.gone)) (r_not (b := x.gone) (by kernel_rfl)) ?_)
  refine wl (sv rfl (v := .bool (!x.gone)) (r_pkT (ebool (b := b10) (by kernel_rfl) v12) (by kernel_rfl)) ?_)
  refine was (v := .bool (!x.gone)) ?_
  refine wnil (then_n (wp_ret ?_))
  refine bodyPost_ret (v := .bool (!x.gone)) (res1 rfl (rv_t (by kernel_rfl))) (by kernel_rfl) ?_
  have f14 : (x.parent = ⟨m1, m2⟩) := p13
  exact ⟨by simp [f14], (Mod.up M8)⟩
set_option maxHeartbeats 2000000 in
theorem some_kids_at {B : Nat} {w : World} {tb r : Nat} {L : List Item} (h : TreeIs B w tb r L) (hB : B ≤ w.heap.size) (kb : Nat) (m1 m2 : Int) (hkb : w.heap[kb]? = some (.cells #[.int .i64 m1, .int .i64 m2] 24 (0, 0))) :
    Calls Tryz.prog 97 #[trP tb, .func (.func 98) #[] #[.pointer (some ⟨kb, 0, none⟩)]] w fun e w' => ∃ v, e = .returned v ∧ IRow 42 B w.heap.size w' v (kidsI ⟨m1, m2⟩ L) ∧ Up w w' := by
  have hsrt := h.2.2.2.1.srt
  obtain ⟨hr_es, hr_cl, hr_xs, hr, _⟩ := h.2.2.2.1
  have hL := h.2.2.2.2
  obtain ⟨ii_p, iz_p, hi_p, hz_p, hs_p, hb_p, hc_p⟩ := info_item
  go_enter Tryz.func97, Tryz.ntmps97
  refine wp_seq (rg_lit ?_)
  refine was (v := .slice none 0 0) ?_
  refine wnil (then_n (wp_seq (wp_seq (rg_lit ?_))))
  refine wmv (v := .pointer (some ⟨tb, 0, none⟩)) ?_
  refine wl (sv (w' := w) rfl (v := .bool false) (by kernel_rfl) ?_)
  refine wnil (then_n ?_)
  refine wp_cond_false (by kernel_rfl) ?_
  refine wp_skip (then_n (wp_seq (wp_seq (rg_lit ?_))))
  refine wmv (v := .pointer (some ⟨tb, 0, none⟩)) ?_
  refine wl (sv rfl (v := .pointer (some ⟨tb, 0, none⟩)) (r_nilCheck (by kernel_rfl)) ?_)
  refine wl (sv rfl (v := .pointer (some ⟨tb, 0, none⟩)) (r_fieldAddr (u := .pointer (some ⟨tb, 0, none⟩)) (by kernel_rfl) (fun _ => (by kernel_rfl))) ?_)
  refine wl (sv rfl (v := .map (some r)) (r_load (k := 0) (by kernel_rfl) Ty.ag106 h.1 (by kernel_rfl)) ?_)
  refine wl (sc rfl (r_callv (caps := []) (all := [.map (some r)]) En.f149 (by kernel_rfl) (by kernel_rfl)) (mkeys_at r) ?_)
  rintro e w1 ⟨b2, rfl, h3, u4⟩
  refine ⟨.func (.func 180) #[] #[.pointer (some ⟨b2, 0, none⟩)], rfl, ?_⟩
  have M5 := Mod.trans (Mod.refl [] w) (Mod.of_up u4)
  have h6 := (TreeIs.up h (Mod.up M5))
  refine wl (sc rfl (r_callv (caps := []) (all := [.func (.func 180) #[] #[.pointer (some ⟨b2, 0, none⟩)], .func (.func 137) #[] #[]]) En.f135 (by kernel_rfl) (by kernel_rfl)) (sorted_sl h6 h3) ?_)
  rintro e w7 ⟨A8, c9, rfl, h10, u11⟩
  refine ⟨.slice A8 L.length c9, rfl, ?_⟩
  have M12 := Mod.trans M5 (Mod.of_up u11)
  refine wl (sv rfl (v := .int .i64 ((L.length : Int))) (r_len Ty.un95 (ad := A8) (n := L.length) (c := c9) (by kernel_rfl)) ?_)
  refine wmv (v := .int .i64 0) ?_
  refine wnil (then_n (wp_block ?_))
  have h13 := md_ob M12 nin0 h.1
  have h14 := md_ob M12 nin0 hr
  have h15 := md_ob M12 nin0 hkb
  have h16 := (TreeIs.up h (Mod.up M12))
  have h17 := ((Below.cell u11 (World.block_lt_of_cell? _ _ h3)).trans h3)
  refine lp (fun n a r1 => ∃ (k : Nat) (oA : Option Addr) (on : Nat) (oc : Nat) (z6 z7 z18 z19 z20 z21 z22 z23 z24 z25 z26 z27 z28 z29 z30 z31 z32 z33 z34 z35 : Value), (n = L.length - k) ∧ (a = ⟨#[.pointer (some ⟨tb, 0, none⟩), .func (.func 98) #[] #[.pointer (some ⟨kb, 0, none⟩)], undef, undef, .slice oA on oc, undef, z6, z7, .pointer (some ⟨tb, 0, none⟩), .bool false, .pointer (some ⟨tb, 0, none⟩), .pointer (some ⟨tb, 0, none⟩), .pointer (some ⟨tb, 0, none⟩), .map (some r), .func (.func 180) #[] #[.pointer (some ⟨b2, 0, none⟩)], .slice A8 L.length c9, .int .i64 ((L.length : Int)), .int .i64 ((k : Int)), z18, z19, z20, z21, z22, z23, z24, z25, z26, z27, z28, z29, z30, z31, z32, z33, z34, z35, undef], []⟩) ∧ (Mod [] w7 r1) ∧ (k ≤ L.length) ∧ (IRow 42 B w7.heap.size r1 (.slice oA on oc) (kidsI ⟨m1, m2⟩ (L.take k)))) ⟨_, 0, none, 0, 0, undef, undef, undef, undef, undef, undef, undef, undef, undef, undef, undef, undef, undef, undef, undef, undef, undef, undef, undef, undef, rfl, (by kernel_rfl), Mod.refl _ _, Nat.zero_le _, IRow.nil _ _ _ _⟩ ?_
  rintro _ _ r1 ⟨k, oA, on, oc, z6, z7, z18, z19, z20, z21, z22, z23, z24, z25, z26, z27, z28, z29, z30, z31, z32, z33, z34, z35, rfl, rfl, hM1, hF1_0, hF1_1⟩
  have M18 := Mod.thin M12 hM1 (by simp)
  refine wp_seq (rg_lit ?_)
  refine wl (sb rfl (r_lt (k := .i64) (m := ((k : Int))) (n := ((L.length : Int))) (by kernel_rfl) (by kernel_rfl)) ?_)
  intro b19 k20
  refine wnil (then_n (wp_seq ?_))
  refine bcase b19 (fun v21 => ?_) (fun v21 => ?_)
  ·
   have p22 := of_decide_eq_false (k20.trans v21)
   refine wp_cond_false (ebool (b := b19) (by kernel_rfl) v21) ?_
   refine wp_exit (then_x (by nofun) (then_x (by nofun) (inb_hit (then_n (wp_seq (rg_lit ?_))))))
   refine wmv (v := .slice oA on oc) ?_
   refine was (v := .slice oA on oc) ?_
   refine wnil (then_n (wp_ret ?_))
   refine bodyPost_ret (v := .slice oA on oc) (res1 rfl (rv_t (by kernel_rfl))) (by kernel_rfl) ?_
   refine ⟨_, rfl, ?_, (Mod.up M18)⟩
   have hk : L.take k = L := List.take_of_length_le (by omega)
   rw [hk] at hF1_1; exact IRow.base hF1_1 M12.size
  have p22 := of_decide_eq_true (k20.trans v21)
  have q23 : k < L.length := by omega
  have q24 : k < L.length := by omega
  refine wp_cond_true (ebool (b := b19) (by kernel_rfl) v21) ?_
  refine wp_skip (then_n (wp_seq (wp_block (wp_seq (rg_lit ?_)))))
  have h25 := (SRow.up h10 (Mod.up hM1))
  obtain ⟨x26, hx26⟩ : ∃ x, L[k]? = some x := ⟨_, List.getElem?_eq_getElem q24⟩
  obtain ⟨g26, hA26, hl26, hc26, hd26⟩ := SRow.item h25 hx26
  refine wl (sv rfl (v := .pointer (some ⟨g26, k * 2, none⟩)) (r_ixaddr' (A := A8) (b := g26) (o := 0) (n := L.length) (c := c9) (sz := 2) (j := (k : Int)) (m := k * 2) (by kernel_rfl) hA26 (by kernel_rfl) Ty.un95 Ty.sz24 (by omega) (by omega) (by simp)) ?_)
  refine wl (sv rfl (v := .agg #[.int .i64 x26.node.t, .int .i64 x26.node.w]) (r_loadc2 (by kernel_rfl) Ty.ag24 Ty.sz24 hc26 hd26) ?_)
  refine wl (sn rfl (cs := #[.int .i64 0, .int .i64 0]) (T := 24) (V := fun b => .pointer (some ⟨b, 0, none⟩)) (r_alloc Ty.zv24 rfl) ?_)
  intro b27 w28 e29 h30 u31
  have h32 := md_ob M18 nin0 h.1
  have l33 : tb < b27 := by rw [e29]; exact lt_ob h32
  have h34 := md_ob M18 nin0 hr
  have l35 : r < b27 := by rw [e29]; exact lt_ob h34
  have h36 := md_ob M18 nin0 hkb
  have l37 : kb < b27 := by rw [e29]; exact lt_ob h36
  have n38 := hF1_1.ne_fresh e29
  have g39 : w.heap.size ≤ b27 := by rw [e29]; exact M18.size
  have g40 : w7.heap.size ≤ b27 := by rw [e29]; exact hM1.size
  have M41 := Mod.trans M18 (Mod.of_up u31)
  have M42 := Mod.trans hM1 (Mod.of_up u31)
  refine wl (ss rfl (k := 0) (v := .agg #[.int .i64 x26.node.t, .int .i64 x26.node.w]) (vs := [.int .i64 x26.node.t, .int .i64 x26.node.w]) (cs' := [.int .i64 x26.node.t, .int .i64 x26.node.w]) (by kernel_rfl) (by kernel_rfl) rfl Ty.sz24 h30 rfl (Nat.le_of_ble_eq_true rfl) rfl ?_)
  intro w43 h44 c45
  have M46 := Mod.trans' M41 c45 (fun i hi => by injection hi with hi; rw [← hi]; exact g39)
  have M47 := Mod.trans' M42 c45 (fun i hi => by injection hi with hi; rw [← hi]; exact g40)
  refine wnil (then_n (wp_seq ?_))
  refine rg_held [] (n := 8) (by kernel_rfl) rfl ?_
  intro w48 u49
  have M50 := Mod.trans M46 (Mod.of_up u49)
  have M51 := Mod.trans M47 (Mod.of_up u49)
  refine hvq (i := 0) (fuel := 7) rfl (fun _ _ _ h => h) (Mod.refl _ _) rfl (v := .pointer (some ⟨tb, 0, none⟩)) (fun _ _ => r_move (by kernel_rfl)) ?_
  refine hvq (i := 1) (fuel := 6) rfl (fun _ _ _ h => h) (Mod.refl _ _) rfl (v := .pointer (some ⟨tb, 0, none⟩)) (fun _ _ => r_nilCheck (by kernel_rfl)) ?_
  refine hvq (i := 2) (fuel := 5) rfl (fun _ _ _ h => h) (Mod.refl _ _) rfl (v := .pointer (some ⟨tb, 0, none⟩)) (fun _ _ => r_fieldAddr (u := .pointer (some ⟨tb, 0, none⟩)) (by kernel_rfl) (fun _ => (by kernel_rfl))) ?_
  have h52 := md_ob M50 nin0 h.1
  refine hvq (i := 3) (fuel := 4) rfl (fun _ _ _ h => h) (Mod.refl _ _) rfl (v := .map (some r)) (fun _ uz => r_load (k := 0) (by kernel_rfl) Ty.ag106 (md_ob uz nin0 h52) (by kernel_rfl)) ?_
  have h53 := (up_ob u49 h44)
  refine hvq (i := 4) (fuel := 3) rfl (fun _ _ _ h => h) (Mod.refl _ _) rfl (v := .agg #[.int .i64 x26.node.t, .int .i64 x26.node.w]) (fun _ uz => r_loads (k := 0) (by kernel_rfl) Ty.ag24 Ty.sz24 (md_ob uz nin0 h53) (by kernel_rfl)) ?_
  have h54 := (TreeIs.up h (Mod.up M50))
  obtain ⟨d55, hd55, hl55⟩ := h54.2.2.2.1.look ⟨x26.node.t, x26.node.w⟩
  have hg55 : gotI L ⟨x26.node.t, x26.node.w⟩ = x26 := gotI_idx hsrt hx26
  rw [hg55] at hd55 hl55
  obtain ⟨dA55, dn55, dc55, rfl⟩ := hd55.form
  refine hvq (i := 5) (fuel := 2) rfl (fun _ _ _ h => h) (Mod.refl _ _) rfl (v := itV x26 (.slice dA55 dn55 dc55)) (fun wz uz => r_look (mv := .map (some r)) (kv := .agg #[.int .i64 x26.node.t, .int .i64 x26.node.w]) (by kernel_rfl) (by kernel_rfl) (hl55 wz (uz.block _ h54.2.2.2.1.lt nin0)).2) ?_
  refine h1 (i := 6) (fuel := 1) (by kernel_rfl) rfl (sn rfl (cs := #[.int .i64 0, .int .i64 0, .int .i64 0, .int .i64 0, .string (⟨#[]⟩), .bool false, .bool false, .slice none 0 0, .int .i64 0, .int .i64 0]) (T := 42) (V := fun b => .pointer (some ⟨b, 0, none⟩)) (r_alloc Ty.zv42 rfl) ?_)
  intro b56 w57 e58 h59 u60
  have l61 : tb < b56 := by rw [e58]; exact lt_ob h52
  have h62 := md_ob M50 nin0 hr
  have l63 : r < b56 := by rw [e58]; exact lt_ob h62
  have h64 := md_ob M50 nin0 hkb
  have l65 : kb < b56 := by rw [e58]; exact lt_ob h64
  have l66 : b27 < b56 := by rw [e58]; exact lt_ob h53
  have h67 := (IRow.up (IRow.chgn (IRow.up hF1_1 u31) c45 ⟨(Nat.le_trans hB g39), NotU8.of h30 (by decide)⟩ n38) u49)
  have n68 := h67.ne_fresh e58
  have g69 : w.heap.size ≤ b56 := by rw [e58]; exact M50.size
  have g70 : w7.heap.size ≤ b56 := by rw [e58]; exact M51.size
  have M71 := Mod.trans M50 (Mod.of_up u60)
  have M72 := Mod.trans M51 (Mod.of_up u60)
  refine hx (Y := [b56]) (Mod.of_up u60) (ynew e58) ?_
  refine h1 (i := 7) (fuel := 0) (by kernel_rfl) rfl (ss rfl (k := 0) (v := itV x26 (.slice dA55 dn55 dc55)) (vs := (itC x26 (.slice dA55 dn55 dc55))) (cs' := (itC x26 (.slice dA55 dn55 dc55))) (by kernel_rfl) (by kernel_rfl) rfl Ty.sz42 h59 rfl (Nat.le_of_ble_eq_true rfl) rfl ?_)
  intro w73 h74 c75
  have M76 := Mod.trans' M71 c75 (fun i hi => by injection hi with hi; rw [← hi]; exact g69)
  have M77 := Mod.trans' M72 c75 (fun i hi => by injection hi with hi; rw [← hi]; exact g70)
  refine hx (Y := [b56]) (Mod.of_chg c75 (by simp)) (fun y hy => .inl hy) ?_
  refine hend (by kernel_rfl) ?_
  refine then_n (wp_seq (rg_lit ?_))
  refine wmv (v := .func (.func 98) #[] #[.pointer (some ⟨kb, 0, none⟩)]) ?_
  refine wl (sv rfl (v := itV x26 (.slice dA55 dn55 dc55)) (r_loads (k := 0) (by kernel_rfl) Ty.ag42 Ty.sz42 h74 (by kernel_rfl)) ?_)
  have h78 := md_ob M76 nin0 hkb
  refine wl (sc rfl (r_callv (caps := [.pointer (some ⟨kb, 0, none⟩)]) (all := [itV x26 (.slice dA55 dn55 dc55), .pointer (some ⟨kb, 0, none⟩)]) En.f98 (by kernel_rfl) (by kernel_rfl)) (kids1_at x26 _ _ _ kb m1 m2 h78) ?_)
  rintro e w79 ⟨rfl, u80⟩
  refine ⟨.bool ((decide (x26.parent = ⟨m1, m2⟩) && !x26.gone)), rfl, ?_⟩
  have M81 := Mod.trans M76 (Mod.of_up u80)
  have M82 := Mod.trans M77 (Mod.of_up u80)
  refine wnil (then_n ?_)
  refine bcase ((decide (x26.parent = ⟨m1, m2⟩) && !x26.gone)) (fun v83 => ?_) (fun v83 => ?_)
  ·
   refine wp_cond_false (ebool (b := (decide (x26.parent = ⟨m1, m2⟩) && !x26.gone)) (by kernel_rfl) v83) ?_
   refine wp_skip (inb_n (then_n (rg_lit ?_)))
   refine wl (sv rfl (v := .int .i64 (((k : Int)) + 1)) (r_add (k := .i64) (m := ((k : Int))) (n := 1) (by kernel_rfl) (by kernel_rfl) (IntWalk.i64_in _ (by omega))) ?_)
   refine wmv (v := .int .i64 (((k : Int)) + 1)) ?_
   refine wnil (then_n ?_)
   have h84 := (IRow.up (IRow.chgn (IRow.up h67 u60) c75 ⟨(Nat.le_trans hB g69), NotU8.of h59 (by decide)⟩ n68) u80)
   refine ⟨L.length - (k + 1), ?_, (k + 1), oA, on, oc, .pointer (some ⟨b27, 0, none⟩), .pointer (some ⟨b56, 0, none⟩), .bool b19, .pointer (some ⟨g26, k * 2, none⟩), .agg #[.int .i64 x26.node.t, .int .i64 x26.node.w], .pointer (some ⟨tb, 0, none⟩), .pointer (some ⟨tb, 0, none⟩), .pointer (some ⟨tb, 0, none⟩), .map (some r), .agg #[.int .i64 x26.node.t, .int .i64 x26.node.w], itV x26 (.slice dA55 dn55 dc55), .func (.func 98) #[] #[.pointer (some ⟨kb, 0, none⟩)], itV x26 (.slice dA55 dn55 dc55), .bool ((decide (x26.parent = ⟨m1, m2⟩) && !x26.gone)), z30, z31, z32, z33, z34, .int .i64 (((k : Int)) + 1), rfl, (by kernel_rfl), M82, (by omega), (by rw [kid_no hx26 v83]; exact h84)⟩
   · omega
  refine wp_cond_true (ebool (b := (decide (x26.parent = ⟨m1, m2⟩) && !x26.gone)) (by kernel_rfl) v83) ?_
  refine rg_lit ?_
  refine wmv (v := .slice oA on oc) ?_
  have h84 := (up_ob u80 h74)
  refine wl (sv rfl (v := itV x26 (.slice dA55 dn55 dc55)) (r_loads (k := 0) (by kernel_rfl) Ty.ag42 Ty.sz42 h84 (by kernel_rfl)) ?_)
  have h85 := (Dat.up (Dat.chg (Dat.up hd55 u60) c75 ⟨(Nat.le_trans hB g69), NotU8.of h59 (by decide)⟩) u80)
  refine wl (sc rfl (r_callv (caps := []) (all := [itV x26 (.slice dA55 dn55 dc55)]) En.f65 (by kernel_rfl) (by kernel_rfl)) (own_sl (Nat.le_trans hB M81.size) h85) ?_)
  rintro e w86 ⟨A87, n88, c89, rfl, h90, u91⟩
  refine ⟨itV x26 (.slice A87 n88 c89), rfl, ?_⟩
  have M92 := Mod.trans M81 (Mod.of_up u91)
  have M93 := Mod.trans M82 (Mod.of_up u91)
  refine wl (sn rfl (cs := (itC x26 (.slice A87 n88 c89)).toArray) (T := 42) (V := fun b => .slice (some ⟨b, 0, none⟩) 1 1) (r_buildSlice (n := 1) (ps := [(0, itV x26 (.slice A87 n88 c89))]) Ty.un74 Ty.sz42 Ty.zv42 (by decide) (by decide) (by kernel_rfl) (by kernel_rfl)) ?_)
  intro b94 w95 e96 h97 u98
  have h99 := md_ob M92 nin0 h.1
  have l100 : tb < b94 := by rw [e96]; exact lt_ob h99
  have h101 := md_ob M92 nin0 hr
  have l102 : r < b94 := by rw [e96]; exact lt_ob h101
  have h103 := md_ob M92 nin0 hkb
  have l104 : kb < b94 := by rw [e96]; exact lt_ob h103
  have h105 := (up_ob u91 (up_ob u80 (chg_ob c75 (Nat.ne_of_lt l66) (up_ob u60 h53))))
  have l106 : b27 < b94 := by rw [e96]; exact lt_ob h105
  have h107 := (up_ob u91 h84)
  have l108 : b56 < b94 := by rw [e96]; exact lt_ob h107
  have h109 := (IRow.up (IRow.up (IRow.chgn (IRow.up h67 u60) c75 ⟨(Nat.le_trans hB g69), NotU8.of h59 (by decide)⟩ n68) u80) u91)
  have n110 := h109.ne_fresh e96
  have g111 : w.heap.size ≤ b94 := by rw [e96]; exact M92.size
  have g112 : w7.heap.size ≤ b94 := by rw [e96]; exact M93.size
  have M113 := Mod.trans M92 (Mod.of_up u98)
  have M114 := Mod.trans M93 (Mod.of_up u98)
  have h115 := (IRow.up h109 u98)
  have h116 := (Dat.up h90 u98)
  refine wl (snI rfl (L := (kidsI ⟨m1, m2⟩ (L.take k))) (x := x26) (e := .slice A87 n88 c89) (by kernel_rfl) (by kernel_rfl) h115 Ty.un74 hi_p hz_p hs_p hb_p hc_p h97 h116 (by decide) (Nat.le_trans hB M12.size) M114.size (by have := kids_len ⟨m1, m2⟩ (L.take k); simp at this; omega) ?_)
  intro A117 n118 c119 w120 e121 h122 u123
  have M124 := Mod.trans' M113 u123 (fun k hk => Nat.le_trans M12.size (h115.own k hk).1)
  have M125 := Mod.trans' M114 u123 (fun k hk => Nat.le_trans (Nat.le_refl _) (h115.own k hk).1)
  refine was (v := .slice A117 n118 c119) ?_
  refine wnil (inb_n (then_n (rg_lit ?_)))
  refine wl (sv rfl (v := .int .i64 (((k : Int)) + 1)) (r_add (k := .i64) (m := ((k : Int))) (n := 1) (by kernel_rfl) (by kernel_rfl) (IntWalk.i64_in _ (by omega))) ?_)
  refine wmv (v := .int .i64 (((k : Int)) + 1)) ?_
  refine wnil (then_n ?_)
  refine ⟨L.length - (k + 1), ?_, (k + 1), A117, n118, c119, .pointer (some ⟨b27, 0, none⟩), .pointer (some ⟨b56, 0, none⟩), .bool b19, .pointer (some ⟨g26, k * 2, none⟩), .agg #[.int .i64 x26.node.t, .int .i64 x26.node.w], .pointer (some ⟨tb, 0, none⟩), .pointer (some ⟨tb, 0, none⟩), .pointer (some ⟨tb, 0, none⟩), .map (some r), .agg #[.int .i64 x26.node.t, .int .i64 x26.node.w], itV x26 (.slice dA55 dn55 dc55), .func (.func 98) #[] #[.pointer (some ⟨kb, 0, none⟩)], itV x26 (.slice dA55 dn55 dc55), .bool ((decide (x26.parent = ⟨m1, m2⟩) && !x26.gone)), .slice oA on oc, itV x26 (.slice dA55 dn55 dc55), itV x26 (.slice A87 n88 c89), .slice (some ⟨b94, 0, none⟩) 1 1, .slice A117 n118 c119, .int .i64 (((k : Int)) + 1), rfl, (by kernel_rfl), M125, (by omega), (by rw [kid_yes hx26 v83]; exact h122)⟩
  · omega
end Go.Proofs.YtefhfoioeoijlaaGreatDoor

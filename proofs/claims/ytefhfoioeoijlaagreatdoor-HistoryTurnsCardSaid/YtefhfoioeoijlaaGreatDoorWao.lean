/- GEK, GFK, GOL, NA -/
import Derived.Test.YtefhfoioeoijlaaGreatDoorWab
import Derived.Test.YtefhfoioeoijlaaGreatDoorWam
import Derived.Test.YtefhfoioeoijlaaGreatDoorWan
set_option linter.unusedVariables false
set_option linter.unusedSimpArgs false
namespace Go.Proofs.YtefhfoioeoijlaaGreatDoor
open Go Go.RowKit Go.Sort
set_option maxHeartbeats 2000000 in
theorem kids1_at {w : World} (x : Item) (xA : Option Addr) (xn xc kb : Nat) (m1 m2 : Int) (hkb : w.heap[kb]? = some (.cells #[.int .i64 m1, .int .i64 m2] 24 (0, 0))) : Calls Tryz.prog 98 #[itV x (.slice xA xn xc), .pointer (some ⟨kb, 0, none⟩)] w fun e w' => e = .returned (.bool (decide (x.parent = ⟨m1, m2⟩) && !x.gone)) ∧ Up w w' := by
  go_enter Tryz.func98, Tryz.ntmps98
  refine wp_seq (rg_lit ?_)
  refine wl (sn rfl (cs := (itC x (.slice xA xn xc)).toArray) (T := 42) (V := fun b => .pointer (some ⟨b, 0, none⟩)) (r_box (v := itV x (.slice xA xn xc)) (by kernel_rfl) rfl) ?_)
  intro b1 w2 e3 h4 u5
  have l6 : kb < b1 := by rw [e3]; exact lt_ob hkb
  have g7 : w.heap.size ≤ b1 := by rw [e3]; exact (Mod.refl [] w).size
  have M8 := Mod.trans (Mod.refl [] w) (Mod.of_up u5)
  refine was (v := .bool false) ?_
  refine wnil (then_n (wp_seq (rg_lit ?_)))
  refine wl (sv rfl (v := .pointer (some ⟨b1, 2, none⟩)) (r_fieldAddr (u := .pointer (some ⟨b1, 0, none⟩)) (by kernel_rfl) (fun _ => (by kernel_rfl))) ?_)
  refine wl (sv rfl (v := .agg #[.int .i64 x.parent.t, .int .i64 x.parent.w]) (r_loads (k := 2) (by kernel_rfl) Ty.ag24 Ty.sz24 h4 (by kernel_rfl)) ?_)
  have h9 := md_ob M8 nin0 hkb
  refine wl (sv rfl (v := .agg #[.int .i64 m1, .int .i64 m2]) (r_loads (k := 0) (by kernel_rfl) Ty.ag24 Ty.sz24 h9 (by kernel_rfl)) ?_)
  refine wl (sb rfl (r_eqS (a := x.parent.t) (b := x.parent.w) (c := m1) (e := m2) (by kernel_rfl) (by kernel_rfl)) ?_)
  intro b10 k11
  refine wmv (v := .bool b10) ?_
  refine bcase b10 (fun v12 => ?_) (fun v12 => ?_)
  ·
   have p13 := of_decide_eq_false (k11.trans v12)
   refine wl (sp (wf (b := b10) rfl (by kernel_rfl) v12) ?_)
   refine wl (sp (wf (b := b10) rfl (by kernel_rfl) v12) ?_)
   refine wl (sp (wf (b := b10) rfl (by kernel_rfl) v12) ?_)
   refine wl (sv rfl (v := .bool false) (r_pkF (ebool (b := b10) (by kernel_rfl) v12) (by kernel_rfl)) ?_)
   refine was (v := .bool false) ?_
   refine wnil (then_n (wp_ret ?_))
   refine bodyPost_ret (v := .bool false) (res1 rfl (rv_t (by kernel_rfl))) (by kernel_rfl) ?_
   have f14 : ¬ (x.parent = ⟨m1, m2⟩) := p13
   exact ⟨by simp [f14], (Mod.up M8)⟩
  have p13 := of_decide_eq_true (k11.trans v12)
  refine wl (sv (wt (b := b10) rfl (by kernel_rfl) v12) (v := .pointer (some ⟨b1, 6, none⟩)) (r_fieldAddr (u := .pointer (some ⟨b1, 0, none⟩)) (by kernel_rfl) (fun _ => (by kernel_rfl))) ?_)
  refine wl (sv (wt (b := b10) rfl (by kernel_rfl) v12) (v := .bool x.gone) (r_load (k := 6) (by kernel_rfl) Ty.ag4 h4 (by kernel_rfl)) ?_)
  refine wl (sv (wt (b := b10) rfl (by kernel_rfl) v12) (v := .bool (!x.gone)) (r_not (b := x.gone) (by kernel_rfl)) ?_)
  refine wl (sv rfl (v := .bool (!x.gone)) (r_pkT (ebool (b := b10) (by kernel_rfl) v12) (by kernel_rfl)) ?_)
  refine was (v := .bool (!x.gone)) ?_
  refine wnil (then_n (wp_ret ?_))
  refine bodyPost_ret (v := .bool (!x.gone)) (res1 rfl (rv_t (by kernel_rfl))) (by kernel_rfl) ?_
  have f14 : (x.parent = ⟨m1, m2⟩) := p13
  exact ⟨by simp [f14], (Mod.up M8)⟩
set_option maxHeartbeats 2000000 in
theorem some_kids_at {B : Nat} {w : World} {tb r : Nat} {L : List Item} (h : TreeIs B w tb r L) (hB : B ≤ w.heap.size) (kb : Nat) (m1 m2 : Int) (hkb : w.heap[kb]? = some (.cells #[.int .i64 m1, .int .i64 m2] 24 (0, 0))) :
    Calls Tryz.prog 97 #[trP tb, .func (.func 98) #[] #[.pointer (some ⟨kb, 0, none⟩)]] w fun e w' => ∃ v, e = .returned v ∧ IRow 42 B w.heap.size w' v (kidsI ⟨m1, m2⟩ L) ∧ Up w w' := by
  have hsrt := h.2.2.2.1.srt
  obtain ⟨hr_es, hr_cl, hr_xs, hr, _⟩ := h.2.2.2.1
  have hL := h.2.2.2.2
  obtain ⟨ii_p, iz_p, hi_p, hz_p, hs_p, hb_p, hc_p⟩ := info_item
  go_enter Tryz.func97, Tryz.ntmps97
  refine wp_seq (rg_lit ?_)
  refine was (v := .slice none 0 0) ?_
  refine wnil (then_n (wp_seq (wp_seq (rg_lit ?_))))
  refine wmv (v := .pointer (some ⟨tb, 0, none⟩)) ?_
  refine wl (sv (w' := w) rfl (v := .bool false) (by kernel_rfl) ?_)
  refine wnil (then_n ?_)
  refine wp_cond_false (by kernel_rfl) ?_
  refine wp_skip (then_n (wp_seq (wp_seq (rg_lit ?_))))
  refine wmv (v := .pointer (some ⟨tb, 0, none⟩)) ?_
  refine wl (sv rfl (v := .pointer (some ⟨tb, 0, none⟩)) (r_nilCheck (by kernel_rfl)) ?_)
  refine wl (sv rfl (v := .pointer (some ⟨tb, 0, none⟩)) (r_fieldAddr (u := .pointer (some ⟨tb, 0, none⟩)) (by kernel_rfl) (fun _ => (by kernel_rfl))) ?_)
  refine wl (sv rfl (v := .map (some r)) (r_load (k := 0) (by kernel_rfl) Ty.ag106 h.1 (by kernel_rfl)) ?_)
  refine wl (sc rfl (r_callv (caps := []) (all := [.map (some r)]) En.f149 (by kernel_rfl) (by kernel_rfl)) (mkeys_at r) ?_)
  rintro e w1 ⟨b2, rfl, h3, u4⟩
  refine ⟨.func (.func 180) #[] #[.pointer (some ⟨b2, 0, none⟩)], rfl, ?_⟩
  have M5 := Mod.trans (Mod.refl [] w) (Mod.of_up u4)
  have h6 := (TreeIs.up h (Mod.up M5))
  refine wl (sc rfl (r_callv (caps := []) (all := [.func (.func 180) #[] #[.pointer (some ⟨b2, 0, none⟩)], .func (.func 137) #[] #[]]) En.f135 (by kernel_rfl) (by kernel_rfl)) (sorted_sl h6 h3) ?_)
  rintro e w7 ⟨A8, c9, rfl, h10, u11⟩
  refine ⟨.slice A8 L.length c9, rfl, ?_⟩
  have M12 := Mod.trans M5 (Mod.of_up u11)
  refine wl (sv rfl (v := .int .i64 (L.length : Int)) (r_len Ty.un95 (ad := A8) (n := L.length) (c := c9) (by kernel_rfl)) ?_)
  refine wmv (v := .int .i64 0) ?_
  refine wnil (then_n (wp_block ?_))
  have h13 := md_ob M12 nin0 h.1
  have h14 := md_ob M12 nin0 hr
  have h15 := md_ob M12 nin0 hkb
  have h16 := (TreeIs.up h (Mod.up M12))
  have h17 := ((Below.cell u11 (World.block_lt_of_cell? _ _ h3)).trans h3)
  refine lp (fun n a r1 => ∃ (k : Nat) (oA : Option Addr) (on : Nat) (oc : Nat) (z6 z7 z18 z19 z20 z21 z22 z23 z24 z25 z26 z27 z28 z29 z30 z31 z32 z33 z34 z35 : Value), (n = L.length - k) ∧ (a = ⟨#[.pointer (some ⟨tb, 0, none⟩), .func (.func 98) #[] #[.pointer (some ⟨kb, 0, none⟩)], undef, undef, .slice oA on oc, undef, z6, z7, .pointer (some ⟨tb, 0, none⟩), .bool false, .pointer (some ⟨tb, 0, none⟩), .pointer (some ⟨tb, 0, none⟩), .pointer (some ⟨tb, 0, none⟩), .map (some r), .func (.func 180) #[] #[.pointer (some ⟨b2, 0, none⟩)], .slice A8 L.length c9, .int .i64 (L.length : Int), .int .i64 (k : Int), z18, z19, z20, z21, z22, z23, z24, z25, z26, z27, z28, z29, z30, z31, z32, z33, z34, z35, undef], []⟩) ∧ (Mod [] w7 r1) ∧ (k ≤ L.length) ∧ (IRow 42 B w7.heap.size r1 (.slice oA on oc) (kidsI ⟨m1, m2⟩ (L.take k)))) ⟨_, 0, none, 0, 0, undef, undef, undef, undef, undef, undef, undef, undef, undef, undef, undef, undef, undef, undef, undef, undef, undef, undef, undef, undef, rfl, (by kernel_rfl), Mod.refl _ _, Nat.zero_le _, IRow.nil _ _ _ _⟩ ?_
  rintro _ _ r1 ⟨k, oA, on, oc, z6, z7, z18, z19, z20, z21, z22, z23, z24, z25, z26, z27, z28, z29, z30, z31, z32, z33, z34, z35, rfl, rfl, hM1, hF1_0, hF1_1⟩
  have M18 := Mod.thin M12 hM1 (by simp)
  refine wp_seq (rg_lit ?_)
  refine wl (sb rfl (r_lt (k := .i64) (m := (k : Int)) (n := (L.length : Int)) (by kernel_rfl) (by kernel_rfl)) ?_)
  intro b19 k20
  refine wnil (then_n (wp_seq ?_))
  refine bcase b19 (fun v21 => ?_) (fun v21 => ?_)
  ·
   have p22 := of_decide_eq_false (k20.trans v21)
   refine wp_cond_false (ebool (b := b19) (by kernel_rfl) v21) ?_
   refine wp_exit (then_x (by nofun) (then_x (by nofun) (inb_hit (then_n (wp_seq (rg_lit ?_))))))
   refine wmv (v := .slice oA on oc) ?_
   refine was (v := .slice oA on oc) ?_
   refine wnil (then_n (wp_ret ?_))
   refine bodyPost_ret (v := .slice oA on oc) (res1 rfl (rv_t (by kernel_rfl))) (by kernel_rfl) ?_
   refine ⟨_, rfl, ?_, (Mod.up M18)⟩
   have hk : L.take k = L := List.take_of_length_le (by omega)
   rw [hk] at hF1_1; exact IRow.base hF1_1 M12.size
  have p22 := of_decide_eq_true (k20.trans v21)
  have q23 : k < L.length := by omega
  have q24 : k < L.length := by omega
  refine wp_cond_true (ebool (b := b19) (by kernel_rfl) v21) ?_
  refine wp_skip (then_n (wp_seq (wp_block (wp_seq (rg_lit ?_)))))
  have h25 := (SRow.up h10 (Mod.up hM1))
  obtain ⟨x26, hx26⟩ : ∃ x, L[k]? = some x := ⟨_, List.getElem?_eq_getElem q24⟩
  obtain ⟨g26, hA26, hl26, hc26, hd26⟩ := SRow.item h25 hx26
  refine wl (sv rfl (v := .pointer (some ⟨g26, k * 2, none⟩)) (r_ixaddr' (A := A8) (b := g26) (o := 0) (n := L.length) (c := c9) (sz := 2) (j := (k : Int)) (m := k * 2) (by kernel_rfl) hA26 (by kernel_rfl) Ty.un95 Ty.sz24 (by omega) (by omega) (by simp)) ?_)
  refine wl (sv rfl (v := .agg #[.int .i64 x26.node.t, .int .i64 x26.node.w]) (r_loadc2 (by kernel_rfl) Ty.ag24 Ty.sz24 hc26 hd26) ?_)
  refine wl (sn rfl (cs := #[.int .i64 0, .int .i64 0]) (T := 24) (V := fun b => .pointer (some ⟨b, 0, none⟩)) (r_alloc Ty.zv24 rfl) ?_)
  intro b27 w28 e29 h30 u31
  have h32 := md_ob M18 nin0 h.1
  have l33 : tb < b27 := by rw [e29]; exact lt_ob h32
  have h34 := md_ob M18 nin0 hr
  have l35 : r < b27 := by rw [e29]; exact lt_ob h34
  have h36 := md_ob M18 nin0 hkb
  have l37 : kb < b27 := by rw [e29]; exact lt_ob h36
  have n38 := hF1_1.ne_fresh e29
  have g39 : w.heap.size ≤ b27 := by rw [e29]; exact M18.size
  have g40 : w7.heap.size ≤ b27 := by rw [e29]; exact hM1.size
  have M41 := Mod.trans M18 (Mod.of_up u31)
  have M42 := Mod.trans hM1 (Mod.of_up u31)
  refine wl (ss rfl (k := 0) (v := .agg #[.int .i64 x26.node.t, .int .i64 x26.node.w]) (vs := [.int .i64 x26.node.t, .int .i64 x26.node.w]) (cs' := [.int .i64 x26.node.t, .int .i64 x26.node.w]) (by kernel_rfl) (by kernel_rfl) rfl Ty.sz24 h30 rfl (Nat.le_of_ble_eq_true rfl) rfl ?_)
  intro w43 h44 c45
  have M46 := Mod.trans' M41 c45 (fun i hi => by injection hi with hi; rw [← hi]; exact g39)
  have M47 := Mod.trans' M42 c45 (fun i hi => by injection hi with hi; rw [← hi]; exact g40)
  refine wnil (then_n (wp_seq ?_))
  refine rg_held [] (n := 8) (by kernel_rfl) rfl ?_
  intro w48 u49
  have M50 := Mod.trans M46 (Mod.of_up u49)
  have M51 := Mod.trans M47 (Mod.of_up u49)
  refine hvq (i := 0) (fuel := 7) rfl (fun _ _ _ h => h) (Mod.refl _ _) rfl (v := .pointer (some ⟨tb, 0, none⟩)) (fun _ _ => r_move (by kernel_rfl)) ?_
  refine hvq (i := 1) (fuel := 6) rfl (fun _ _ _ h => h) (Mod.refl _ _) rfl (v := .pointer (some ⟨tb, 0, none⟩)) (fun _ _ => r_nilCheck (by kernel_rfl)) ?_
  refine hvq (i := 2) (fuel := 5) rfl (fun _ _ _ h => h) (Mod.refl _ _) rfl (v := .pointer (some ⟨tb, 0, none⟩)) (fun _ _ => r_fieldAddr (u := .pointer (some ⟨tb, 0, none⟩)) (by kernel_rfl) (fun _ => (by kernel_rfl))) ?_
  have h52 := md_ob M50 nin0 h.1
  refine hvq (i := 3) (fuel := 4) rfl (fun _ _ _ h => h) (Mod.refl _ _) rfl (v := .map (some r)) (fun _ uz => r_load (k := 0) (by kernel_rfl) Ty.ag106 (md_ob uz nin0 h52) (by kernel_rfl)) ?_
  have h53 := (up_ob u49 h44)
  refine hvq (i := 4) (fuel := 3) rfl (fun _ _ _ h => h) (Mod.refl _ _) rfl (v := .agg #[.int .i64 x26.node.t, .int .i64 x26.node.w]) (fun _ uz => r_loads (k := 0) (by kernel_rfl) Ty.ag24 Ty.sz24 (md_ob uz nin0 h53) (by kernel_rfl)) ?_
  have h54 := (TreeIs.up h (Mod.up M50))
  obtain ⟨d55, hd55, hl55⟩ := h54.2.2.2.1.look ⟨x26.node.t, x26.node.w⟩
  have hg55 : gotI L ⟨x26.node.t, x26.node.w⟩ = x26 := gotI_idx hsrt hx26
  rw [hg55] at hd55 hl55
  obtain ⟨dA55, dn55, dc55, rfl⟩ := hd55.form
  refine hvq (i := 5) (fuel := 2) rfl (fun _ _ _ h => h) (Mod.refl _ _) rfl (v := itV x26 (.slice dA55 dn55 dc55)) (fun wz uz => r_look (mv := .map (some r)) (kv := .agg #[.int .i64 x26.node.t, .int .i64 x26.node.w]) (by kernel_rfl) (by kernel_rfl) (hl55 wz (uz.block _ h54.2.2.2.1.lt nin0)).2) ?_
  refine h1 (i := 6) (fuel := 1) (by kernel_rfl) rfl (sn rfl (cs := #[.int .i64 0, .int .i64 0, .int .i64 0, .int .i64 0, .string (⟨#[]⟩), .bool false, .bool false, .slice none 0 0, .int .i64 0, .int .i64 0]) (T := 42) (V := fun b => .pointer (some ⟨b, 0, none⟩)) (r_alloc Ty.zv42 rfl) ?_)
  intro b56 w57 e58 h59 u60
  have l61 : tb < b56 := by rw [e58]; exact lt_ob h52
  have h62 := md_ob M50 nin0 hr
  have l63 : r < b56 := by rw [e58]; exact lt_ob h62
  have h64 := md_ob M50 nin0 hkb
  have l65 : kb < b56 := by rw [e58]; exact lt_ob h64
  have l66 : b27 < b56 := by rw [e58]; exact lt_ob h53
  have h67 := (IRow.up (IRow.chgn (IRow.up hF1_1 u31) c45 ⟨(Nat.le_trans hB g39), NotU8.of h30 (by decide)⟩ n38) u49)
  have n68 := h67.ne_fresh e58
  have g69 : w.heap.size ≤ b56 := by rw [e58]; exact M50.size
  have g70 : w7.heap.size ≤ b56 := by rw [e58]; exact M51.size
  have M71 := Mod.trans M50 (Mod.of_up u60)
  have M72 := Mod.trans M51 (Mod.of_up u60)
  refine hx (Y := [b56]) (Mod.of_up u60) (ynew e58) ?_
  refine h1 (i := 7) (fuel := 0) (by kernel_rfl) rfl (ss rfl (k := 0) (v := itV x26 (.slice dA55 dn55 dc55)) (vs := (itC x26 (.slice dA55 dn55 dc55))) (cs' := (itC x26 (.slice dA55 dn55 dc55))) (by kernel_rfl) (by kernel_rfl) rfl Ty.sz42 h59 rfl (Nat.le_of_ble_eq_true rfl) rfl ?_)
  intro w73 h74 c75
  have M76 := Mod.trans' M71 c75 (fun i hi => by injection hi with hi; rw [← hi]; exact g69)
  have M77 := Mod.trans' M72 c75 (fun i hi => by injection hi with hi; rw [← hi]; exact g70)
  refine hx (Y := [b56]) (Mod.of_chg c75 (by simp)) (fun y hy => .inl hy) ?_
  refine hend (by kernel_rfl) ?_
  refine then_n (wp_seq (rg_lit ?_))
  refine wmv (v := .func (.func 98) #[] #[.pointer (some ⟨kb, 0, none⟩)]) ?_
  refine wl (sv rfl (v := itV x26 (.slice dA55 dn55 dc55)) (r_loads (k := 0) (by kernel_rfl) Ty.ag42 Ty.sz42 h74 (by kernel_rfl)) ?_)
  have h78 := md_ob M76 nin0 hkb
  refine wl (sc rfl (r_callv (caps := [.pointer (some ⟨kb, 0, none⟩)]) (all := [itV x26 (.slice dA55 dn55 dc55), .pointer (some ⟨kb, 0, none⟩)]) En.f98 (by kernel_rfl) (by kernel_rfl)) (kids1_at x26 _ _ _ kb m1 m2 h78) ?_)
  rintro e w79 ⟨rfl, u80⟩
  refine ⟨.bool (decide (x26.parent = ⟨m1, m2⟩) && !x26.gone), rfl, ?_⟩
  have M81 := Mod.trans M76 (Mod.of_up u80)
  have M82 := Mod.trans M77 (Mod.of_up u80)
  refine wnil (then_n ?_)
  refine bcase (decide (x26.parent = ⟨m1, m2⟩) && !x26.gone) (fun v83 => ?_) (fun v83 => ?_)
  ·
   refine wp_cond_false (ebool (b := (decide (x26.parent = ⟨m1, m2⟩) && !x26.gone)) (by kernel_rfl) v83) ?_
   refine wp_skip (inb_n (then_n (rg_lit ?_)))
   refine wl (sv rfl (v := .int .i64 ((k : Int) + 1)) (r_add (k := .i64) (m := (k : Int)) (n := 1) (by kernel_rfl) (by kernel_rfl) (IntWalk.i64_in _ (by omega))) ?_)
   refine wmv (v := .int .i64 ((k : Int) + 1)) ?_
   refine wnil (then_n ?_)
   have h84 := (IRow.up (IRow.chgn (IRow.up h67 u60) c75 ⟨(Nat.le_trans hB g69), NotU8.of h59 (by decide)⟩ n68) u80)
   refine ⟨L.length - (k + 1), ?_, (k + 1), oA, on, oc, .pointer (some ⟨b27, 0, none⟩), .pointer (some ⟨b56, 0, none⟩), .bool b19, .pointer (some ⟨g26, k * 2, none⟩), .agg #[.int .i64 x26.node.t, .int .i64 x26.node.w], .pointer (some ⟨tb, 0, none⟩), .pointer (some ⟨tb, 0, none⟩), .pointer (some ⟨tb, 0, none⟩), .map (some r), .agg #[.int .i64 x26.node.t, .int .i64 x26.node.w], itV x26 (.slice dA55 dn55 dc55), .func (.func 98) #[] #[.pointer (some ⟨kb, 0, none⟩)], itV x26 (.slice dA55 dn55 dc55), .bool (decide (x26.parent = ⟨m1, m2⟩) && !x26.gone), z30, z31, z32, z33, z34, .int .i64 ((k : Int) + 1), rfl, (by kernel_rfl), M82, (by omega), (by rw [kid_no hx26 v83]; exact h84)⟩
   · omega
  refine wp_cond_true (ebool (b := (decide (x26.parent = ⟨m1, m2⟩) && !x26.gone)) (by kernel_rfl) v83) ?_
  refine rg_lit ?_
  refine wmv (v := .slice oA on oc) ?_
  have h84 := (up_ob u80 h74)
  refine wl (sv rfl (v := itV x26 (.slice dA55 dn55 dc55)) (r_loads (k := 0) (by kernel_rfl) Ty.ag42 Ty.sz42 h84 (by kernel_rfl)) ?_)
  have h85 := (Dat.up (Dat.chg (Dat.up hd55 u60) c75 ⟨(Nat.le_trans hB g69), NotU8.of h59 (by decide)⟩) u80)
  refine wl (sc rfl (r_callv (caps := []) (all := [itV x26 (.slice dA55 dn55 dc55)]) En.f65 (by kernel_rfl) (by kernel_rfl)) (own_sl (Nat.le_trans hB M81.size) h85) ?_)
  rintro e w86 ⟨A87, n88, c89, rfl, h90, u91⟩
  refine ⟨itV x26 (.slice A87 n88 c89), rfl, ?_⟩
  have M92 := Mod.trans M81 (Mod.of_up u91)
  have M93 := Mod.trans M82 (Mod.of_up u91)
  refine wl (sn rfl (cs := (itC x26 (.slice A87 n88 c89)).toArray) (T := 42) (V := fun b => .slice (some ⟨b, 0, none⟩) 1 1) (r_buildSlice (n := 1) (ps := [(0, itV x26 (.slice A87 n88 c89))]) Ty.un74 Ty.sz42 Ty.zv42 (by decide) (by decide) (by kernel_rfl) (by kernel_rfl)) ?_)
  intro b94 w95 e96 h97 u98
  have h99 := md_ob M92 nin0 h.1
  have l100 : tb < b94 := by rw [e96]; exact lt_ob h99
  have h101 := md_ob M92 nin0 hr
  have l102 : r < b94 := by rw [e96]; exact lt_ob h101
  have h103 := md_ob M92 nin0 hkb
  have l104 : kb < b94 := by rw [e96]; exact lt_ob h103
  have h105 := (up_ob u91 (up_ob u80 (chg_ob c75 (Nat.ne_of_lt l66) (up_ob u60 h53))))
  have l106 : b27 < b94 := by rw [e96]; exact lt_ob h105
  have h107 := (up_ob u91 h84)
  have l108 : b56 < b94 := by rw [e96]; exact lt_ob h107
  have h109 := (IRow.up (IRow.up (IRow.chgn (IRow.up h67 u60) c75 ⟨(Nat.le_trans hB g69), NotU8.of h59 (by decide)⟩ n68) u80) u91)
  have n110 := h109.ne_fresh e96
  have g111 : w.heap.size ≤ b94 := by rw [e96]; exact M92.size
  have g112 : w7.heap.size ≤ b94 := by rw [e96]; exact M93.size
  have M113 := Mod.trans M92 (Mod.of_up u98)
  have M114 := Mod.trans M93 (Mod.of_up u98)
  have h115 := (IRow.up h109 u98)
  have h116 := (Dat.up h90 u98)
  refine wl (snI rfl (L := (kidsI ⟨m1, m2⟩ (L.take k))) (x := x26) (e := .slice A87 n88 c89) (by kernel_rfl) (by kernel_rfl) h115 Ty.un74 hi_p hz_p hs_p hb_p hc_p h97 h116 (by decide) (Nat.le_trans hB M12.size) M114.size (by have := kids_len ⟨m1, m2⟩ (L.take k); simp at this; omega) ?_)
  intro A117 n118 c119 w120 e121 h122 u123
  have M124 := Mod.trans' M113 u123 (fun k hk => Nat.le_trans M12.size (h115.own k hk).1)
  have M125 := Mod.trans' M114 u123 (fun k hk => Nat.le_trans (Nat.le_refl _) (h115.own k hk).1)
  refine was (v := .slice A117 n118 c119) ?_
  refine wnil (inb_n (then_n (rg_lit ?_)))
  refine wl (sv rfl (v := .int .i64 ((k : Int) + 1)) (r_add (k := .i64) (m := (k : Int)) (n := 1) (by kernel_rfl) (by kernel_rfl) (IntWalk.i64_in _ (by omega))) ?_)
  refine wmv (v := .int .i64 ((k : Int) + 1)) ?_
  refine wnil (then_n ?_)
  refine ⟨L.length - (k + 1), ?_, (k + 1), A117, n118, c119, .pointer (some ⟨b27, 0, none⟩), .pointer (some ⟨b56, 0, none⟩), .bool b19, .pointer (some ⟨g26, k * 2, none⟩), .agg #[.int .i64 x26.node.t, .int .i64 x26.node.w], .pointer (some ⟨tb, 0, none⟩), .pointer (some ⟨tb, 0, none⟩), .pointer (some ⟨tb, 0, none⟩), .map (some r), .agg #[.int .i64 x26.node.t, .int .i64 x26.node.w], itV x26 (.slice dA55 dn55 dc55), .func (.func 98) #[] #[.pointer (some ⟨kb, 0, none⟩)], itV x26 (.slice dA55 dn55 dc55), .bool (decide (x26.parent = ⟨m1, m2⟩) && !x26.gone), .slice oA on oc, itV x26 (.slice dA55 dn55 dc55), itV x26 (.slice A87 n88 c89), .slice (some ⟨b94, 0, none⟩) 1 1, .slice A117 n118 c119, .int .i64 ((k : Int) + 1), rfl, (by kernel_rfl), M125, (by omega), (by rw [kid_yes hx26 v83]; exact h122)⟩
  · omega
end Go.Proofs.YtefhfoioeoijlaaGreatDoor
set_option linter.unusedVariables false
set_option linter.unusedSimpArgs false
namespace Go.Proofs.YtefhfoioeoijlaaGreatDoor
open Go Go.RowKit Go.Sort
set_option maxHeartbeats 2000000 in
theorem kids_at {B : Nat} {w : World} {tb r : Nat} {L : List Item} (h : TreeIs B w tb r L) (hB : B ≤ w.heap.size) (m1 m2 : Int) : Calls Tryz.prog 38 #[trP tb, .agg #[.int .i64 m1, .int .i64 m2]] w fun e w' => ∃ v, e = .returned v ∧ IRow 42 B w.heap.size w' v (kidsI ⟨m1, m2⟩ L) ∧ Up w w' := by
  go_enter Tryz.func38, Tryz.ntmps38
  refine wp_seq (rg_lit ?_)
  refine wl (sn rfl (cs := #[.int .i64 m1, .int .i64 m2]) (T := 24) (V := fun b => .pointer (some ⟨b, 0, none⟩)) (r_box (v := .agg #[.int .i64 m1, .int .i64 m2]) (by kernel_rfl) rfl) ?_)
  intro b1 w2 e3 h4 u5
  have l6 : tb < b1 := by rw [e3]; exact lt_ob h.1
  have g7 : w.heap.size ≤ b1 := by rw [e3]; exact (Mod.refl [] w).size
  have M8 := Mod.trans (Mod.refl [] w) (Mod.of_up u5)
  refine was (v := .slice none 0 0) ?_
  refine wnil (then_n (wp_seq (rg_lit ?_)))
  refine wmv (v := .pointer (some ⟨tb, 0, none⟩)) ?_
  refine wl (sv rfl (v := .func (.func 98) #[] #[.pointer (some ⟨b1, 0, none⟩)]) (r_makeFunc (us := []) (vs := [.pointer (some ⟨b1, 0, none⟩)]) rfl (by kernel_rfl)) ?_)
  have h14 := (TreeIs.up h (Mod.up M8))
  refine wl (sc rfl (r_callv (caps := []) (all := [.pointer (some ⟨tb, 0, none⟩), .func (.func 98) #[] #[.pointer (some ⟨b1, 0, none⟩)]]) En.f97 (by kernel_rfl) (by kernel_rfl)) (row_sl (some_kids_at h14 (Nat.le_trans hB M8.size) b1 m1 m2 h4)) ?_)
  rintro e w9 ⟨A10, c11, rfl, h12, u13⟩
  refine ⟨.slice A10 ((kidsI ⟨m1, m2⟩ L).length) c11, rfl, ?_⟩
  have M15 := Mod.trans M8 (Mod.of_up u13)
  refine was (v := .slice A10 ((kidsI ⟨m1, m2⟩ L).length) c11) ?_
  refine wnil (then_n (wp_ret ?_))
  refine bodyPost_ret (v := .slice A10 ((kidsI ⟨m1, m2⟩ L).length) c11) (res1 rfl (rv_t (by kernel_rfl))) (by kernel_rfl) ?_
  exact ⟨_, rfl, IRow.base h12 (by first | exact Nat.le_refl _ | exact M15.size | exact up_sz u5), (Mod.up M15)⟩
end Go.Proofs.YtefhfoioeoijlaaGreatDoor
set_option linter.unusedVariables false
set_option linter.unusedSimpArgs false
namespace Go.Proofs.YtefhfoioeoijlaaGreatDoor
open Go Go.RowKit Go.Sort
set_option maxHeartbeats 2000000 in
theorem light2_at {w : World} {lA : Option Addr} {lc : Nat} {os : List OpD} (h : OpRow0 w lA os) (hn : os.length ≤ 9223372036854775807) (m : Int) : Calls Tryz.prog 13 #[.slice lA os.length lc, .int .i64 m] w fun e w' => ∃ b, e = .returned (.bool b) ∧ (b = true → Small os ∧ (os.length : Int) ≤ m) ∧ Up w w' := by
  go_enter Tryz.func13, Tryz.ntmps13
  refine wp_seq (rg_lit ?_)
  refine was (v := .bool false) ?_
  refine wnil (then_n (wp_seq (wp_seq (rg_lit ?_))))
  refine wmv (v := .slice lA os.length lc) ?_
  refine wl (sv rfl (v := .int .i64 (os.length : Int)) (r_len Ty.un22 (ad := lA) (n := os.length) (c := lc) (by kernel_rfl)) ?_)
  refine wmv (v := .int .i64 m) ?_
  refine wl (sb rfl (r_gt (k := .i64) (m := (os.length : Int)) (n := m) (by kernel_rfl) (by kernel_rfl)) ?_)
  intro b1 k2
  refine wnil (then_n ?_)
  refine bcase b1 (fun v3 => ?_) (fun v3 => ?_)
  ·
   have p4 := of_decide_eq_false (k2.trans v3)
   refine wp_cond_false (ebool (b := b1) (by kernel_rfl) v3) ?_
   refine wp_skip (then_n (wp_seq (wp_seq (rg_lit ?_))))
   refine was (v := .int .i64 0) ?_
   refine wnil (then_n (wp_block ?_))
   refine lp (fun n a r1 => ∃ (k : Nat) (z4 z10 z11 z12 z13 z14 z15 z16 z17 z18 z19 z20 z21 z22 z23 z24 z25 z26 z27 z28 z29 z30 z31 : Value), (n = os.length - k) ∧ (a = ⟨#[.slice lA os.length lc, .int .i64 m, undef, undef, z4, .int .i64 (k : Int), .slice lA os.length lc, .int .i64 (os.length : Int), .int .i64 m, .bool b1, z10, z11, z12, z13, z14, z15, z16, z17, z18, z19, z20, z21, z22, z23, z24, z25, z26, z27, z28, z29, z30, z31], []⟩) ∧ (Mod [] w r1) ∧ (k ≤ os.length) ∧ (Hid (∀ (i : Nat) (o : OpD), i < k → os[i]? = some o → o.data.length ≤ 500))) ⟨_, 0, .bool false, undef, undef, undef, undef, undef, undef, undef, undef, undef, undef, undef, undef, undef, undef, undef, undef, undef, undef, undef, undef, undef, undef, rfl, (by kernel_rfl), Mod.refl _ _, Nat.zero_le _, (fun i o hi => absurd hi (Nat.not_lt_zero _))⟩ ?_
   rintro _ _ r1 ⟨k, z4, z10, z11, z12, z13, z14, z15, z16, z17, z18, z19, z20, z21, z22, z23, z24, z25, z26, z27, z28, z29, z30, z31, rfl, rfl, hM1, hF1_0, hF1_1⟩
   have M5 := Mod.thin (Mod.refl [] w) hM1 (by simp)
   refine wp_seq (wp_seq (rg_lit ?_))
   refine wmv (v := .int .i64 (k : Int)) ?_
   refine wmv (v := .slice lA os.length lc) ?_
   refine wl (sv rfl (v := .int .i64 (os.length : Int)) (r_len Ty.un22 (ad := lA) (n := os.length) (c := lc) (by kernel_rfl)) ?_)
   refine wl (sb rfl (r_lt (k := .i64) (m := (k : Int)) (n := (os.length : Int)) (by kernel_rfl) (by kernel_rfl)) ?_)
   intro b6 k7
   refine wnil (then_n ?_)
   refine bcase b6 (fun v8 => ?_) (fun v8 => ?_)
   ·
    have p9 := of_decide_eq_false (k7.trans v8)
    refine wp_cond_false (ebool (b := b6) (by kernel_rfl) v8) ?_
    refine wp_exit (then_x (by nofun) (then_x (by nofun) (inb_hit (then_n (wp_seq (rg_lit ?_))))))
    refine was (v := .bool true) ?_
    refine wnil (then_n (wp_ret ?_))
    refine bodyPost_ret (v := .bool true) (res1 rfl (rv_t (by kernel_rfl))) (by kernel_rfl) ?_
    exact ⟨_, rfl, fun _ => ⟨light_end hF1_1 (by omega), by omega⟩, (Mod.up M5)⟩
   have p9 := of_decide_eq_true (k7.trans v8)
   have q10 : k < os.length := by omega
   have q11 : k < os.length := by omega
   refine wp_cond_true (ebool (b := b6) (by kernel_rfl) v8) ?_
   refine wp_skip (then_n (wp_seq (wp_block (wp_seq (rg_lit ?_)))))
   refine wmv (v := .slice lA os.length lc) ?_
   refine wmv (v := .int .i64 (k : Int)) ?_
   have h12 := (OpRow0.up h (Mod.up M5))
   obtain ⟨o13, ho13⟩ : ∃ x, os[k]? = some x := ⟨_, List.getElem?_eq_getElem q11⟩
   obtain ⟨g13, f13, oA13, on13, oc13, hA13, hl13, hc13, hD13, hs13⟩ := h12 k o13 ho13
   refine wl (sv rfl (v := .pointer (some ⟨g13, f13 + k * 10, none⟩)) (r_ixaddr' (A := lA) (b := g13) (o := f13) (n := os.length) (c := lc) (sz := 10) (j := (k : Int)) (m := f13 + k * 10) (by kernel_rfl) hA13 (by kernel_rfl) Ty.un22 Ty.sz49 (by omega) (by omega) (by simp)) ?_)
   refine wl (sv rfl (v := .pointer (some ⟨g13, f13 + k * 10 + 8, none⟩)) (r_fieldAddr (u := .pointer (some ⟨g13, f13 + k * 10, none⟩)) (by kernel_rfl) (fun _ => (by kernel_rfl))) ?_)
   refine wl (sv rfl (v := .string o13.name) (r_loadc (by kernel_rfl) Ty.ag9 (hc13 8 _ rfl)) ?_)
   refine wl (sv rfl (v := .int .i64 (o13.name.size : Int)) (r_lens Ty.un9 (s := o13.name) (by kernel_rfl)) ?_)
   refine wl (sb rfl (r_gt (k := .i64) (m := (o13.name.size : Int)) (n := 40) (by kernel_rfl) (by kernel_rfl)) ?_)
   intro b14 k15
   refine wmv (v := .bool b14) ?_
   refine bcase b14 (fun v16 => ?_) (fun v16 => ?_)
   ·
    have p17 := of_decide_eq_false (k15.trans v16)
    refine wl (sv (wt (b := b14) rfl (by kernel_rfl) v16) (v := .slice lA os.length lc) (r_move (by kernel_rfl)) ?_)
    refine wl (sv (wt (b := b14) rfl (by kernel_rfl) v16) (v := .int .i64 (k : Int)) (r_move (by kernel_rfl)) ?_)
    obtain ⟨g18, f18, oA18, on18, oc18, hA18, hl18, hc18, hD18, hs18⟩ := h12 k o13 ho13
    refine wl (sv (wt (b := b14) rfl (by kernel_rfl) v16) (v := .pointer (some ⟨g18, f18 + k * 10, none⟩)) (r_ixaddr' (A := lA) (b := g18) (o := f18) (n := os.length) (c := lc) (sz := 10) (j := (k : Int)) (m := f18 + k * 10) (by kernel_rfl) hA18 (by kernel_rfl) Ty.un22 Ty.sz49 (by omega) (by omega) (by simp)) ?_)
    refine wl (sv (wt (b := b14) rfl (by kernel_rfl) v16) (v := .pointer (some ⟨g18, f18 + k * 10 + 9, none⟩)) (r_fieldAddr (u := .pointer (some ⟨g18, f18 + k * 10, none⟩)) (by kernel_rfl) (fun _ => (by kernel_rfl))) ?_)
    refine wl (sv (wt (b := b14) rfl (by kernel_rfl) v16) (v := .slice oA18 on18 oc18) (r_loadc (by kernel_rfl) Ty.ag40 (hc18 9 _ rfl)) ?_)
    refine wl (sv (wt (b := b14) rfl (by kernel_rfl) v16) (v := .int .i64 (on18 : Int)) (r_len Ty.un40 (ad := oA18) (n := on18) (c := oc18) (by kernel_rfl)) ?_)
    refine wl (sb (wt (b := b14) rfl (by kernel_rfl) v16) (r_gt (k := .i64) (m := (on18 : Int)) (n := 500) (by kernel_rfl) (by kernel_rfl)) ?_)
    intro b19 k20
    refine wl (sv rfl (v := .bool b19) (r_pkF (ebool (b := b14) (by kernel_rfl) v16) (by kernel_rfl)) ?_)
    refine wnil (then_n ?_)
    refine bcase b19 (fun v21 => ?_) (fun v21 => ?_)
    ·
     have p22 := of_decide_eq_false (k20.trans v21)
     refine wp_cond_false (ebool (b := b19) (by kernel_rfl) v21) ?_
     refine wp_skip (inb_n (then_n (rg_lit ?_)))
     refine wmv (v := .int .i64 (k : Int)) ?_
     refine wl (sv rfl (v := .int .i64 ((k : Int) + 1)) (r_add (k := .i64) (m := (k : Int)) (n := 1) (by kernel_rfl) (by kernel_rfl) (IntWalk.i64_in _ (by omega))) ?_)
     refine was (v := .int .i64 ((k : Int) + 1)) ?_
     refine wnil (then_n ?_)
     refine ⟨os.length - (k + 1), ?_, (k + 1), z4, .int .i64 (k : Int), .slice lA os.length lc, .int .i64 (os.length : Int), .bool b6, .int .i64 (k : Int), .int .i64 ((k : Int) + 1), .slice lA os.length lc, .int .i64 (k : Int), .pointer (some ⟨g13, f13 + k * 10, none⟩), .pointer (some ⟨g13, f13 + k * 10 + 8, none⟩), .string o13.name, .int .i64 (o13.name.size : Int), .bool b14, .bool b14, .slice lA os.length lc, .int .i64 (k : Int), .pointer (some ⟨g18, f18 + k * 10, none⟩), .pointer (some ⟨g18, f18 + k * 10 + 9, none⟩), .slice oA18 on18 oc18, .int .i64 (on18 : Int), .bool b19, .bool b19, rfl, (by kernel_rfl), hM1, (by omega), (light_next hF1_1 ho13 hD18 p22)⟩
     · omega
    have p22 := of_decide_eq_true (k20.trans v21)
    refine wp_cond_true (ebool (b := b19) (by kernel_rfl) v21) ?_
    refine wp_seq (rg_lit ?_)
    refine was (v := .bool false) ?_
    refine wnil (then_n (wp_ret (inb_r (then_x (by nofun) (then_x (by nofun) (inb_r (then_x (by nofun) ?_)))))))
    refine bodyPost_ret (v := .bool false) (res1 rfl (rv_t (by kernel_rfl))) (by kernel_rfl) ?_
    exact ⟨_, rfl, fun h => (by cases h), (Mod.up M5)⟩
   have p17 := of_decide_eq_true (k15.trans v16)
   refine wl (sp (wf (b := b14) rfl (by kernel_rfl) v16) ?_)
   refine wl (sp (wf (b := b14) rfl (by kernel_rfl) v16) ?_)
   refine wl (sp (wf (b := b14) rfl (by kernel_rfl) v16) ?_)
   refine wl (sp (wf (b := b14) rfl (by kernel_rfl) v16) ?_)
   refine wl (sp (wf (b := b14) rfl (by kernel_rfl) v16) ?_)
   refine wl (sp (wf (b := b14) rfl (by kernel_rfl) v16) ?_)
   refine wl (sp (wf (b := b14) rfl (by kernel_rfl) v16) ?_)
   refine wl (sv rfl (v := .bool true) (r_pkT (ebool (b := b14) (by kernel_rfl) v16) (by kernel_rfl)) ?_)
   refine wnil (then_n ?_)
   refine wp_cond_true (by kernel_rfl) ?_
   refine wp_seq (rg_lit ?_)
   refine was (v := .bool false) ?_
   refine wnil (then_n (wp_ret (inb_r (then_x (by nofun) (then_x (by nofun) (inb_r (then_x (by nofun) ?_)))))))
   refine bodyPost_ret (v := .bool false) (res1 rfl (rv_t (by kernel_rfl))) (by kernel_rfl) ?_
   exact ⟨_, rfl, fun h => (by cases h), (Mod.up M5)⟩
  have p4 := of_decide_eq_true (k2.trans v3)
  refine wp_cond_true (ebool (b := b1) (by kernel_rfl) v3) ?_
  refine wp_seq (rg_lit ?_)
  refine was (v := .bool false) ?_
  refine wnil (then_n (wp_ret (then_x (by nofun) ?_)))
  refine bodyPost_ret (v := .bool false) (res1 rfl (rv_t (by kernel_rfl))) (by kernel_rfl) ?_
  exact ⟨_, rfl, fun h => (by cases h), (Mod.up (Mod.refl [] w))⟩
end Go.Proofs.YtefhfoioeoijlaaGreatDoor
set_option linter.unusedVariables false
set_option linter.unusedSimpArgs false
namespace Go.Proofs.YtefhfoioeoijlaaGreatDoor
open Go Go.RowKit Go.Sort
set_option maxHeartbeats 2000000 in
theorem mark_at {w : World} (htab : Tab w) (m1 m2 : Int) (h1 : 0 ≤ m1 ∧ m1 ≤ 1099511627776) (h2 : 0 ≤ m2 ∧ m2 ≤ 8) : Calls Tryz.prog 36 #[.agg #[.int .i64 m1, .int .i64 m2]] w fun e w' => e = .returned (.string (markB ⟨m1, m2⟩)) ∧ Up w w' := by
  have hz1 := itoa_size (n := m1) (by omega) (by omega)
  have hz2 := itoa_size (n := m2) (by omega) (by omega)
  have hz3 : (⟨#[126]⟩ : ByteArray).size = 1 := rfl
  have hz4 : (⟨#[46]⟩ : ByteArray).size = 1 := rfl
  go_enter Tryz.func36, Tryz.ntmps36
  refine wp_seq (rg_lit ?_)
  refine wl (sn rfl (cs := #[.int .i64 m1, .int .i64 m2]) (T := 24) (V := fun b => .pointer (some ⟨b, 0, none⟩)) (r_box (v := .agg #[.int .i64 m1, .int .i64 m2]) (by kernel_rfl) rfl) ?_)
  intro b1 w2 e3 h4 u5
  have g6 : w.heap.size ≤ b1 := by rw [e3]; exact (Mod.refl [] w).size
  have M7 := Mod.trans (Mod.refl [] w) (Mod.of_up u5)
  refine was (v := .string (⟨#[]⟩)) ?_
  refine wnil (then_n (wp_seq ?_))
  refine rg_all (by kernel_rfl) (by kernel_rfl) ?_
  refine qv rfl (v := .pointer (some ⟨b1, 0, none⟩)) (fun _ _ => r_fieldAddr (u := .pointer (some ⟨b1, 0, none⟩)) (by kernel_rfl) (fun _ => (by kernel_rfl))) ?_
  refine qv rfl (v := .int .i64 m1) (fun _ uz => r_load (k := 0) (by kernel_rfl) Ty.ag2 (up_ob uz h4) (by kernel_rfl)) ?_
  refine qc rfl (v := .string (⟨(Lib.itoa m1).toArray⟩)) (fun _ _ => r_callv (caps := []) (all := [.int .i64 m1, .int .i64 10]) En.f94 (by kernel_rfl) (by kernel_rfl)) (fun wz uz => fmt_at (TabIs.up (TabIs.up htab (Mod.up M7)) uz) m1 (by omega) (by omega)) ?_ ?_
  · rintro w1 e w2 hC ⟨rfl, hu⟩; exact ⟨rfl, up_step hC hu⟩
  refine qv rfl (v := .string ((⟨#[126]⟩ : ByteArray) ++ (⟨(Lib.itoa m1).toArray⟩ : ByteArray))) (fun _ _ => r_adds (m := (⟨#[126]⟩)) (n := (⟨(Lib.itoa m1).toArray⟩)) (by kernel_rfl) (by kernel_rfl) (by (try simp only [ByteArray.size_append]); omega)) ?_
  refine qv rfl (v := .string (((⟨#[126]⟩ : ByteArray) ++ (⟨(Lib.itoa m1).toArray⟩ : ByteArray)) ++ (⟨#[46]⟩ : ByteArray))) (fun _ _ => r_adds (m := ((⟨#[126]⟩ : ByteArray) ++ (⟨(Lib.itoa m1).toArray⟩ : ByteArray))) (n := (⟨#[46]⟩)) (by kernel_rfl) (by kernel_rfl) (by (try simp only [ByteArray.size_append]); omega)) ?_
  refine qv rfl (v := .pointer (some ⟨b1, 1, none⟩)) (fun _ _ => r_fieldAddr (u := .pointer (some ⟨b1, 0, none⟩)) (by kernel_rfl) (fun _ => (by kernel_rfl))) ?_
  refine qv rfl (v := .int .i64 m2) (fun _ uz => r_load (k := 1) (by kernel_rfl) Ty.ag3 (up_ob uz h4) (by kernel_rfl)) ?_
  refine qc rfl (v := .string (⟨(Lib.itoa m2).toArray⟩)) (fun _ _ => r_callv (caps := []) (all := [.int .i64 m2]) En.f95 (by kernel_rfl) (by kernel_rfl)) (fun wz uz => itoa_at (TabIs.up (TabIs.up htab (Mod.up M7)) uz) m2 (by omega) (by omega)) ?_ ?_
  · rintro w1 e w2 hC ⟨rfl, hu⟩; exact ⟨rfl, up_step hC hu⟩
  refine qv rfl (v := .string ((((⟨#[126]⟩ : ByteArray) ++ (⟨(Lib.itoa m1).toArray⟩ : ByteArray)) ++ (⟨#[46]⟩ : ByteArray)) ++ (⟨(Lib.itoa m2).toArray⟩ : ByteArray))) (fun _ _ => r_adds (m := (((⟨#[126]⟩ : ByteArray) ++ (⟨(Lib.itoa m1).toArray⟩ : ByteArray)) ++ (⟨#[46]⟩ : ByteArray))) (n := (⟨(Lib.itoa m2).toArray⟩)) (by kernel_rfl) (by kernel_rfl) (by (try simp only [ByteArray.size_append]); omega)) ?_
  refine qas (v := .string ((((⟨#[126]⟩ : ByteArray) ++ (⟨(Lib.itoa m1).toArray⟩ : ByteArray)) ++ (⟨#[46]⟩ : ByteArray)) ++ (⟨(Lib.itoa m2).toArray⟩ : ByteArray))) ?_
  refine qnil ?_
  intro w8 u9
  have M10 := Mod.trans M7 (Mod.of_up u9)
  refine then_n (wp_ret ?_)
  refine bodyPost_ret (v := .string ((((⟨#[126]⟩ : ByteArray) ++ (⟨(Lib.itoa m1).toArray⟩ : ByteArray)) ++ (⟨#[46]⟩ : ByteArray)) ++ (⟨(Lib.itoa m2).toArray⟩ : ByteArray))) (res1 rfl (rv_t (by kernel_rfl))) (by kernel_rfl) ?_
  exact ⟨rfl, (Mod.up M10)⟩
theorem OKI.st {x : Item} (h : OKI x) : (0 ≤ x.node.t ∧ x.node.t ≤ 1099511627776) ∧ (0 ≤ x.node.w ∧ x.node.w ≤ 8) := ⟨⟨h.2.1, h.2.2.2.2.1⟩, ⟨h.2.2.1, h.2.2.2.2.2⟩⟩
set_option maxHeartbeats 2000000 in
theorem ents_at {B : Nat} {w : World} {l : List Item} {xA : Option Addr} {xc : Nat} {base0 : Nat} (hl : IRow 42 B base0 w (.slice xA l.length xc) l) (hB : B ≤ w.heap.size) (htab : Tab w) (hOK : ∀ x ∈ l, OKI x) (hlen : l.length ≤ 300) :
    Calls Tryz.prog 58 #[.slice xA l.length xc] w fun e w' => ∃ v, e = .returned v ∧ ERow 35 B w.heap.size w' v (entsI l) ∧ Up w w' := by
  obtain ⟨iE, zE, hiE, hzE, hsE, hbE, hcE⟩ := info_ent
  obtain ⟨ii_p, iz_p, hi_p, hz_p, hs_p, hb_p, hc_p⟩ := info_item
  go_enter Tryz.func58, Tryz.ntmps58
  refine wp_seq (rg_lit ?_)
  refine was (v := .slice none 0 0) ?_
  refine wnil (then_n (wp_seq (rg_lit ?_)))
  refine wl (snm rfl (V := fun b => .map (some b)) r_makeMap ?_)
  intro mp w1 e2 h3 u4
  have g5 : w.heap.size ≤ mp := by rw [e2]; exact (Mod.refl [] w).size
  have M6 := Mod.trans (Mod.refl [] w) (Mod.of_up u4)
  refine was (v := .map (some mp)) ?_
  refine wnil (then_n (wp_seq (wp_seq (rg_lit ?_))))
  refine wmv (v := .slice xA l.length xc) ?_
  refine wl (sv rfl (v := .int .i64 (l.length : Int)) (r_len Ty.un74 (ad := xA) (n := l.length) (c := xc) (by kernel_rfl)) ?_)
  refine wmv (v := .int .i64 0) ?_
  refine wnil (then_n (wp_block ?_))
  have h7 := (IRow.up hl (Mod.up M6))
  refine lp (fun n a r1 => ∃ (k : Nat) (oA : Option Addr) (on : Nat) (oc : Nat) (z5 z6 z11 z12 z13 z14 z15 z16 z17 z18 z19 z20 z21 z22 z23 z24 z25 z26 z27 z28 z29 z30 z31 z32 z33 z34 z35 z36 z37 z38 z39 z40 z41 z42 : Value), (n = l.length - k) ∧ (a = ⟨#[.slice xA l.length xc, undef, .slice oA on oc, .map (some mp), undef, z5, z6, .map (some mp), .slice xA l.length xc, .int .i64 (l.length : Int), .int .i64 (k : Int), z11, z12, z13, z14, z15, z16, z17, z18, z19, z20, z21, z22, z23, z24, z25, z26, z27, z28, z29, z30, z31, z32, z33, z34, z35, z36, z37, z38, z39, z40, z41, z42, undef], []⟩) ∧ (Mod [mp] w1 r1) ∧ (k ≤ l.length) ∧ (SMap r1 mp (metF (namesI (l.take k)))) ∧ (ERow 35 B w1.heap.size r1 (.slice oA on oc) (entsI (l.take k)))) ⟨_, 0, none, 0, 0, undef, undef, undef, undef, undef, undef, undef, undef, undef, undef, undef, undef, undef, undef, undef, undef, undef, undef, undef, undef, undef, undef, undef, undef, undef, undef, undef, undef, undef, undef, undef, undef, undef, undef, rfl, (by kernel_rfl), Mod.refl _ _, (Nat.zero_le _), (SMap.to (SMap.new h3) (metF_nil l)), (ERow.nil _ _ _ _)⟩ ?_
  rintro _ _ r1 ⟨k, oA, on, oc, z5, z6, z11, z12, z13, z14, z15, z16, z17, z18, z19, z20, z21, z22, z23, z24, z25, z26, z27, z28, z29, z30, z31, z32, z33, z34, z35, z36, z37, z38, z39, z40, z41, z42, rfl, rfl, hM1, hF1_0, hF1_1, hF1_2⟩
  have M8 := Mod.thin M6 hM1 (fun y hy => by simp only [List.mem_cons, List.not_mem_nil, or_false] at hy; subst hy; exact .inr g5)
  obtain ⟨ech9, cch9, h9⟩ := SMap.ob hF1_1
  refine wp_seq (rg_lit ?_)
  refine wl (sb rfl (r_lt (k := .i64) (m := (k : Int)) (n := (l.length : Int)) (by kernel_rfl) (by kernel_rfl)) ?_)
  intro b10 k11
  refine wnil (then_n (wp_seq ?_))
  refine bcase b10 (fun v12 => ?_) (fun v12 => ?_)
  ·
   have p13 := of_decide_eq_false (k11.trans v12)
   refine wp_cond_false (ebool (b := b10) (by kernel_rfl) v12) ?_
   refine wp_exit (then_x (by nofun) (then_x (by nofun) (inb_hit (then_n (wp_seq (rg_lit ?_))))))
   refine wmv (v := .slice oA on oc) ?_
   refine was (v := .slice oA on oc) ?_
   refine wnil (then_n (wp_ret ?_))
   refine bodyPost_ret (v := .slice oA on oc) (res1 rfl (rv_t (by kernel_rfl))) (by kernel_rfl) ?_
   exact ⟨_, rfl, ERow.base (ERow.to hF1_2 (entsI_take (by omega))) M6.size, (Mod.up M8)⟩
  have p13 := of_decide_eq_true (k11.trans v12)
  have q14 : k < l.length := by omega
  have q15 : k < l.length := by omega
  refine wp_cond_true (ebool (b := b10) (by kernel_rfl) v12) ?_
  refine wp_skip (then_n (wp_seq (wp_block (wp_seq (rg_lit ?_)))))
  have h16 := (IRow.up hl (Mod.up M8))
  obtain ⟨y17, hy17⟩ : ∃ x, l[k]? = some x := ⟨_, List.getElem?_eq_getElem q15⟩
  obtain ⟨g17, cp17, cu17, dA17, dn17, dc17, hA17, hg17, hb17, he17, hD17⟩ := h16.get hy17
  injection hA17 with hA17 _ _
  replace he17 : (cu17.toList.drop (0 + k * 10)).take 10 = (itC y17 (.slice dA17 dn17 dc17)) := by rw [Nat.zero_add]; exact he17
  refine wl (sv rfl (v := .pointer (some ⟨g17, 0 + k * 10, none⟩)) (r_ixaddr' (A := xA) (b := g17) (o := 0) (n := l.length) (c := xc) (sz := 10) (j := (k : Int)) (by kernel_rfl) hA17 (by kernel_rfl) Ty.un74 Ty.sz42 (by omega) (by omega) (by simp)) ?_)
  refine wl (sv rfl (v := itV y17 (.slice dA17 dn17 dc17)) (r_loads (k := 0 + k * 10) (by kernel_rfl) Ty.ag42 Ty.sz42 hb17 (el_sub0 he17 rfl)) ?_)
  refine wl (sn rfl (cs := #[.int .i64 0, .int .i64 0, .int .i64 0, .int .i64 0, .string (⟨#[]⟩), .bool false, .bool false, .slice none 0 0, .int .i64 0, .int .i64 0]) (T := 42) (V := fun b => .pointer (some ⟨b, 0, none⟩)) (r_alloc Ty.zv42 rfl) ?_)
  intro b18 w19 e20 h21 u22
  have l23 : mp < b18 := by rw [e20]; exact lt_ob h9
  have l24 : g17 < b18 := by rw [e20]; exact lt_ob hb17
  have g25 : w.heap.size ≤ b18 := by rw [e20]; exact M8.size
  have g26 : w1.heap.size ≤ b18 := by rw [e20]; exact hM1.size
  have M27 := Mod.trans M8 (Mod.of_up u22)
  have M28 := Mod.trans hM1 (Mod.of_up u22)
  refine wl (ss rfl (k := 0) (v := itV y17 (.slice dA17 dn17 dc17)) (vs := (itC y17 (.slice dA17 dn17 dc17))) (cs' := (itC y17 (.slice dA17 dn17 dc17))) (by kernel_rfl) (by kernel_rfl) rfl Ty.sz42 h21 rfl (Nat.le_of_ble_eq_true rfl) rfl ?_)
  intro w29 h30 c31
  have M32 := Mod.trans' M27 c31 (fun i hi => by injection hi with hi; rw [← hi]; exact g25)
  have M33 := Mod.trans' M28 c31 (fun i hi => by injection hi with hi; rw [← hi]; exact g26)
  refine wnil (then_n (wp_seq (rg_lit ?_)))
  refine wl (sv rfl (v := .pointer (some ⟨b18, 4, none⟩)) (r_fieldAddr (u := .pointer (some ⟨b18, 0, none⟩)) (by kernel_rfl) (fun _ => (by kernel_rfl))) ?_)
  refine wl (sv rfl (v := .string y17.name) (r_load (k := 4) (by kernel_rfl) Ty.ag9 h30 (by kernel_rfl)) ?_)
  refine wl (sv rfl (v := .pointer (some ⟨b18, 0, none⟩)) (r_fieldAddr (u := .pointer (some ⟨b18, 0, none⟩)) (by kernel_rfl) (fun _ => (by kernel_rfl))) ?_)
  refine wl (sv rfl (v := .agg #[.int .i64 y17.node.t, .int .i64 y17.node.w]) (r_loads (k := 0) (by kernel_rfl) Ty.ag24 Ty.sz24 h30 (by kernel_rfl)) ?_)
  refine wl (sv rfl (v := .pointer (some ⟨b18, 5, none⟩)) (r_fieldAddr (u := .pointer (some ⟨b18, 0, none⟩)) (by kernel_rfl) (fun _ => (by kernel_rfl))) ?_)
  refine wl (sv rfl (v := .bool y17.dir) (r_load (k := 5) (by kernel_rfl) Ty.ag4 h30 (by kernel_rfl)) ?_)
  refine wl (sv rfl (v := .pointer (some ⟨b18, 7, none⟩)) (r_fieldAddr (u := .pointer (some ⟨b18, 0, none⟩)) (by kernel_rfl) (fun _ => (by kernel_rfl))) ?_)
  refine wl (sv rfl (v := .slice dA17 dn17 dc17) (r_load (k := 7) (by kernel_rfl) Ty.ag40 h30 (by kernel_rfl)) ?_)
  refine wl (sv rfl (v := .int .i64 (dn17 : Int)) (r_len Ty.un40 (ad := dA17) (n := dn17) (c := dc17) (by kernel_rfl)) ?_)
  refine wl (sv rfl (v := .agg #[.string y17.name, .int .i64 y17.node.t, .int .i64 y17.node.w, .bool y17.dir, .int .i64 (dn17 : Int)]) (r_build (ps := [(0, .string y17.name), (1, .agg #[.int .i64 y17.node.t, .int .i64 y17.node.w]), (2, .bool y17.dir), (3, .int .i64 (dn17 : Int))]) (cs := [.string y17.name, .int .i64 y17.node.t, .int .i64 y17.node.w, .bool y17.dir, .int .i64 (dn17 : Int)]) Ty.un35 Ty.zv35 Ty.pl35 (by kernel_rfl) (by kernel_rfl)) ?_)
  refine wl (sn rfl (cs := #[.string (⟨#[]⟩), .int .i64 0, .int .i64 0, .bool false, .int .i64 0]) (T := 35) (V := fun b => .pointer (some ⟨b, 0, none⟩)) (r_alloc Ty.zv35 rfl) ?_)
  intro b34 w35 e36 h37 u38
  have h39 := (chg_ob c31 (Nat.ne_of_lt l23) (up_ob u22 h9))
  have l40 : mp < b34 := by rw [e36]; exact lt_ob h39
  have h41 := (chg_ob c31 (Nat.ne_of_lt l24) (up_ob u22 hb17))
  have l42 : g17 < b34 := by rw [e36]; exact lt_ob h41
  have l43 : b18 < b34 := by rw [e36]; exact lt_ob h30
  have g44 : w.heap.size ≤ b34 := by rw [e36]; exact M32.size
  have g45 : w1.heap.size ≤ b34 := by rw [e36]; exact M33.size
  have M46 := Mod.trans M32 (Mod.of_up u38)
  have M47 := Mod.trans M33 (Mod.of_up u38)
  refine wl (ss rfl (k := 0) (v := .agg #[.string y17.name, .int .i64 y17.node.t, .int .i64 y17.node.w, .bool y17.dir, .int .i64 (dn17 : Int)]) (vs := [.string y17.name, .int .i64 y17.node.t, .int .i64 y17.node.w, .bool y17.dir, .int .i64 (dn17 : Int)]) (cs' := [.string y17.name, .int .i64 y17.node.t, .int .i64 y17.node.w, .bool y17.dir, .int .i64 (dn17 : Int)]) (by kernel_rfl) (by kernel_rfl) rfl Ty.sz35 h37 rfl (Nat.le_of_ble_eq_true rfl) rfl ?_)
  intro w48 h49 c50
  have M51 := Mod.trans' M46 c50 (fun i hi => by injection hi with hi; rw [← hi]; exact g44)
  have M52 := Mod.trans' M47 c50 (fun i hi => by injection hi with hi; rw [← hi]; exact g45)
  refine wnil (then_n (wp_seq (wp_seq (rg_lit ?_))))
  refine wmv (v := .map (some mp)) ?_
  refine wl (sv rfl (v := .pointer (some ⟨b18, 4, none⟩)) (r_fieldAddr (u := .pointer (some ⟨b18, 0, none⟩)) (by kernel_rfl) (fun _ => (by kernel_rfl))) ?_)
  have h53 := (chg_ob c50 (Nat.ne_of_lt l43) (up_ob u38 h30))
  refine wl (sv rfl (v := .string y17.name) (r_load (k := 4) (by kernel_rfl) Ty.ag9 h53 (by kernel_rfl)) ?_)
  have h54 := (SMap.up hF1_1 (up_chgn (up_up (up_chgn u22 c31 (by rw [e20]; exact Nat.le_refl _)) u38) c50 (by rw [e36]; exact (up_chgn u22 c31 (by rw [e20]; exact Nat.le_refl _)).size)))
  refine wl (sv rfl (v := .bool (metB (namesI (l.take k)) y17.name)) (r_lookS (r := mp) (s := y17.name) (v := .bool (metB (namesI (l.take k)) y17.name)) (by kernel_rfl) (by kernel_rfl) h54 Ty.un168 Ty.un9 (fun _ => by kernel_rfl) (metF_get _ _)) ?_)
  refine wnil (then_n ?_)
  refine bcase (metB (namesI (l.take k)) y17.name) (fun v55 => ?_) (fun v55 => ?_)
  ·
   refine wp_cond_false (ebool (b := (metB (namesI (l.take k)) y17.name)) (by kernel_rfl) v55) ?_
   refine wp_skip (then_n (wp_seq (rg_lit ?_)))
   refine wmv (v := .map (some mp)) ?_
   refine wl (sv rfl (v := .pointer (some ⟨b18, 4, none⟩)) (r_fieldAddr (u := .pointer (some ⟨b18, 0, none⟩)) (by kernel_rfl) (fun _ => (by kernel_rfl))) ?_)
   refine wl (sv rfl (v := .string y17.name) (r_load (k := 4) (by kernel_rfl) Ty.ag9 h53 (by kernel_rfl)) ?_)
   have h56 := (chg_ob c50 (Nat.ne_of_lt l40) (up_ob u38 h39))
   obtain ⟨w57, hr57, hc57, hm57⟩ := SMap.store (P := Tryz.prog) h54 Ty.un168 Ty.un9 y17.name (.bool true)
   refine wl (sk rfl (r_mapUpdate (mv := .map (some mp)) (kv := .string y17.name) (vv := .bool true) (by kernel_rfl) (by kernel_rfl) (by kernel_rfl) hr57) ?_)
   have M58 := Mod.trans' M51 hc57 (fun i hi => by injection hi with hi; rw [← hi]; exact g5)
   have M59 := Mod.trans M52 (Mod.of_chg hc57 (by simp))
   obtain ⟨ech60, cch60, h60⟩ := SMap.ob hm57
   refine wnil (then_n (rg_lit ?_))
   refine wmv (v := .slice oA on oc) ?_
   have h61 := (chg_ob hc57 (Nat.ne_of_gt l40) h49)
   refine wl (sv rfl (v := .agg #[.string y17.name, .int .i64 y17.node.t, .int .i64 y17.node.w, .bool y17.dir, .int .i64 (dn17 : Int)]) (r_loads (k := 0) (by kernel_rfl) Ty.ag35 Ty.sz35 h61 (by kernel_rfl)) ?_)
   refine wl (sn rfl (cs := #[.string y17.name, .int .i64 y17.node.t, .int .i64 y17.node.w, .bool y17.dir, .int .i64 (dn17 : Int)]) (T := 35) (V := fun b => .slice (some ⟨b, 0, none⟩) 1 1) (r_buildSlice (n := 1) (ps := [(0, .agg #[.string y17.name, .int .i64 y17.node.t, .int .i64 y17.node.w, .bool y17.dir, .int .i64 (dn17 : Int)])]) Ty.un29 Ty.sz35 Ty.zv35 (by decide) (by decide) (by kernel_rfl) (by kernel_rfl)) ?_)
   intro b62 w63 e64 h65 u66
   have l67 : mp < b62 := by rw [e64]; exact lt_ob h60
   have h68 := (chg_ob hc57 (Nat.ne_of_gt l23) h53)
   have l69 : b18 < b62 := by rw [e64]; exact lt_ob h68
   have l70 : b34 < b62 := by rw [e64]; exact lt_ob h61
   have g71 : w.heap.size ≤ b62 := by rw [e64]; exact M58.size
   have g72 : w1.heap.size ≤ b62 := by rw [e64]; exact M59.size
   have M73 := Mod.trans M58 (Mod.of_up u66)
   have M74 := Mod.trans M59 (Mod.of_up u66)
   have h75 := (ERow.up (ERow.chgm (ERow.up hF1_2 (up_chgn (up_up (up_chgn u22 c31 (by rw [e20]; exact Nat.le_refl _)) u38) c50 (by rw [e36]; exact (up_chgn u22 c31 (by rw [e20]; exact Nat.le_refl _)).size))) hc57 (ERow.ne_old (ERow.up hF1_2 (up_chgn (up_up (up_chgn u22 c31 (by rw [e20]; exact Nat.le_refl _)) u38) c50 (by rw [e36]; exact (up_chgn u22 c31 (by rw [e20]; exact Nat.le_refl _)).size))) (lt_ob h3))) u66)
   refine wl (snE rfl (L := (entsI (l.take k))) (x := (⟨y17.name, ⟨y17.node.t, y17.node.w⟩, y17.dir, (dn17 : Int)⟩ : EntD)) (by kernel_rfl) (by kernel_rfl) h75 Ty.un29 hiE hzE hsE hbE hcE h65 M74.size (by have := ents_le l k; omega) ?_)
   intro A76 n77 c78 w79 e80 h81 u82
   have M83 := Mod.trans' M73 u82 (fun k hk => Nat.le_trans M6.size (h75.own k hk).1)
   have M84 := Mod.trans' M74 u82 (fun k hk => Nat.le_trans (Nat.le_refl _) (h75.own k hk).1)
   refine was (v := .slice A76 n77 c78) ?_
   refine wnil (inb_n (then_n (rg_lit ?_)))
   refine wl (sv rfl (v := .int .i64 ((k : Int) + 1)) (r_add (k := .i64) (m := (k : Int)) (n := 1) (by kernel_rfl) (by kernel_rfl) (IntWalk.i64_in _ (by omega))) ?_)
   refine wmv (v := .int .i64 ((k : Int) + 1)) ?_
   refine wnil (then_n ?_)
   have h85 := (SMap.own (SMap.up hm57 u66) u82 (h75.ne_old (lt_ob h3)))
   refine ⟨l.length - (k + 1), ?_, (k + 1), A76, n77, c78, .pointer (some ⟨b18, 0, none⟩), .pointer (some ⟨b34, 0, none⟩), .bool b10, .pointer (some ⟨g17, 0 + k * 10, none⟩), itV y17 (.slice dA17 dn17 dc17), .pointer (some ⟨b18, 4, none⟩), .string y17.name, .pointer (some ⟨b18, 0, none⟩), .agg #[.int .i64 y17.node.t, .int .i64 y17.node.w], .pointer (some ⟨b18, 5, none⟩), .bool y17.dir, .pointer (some ⟨b18, 7, none⟩), .slice dA17 dn17 dc17, .int .i64 (dn17 : Int), .agg #[.string y17.name, .int .i64 y17.node.t, .int .i64 y17.node.w, .bool y17.dir, .int .i64 (dn17 : Int)], .map (some mp), .pointer (some ⟨b18, 4, none⟩), .string y17.name, .bool (metB (namesI (l.take k)) y17.name), z28, z29, z30, z31, z32, z33, z34, .map (some mp), .pointer (some ⟨b18, 4, none⟩), .string y17.name, .slice oA on oc, .agg #[.string y17.name, .int .i64 y17.node.t, .int .i64 y17.node.w, .bool y17.dir, .int .i64 (dn17 : Int)], .slice (some ⟨b62, 0, none⟩) 1 1, .slice A76 n77 c78, .int .i64 ((k : Int) + 1), rfl, (by kernel_rfl), M84, (by omega), (SMap.to h85 (metF_next hy17)), (ERow.to h81 (ents_not hy17 (Dat.len hD17).1 v55))⟩
   · omega
  refine wp_cond_true (ebool (b := (metB (namesI (l.take k)) y17.name)) (by kernel_rfl) v55) ?_
  refine rg_tail 7 (by kernel_rfl) (by kernel_rfl) rfl rfl ?_
  refine qv rfl (v := .pointer (some ⟨b34, 0, none⟩)) (fun _ _ => r_fieldAddr (u := .pointer (some ⟨b34, 0, none⟩)) (by kernel_rfl) (fun _ => (by kernel_rfl))) ?_
  refine qv rfl (v := .string y17.name) (fun _ uz => r_load (k := 0) (by kernel_rfl) Ty.ag9 (up_ob uz h49) (by kernel_rfl)) ?_
  refine qv rfl (v := .pointer (some ⟨b18, 0, none⟩)) (fun _ _ => r_fieldAddr (u := .pointer (some ⟨b18, 0, none⟩)) (by kernel_rfl) (fun _ => (by kernel_rfl))) ?_
  refine qv rfl (v := .agg #[.int .i64 y17.node.t, .int .i64 y17.node.w]) (fun _ uz => r_loads (k := 0) (by kernel_rfl) Ty.ag24 Ty.sz24 (up_ob uz h53) (by kernel_rfl)) ?_
  refine qc rfl (v := .string (markB ⟨y17.node.t, y17.node.w⟩)) (fun _ _ => r_callv (caps := []) (all := [.agg #[.int .i64 y17.node.t, .int .i64 y17.node.w]]) En.f36 (by kernel_rfl) (by kernel_rfl)) (fun wz uz => mark_at (TabIs.up (TabIs.up htab (Mod.up M51)) uz) y17.node.t y17.node.w (OKI.st (hOK _ (List.mem_of_getElem? hy17))).1 (OKI.st (hOK _ (List.mem_of_getElem? hy17))).2) ?_ ?_
  · rintro w1 e w2 hC ⟨rfl, hu⟩; exact ⟨rfl, up_step hC hu⟩
  refine qv rfl (v := .string (y17.name ++ (markB ⟨y17.node.t, y17.node.w⟩))) (fun _ _ => r_adds (m := y17.name) (n := (markB ⟨y17.node.t, y17.node.w⟩)) (by kernel_rfl) (by kernel_rfl) (mark_size (hOK _ (List.mem_of_getElem? hy17)))) ?_
  refine qv rfl (v := .pointer (some ⟨b34, 0, none⟩)) (fun _ _ => r_fieldAddr (u := .pointer (some ⟨b34, 0, none⟩)) (by kernel_rfl) (fun _ => (by kernel_rfl))) ?_
  refine qnil ?_
  intro w56 u57
  have M58 := Mod.trans M51 (Mod.of_up u57)
  have M59 := Mod.trans M52 (Mod.of_up u57)
  have h60 := (up_ob u57 h49)
  refine wl (ss rfl (k := 0) (v := .string (y17.name ++ (markB ⟨y17.node.t, y17.node.w⟩))) (vs := [.string (y17.name ++ (markB ⟨y17.node.t, y17.node.w⟩))]) (cs' := [.string (y17.name ++ (markB ⟨y17.node.t, y17.node.w⟩)), .int .i64 y17.node.t, .int .i64 y17.node.w, .bool y17.dir, .int .i64 (dn17 : Int)]) (by kernel_rfl) (by kernel_rfl) rfl Ty.sz9 h60 rfl (Nat.le_of_ble_eq_true rfl) rfl ?_)
  intro w61 h62 c63
  have M64 := Mod.trans' M58 c63 (fun i hi => by injection hi with hi; rw [← hi]; exact g44)
  have M65 := Mod.trans' M59 c63 (fun i hi => by injection hi with hi; rw [← hi]; exact g45)
  refine wnil (then_n (wp_seq (rg_lit ?_)))
  refine wmv (v := .map (some mp)) ?_
  refine wl (sv rfl (v := .pointer (some ⟨b18, 4, none⟩)) (r_fieldAddr (u := .pointer (some ⟨b18, 0, none⟩)) (by kernel_rfl) (fun _ => (by kernel_rfl))) ?_)
  have h66 := (chg_ob c63 (Nat.ne_of_lt l43) (up_ob u57 h53))
  refine wl (sv rfl (v := .string y17.name) (r_load (k := 4) (by kernel_rfl) Ty.ag9 h66 (by kernel_rfl)) ?_)
  have h67 := (SMap.chg (SMap.up h54 u57) c63 (Nat.ne_of_lt l40))
  have h68 := (chg_ob c63 (Nat.ne_of_lt l40) (up_ob u57 (chg_ob c50 (Nat.ne_of_lt l40) (up_ob u38 h39))))
  obtain ⟨w69, hr69, hc69, hm69⟩ := SMap.store (P := Tryz.prog) h67 Ty.un168 Ty.un9 y17.name (.bool true)
  refine wl (sk rfl (r_mapUpdate (mv := .map (some mp)) (kv := .string y17.name) (vv := .bool true) (by kernel_rfl) (by kernel_rfl) (by kernel_rfl) hr69) ?_)
  have M70 := Mod.trans' M64 hc69 (fun i hi => by injection hi with hi; rw [← hi]; exact g5)
  have M71 := Mod.trans M65 (Mod.of_chg hc69 (by simp))
  obtain ⟨ech72, cch72, h72⟩ := SMap.ob hm69
  refine wnil (then_n (rg_lit ?_))
  refine wmv (v := .slice oA on oc) ?_
  have h73 := (chg_ob hc69 (Nat.ne_of_gt l40) h62)
  refine wl (sv rfl (v := .agg #[.string (y17.name ++ (markB ⟨y17.node.t, y17.node.w⟩)), .int .i64 y17.node.t, .int .i64 y17.node.w, .bool y17.dir, .int .i64 (dn17 : Int)]) (r_loads (k := 0) (by kernel_rfl) Ty.ag35 Ty.sz35 h73 (by kernel_rfl)) ?_)
  refine wl (sn rfl (cs := #[.string (y17.name ++ (markB ⟨y17.node.t, y17.node.w⟩)), .int .i64 y17.node.t, .int .i64 y17.node.w, .bool y17.dir, .int .i64 (dn17 : Int)]) (T := 35) (V := fun b => .slice (some ⟨b, 0, none⟩) 1 1) (r_buildSlice (n := 1) (ps := [(0, .agg #[.string (y17.name ++ (markB ⟨y17.node.t, y17.node.w⟩)), .int .i64 y17.node.t, .int .i64 y17.node.w, .bool y17.dir, .int .i64 (dn17 : Int)])]) Ty.un29 Ty.sz35 Ty.zv35 (by decide) (by decide) (by kernel_rfl) (by kernel_rfl)) ?_)
  intro b74 w75 e76 h77 u78
  have l79 : mp < b74 := by rw [e76]; exact lt_ob h72
  have h80 := (chg_ob hc69 (Nat.ne_of_gt l23) h66)
  have l81 : b18 < b74 := by rw [e76]; exact lt_ob h80
  have l82 : b34 < b74 := by rw [e76]; exact lt_ob h73
  have g83 : w.heap.size ≤ b74 := by rw [e76]; exact M70.size
  have g84 : w1.heap.size ≤ b74 := by rw [e76]; exact M71.size
  have M85 := Mod.trans M70 (Mod.of_up u78)
  have M86 := Mod.trans M71 (Mod.of_up u78)
  have h87 := (ERow.up (ERow.chgm (ERow.up hF1_2 (up_chgn (up_up (up_chgn (up_up (up_chgn u22 c31 (by rw [e20]; exact Nat.le_refl _)) u38) c50 (by rw [e36]; exact (up_chgn u22 c31 (by rw [e20]; exact Nat.le_refl _)).size)) u57) c63 (by rw [e36]; exact (up_chgn u22 c31 (by rw [e20]; exact Nat.le_refl _)).size))) hc69 (ERow.ne_old (ERow.up hF1_2 (up_chgn (up_up (up_chgn (up_up (up_chgn u22 c31 (by rw [e20]; exact Nat.le_refl _)) u38) c50 (by rw [e36]; exact (up_chgn u22 c31 (by rw [e20]; exact Nat.le_refl _)).size)) u57) c63 (by rw [e36]; exact (up_chgn u22 c31 (by rw [e20]; exact Nat.le_refl _)).size))) (lt_ob h3))) u78)
  refine wl (snE rfl (L := (entsI (l.take k))) (x := (⟨(y17.name ++ (markB ⟨y17.node.t, y17.node.w⟩)), ⟨y17.node.t, y17.node.w⟩, y17.dir, (dn17 : Int)⟩ : EntD)) (by kernel_rfl) (by kernel_rfl) h87 Ty.un29 hiE hzE hsE hbE hcE h77 M86.size (by have := ents_le l k; omega) ?_)
  intro A88 n89 c90 w91 e92 h93 u94
  have M95 := Mod.trans' M85 u94 (fun k hk => Nat.le_trans M6.size (h87.own k hk).1)
  have M96 := Mod.trans' M86 u94 (fun k hk => Nat.le_trans (Nat.le_refl _) (h87.own k hk).1)
  refine was (v := .slice A88 n89 c90) ?_
  refine wnil (inb_n (then_n (rg_lit ?_)))
  refine wl (sv rfl (v := .int .i64 ((k : Int) + 1)) (r_add (k := .i64) (m := (k : Int)) (n := 1) (by kernel_rfl) (by kernel_rfl) (IntWalk.i64_in _ (by omega))) ?_)
  refine wmv (v := .int .i64 ((k : Int) + 1)) ?_
  refine wnil (then_n ?_)
  have h97 := (SMap.own (SMap.up hm69 u78) u94 (h87.ne_old (lt_ob h3)))
  refine ⟨l.length - (k + 1), ?_, (k + 1), A88, n89, c90, .pointer (some ⟨b18, 0, none⟩), .pointer (some ⟨b34, 0, none⟩), .bool b10, .pointer (some ⟨g17, 0 + k * 10, none⟩), itV y17 (.slice dA17 dn17 dc17), .pointer (some ⟨b18, 4, none⟩), .string y17.name, .pointer (some ⟨b18, 0, none⟩), .agg #[.int .i64 y17.node.t, .int .i64 y17.node.w], .pointer (some ⟨b18, 5, none⟩), .bool y17.dir, .pointer (some ⟨b18, 7, none⟩), .slice dA17 dn17 dc17, .int .i64 (dn17 : Int), .agg #[.string y17.name, .int .i64 y17.node.t, .int .i64 y17.node.w, .bool y17.dir, .int .i64 (dn17 : Int)], .map (some mp), .pointer (some ⟨b18, 4, none⟩), .string y17.name, .bool (metB (namesI (l.take k)) y17.name), .pointer (some ⟨b34, 0, none⟩), .string y17.name, .pointer (some ⟨b18, 0, none⟩), .agg #[.int .i64 y17.node.t, .int .i64 y17.node.w], .string (markB ⟨y17.node.t, y17.node.w⟩), .string (y17.name ++ (markB ⟨y17.node.t, y17.node.w⟩)), .pointer (some ⟨b34, 0, none⟩), .map (some mp), .pointer (some ⟨b18, 4, none⟩), .string y17.name, .slice oA on oc, .agg #[.string (y17.name ++ (markB ⟨y17.node.t, y17.node.w⟩)), .int .i64 y17.node.t, .int .i64 y17.node.w, .bool y17.dir, .int .i64 (dn17 : Int)], .slice (some ⟨b74, 0, none⟩) 1 1, .slice A88 n89 c90, .int .i64 ((k : Int) + 1), rfl, (by kernel_rfl), M96, (by omega), (SMap.to h97 (metF_next hy17)), (ERow.to h93 (ents_yes hy17 (Dat.len hD17).1 v55))⟩
  · omega
end Go.Proofs.YtefhfoioeoijlaaGreatDoor

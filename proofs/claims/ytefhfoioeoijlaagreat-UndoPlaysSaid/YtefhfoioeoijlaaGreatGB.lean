/- GB: printed by gen.py -/
import Derived.Test.YtefhfoioeoijlaaGreatGA
set_option linter.unusedVariables false
set_option linter.unusedSimpArgs false
namespace Go.Proofs.YtefhfoioeoijlaaGreat
open Go Go.RowKit Go.Sort
set_option maxHeartbeats 2000000 in
theorem litem_at {w : World} (x : Item) (xA : Option Addr) (xn xc : Nat) : Calls Tryz.prog 30 #[itV x (.slice xA xn xc)] w fun e w' => e = .returned (itV x (.slice xA xn xc)) ∧ Up w w' := by
  go_enter Tryz.func30, Tryz.ntmps30
  refine wp_seq (rg_lit ?_)
  refine wl (sn rfl (cs := (itC x (.slice xA xn xc)).toArray) (T := 61) (V := fun b => .pointer (some ⟨b, 0, none⟩)) (r_box (v := itV x (.slice xA xn xc)) (by kernel_rfl) rfl) ?_)
  intro b1 w2 e3 h4 u5
  have g6 : w.heap.size ≤ b1 := by rw [e3]; exact (Mod.refl [] w).size
  have M7 := Mod.trans (Mod.refl [] w) (Mod.of_up u5)
  refine wl (sn rfl (cs := #[.int .i64 0, .int .i64 0, .int .i64 0, .int .i64 0, .string (⟨#[]⟩), .bool false, .bool false, .slice none 0 0, .int .i64 0, .int .i64 0]) (T := 76) (V := fun b => .pointer (some ⟨b, 0, none⟩)) (r_alloc Ty.zv76 rfl) ?_)
  intro b8 w9 e10 h11 u12
  have l13 : b1 < b8 := by rw [e10]; exact lt_ob h4
  have g14 : w.heap.size ≤ b8 := by rw [e10]; exact M7.size
  have M15 := Mod.trans M7 (Mod.of_up u12)
  refine wnil (then_n (wp_seq (rg_lit ?_)))
  refine wl (sv rfl (v := .pointer (some ⟨b1, 0, none⟩)) (r_fieldAddr (u := .pointer (some ⟨b1, 0, none⟩)) (by kernel_rfl) (fun _ => (by kernel_rfl))) ?_)
  have h16 := (up_ob u12 h4)
  refine wl (sv rfl (v := .agg #[.int .i64 x.node.t, .int .i64 x.node.w]) (r_loads (k := 0) (by kernel_rfl) Ty.ag35 Ty.sz35 h16 (by kernel_rfl)) ?_)
  refine wl (sv rfl (v := .pointer (some ⟨b1, 2, none⟩)) (r_fieldAddr (u := .pointer (some ⟨b1, 0, none⟩)) (by kernel_rfl) (fun _ => (by kernel_rfl))) ?_)
  refine wl (sv rfl (v := .agg #[.int .i64 x.parent.t, .int .i64 x.parent.w]) (r_loads (k := 2) (by kernel_rfl) Ty.ag35 Ty.sz35 h16 (by kernel_rfl)) ?_)
  refine wl (sv rfl (v := .pointer (some ⟨b1, 4, none⟩)) (r_fieldAddr (u := .pointer (some ⟨b1, 0, none⟩)) (by kernel_rfl) (fun _ => (by kernel_rfl))) ?_)
  refine wl (sv rfl (v := .string x.name) (r_load (k := 4) (by kernel_rfl) Ty.ag9 h16 (by kernel_rfl)) ?_)
  refine wl (sv rfl (v := .pointer (some ⟨b1, 5, none⟩)) (r_fieldAddr (u := .pointer (some ⟨b1, 0, none⟩)) (by kernel_rfl) (fun _ => (by kernel_rfl))) ?_)
  refine wl (sv rfl (v := .bool x.dir) (r_load (k := 5) (by kernel_rfl) Ty.ag4 h16 (by kernel_rfl)) ?_)
  refine wl (sv rfl (v := .pointer (some ⟨b1, 6, none⟩)) (r_fieldAddr (u := .pointer (some ⟨b1, 0, none⟩)) (by kernel_rfl) (fun _ => (by kernel_rfl))) ?_)
  refine wl (sv rfl (v := .bool x.gone) (r_load (k := 6) (by kernel_rfl) Ty.ag4 h16 (by kernel_rfl)) ?_)
  refine wl (sv rfl (v := .pointer (some ⟨b1, 7, none⟩)) (r_fieldAddr (u := .pointer (some ⟨b1, 0, none⟩)) (by kernel_rfl) (fun _ => (by kernel_rfl))) ?_)
  refine wl (sv rfl (v := .slice xA xn xc) (r_load (k := 7) (by kernel_rfl) Ty.ag36 h16 (by kernel_rfl)) ?_)
  refine wl (sv rfl (v := .pointer (some ⟨b1, 8, none⟩)) (r_fieldAddr (u := .pointer (some ⟨b1, 0, none⟩)) (by kernel_rfl) (fun _ => (by kernel_rfl))) ?_)
  refine wl (sv rfl (v := .agg #[.int .i64 x.by_.t, .int .i64 x.by_.w]) (r_loads (k := 8) (by kernel_rfl) Ty.ag35 Ty.sz35 h16 (by kernel_rfl)) ?_)
  refine wl (sv rfl (v := itV x (.slice xA xn xc)) (r_build (ps := [(0, .agg #[.int .i64 x.node.t, .int .i64 x.node.w]), (1, .agg #[.int .i64 x.parent.t, .int .i64 x.parent.w]), (2, .string x.name), (3, .bool x.dir), (4, .bool x.gone), (5, .slice xA xn xc), (6, .agg #[.int .i64 x.by_.t, .int .i64 x.by_.w])]) (cs := (itC x (.slice xA xn xc))) Ty.un76 Ty.zv76 Ty.pl76 (by kernel_rfl) (by kernel_rfl)) ?_)
  refine wl (ss rfl (k := 0) (v := itV x (.slice xA xn xc)) (vs := (itC x (.slice xA xn xc))) (cs' := (itC x (.slice xA xn xc))) (by kernel_rfl) (by kernel_rfl) rfl Ty.sz76 h11 rfl (Nat.le_of_ble_eq_true rfl) rfl ?_)
  intro w17 h18 c19
  have M20 := Mod.trans' M15 c19 (fun i hi => by injection hi with hi; rw [← hi]; exact g14)
  refine wnil (then_n (wp_ret ?_))
  refine bodyPost_ret (v := itV x (.slice xA xn xc)) (res1 rfl (rv_c (p := ⟨b8, 0, none⟩) (by kernel_rfl) (run_loadVars (vs := (itC x (.slice xA xn xc))) Ty.ag76 Ty.sz76 h18 (by kernel_rfl)))) (by kernel_rfl) ?_
  exact ⟨rfl, (Mod.up M20)⟩
set_option maxHeartbeats 2000000 in
theorem litems_sl {B base : Nat} {w : World} {lA : Option Addr} {lc : Nat} {L : List Item} (hl : IRow 61 B base w (.slice lA L.length lc) L) (hB : B ≤ w.heap.size) (hL : L.length ≤ 1000) :
    Calls Tryz.prog 14 #[.slice lA L.length lc] w fun e w' => ∃ v, e = .returned v ∧ IRow 76 B w.heap.size w' v L ∧ Up w w' := by
  obtain ⟨ii_r, iz_r, hi_r, hz_r, hs_r, hb_r, hc_r⟩ := info_ritem
  go_enter Tryz.func14, Tryz.ntmps14
  refine wp_seq (rg_lit ?_)
  refine was (v := .slice none 0 0) ?_
  refine wnil (then_n (wp_seq (rg_lit ?_)))
  refine was (v := .slice none 0 0) ?_
  refine wnil (then_n (wp_seq (wp_seq (rg_lit ?_))))
  refine was (v := .int .i64 0) ?_
  refine wnil (then_n (wp_block ?_))
  refine lp (fun n a r1 => ∃ (k : Nat) (oA : Option Addr) (on : Nat) (oc : Nat) (z5 z6 z7 z8 z9 z10 z11 z12 z13 z14 z15 z16 z17 z18 : Value), (n = L.length - k) ∧ (a = ⟨#[.slice lA L.length lc, undef, .slice none 0 0, .slice oA on oc, .int .i64 ((k : Int)), z5, z6, z7, z8, z9, z10, z11, z12, z13, z14, z15, z16, z17, z18, undef], []⟩) ∧ (Mod [] w r1) ∧ (k ≤ L.length) ∧ (IRow 76 B w.heap.size r1 (.slice oA on oc) (L.take k))) ⟨_, 0, none, 0, 0, undef, undef, undef, undef, undef, undef, undef, undef, undef, undef, undef, undef, undef, undef, rfl, (by kernel_rfl), Mod.refl _ _, Nat.zero_le _, IRow.nil _ _ _ _⟩ ?_
  rintro _ _ r1 ⟨k, oA, on, oc, z5, z6, z7, z8, z9, z10, z11, z12, z13, z14, z15, z16, z17, z18, rfl, rfl, hM1, hF1_0, hF1_1⟩
  have M1 := Mod.thin (Mod.refl [] w) hM1 (by simp)
  refine wp_seq (wp_seq (rg_lit ?_))
  refine wmv (v := .int .i64 ((k : Int))) ?_
  refine wmv (v := .slice lA L.length lc) ?_
  refine wl (sv rfl (v := .int .i64 ((L.length : Int))) (r_len Ty.un49 (ad := lA) (n := L.length) (c := lc) (by kernel_rfl)) ?_)
  refine wl (sb rfl (r_lt (k := .i64) (m := ((k : Int))) (n := ((L.length : Int))) (by kernel_rfl) (by kernel_rfl)) ?_)
  intro b2 k3
  refine wnil (then_n ?_)
  refine bcase b2 (fun v4 => ?_) (fun v4 => ?_)
  ·
   have p5 := of_decide_eq_false (k3.trans v4)
   refine wp_cond_false (ebool (b := b2) (by kernel_rfl) v4) ?_
   refine wp_exit (then_x (by nofun) (then_x (by nofun) (inb_hit (then_n (wp_seq (rg_lit ?_))))))
   refine wmv (v := .slice oA on oc) ?_
   refine was (v := .slice oA on oc) ?_
   refine wnil (then_n (wp_ret ?_))
   refine bodyPost_ret (v := .slice oA on oc) (res1 rfl (rv_t (by kernel_rfl))) (by kernel_rfl) ?_
   refine ⟨_, rfl, ?_, (Mod.up M1)⟩
   have hk : L.take k = L := List.take_of_length_le (by omega)
   rw [hk] at hF1_1; exact hF1_1
  have p5 := of_decide_eq_true (k3.trans v4)
  have q6 : k < L.length := by omega
  have q7 : k < L.length := by omega
  refine wp_cond_true (ebool (b := b2) (by kernel_rfl) v4) ?_
  refine wp_skip (then_n (wp_seq (wp_block (rg_lit ?_))))
  refine wmv (v := .slice oA on oc) ?_
  refine wmv (v := .slice lA L.length lc) ?_
  refine wmv (v := .int .i64 ((k : Int))) ?_
  have h8 := (IRow.up hl (Mod.up M1))
  obtain ⟨y9, hy9⟩ : ∃ x, L[k]? = some x := ⟨_, List.getElem?_eq_getElem q7⟩
  obtain ⟨g9, cp9, cu9, dA9, dn9, dc9, hA9, hg9, hb9, he9, hD9⟩ := h8.get hy9
  injection hA9 with hA9 _ _
  replace he9 : (cu9.toList.drop (0 + k * 10)).take 10 = (itC y9 (.slice dA9 dn9 dc9)) := by rw [Nat.zero_add]; exact he9
  refine wl (sv rfl (v := .pointer (some ⟨g9, 0 + k * 10, none⟩)) (r_ixaddr' (A := lA) (b := g9) (o := 0) (n := L.length) (c := lc) (sz := 10) (j := (k : Int)) (by kernel_rfl) hA9 (by kernel_rfl) Ty.un49 Ty.sz61 (by omega) (by omega) (by simp)) ?_)
  refine wl (sv rfl (v := itV y9 (.slice dA9 dn9 dc9)) (r_loads (k := 0 + k * 10) (by kernel_rfl) Ty.ag61 Ty.sz61 hb9 (el_sub0 he9 rfl)) ?_)
  refine wl (sc rfl (r_callv (caps := []) (all := [itV y9 (.slice dA9 dn9 dc9)]) En.f30 (by kernel_rfl) (by kernel_rfl)) (litem_at y9 dA9 dn9 dc9) ?_)
  rintro e w10 ⟨rfl, u11⟩
  refine ⟨itV y9 (.slice dA9 dn9 dc9), rfl, ?_⟩
  have M12 := Mod.trans M1 (Mod.of_up u11)
  have M13 := Mod.trans hM1 (Mod.of_up u11)
  refine wl (sn rfl (cs := (itC y9 (.slice dA9 dn9 dc9)).toArray) (T := 76) (V := fun b => .slice (some ⟨b, 0, none⟩) 1 1) (r_buildSlice (n := 1) (ps := [(0, itV y9 (.slice dA9 dn9 dc9))]) Ty.un47 Ty.sz76 Ty.zv76 (by decide) (by decide) (by kernel_rfl) (by kernel_rfl)) ?_)
  intro b14 w15 e16 h17 u18
  have h19 := (up_ob u11 hb9)
  have l20 : g9 < b14 := by rw [e16]; exact lt_ob h19
  have g21 : w.heap.size ≤ b14 := by rw [e16]; exact M12.size
  have g22 : w.heap.size ≤ b14 := by rw [e16]; exact M13.size
  have M23 := Mod.trans M12 (Mod.of_up u18)
  have M24 := Mod.trans M13 (Mod.of_up u18)
  have h25 := (IRow.up (IRow.up hF1_1 u11) u18)
  have h26 := (Dat.up (Dat.up hD9 u11) u18)
  refine wl (snI rfl (L := (L.take k)) (x := y9) (e := .slice dA9 dn9 dc9) (by kernel_rfl) (by kernel_rfl) h25 Ty.un47 hi_r hz_r hs_r hb_r hc_r h17 h26 (by decide) (Nat.le_trans hB (Mod.refl [] w).size) M24.size (by simp; omega) ?_)
  intro A27 n28 c29 w30 e31 h32 u33
  have M34 := Mod.trans' M23 u33 (fun k hk => Nat.le_trans (Mod.refl [] w).size (h25.own k hk).1)
  have M35 := Mod.trans' M24 u33 (fun k hk => Nat.le_trans (Nat.le_refl _) (h25.own k hk).1)
  refine was (v := .slice A27 n28 c29) ?_
  refine wnil (inb_n (then_n (rg_lit ?_)))
  refine wmv (v := .int .i64 ((k : Int))) ?_
  refine wl (sv rfl (v := .int .i64 (((k : Int)) + 1)) (r_add (k := .i64) (m := ((k : Int))) (n := 1) (by kernel_rfl) (by kernel_rfl) (IntWalk.i64_in _ (by omega))) ?_)
  refine was (v := .int .i64 (((k : Int)) + 1)) ?_
  refine wnil (then_n ?_)
  refine ⟨L.length - (k + 1), ?_, (k + 1), A27, n28, c29, .int .i64 ((k : Int)), .slice lA L.length lc, .int .i64 ((L.length : Int)), .bool b2, .int .i64 ((k : Int)), .int .i64 (((k : Int)) + 1), .slice oA on oc, .slice lA L.length lc, .int .i64 ((k : Int)), .pointer (some ⟨g9, 0 + k * 10, none⟩), itV y9 (.slice dA9 dn9 dc9), itV y9 (.slice dA9 dn9 dc9), .slice (some ⟨b14, 0, none⟩) 1 1, .slice A27 n28 c29, rfl, (by kernel_rfl), M35, (by omega), (by rw [tk hy9]; exact h32)⟩
  · omega
theorem litems_at {B base : Nat} {w : World} {v : Value} {L : List Item} (hl : IRow 61 B base w v L) (hB : B ≤ w.heap.size) (hL : L.length ≤ 1000) :
    Calls Tryz.prog 14 #[v] w fun e w' => ∃ v, e = .returned v ∧ IRow 76 B w.heap.size w' v L ∧ Up w w' := by
  obtain ⟨A, c, rfl⟩ := hl.form
  exact litems_sl hl hB hL
theorem take_next {L M : List Item} {k : Nat} {x y : Item} (h : Hid (L.take k = M.take k)) (hx : L[k]? = some x) (hy : M[k]? = some y) (e : decide (x = y) = true) : Hid (L.take (k + 1) = M.take (k + 1)) := by
  show L.take (k + 1) = M.take (k + 1)
  rw [tk hx, tk hy, h.out, of_decide_eq_true e]
set_option maxHeartbeats 2000000 in
theorem rsame_sl {B B' base base' : Nat} {w : World} {lA mA : Option Addr} {lc mc : Nat} {L M : List Item} (hl : IRow 76 B base w (.slice lA L.length lc) L) (hm : IRow 76 B' base' w (.slice mA M.length mc) M) (hL : L.length ≤ 1000) :
    Calls Tryz.prog 13 #[.slice lA L.length lc, .slice mA M.length mc] w fun e w' => e = .returned (.bool (decide (L = M))) ∧ Up w w' := by
  go_enter Tryz.func13, Tryz.ntmps13
  refine wp_seq (rg_lit ?_)
  refine was (v := .bool false) ?_
  refine wnil (then_n (wp_seq (wp_seq (rg_lit ?_))))
  refine wmv (v := .slice lA L.length lc) ?_
  refine wl (sv rfl (v := .int .i64 ((L.length : Int))) (r_len Ty.un47 (ad := lA) (n := L.length) (c := lc) (by kernel_rfl)) ?_)
  refine wmv (v := .slice mA M.length mc) ?_
  refine wl (sv rfl (v := .int .i64 ((M.length : Int))) (r_len Ty.un47 (ad := mA) (n := M.length) (c := mc) (by kernel_rfl)) ?_)
  refine wl (sb rfl (r_ne (k := .i64) (m := ((L.length : Int))) (n := ((M.length : Int))) (by kernel_rfl) (by kernel_rfl)) ?_)
  intro b1 k2
  refine wnil (then_n ?_)
  refine bcase b1 (fun v3 => ?_) (fun v3 => ?_)
  ·
   have p4 := of_decide_eq_false (k2.trans v3)
   refine wp_cond_false (ebool (b := b1) (by kernel_rfl) v3) ?_
   refine wp_skip (then_n (wp_seq (wp_seq (rg_lit ?_))))
   refine was (v := .int .i64 0) ?_
   refine wnil (then_n (wp_block ?_))
   refine lp (fun n a r1 => ∃ (k : Nat) (z4 z11 z12 z13 z14 z15 z16 z17 z18 z19 z20 z21 z22 z23 z24 z25 z26 : Value), (n = L.length - k) ∧ (a = ⟨#[.slice lA L.length lc, .slice mA M.length mc, undef, undef, z4, .int .i64 ((k : Int)), .slice lA L.length lc, .int .i64 ((L.length : Int)), .slice mA M.length mc, .int .i64 ((M.length : Int)), .bool b1, z11, z12, z13, z14, z15, z16, z17, z18, z19, z20, z21, z22, z23, z24, z25, z26], []⟩) ∧ (Mod [] w r1) ∧ (k ≤ L.length) ∧ (Hid (L.take k = M.take k))) ⟨_, 0, .bool false, undef, undef, undef, undef, undef, undef, undef, undef, undef, undef, undef, undef, undef, undef, undef, undef, rfl, (by kernel_rfl), Mod.refl _ _, Nat.zero_le _, rfl⟩ ?_
   rintro _ _ r1 ⟨k, z4, z11, z12, z13, z14, z15, z16, z17, z18, z19, z20, z21, z22, z23, z24, z25, z26, rfl, rfl, hM1, hF1_0, hF1_1⟩
   have M5 := Mod.thin (Mod.refl [] w) hM1 (by simp)
   refine wp_seq (wp_seq (rg_lit ?_))
   refine wmv (v := .int .i64 ((k : Int))) ?_
   refine wmv (v := .slice lA L.length lc) ?_
   refine wl (sv rfl (v := .int .i64 ((L.length : Int))) (r_len Ty.un47 (ad := lA) (n := L.length) (c := lc) (by kernel_rfl)) ?_)
   refine wl (sb rfl (r_lt (k := .i64) (m := ((k : Int))) (n := ((L.length : Int))) (by kernel_rfl) (by kernel_rfl)) ?_)
   intro b6 k7
   refine wnil (then_n ?_)
   refine bcase b6 (fun v8 => ?_) (fun v8 => ?_)
   ·
    have p9 := of_decide_eq_false (k7.trans v8)
    refine wp_cond_false (ebool (b := b6) (by kernel_rfl) v8) ?_
    refine wp_exit (then_x (by nofun) (then_x (by nofun) (inb_hit (then_n (wp_seq (rg_lit ?_))))))
    refine was (v := .bool true) ?_
    refine wnil (then_n (wp_ret ?_))
    refine bodyPost_ret (v := .bool true) (res1 rfl (rv_t (by kernel_rfl))) (by kernel_rfl) ?_
    refine ⟨ret_bool (decide_eq_true ?_).symm, (Mod.up M5)⟩
    have h := hF1_1.out; rwa [List.take_of_length_le (by omega), List.take_of_length_le (by omega)] at h
   have p9 := of_decide_eq_true (k7.trans v8)
   have q10 : k < L.length := by omega
   have q11 : k < L.length := by omega
   have q12 : k < M.length := by omega
   refine wp_cond_true (ebool (b := b6) (by kernel_rfl) v8) ?_
   refine wp_skip (then_n (wp_seq (wp_block (wp_seq ?_))))
   refine rg_all (by kernel_rfl) (by kernel_rfl) ?_
   refine qmv (v := .slice lA L.length lc) ?_
   refine qmv (v := .int .i64 ((k : Int))) ?_
   have h13 := (IRow.up hl (Mod.up M5))
   obtain ⟨y14, hy14⟩ : ∃ x, L[k]? = some x := ⟨_, List.getElem?_eq_getElem q11⟩
   obtain ⟨g14, cp14, cu14, dA14, dn14, dc14, hA14, hg14, hb14, he14, hD14⟩ := h13.get hy14
   injection hA14 with hA14 _ _
   replace he14 : (cu14.toList.drop (0 + k * 10)).take 10 = (itC y14 (.slice dA14 dn14 dc14)) := by rw [Nat.zero_add]; exact he14
   refine qv rfl (v := .pointer (some ⟨g14, 0 + k * 10, none⟩)) (fun _ _ => r_ixaddr' (A := lA) (b := g14) (o := 0) (n := L.length) (c := lc) (sz := 10) (j := (k : Int)) (by kernel_rfl) hA14 (by kernel_rfl) Ty.un47 Ty.sz76 (by omega) (by omega) (by simp)) ?_
   refine qv rfl (v := itV y14 (.slice dA14 dn14 dc14)) (fun _ uz => r_loads (k := 0 + k * 10) (by kernel_rfl) Ty.ag76 Ty.sz76 (up_ob uz hb14) (el_sub0 he14 rfl)) ?_
   refine qmv (v := .slice mA M.length mc) ?_
   refine qmv (v := .int .i64 ((k : Int))) ?_
   have h15 := (IRow.up hm (Mod.up M5))
   obtain ⟨y16, hy16⟩ : ∃ x, M[k]? = some x := ⟨_, List.getElem?_eq_getElem q12⟩
   obtain ⟨g16, cp16, cu16, dA16, dn16, dc16, hA16, hg16, hb16, he16, hD16⟩ := h15.get hy16
   injection hA16 with hA16 _ _
   replace he16 : (cu16.toList.drop (0 + k * 10)).take 10 = (itC y16 (.slice dA16 dn16 dc16)) := by rw [Nat.zero_add]; exact he16
   refine qv rfl (v := .pointer (some ⟨g16, 0 + k * 10, none⟩)) (fun _ _ => r_ixaddr' (A := mA) (b := g16) (o := 0) (n := M.length) (c := mc) (sz := 10) (j := (k : Int)) (by kernel_rfl) hA16 (by kernel_rfl) Ty.un47 Ty.sz76 (by omega) (by omega) (by simp)) ?_
   refine qv rfl (v := itV y16 (.slice dA16 dn16 dc16)) (fun _ uz => r_loads (k := 0 + k * 10) (by kernel_rfl) Ty.ag76 Ty.sz76 (up_ob uz hb16) (el_sub0 he16 rfl)) ?_
   refine qc rfl (v := .bool ((decide (y14 = y16)))) (fun _ _ => r_callv (caps := []) (all := [itV y14 (.slice dA14 dn14 dc14), itV y16 (.slice dA16 dn16 dc16)]) En.f29 (by kernel_rfl) (by kernel_rfl)) (fun wz uz => rsameItem_at y14 y16 dA14 dn14 dc14 dA16 dn16 dc16 (Dat.up hD14 uz) (Dat.up hD16 uz)) ?_ ?_
   · rintro w1 e w2 hC ⟨rfl, hu⟩; exact ⟨rfl, up_step hC hu⟩
   refine qv rfl (v := .bool (!((decide (y14 = y16))))) (fun _ _ => r_not (b := ((decide (y14 = y16)))) (by kernel_rfl)) ?_
   refine qnil ?_
   intro w17 u18
   have M19 := Mod.trans M5 (Mod.of_up u18)
   have M20 := Mod.trans hM1 (Mod.of_up u18)
   refine then_n ?_
   refine bcase ((decide (y14 = y16))) (fun v21 => ?_) (fun v21 => ?_)
   ·
    refine wp_cond_true (ebool (b := !((decide (y14 = y16)))) (by kernel_rfl) (bneg v21)) ?_
    refine wp_seq (rg_lit ?_)
    refine was (v := .bool false) ?_
    refine wnil (then_n (wp_ret (inb_r (then_x (by nofun) (then_x (by nofun) (inb_r (then_x (by nofun) ?_)))))))
    refine bodyPost_ret (v := .bool false) (res1 rfl (rv_t (by kernel_rfl))) (by kernel_rfl) ?_
    refine ⟨ret_bool (decide_eq_false ?_).symm, (Mod.up M19)⟩
    intro e; rw [e, hy16] at hy14; injection hy14 with hh; have := of_decide_eq_false v21; exact this hh.symm
   refine wp_cond_false (ebool (b := !((decide (y14 = y16)))) (by kernel_rfl) (bneg v21)) ?_
   refine wp_skip (inb_n (then_n (rg_lit ?_)))
   refine wmv (v := .int .i64 ((k : Int))) ?_
   refine wl (sv rfl (v := .int .i64 (((k : Int)) + 1)) (r_add (k := .i64) (m := ((k : Int))) (n := 1) (by kernel_rfl) (by kernel_rfl) (IntWalk.i64_in _ (by omega))) ?_)
   refine was (v := .int .i64 (((k : Int)) + 1)) ?_
   refine wnil (then_n ?_)
   refine ⟨L.length - (k + 1), ?_, (k + 1), z4, .int .i64 ((k : Int)), .slice lA L.length lc, .int .i64 ((L.length : Int)), .bool b6, .int .i64 ((k : Int)), .int .i64 (((k : Int)) + 1), .slice lA L.length lc, .int .i64 ((k : Int)), .pointer (some ⟨g14, 0 + k * 10, none⟩), itV y14 (.slice dA14 dn14 dc14), .slice mA M.length mc, .int .i64 ((k : Int)), .pointer (some ⟨g16, 0 + k * 10, none⟩), itV y16 (.slice dA16 dn16 dc16), .bool ((decide (y14 = y16))), .bool (!((decide (y14 = y16)))), rfl, (by kernel_rfl), M20, (by omega), (take_next hF1_1 hy14 hy16 v21)⟩
   · omega
  have p4 := of_decide_eq_true (k2.trans v3)
  refine wp_cond_true (ebool (b := b1) (by kernel_rfl) v3) ?_
  refine wp_seq (rg_lit ?_)
  refine was (v := .bool false) ?_
  refine wnil (then_n (wp_ret (then_x (by nofun) ?_)))
  refine bodyPost_ret (v := .bool false) (res1 rfl (rv_t (by kernel_rfl))) (by kernel_rfl) ?_
  refine ⟨ret_bool (decide_eq_false ?_).symm, (Mod.up (Mod.refl [] w))⟩
  intro e; have := congrArg List.length e; omega
theorem rsame_at {B B' base base' : Nat} {w : World} {v u : Value} {L M : List Item} (hl : IRow 76 B base w v L) (hm : IRow 76 B' base' w u M) (hL : L.length ≤ 1000) :
    Calls Tryz.prog 13 #[v, u] w fun e w' => e = .returned (.bool (decide (L = M))) ∧ Up w w' := by
  obtain ⟨A, c, rfl⟩ := hl.form
  obtain ⟨A', c', rfl⟩ := hm.form
  exact rsame_sl hl hm hL
end Go.Proofs.YtefhfoioeoijlaaGreat

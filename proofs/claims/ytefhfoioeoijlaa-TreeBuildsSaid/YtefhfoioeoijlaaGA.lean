/- GA: printed by gen.py -/
import Derived.Test.YtefhfoioeoijlaaIRow
set_option linter.unusedVariables false
set_option linter.unusedSimpArgs false
namespace Go.Proofs.Ytefhfoioeoijlaa
open Go Go.RowKit Go.Sort
theorem same_all {xs ys : List Int} (hl : xs.length = ys.length) (h : ∀ i, i < xs.length → xs.getD i 0 = ys.getD i 0) : xs = ys := by
  apply List.ext_getElem hl
  intro i h1 h2
  have := h i h1
  simpa [List.getD_eq_getElem?_getD, List.getElem?_eq_getElem h1, List.getElem?_eq_getElem h2] using this
theorem same_next {xs ys : List Int} {k : Nat} (h : Hid (∀ i, i < k → xs.getD i 0 = ys.getD i 0)) (e : ¬ xs.getD k 0 ≠ ys.getD k 0) : Hid (∀ i, i < k + 1 → xs.getD i 0 = ys.getD i 0) := fun i hi => by
  rcases Nat.lt_or_ge i k with h1 | h1
  · exact h.out i h1
  · obtain rfl : i = k := by omega
    exact Decidable.not_not.1 e
set_option maxHeartbeats 2000000 in
theorem r01same_sl {B B' : Nat} {w : World} {xA yA : Option Addr} {xn xc yn yc : Nat} {xs ys : List Int} (hx : Dat B w (.slice xA xn xc) xs) (hy : Dat B' w (.slice yA yn yc) ys) : Calls Try.prog 60 #[.slice xA xn xc, .slice yA yn yc] w fun r w' => r = .returned (.bool (decide (xs = ys))) ∧ Up w w' := by
  have hxl := hx.len
  have hyl := hy.len
  obtain ⟨hxl, hxm⟩ := hxl
  obtain ⟨hyl, hym⟩ := hyl
  go_enter Try.func60, Try.ntmps60
  refine wp_seq (rg_lit ?_)
  refine was (v := .bool false) ?_
  refine wnil (then_n (wp_seq (wp_seq (rg_lit ?_))))
  refine wmv (v := .slice xA xn xc) ?_
  refine wl (sv rfl (v := .int .i64 ((xn : Int))) (r_len Ty.un33 (ad := xA) (n := xn) (c := xc) (by kernel_rfl)) ?_)
  refine wmv (v := .slice yA yn yc) ?_
  refine wl (sv rfl (v := .int .i64 ((yn : Int))) (r_len Ty.un33 (ad := yA) (n := yn) (c := yc) (by kernel_rfl)) ?_)
  refine wl (sb rfl (r_ne (k := .i64) (m := ((xn : Int))) (n := ((yn : Int))) (by kernel_rfl) (by kernel_rfl)) ?_)
  intro b1 k2
  refine wnil (then_n ?_)
  refine bcase b1 (fun v3 => ?_) (fun v3 => ?_)
  · have p4 := of_decide_eq_false (k2.trans v3)
    refine wp_cond_false (ebool (b := b1) (by kernel_rfl) v3) ?_
    refine wp_skip (then_n (wp_seq (wp_seq (rg_lit ?_))))
    refine was (v := .int .i64 0) ?_
    refine wnil (then_n (wp_block ?_))
    refine lp (fun n a r1 => ∃ (k : Nat) (z4 z11 z12 z13 z14 z15 z16 z17 z18 z19 z20 z21 z22 z23 z24 z25 : Value), (n = xn - k) ∧ (a = ⟨#[.slice xA xn xc, .slice yA yn yc, undef, undef, z4, .int .i64 ((k : Int)), .slice xA xn xc, .int .i64 ((xn : Int)), .slice yA yn yc, .int .i64 ((yn : Int)), .bool b1, z11, z12, z13, z14, z15, z16, z17, z18, z19, z20, z21, z22, z23, z24, z25], []⟩) ∧ (Mod [] w r1) ∧ (k ≤ xn) ∧ (Hid (∀ i, i < k → xs.getD i 0 = ys.getD i 0))) ⟨_, 0, .bool false, undef, undef, undef, undef, undef, undef, undef, undef, undef, undef, undef, undef, undef, undef, undef, rfl, (by kernel_rfl), Mod.refl _ _, Nat.zero_le _, (fun i hi => absurd hi (Nat.not_lt_zero _))⟩ ?_
    rintro _ _ r1 ⟨k, z4, z11, z12, z13, z14, z15, z16, z17, z18, z19, z20, z21, z22, z23, z24, z25, rfl, rfl, hM1, hF1_0, hF1_1⟩
    have M5 := Mod.thin (Mod.refl [] w) hM1 (by simp)
    refine wp_seq (wp_seq (rg_lit ?_))
    refine wmv (v := .int .i64 ((k : Int))) ?_
    refine wmv (v := .slice xA xn xc) ?_
    refine wl (sv rfl (v := .int .i64 ((xn : Int))) (r_len Ty.un33 (ad := xA) (n := xn) (c := xc) (by kernel_rfl)) ?_)
    refine wl (sb rfl (r_lt (k := .i64) (m := ((k : Int))) (n := ((xn : Int))) (by kernel_rfl) (by kernel_rfl)) ?_)
    intro b6 k7
    refine wnil (then_n ?_)
    refine bcase b6 (fun v8 => ?_) (fun v8 => ?_)
    · have p9 := of_decide_eq_false (k7.trans v8)
      refine wp_cond_false (ebool (b := b6) (by kernel_rfl) v8) ?_
      refine wp_exit (then_x (by nofun) (then_x (by nofun) (inb_hit (then_n (wp_seq (rg_lit ?_))))))
      refine was (v := .bool true) ?_
      refine wnil (then_n (wp_ret ?_))
      refine bodyPost_ret (v := .bool true) (res1 rfl (rv_t (by kernel_rfl))) (by kernel_rfl) ?_
      refine ⟨ret_bool (decide_eq_true ?_).symm, (Mod.up M5)⟩
      exact same_all (by omega) (fun i hi => hF1_1.out i (by omega))
    have p9 := of_decide_eq_true (k7.trans v8)
    have q10 : k < xn := by omega
    have q11 : k < xn := by omega
    have q12 : k < yn := by omega
    refine wp_cond_true (ebool (b := b6) (by kernel_rfl) v8) ?_
    refine wp_skip (then_n (wp_seq (wp_block (wp_seq ?_))))
    refine rg_all (by kernel_rfl) (by kernel_rfl) ?_
    refine qmv (v := .slice xA xn xc) ?_
    refine qmv (v := .int .i64 ((k : Int))) ?_
    have h13 := (Dat.up hx (Mod.up M5))
    obtain ⟨g14, o14, hA14, hl14, hc14⟩ := Dat.get h13 (i := k) q11
    refine qv rfl (v := .pointer (some ⟨g14, o14 + k, none⟩)) (fun _ _ => r_ixaddr' (A := xA) (b := g14) (o := o14) (n := xn) (c := xc) (sz := 1) (j := (k : Int)) (by kernel_rfl) hA14 (by kernel_rfl) Ty.un33 Ty.sz5 (by omega) (by omega) (by simp)) ?_
    refine qv rfl (v := .int .u8 (xs.getD k 0)) (fun _ uz => r_loadc (by kernel_rfl) Ty.ag5 ((uz.cell (p := ⟨g14, o14 + k, none⟩) hl14).trans hc14)) ?_
    refine qmv (v := .slice yA yn yc) ?_
    refine qmv (v := .int .i64 ((k : Int))) ?_
    have h15 := (Dat.up hy (Mod.up M5))
    obtain ⟨g16, o16, hA16, hl16, hc16⟩ := Dat.get h15 (i := k) q12
    refine qv rfl (v := .pointer (some ⟨g16, o16 + k, none⟩)) (fun _ _ => r_ixaddr' (A := yA) (b := g16) (o := o16) (n := yn) (c := yc) (sz := 1) (j := (k : Int)) (by kernel_rfl) hA16 (by kernel_rfl) Ty.un33 Ty.sz5 (by omega) (by omega) (by simp)) ?_
    refine qv rfl (v := .int .u8 (ys.getD k 0)) (fun _ uz => r_loadc (by kernel_rfl) Ty.ag5 ((uz.cell (p := ⟨g16, o16 + k, none⟩) hl16).trans hc16)) ?_
    refine qb rfl (fun _ _ => r_ne (k := .u8) (m := (xs.getD k 0)) (n := (ys.getD k 0)) (by kernel_rfl) (by kernel_rfl)) ?_
    intro b17 k18
    refine qnil ?_
    intro w19 u20
    have M21 := Mod.trans M5 (Mod.of_up u20)
    have M22 := Mod.trans hM1 (Mod.of_up u20)
    refine then_n ?_
    refine bcase b17 (fun v23 => ?_) (fun v23 => ?_)
    · have p24 := of_decide_eq_false (k18.trans v23)
      refine wp_cond_false (ebool (b := b17) (by kernel_rfl) v23) ?_
      refine wp_skip (inb_n (then_n (rg_lit ?_)))
      refine wmv (v := .int .i64 ((k : Int))) ?_
      refine wl (sv rfl (v := .int .i64 (((k : Int)) + 1)) (r_add (k := .i64) (m := ((k : Int))) (n := 1) (by kernel_rfl) (by kernel_rfl) (IntWalk.i64_in _ (by omega))) ?_)
      refine was (v := .int .i64 (((k : Int)) + 1)) ?_
      refine wnil (then_n ?_)
      refine ⟨xn - (k + 1), ?_, (k + 1), z4, .int .i64 ((k : Int)), .slice xA xn xc, .int .i64 ((xn : Int)), .bool b6, .int .i64 ((k : Int)), .int .i64 (((k : Int)) + 1), .slice xA xn xc, .int .i64 ((k : Int)), .pointer (some ⟨g14, o14 + k, none⟩), .int .u8 (xs.getD k 0), .slice yA yn yc, .int .i64 ((k : Int)), .pointer (some ⟨g16, o16 + k, none⟩), .int .u8 (ys.getD k 0), .bool b17, rfl, (by kernel_rfl), M22, (by omega), (same_next hF1_1 p24)⟩
      · omega
    have p24 := of_decide_eq_true (k18.trans v23)
    refine wp_cond_true (ebool (b := b17) (by kernel_rfl) v23) ?_
    refine wp_seq (rg_lit ?_)
    refine was (v := .bool false) ?_
    refine wnil (then_n (wp_ret (inb_r (then_x (by nofun) (then_x (by nofun) (inb_r (then_x (by nofun) ?_)))))))
    refine bodyPost_ret (v := .bool false) (res1 rfl (rv_t (by kernel_rfl))) (by kernel_rfl) ?_
    refine ⟨ret_bool (decide_eq_false ?_).symm, (Mod.up M21)⟩
    intro e; rw [e] at p24; exact p24 rfl
  have p4 := of_decide_eq_true (k2.trans v3)
  refine wp_cond_true (ebool (b := b1) (by kernel_rfl) v3) ?_
  refine wp_seq (rg_lit ?_)
  refine was (v := .bool false) ?_
  refine wnil (then_n (wp_ret (then_x (by nofun) ?_)))
  refine bodyPost_ret (v := .bool false) (res1 rfl (rv_t (by kernel_rfl))) (by kernel_rfl) ?_
  refine ⟨ret_bool (decide_eq_false ?_).symm, (Mod.up (Mod.refl [] w))⟩
  intro e; have := congrArg List.length e; omega
theorem r01same_at {B B' : Nat} {w : World} {d e : Value} {xs ys : List Int} (hx : Dat B w d xs) (hy : Dat B' w e ys) : Calls Try.prog 60 #[d, e] w fun r w' => r = .returned (.bool (decide (xs = ys))) ∧ Up w w' := by
  obtain ⟨A, n, c, rfl⟩ := hx.form
  obtain ⟨A', n', c', rfl⟩ := hy.form
  exact r01same_sl hx hy
set_option maxHeartbeats 2000000 in
theorem rsameItem_at {B B' : Nat} {w : World} (x y : Item) (xA : Option Addr) (xn xc : Nat) (yA : Option Addr) (yn yc : Nat) (hx : Dat B w (.slice xA xn xc) x.data) (hy : Dat B' w (.slice yA yn yc) y.data) :
    Calls Try.prog 17 #[itV x (.slice xA xn xc), itV y (.slice yA yn yc)] w fun e w' => e = .returned (.bool (decide (x = y))) ∧ Up w w' := by
  go_enter Try.func17, Try.ntmps17
  refine wp_seq (rg_lit ?_)
  refine wl (sn rfl (cs := #[.int .i64 x.node.t, .int .i64 x.node.w, .int .i64 x.parent.t, .int .i64 x.parent.w, .string x.name, .bool x.dir, .bool x.gone, .slice xA xn xc, .int .i64 x.by_.t, .int .i64 x.by_.w]) (T := 41) (V := fun b => .pointer (some ⟨b, 0, none⟩)) (r_box (v := .agg #[.int .i64 x.node.t, .int .i64 x.node.w, .int .i64 x.parent.t, .int .i64 x.parent.w, .string x.name, .bool x.dir, .bool x.gone, .slice xA xn xc, .int .i64 x.by_.t, .int .i64 x.by_.w]) (by kernel_rfl) rfl) ?_)
  intro b1 w2 e3 h4 u5
  have g6 : w.heap.size ≤ b1 := by rw [e3]; exact (Mod.refl [] w).size
  have M7 := Mod.trans (Mod.refl [] w) (Mod.of_up u5)
  refine wl (sn rfl (cs := #[.int .i64 y.node.t, .int .i64 y.node.w, .int .i64 y.parent.t, .int .i64 y.parent.w, .string y.name, .bool y.dir, .bool y.gone, .slice yA yn yc, .int .i64 y.by_.t, .int .i64 y.by_.w]) (T := 41) (V := fun b => .pointer (some ⟨b, 0, none⟩)) (r_box (v := .agg #[.int .i64 y.node.t, .int .i64 y.node.w, .int .i64 y.parent.t, .int .i64 y.parent.w, .string y.name, .bool y.dir, .bool y.gone, .slice yA yn yc, .int .i64 y.by_.t, .int .i64 y.by_.w]) (by kernel_rfl) rfl) ?_)
  intro b8 w9 e10 h11 u12
  have l13 : b1 < b8 := by rw [e10]; exact lt_ob h4
  have g14 : w.heap.size ≤ b8 := by rw [e10]; exact M7.size
  have M15 := Mod.trans M7 (Mod.of_up u12)
  refine was (v := .bool false) ?_
  refine wnil (then_n (wp_seq (rg_lit ?_)))
  refine wl (sv rfl (v := .pointer (some ⟨b1, 0, none⟩)) (r_fieldAddr (u := .pointer (some ⟨b1, 0, none⟩)) (by kernel_rfl) (fun _ => (by kernel_rfl))) ?_)
  have h16 := (up_ob u12 h4)
  refine wl (sv rfl (v := .agg #[.int .i64 x.node.t, .int .i64 x.node.w]) (r_loads (k := 0) (by kernel_rfl) Ty.ag24 Ty.sz24 h16 (by kernel_rfl)) ?_)
  refine wl (sv rfl (v := .pointer (some ⟨b8, 0, none⟩)) (r_fieldAddr (u := .pointer (some ⟨b8, 0, none⟩)) (by kernel_rfl) (fun _ => (by kernel_rfl))) ?_)
  refine wl (sv rfl (v := .agg #[.int .i64 y.node.t, .int .i64 y.node.w]) (r_loads (k := 0) (by kernel_rfl) Ty.ag24 Ty.sz24 h11 (by kernel_rfl)) ?_)
  refine wl (sb rfl (r_eqS (a := x.node.t) (b := x.node.w) (c := y.node.t) (e := y.node.w) (by kernel_rfl) (by kernel_rfl)) ?_)
  intro b17 k18
  refine wmv (v := .bool b17) ?_
  refine bcase b17 (fun v19 => ?_) (fun v19 => ?_)
  · have p20 := of_decide_eq_false (k18.trans v19)
    refine wl (sp (wf (b := b17) rfl (by kernel_rfl) v19) ?_)
    refine wl (sp (wf (b := b17) rfl (by kernel_rfl) v19) ?_)
    refine wl (sp (wf (b := b17) rfl (by kernel_rfl) v19) ?_)
    refine wl (sp (wf (b := b17) rfl (by kernel_rfl) v19) ?_)
    refine wl (sp (wf (b := b17) rfl (by kernel_rfl) v19) ?_)
    refine wl (sv rfl (v := .bool false) (r_pkF (ebool (b := b17) (by kernel_rfl) v19) (by kernel_rfl)) ?_)
    refine wmv (v := .bool false) ?_
    refine wsp ?_
    refine wsp ?_
    refine wsp ?_
    refine wsp ?_
    refine wsp ?_
    refine wl (sv rfl (v := .bool false) (r_pkF (by kernel_rfl) (by kernel_rfl)) ?_)
    refine wmv (v := .bool false) ?_
    refine wsp ?_
    refine wsp ?_
    refine wsp ?_
    refine wsp ?_
    refine wsp ?_
    refine wl (sv rfl (v := .bool false) (r_pkF (by kernel_rfl) (by kernel_rfl)) ?_)
    refine wmv (v := .bool false) ?_
    refine wsp ?_
    refine wsp ?_
    refine wsp ?_
    refine wsp ?_
    refine wsp ?_
    refine wl (sv rfl (v := .bool false) (r_pkF (by kernel_rfl) (by kernel_rfl)) ?_)
    refine wmv (v := .bool false) ?_
    refine wsp ?_
    refine wsp ?_
    refine wsp ?_
    refine wsp ?_
    refine wsp ?_
    refine wl (sv rfl (v := .bool false) (r_pkF (by kernel_rfl) (by kernel_rfl)) ?_)
    refine wmv (v := .bool false) ?_
    refine wsp ?_
    refine wsp ?_
    refine wsp ?_
    refine wsp ?_
    refine wsp ?_
    refine wl (sv rfl (v := .bool false) (r_pkF (by kernel_rfl) (by kernel_rfl)) ?_)
    refine was (v := .bool false) ?_
    refine wnil (then_n (wp_ret ?_))
    refine bodyPost_ret (v := .bool false) (res1 rfl (rv_t (by kernel_rfl))) (by kernel_rfl) ?_
    exact ⟨ret_bool (decide_eq_false (fun e => p20 (by rw [e]))).symm, (Mod.up M15)⟩
  have p20 := of_decide_eq_true (k18.trans v19)
  refine wl (sv (wt (b := b17) rfl (by kernel_rfl) v19) (v := .pointer (some ⟨b1, 2, none⟩)) (r_fieldAddr (u := .pointer (some ⟨b1, 0, none⟩)) (by kernel_rfl) (fun _ => (by kernel_rfl))) ?_)
  refine wl (sv (wt (b := b17) rfl (by kernel_rfl) v19) (v := .agg #[.int .i64 x.parent.t, .int .i64 x.parent.w]) (r_loads (k := 2) (by kernel_rfl) Ty.ag24 Ty.sz24 h16 (by kernel_rfl)) ?_)
  refine wl (sv (wt (b := b17) rfl (by kernel_rfl) v19) (v := .pointer (some ⟨b8, 2, none⟩)) (r_fieldAddr (u := .pointer (some ⟨b8, 0, none⟩)) (by kernel_rfl) (fun _ => (by kernel_rfl))) ?_)
  refine wl (sv (wt (b := b17) rfl (by kernel_rfl) v19) (v := .agg #[.int .i64 y.parent.t, .int .i64 y.parent.w]) (r_loads (k := 2) (by kernel_rfl) Ty.ag24 Ty.sz24 h11 (by kernel_rfl)) ?_)
  refine wl (sb (wt (b := b17) rfl (by kernel_rfl) v19) (r_eqS (a := x.parent.t) (b := x.parent.w) (c := y.parent.t) (e := y.parent.w) (by kernel_rfl) (by kernel_rfl)) ?_)
  intro b21 k22
  refine wl (sv rfl (v := .bool b21) (r_pkT (ebool (b := b17) (by kernel_rfl) v19) (by kernel_rfl)) ?_)
  refine wmv (v := .bool b21) ?_
  refine bcase b21 (fun v23 => ?_) (fun v23 => ?_)
  · have p24 := of_decide_eq_false (k22.trans v23)
    refine wl (sp (wf (b := b21) rfl (by kernel_rfl) v23) ?_)
    refine wl (sp (wf (b := b21) rfl (by kernel_rfl) v23) ?_)
    refine wl (sp (wf (b := b21) rfl (by kernel_rfl) v23) ?_)
    refine wl (sp (wf (b := b21) rfl (by kernel_rfl) v23) ?_)
    refine wl (sp (wf (b := b21) rfl (by kernel_rfl) v23) ?_)
    refine wl (sv rfl (v := .bool false) (r_pkF (ebool (b := b21) (by kernel_rfl) v23) (by kernel_rfl)) ?_)
    refine wmv (v := .bool false) ?_
    refine wsp ?_
    refine wsp ?_
    refine wsp ?_
    refine wsp ?_
    refine wsp ?_
    refine wl (sv rfl (v := .bool false) (r_pkF (by kernel_rfl) (by kernel_rfl)) ?_)
    refine wmv (v := .bool false) ?_
    refine wsp ?_
    refine wsp ?_
    refine wsp ?_
    refine wsp ?_
    refine wsp ?_
    refine wl (sv rfl (v := .bool false) (r_pkF (by kernel_rfl) (by kernel_rfl)) ?_)
    refine wmv (v := .bool false) ?_
    refine wsp ?_
    refine wsp ?_
    refine wsp ?_
    refine wsp ?_
    refine wsp ?_
    refine wl (sv rfl (v := .bool false) (r_pkF (by kernel_rfl) (by kernel_rfl)) ?_)
    refine wmv (v := .bool false) ?_
    refine wsp ?_
    refine wsp ?_
    refine wsp ?_
    refine wsp ?_
    refine wsp ?_
    refine wl (sv rfl (v := .bool false) (r_pkF (by kernel_rfl) (by kernel_rfl)) ?_)
    refine was (v := .bool false) ?_
    refine wnil (then_n (wp_ret ?_))
    refine bodyPost_ret (v := .bool false) (res1 rfl (rv_t (by kernel_rfl))) (by kernel_rfl) ?_
    exact ⟨ret_bool (decide_eq_false (fun e => p24 (by rw [e]))).symm, (Mod.up M15)⟩
  have p24 := of_decide_eq_true (k22.trans v23)
  refine wl (sv (wt (b := b21) rfl (by kernel_rfl) v23) (v := .pointer (some ⟨b1, 4, none⟩)) (r_fieldAddr (u := .pointer (some ⟨b1, 0, none⟩)) (by kernel_rfl) (fun _ => (by kernel_rfl))) ?_)
  refine wl (sv (wt (b := b21) rfl (by kernel_rfl) v23) (v := .string x.name) (r_load (k := 4) (by kernel_rfl) Ty.ag9 h16 (by kernel_rfl)) ?_)
  refine wl (sv (wt (b := b21) rfl (by kernel_rfl) v23) (v := .pointer (some ⟨b8, 4, none⟩)) (r_fieldAddr (u := .pointer (some ⟨b8, 0, none⟩)) (by kernel_rfl) (fun _ => (by kernel_rfl))) ?_)
  refine wl (sv (wt (b := b21) rfl (by kernel_rfl) v23) (v := .string y.name) (r_load (k := 4) (by kernel_rfl) Ty.ag9 h11 (by kernel_rfl)) ?_)
  refine wl (sb (wt (b := b21) rfl (by kernel_rfl) v23) (r_eqs (m := x.name) (n := y.name) (by kernel_rfl) (by kernel_rfl)) ?_)
  intro b25 k26
  refine wl (sv rfl (v := .bool b25) (r_pkT (ebool (b := b21) (by kernel_rfl) v23) (by kernel_rfl)) ?_)
  refine wmv (v := .bool b25) ?_
  refine bcase b25 (fun v27 => ?_) (fun v27 => ?_)
  · have p28 := of_decide_eq_false (k26.trans v27)
    refine wl (sp (wf (b := b25) rfl (by kernel_rfl) v27) ?_)
    refine wl (sp (wf (b := b25) rfl (by kernel_rfl) v27) ?_)
    refine wl (sp (wf (b := b25) rfl (by kernel_rfl) v27) ?_)
    refine wl (sp (wf (b := b25) rfl (by kernel_rfl) v27) ?_)
    refine wl (sp (wf (b := b25) rfl (by kernel_rfl) v27) ?_)
    refine wl (sv rfl (v := .bool false) (r_pkF (ebool (b := b25) (by kernel_rfl) v27) (by kernel_rfl)) ?_)
    refine wmv (v := .bool false) ?_
    refine wsp ?_
    refine wsp ?_
    refine wsp ?_
    refine wsp ?_
    refine wsp ?_
    refine wl (sv rfl (v := .bool false) (r_pkF (by kernel_rfl) (by kernel_rfl)) ?_)
    refine wmv (v := .bool false) ?_
    refine wsp ?_
    refine wsp ?_
    refine wsp ?_
    refine wsp ?_
    refine wsp ?_
    refine wl (sv rfl (v := .bool false) (r_pkF (by kernel_rfl) (by kernel_rfl)) ?_)
    refine wmv (v := .bool false) ?_
    refine wsp ?_
    refine wsp ?_
    refine wsp ?_
    refine wsp ?_
    refine wsp ?_
    refine wl (sv rfl (v := .bool false) (r_pkF (by kernel_rfl) (by kernel_rfl)) ?_)
    refine was (v := .bool false) ?_
    refine wnil (then_n (wp_ret ?_))
    refine bodyPost_ret (v := .bool false) (res1 rfl (rv_t (by kernel_rfl))) (by kernel_rfl) ?_
    exact ⟨ret_bool (decide_eq_false (fun e => p28 (by rw [e]))).symm, (Mod.up M15)⟩
  have p28 := of_decide_eq_true (k26.trans v27)
  refine wl (sv (wt (b := b25) rfl (by kernel_rfl) v27) (v := .pointer (some ⟨b1, 5, none⟩)) (r_fieldAddr (u := .pointer (some ⟨b1, 0, none⟩)) (by kernel_rfl) (fun _ => (by kernel_rfl))) ?_)
  refine wl (sv (wt (b := b25) rfl (by kernel_rfl) v27) (v := .bool x.dir) (r_load (k := 5) (by kernel_rfl) Ty.ag4 h16 (by kernel_rfl)) ?_)
  refine wl (sv (wt (b := b25) rfl (by kernel_rfl) v27) (v := .pointer (some ⟨b8, 5, none⟩)) (r_fieldAddr (u := .pointer (some ⟨b8, 0, none⟩)) (by kernel_rfl) (fun _ => (by kernel_rfl))) ?_)
  refine wl (sv (wt (b := b25) rfl (by kernel_rfl) v27) (v := .bool y.dir) (r_load (k := 5) (by kernel_rfl) Ty.ag4 h11 (by kernel_rfl)) ?_)
  refine bcase x.dir (fun v29 => ?_) (fun v29 => ?_)
  · refine bcase y.dir (fun v30 => ?_) (fun v30 => ?_)
    · refine wl (sv (wt (b := b25) rfl (by kernel_rfl) v27) (v := .bool true) (r_eqb (a := false) (b := false) Try.underlying4 (ebool (b := x.dir) (by kernel_rfl) v29) (ebool (b := y.dir) (by kernel_rfl) v30)) ?_)
      refine wl (sv rfl (v := .bool true) (r_pkT (ebool (b := b25) (by kernel_rfl) v27) (by kernel_rfl)) ?_)
      refine wmv (v := .bool true) ?_
      refine wl (sv (by kernel_rfl) (v := .pointer (some ⟨b1, 6, none⟩)) (r_fieldAddr (u := .pointer (some ⟨b1, 0, none⟩)) (by kernel_rfl) (fun _ => (by kernel_rfl))) ?_)
      refine wl (sv (by kernel_rfl) (v := .bool x.gone) (r_load (k := 6) (by kernel_rfl) Ty.ag4 h16 (by kernel_rfl)) ?_)
      refine wl (sv (by kernel_rfl) (v := .pointer (some ⟨b8, 6, none⟩)) (r_fieldAddr (u := .pointer (some ⟨b8, 0, none⟩)) (by kernel_rfl) (fun _ => (by kernel_rfl))) ?_)
      refine wl (sv (by kernel_rfl) (v := .bool y.gone) (r_load (k := 6) (by kernel_rfl) Ty.ag4 h11 (by kernel_rfl)) ?_)
      refine bcase x.gone (fun v31 => ?_) (fun v31 => ?_)
      · refine bcase y.gone (fun v32 => ?_) (fun v32 => ?_)
        · refine wl (sv (by kernel_rfl) (v := .bool true) (r_eqb (a := false) (b := false) Try.underlying4 (ebool (b := x.gone) (by kernel_rfl) v31) (ebool (b := y.gone) (by kernel_rfl) v32)) ?_)
          refine wl (sv rfl (v := .bool true) (r_pkT (by kernel_rfl) (by kernel_rfl)) ?_)
          refine wmv (v := .bool true) ?_
          refine wl (sv (by kernel_rfl) (v := .pointer (some ⟨b1, 8, none⟩)) (r_fieldAddr (u := .pointer (some ⟨b1, 0, none⟩)) (by kernel_rfl) (fun _ => (by kernel_rfl))) ?_)
          refine wl (sv (by kernel_rfl) (v := .agg #[.int .i64 x.by_.t, .int .i64 x.by_.w]) (r_loads (k := 8) (by kernel_rfl) Ty.ag24 Ty.sz24 h16 (by kernel_rfl)) ?_)
          refine wl (sv (by kernel_rfl) (v := .pointer (some ⟨b8, 8, none⟩)) (r_fieldAddr (u := .pointer (some ⟨b8, 0, none⟩)) (by kernel_rfl) (fun _ => (by kernel_rfl))) ?_)
          refine wl (sv (by kernel_rfl) (v := .agg #[.int .i64 y.by_.t, .int .i64 y.by_.w]) (r_loads (k := 8) (by kernel_rfl) Ty.ag24 Ty.sz24 h11 (by kernel_rfl)) ?_)
          refine wl (sb (by kernel_rfl) (r_eqS (a := x.by_.t) (b := x.by_.w) (c := y.by_.t) (e := y.by_.w) (by kernel_rfl) (by kernel_rfl)) ?_)
          intro b33 k34
          refine wl (sv rfl (v := .bool b33) (r_pkT (by kernel_rfl) (by kernel_rfl)) ?_)
          refine wmv (v := .bool b33) ?_
          refine bcase b33 (fun v35 => ?_) (fun v35 => ?_)
          · have p36 := of_decide_eq_false (k34.trans v35)
            refine wl (sp (wf (b := b33) rfl (by kernel_rfl) v35) ?_)
            refine wl (sp (wf (b := b33) rfl (by kernel_rfl) v35) ?_)
            refine wl (sp (wf (b := b33) rfl (by kernel_rfl) v35) ?_)
            refine wl (sp (wf (b := b33) rfl (by kernel_rfl) v35) ?_)
            refine wl (sp (wf (b := b33) rfl (by kernel_rfl) v35) ?_)
            refine wl (sv rfl (v := .bool false) (r_pkF (ebool (b := b33) (by kernel_rfl) v35) (by kernel_rfl)) ?_)
            refine was (v := .bool false) ?_
            refine wnil (then_n (wp_ret ?_))
            refine bodyPost_ret (v := .bool false) (res1 rfl (rv_t (by kernel_rfl))) (by kernel_rfl) ?_
            exact ⟨ret_bool (decide_eq_false (fun e => p36 (by rw [e]))).symm, (Mod.up M15)⟩
          have p36 := of_decide_eq_true (k34.trans v35)
          refine wl (sv (wt (b := b33) rfl (by kernel_rfl) v35) (v := .pointer (some ⟨b1, 7, none⟩)) (r_fieldAddr (u := .pointer (some ⟨b1, 0, none⟩)) (by kernel_rfl) (fun _ => (by kernel_rfl))) ?_)
          refine wl (sv (wt (b := b33) rfl (by kernel_rfl) v35) (v := .slice xA xn xc) (r_load (k := 7) (by kernel_rfl) Ty.ag33 h16 (by kernel_rfl)) ?_)
          refine wl (sv (wt (b := b33) rfl (by kernel_rfl) v35) (v := .pointer (some ⟨b8, 7, none⟩)) (r_fieldAddr (u := .pointer (some ⟨b8, 0, none⟩)) (by kernel_rfl) (fun _ => (by kernel_rfl))) ?_)
          refine wl (sv (wt (b := b33) rfl (by kernel_rfl) v35) (v := .slice yA yn yc) (r_load (k := 7) (by kernel_rfl) Ty.ag33 h11 (by kernel_rfl)) ?_)
          have h37 := (Dat.up hx (Mod.up M15))
          have h38 := (Dat.up hy (Mod.up M15))
          refine wl (sc (wt (b := b33) rfl (by kernel_rfl) v35) (r_callv (caps := []) (all := [.slice xA xn xc, .slice yA yn yc]) En.f60 (by kernel_rfl) (by kernel_rfl)) (r01same_at h37 h38) ?_)
          rintro e w39 ⟨rfl, u40⟩
          refine ⟨.bool ((decide (x.data = y.data))), rfl, ?_⟩
          have M41 := Mod.trans M15 (Mod.of_up u40)
          refine wl (sv rfl (v := .bool ((decide (x.data = y.data)))) (r_pkT (ebool (b := b33) (by kernel_rfl) v35) (by kernel_rfl)) ?_)
          refine was (v := .bool ((decide (x.data = y.data)))) ?_
          refine wnil (then_n (wp_ret ?_))
          refine bodyPost_ret (v := .bool ((decide (x.data = y.data)))) (res1 rfl (rv_t (by kernel_rfl))) (by kernel_rfl) ?_
          exact ⟨ret_bool (item_dec x y p20 p24 p28 (v29.trans v30.symm) (v31.trans v32.symm) p36), (Mod.up M41)⟩
        refine wl (sv (by kernel_rfl) (v := .bool false) (r_eqb (a := false) (b := true) Try.underlying4 (ebool (b := x.gone) (by kernel_rfl) v31) (ebool (b := y.gone) (by kernel_rfl) v32)) ?_)
        refine wl (sv rfl (v := .bool false) (r_pkT (by kernel_rfl) (by kernel_rfl)) ?_)
        refine wmv (v := .bool false) ?_
        refine wsp ?_
        refine wsp ?_
        refine wsp ?_
        refine wsp ?_
        refine wsp ?_
        refine wl (sv rfl (v := .bool false) (r_pkF (by kernel_rfl) (by kernel_rfl)) ?_)
        refine wmv (v := .bool false) ?_
        refine wsp ?_
        refine wsp ?_
        refine wsp ?_
        refine wsp ?_
        refine wsp ?_
        refine wl (sv rfl (v := .bool false) (r_pkF (by kernel_rfl) (by kernel_rfl)) ?_)
        refine was (v := .bool false) ?_
        refine wnil (then_n (wp_ret ?_))
        refine bodyPost_ret (v := .bool false) (res1 rfl (rv_t (by kernel_rfl))) (by kernel_rfl) ?_
        refine ⟨ret_bool (decide_eq_false (fun e => ?_)).symm, (Mod.up M15)⟩
        rw [e, v32] at v31; cases v31
      refine bcase y.gone (fun v32 => ?_) (fun v32 => ?_)
      · refine wl (sv (by kernel_rfl) (v := .bool false) (r_eqb (a := true) (b := false) Try.underlying4 (ebool (b := x.gone) (by kernel_rfl) v31) (ebool (b := y.gone) (by kernel_rfl) v32)) ?_)
        refine wl (sv rfl (v := .bool false) (r_pkT (by kernel_rfl) (by kernel_rfl)) ?_)
        refine wmv (v := .bool false) ?_
        refine wsp ?_
        refine wsp ?_
        refine wsp ?_
        refine wsp ?_
        refine wsp ?_
        refine wl (sv rfl (v := .bool false) (r_pkF (by kernel_rfl) (by kernel_rfl)) ?_)
        refine wmv (v := .bool false) ?_
        refine wsp ?_
        refine wsp ?_
        refine wsp ?_
        refine wsp ?_
        refine wsp ?_
        refine wl (sv rfl (v := .bool false) (r_pkF (by kernel_rfl) (by kernel_rfl)) ?_)
        refine was (v := .bool false) ?_
        refine wnil (then_n (wp_ret ?_))
        refine bodyPost_ret (v := .bool false) (res1 rfl (rv_t (by kernel_rfl))) (by kernel_rfl) ?_
        refine ⟨ret_bool (decide_eq_false (fun e => ?_)).symm, (Mod.up M15)⟩
        rw [e, v32] at v31; cases v31
      refine wl (sv (by kernel_rfl) (v := .bool true) (r_eqb (a := true) (b := true) Try.underlying4 (ebool (b := x.gone) (by kernel_rfl) v31) (ebool (b := y.gone) (by kernel_rfl) v32)) ?_)
      refine wl (sv rfl (v := .bool true) (r_pkT (by kernel_rfl) (by kernel_rfl)) ?_)
      refine wmv (v := .bool true) ?_
      refine wl (sv (by kernel_rfl) (v := .pointer (some ⟨b1, 8, none⟩)) (r_fieldAddr (u := .pointer (some ⟨b1, 0, none⟩)) (by kernel_rfl) (fun _ => (by kernel_rfl))) ?_)
      refine wl (sv (by kernel_rfl) (v := .agg #[.int .i64 x.by_.t, .int .i64 x.by_.w]) (r_loads (k := 8) (by kernel_rfl) Ty.ag24 Ty.sz24 h16 (by kernel_rfl)) ?_)
      refine wl (sv (by kernel_rfl) (v := .pointer (some ⟨b8, 8, none⟩)) (r_fieldAddr (u := .pointer (some ⟨b8, 0, none⟩)) (by kernel_rfl) (fun _ => (by kernel_rfl))) ?_)
      refine wl (sv (by kernel_rfl) (v := .agg #[.int .i64 y.by_.t, .int .i64 y.by_.w]) (r_loads (k := 8) (by kernel_rfl) Ty.ag24 Ty.sz24 h11 (by kernel_rfl)) ?_)
      refine wl (sb (by kernel_rfl) (r_eqS (a := x.by_.t) (b := x.by_.w) (c := y.by_.t) (e := y.by_.w) (by kernel_rfl) (by kernel_rfl)) ?_)
      intro b33 k34
      refine wl (sv rfl (v := .bool b33) (r_pkT (by kernel_rfl) (by kernel_rfl)) ?_)
      refine wmv (v := .bool b33) ?_
      refine bcase b33 (fun v35 => ?_) (fun v35 => ?_)
      · have p36 := of_decide_eq_false (k34.trans v35)
        refine wl (sp (wf (b := b33) rfl (by kernel_rfl) v35) ?_)
        refine wl (sp (wf (b := b33) rfl (by kernel_rfl) v35) ?_)
        refine wl (sp (wf (b := b33) rfl (by kernel_rfl) v35) ?_)
        refine wl (sp (wf (b := b33) rfl (by kernel_rfl) v35) ?_)
        refine wl (sp (wf (b := b33) rfl (by kernel_rfl) v35) ?_)
        refine wl (sv rfl (v := .bool false) (r_pkF (ebool (b := b33) (by kernel_rfl) v35) (by kernel_rfl)) ?_)
        refine was (v := .bool false) ?_
        refine wnil (then_n (wp_ret ?_))
        refine bodyPost_ret (v := .bool false) (res1 rfl (rv_t (by kernel_rfl))) (by kernel_rfl) ?_
        exact ⟨ret_bool (decide_eq_false (fun e => p36 (by rw [e]))).symm, (Mod.up M15)⟩
      have p36 := of_decide_eq_true (k34.trans v35)
      refine wl (sv (wt (b := b33) rfl (by kernel_rfl) v35) (v := .pointer (some ⟨b1, 7, none⟩)) (r_fieldAddr (u := .pointer (some ⟨b1, 0, none⟩)) (by kernel_rfl) (fun _ => (by kernel_rfl))) ?_)
      refine wl (sv (wt (b := b33) rfl (by kernel_rfl) v35) (v := .slice xA xn xc) (r_load (k := 7) (by kernel_rfl) Ty.ag33 h16 (by kernel_rfl)) ?_)
      refine wl (sv (wt (b := b33) rfl (by kernel_rfl) v35) (v := .pointer (some ⟨b8, 7, none⟩)) (r_fieldAddr (u := .pointer (some ⟨b8, 0, none⟩)) (by kernel_rfl) (fun _ => (by kernel_rfl))) ?_)
      refine wl (sv (wt (b := b33) rfl (by kernel_rfl) v35) (v := .slice yA yn yc) (r_load (k := 7) (by kernel_rfl) Ty.ag33 h11 (by kernel_rfl)) ?_)
      have h37 := (Dat.up hx (Mod.up M15))
      have h38 := (Dat.up hy (Mod.up M15))
      refine wl (sc (wt (b := b33) rfl (by kernel_rfl) v35) (r_callv (caps := []) (all := [.slice xA xn xc, .slice yA yn yc]) En.f60 (by kernel_rfl) (by kernel_rfl)) (r01same_at h37 h38) ?_)
      rintro e w39 ⟨rfl, u40⟩
      refine ⟨.bool ((decide (x.data = y.data))), rfl, ?_⟩
      have M41 := Mod.trans M15 (Mod.of_up u40)
      refine wl (sv rfl (v := .bool ((decide (x.data = y.data)))) (r_pkT (ebool (b := b33) (by kernel_rfl) v35) (by kernel_rfl)) ?_)
      refine was (v := .bool ((decide (x.data = y.data)))) ?_
      refine wnil (then_n (wp_ret ?_))
      refine bodyPost_ret (v := .bool ((decide (x.data = y.data)))) (res1 rfl (rv_t (by kernel_rfl))) (by kernel_rfl) ?_
      exact ⟨ret_bool (item_dec x y p20 p24 p28 (v29.trans v30.symm) (v31.trans v32.symm) p36), (Mod.up M41)⟩
    refine wl (sv (wt (b := b25) rfl (by kernel_rfl) v27) (v := .bool false) (r_eqb (a := false) (b := true) Try.underlying4 (ebool (b := x.dir) (by kernel_rfl) v29) (ebool (b := y.dir) (by kernel_rfl) v30)) ?_)
    refine wl (sv rfl (v := .bool false) (r_pkT (ebool (b := b25) (by kernel_rfl) v27) (by kernel_rfl)) ?_)
    refine wmv (v := .bool false) ?_
    refine wsp ?_
    refine wsp ?_
    refine wsp ?_
    refine wsp ?_
    refine wsp ?_
    refine wl (sv rfl (v := .bool false) (r_pkF (by kernel_rfl) (by kernel_rfl)) ?_)
    refine wmv (v := .bool false) ?_
    refine wsp ?_
    refine wsp ?_
    refine wsp ?_
    refine wsp ?_
    refine wsp ?_
    refine wl (sv rfl (v := .bool false) (r_pkF (by kernel_rfl) (by kernel_rfl)) ?_)
    refine wmv (v := .bool false) ?_
    refine wsp ?_
    refine wsp ?_
    refine wsp ?_
    refine wsp ?_
    refine wsp ?_
    refine wl (sv rfl (v := .bool false) (r_pkF (by kernel_rfl) (by kernel_rfl)) ?_)
    refine was (v := .bool false) ?_
    refine wnil (then_n (wp_ret ?_))
    refine bodyPost_ret (v := .bool false) (res1 rfl (rv_t (by kernel_rfl))) (by kernel_rfl) ?_
    refine ⟨ret_bool (decide_eq_false (fun e => ?_)).symm, (Mod.up M15)⟩
    rw [e, v30] at v29; cases v29
  refine bcase y.dir (fun v30 => ?_) (fun v30 => ?_)
  · refine wl (sv (wt (b := b25) rfl (by kernel_rfl) v27) (v := .bool false) (r_eqb (a := true) (b := false) Try.underlying4 (ebool (b := x.dir) (by kernel_rfl) v29) (ebool (b := y.dir) (by kernel_rfl) v30)) ?_)
    refine wl (sv rfl (v := .bool false) (r_pkT (ebool (b := b25) (by kernel_rfl) v27) (by kernel_rfl)) ?_)
    refine wmv (v := .bool false) ?_
    refine wsp ?_
    refine wsp ?_
    refine wsp ?_
    refine wsp ?_
    refine wsp ?_
    refine wl (sv rfl (v := .bool false) (r_pkF (by kernel_rfl) (by kernel_rfl)) ?_)
    refine wmv (v := .bool false) ?_
    refine wsp ?_
    refine wsp ?_
    refine wsp ?_
    refine wsp ?_
    refine wsp ?_
    refine wl (sv rfl (v := .bool false) (r_pkF (by kernel_rfl) (by kernel_rfl)) ?_)
    refine wmv (v := .bool false) ?_
    refine wsp ?_
    refine wsp ?_
    refine wsp ?_
    refine wsp ?_
    refine wsp ?_
    refine wl (sv rfl (v := .bool false) (r_pkF (by kernel_rfl) (by kernel_rfl)) ?_)
    refine was (v := .bool false) ?_
    refine wnil (then_n (wp_ret ?_))
    refine bodyPost_ret (v := .bool false) (res1 rfl (rv_t (by kernel_rfl))) (by kernel_rfl) ?_
    refine ⟨ret_bool (decide_eq_false (fun e => ?_)).symm, (Mod.up M15)⟩
    rw [e, v30] at v29; cases v29
  refine wl (sv (wt (b := b25) rfl (by kernel_rfl) v27) (v := .bool true) (r_eqb (a := true) (b := true) Try.underlying4 (ebool (b := x.dir) (by kernel_rfl) v29) (ebool (b := y.dir) (by kernel_rfl) v30)) ?_)
  refine wl (sv rfl (v := .bool true) (r_pkT (ebool (b := b25) (by kernel_rfl) v27) (by kernel_rfl)) ?_)
  refine wmv (v := .bool true) ?_
  refine wl (sv (by kernel_rfl) (v := .pointer (some ⟨b1, 6, none⟩)) (r_fieldAddr (u := .pointer (some ⟨b1, 0, none⟩)) (by kernel_rfl) (fun _ => (by kernel_rfl))) ?_)
  refine wl (sv (by kernel_rfl) (v := .bool x.gone) (r_load (k := 6) (by kernel_rfl) Ty.ag4 h16 (by kernel_rfl)) ?_)
  refine wl (sv (by kernel_rfl) (v := .pointer (some ⟨b8, 6, none⟩)) (r_fieldAddr (u := .pointer (some ⟨b8, 0, none⟩)) (by kernel_rfl) (fun _ => (by kernel_rfl))) ?_)
  refine wl (sv (by kernel_rfl) (v := .bool y.gone) (r_load (k := 6) (by kernel_rfl) Ty.ag4 h11 (by kernel_rfl)) ?_)
  refine bcase x.gone (fun v31 => ?_) (fun v31 => ?_)
  · refine bcase y.gone (fun v32 => ?_) (fun v32 => ?_)
    · refine wl (sv (by kernel_rfl) (v := .bool true) (r_eqb (a := false) (b := false) Try.underlying4 (ebool (b := x.gone) (by kernel_rfl) v31) (ebool (b := y.gone) (by kernel_rfl) v32)) ?_)
      refine wl (sv rfl (v := .bool true) (r_pkT (by kernel_rfl) (by kernel_rfl)) ?_)
      refine wmv (v := .bool true) ?_
      refine wl (sv (by kernel_rfl) (v := .pointer (some ⟨b1, 8, none⟩)) (r_fieldAddr (u := .pointer (some ⟨b1, 0, none⟩)) (by kernel_rfl) (fun _ => (by kernel_rfl))) ?_)
      refine wl (sv (by kernel_rfl) (v := .agg #[.int .i64 x.by_.t, .int .i64 x.by_.w]) (r_loads (k := 8) (by kernel_rfl) Ty.ag24 Ty.sz24 h16 (by kernel_rfl)) ?_)
      refine wl (sv (by kernel_rfl) (v := .pointer (some ⟨b8, 8, none⟩)) (r_fieldAddr (u := .pointer (some ⟨b8, 0, none⟩)) (by kernel_rfl) (fun _ => (by kernel_rfl))) ?_)
      refine wl (sv (by kernel_rfl) (v := .agg #[.int .i64 y.by_.t, .int .i64 y.by_.w]) (r_loads (k := 8) (by kernel_rfl) Ty.ag24 Ty.sz24 h11 (by kernel_rfl)) ?_)
      refine wl (sb (by kernel_rfl) (r_eqS (a := x.by_.t) (b := x.by_.w) (c := y.by_.t) (e := y.by_.w) (by kernel_rfl) (by kernel_rfl)) ?_)
      intro b33 k34
      refine wl (sv rfl (v := .bool b33) (r_pkT (by kernel_rfl) (by kernel_rfl)) ?_)
      refine wmv (v := .bool b33) ?_
      refine bcase b33 (fun v35 => ?_) (fun v35 => ?_)
      · have p36 := of_decide_eq_false (k34.trans v35)
        refine wl (sp (wf (b := b33) rfl (by kernel_rfl) v35) ?_)
        refine wl (sp (wf (b := b33) rfl (by kernel_rfl) v35) ?_)
        refine wl (sp (wf (b := b33) rfl (by kernel_rfl) v35) ?_)
        refine wl (sp (wf (b := b33) rfl (by kernel_rfl) v35) ?_)
        refine wl (sp (wf (b := b33) rfl (by kernel_rfl) v35) ?_)
        refine wl (sv rfl (v := .bool false) (r_pkF (ebool (b := b33) (by kernel_rfl) v35) (by kernel_rfl)) ?_)
        refine was (v := .bool false) ?_
        refine wnil (then_n (wp_ret ?_))
        refine bodyPost_ret (v := .bool false) (res1 rfl (rv_t (by kernel_rfl))) (by kernel_rfl) ?_
        exact ⟨ret_bool (decide_eq_false (fun e => p36 (by rw [e]))).symm, (Mod.up M15)⟩
      have p36 := of_decide_eq_true (k34.trans v35)
      refine wl (sv (wt (b := b33) rfl (by kernel_rfl) v35) (v := .pointer (some ⟨b1, 7, none⟩)) (r_fieldAddr (u := .pointer (some ⟨b1, 0, none⟩)) (by kernel_rfl) (fun _ => (by kernel_rfl))) ?_)
      refine wl (sv (wt (b := b33) rfl (by kernel_rfl) v35) (v := .slice xA xn xc) (r_load (k := 7) (by kernel_rfl) Ty.ag33 h16 (by kernel_rfl)) ?_)
      refine wl (sv (wt (b := b33) rfl (by kernel_rfl) v35) (v := .pointer (some ⟨b8, 7, none⟩)) (r_fieldAddr (u := .pointer (some ⟨b8, 0, none⟩)) (by kernel_rfl) (fun _ => (by kernel_rfl))) ?_)
      refine wl (sv (wt (b := b33) rfl (by kernel_rfl) v35) (v := .slice yA yn yc) (r_load (k := 7) (by kernel_rfl) Ty.ag33 h11 (by kernel_rfl)) ?_)
      have h37 := (Dat.up hx (Mod.up M15))
      have h38 := (Dat.up hy (Mod.up M15))
      refine wl (sc (wt (b := b33) rfl (by kernel_rfl) v35) (r_callv (caps := []) (all := [.slice xA xn xc, .slice yA yn yc]) En.f60 (by kernel_rfl) (by kernel_rfl)) (r01same_at h37 h38) ?_)
      rintro e w39 ⟨rfl, u40⟩
      refine ⟨.bool ((decide (x.data = y.data))), rfl, ?_⟩
      have M41 := Mod.trans M15 (Mod.of_up u40)
      refine wl (sv rfl (v := .bool ((decide (x.data = y.data)))) (r_pkT (ebool (b := b33) (by kernel_rfl) v35) (by kernel_rfl)) ?_)
      refine was (v := .bool ((decide (x.data = y.data)))) ?_
      refine wnil (then_n (wp_ret ?_))
      refine bodyPost_ret (v := .bool ((decide (x.data = y.data)))) (res1 rfl (rv_t (by kernel_rfl))) (by kernel_rfl) ?_
      exact ⟨ret_bool (item_dec x y p20 p24 p28 (v29.trans v30.symm) (v31.trans v32.symm) p36), (Mod.up M41)⟩
    refine wl (sv (by kernel_rfl) (v := .bool false) (r_eqb (a := false) (b := true) Try.underlying4 (ebool (b := x.gone) (by kernel_rfl) v31) (ebool (b := y.gone) (by kernel_rfl) v32)) ?_)
    refine wl (sv rfl (v := .bool false) (r_pkT (by kernel_rfl) (by kernel_rfl)) ?_)
    refine wmv (v := .bool false) ?_
    refine wsp ?_
    refine wsp ?_
    refine wsp ?_
    refine wsp ?_
    refine wsp ?_
    refine wl (sv rfl (v := .bool false) (r_pkF (by kernel_rfl) (by kernel_rfl)) ?_)
    refine wmv (v := .bool false) ?_
    refine wsp ?_
    refine wsp ?_
    refine wsp ?_
    refine wsp ?_
    refine wsp ?_
    refine wl (sv rfl (v := .bool false) (r_pkF (by kernel_rfl) (by kernel_rfl)) ?_)
    refine was (v := .bool false) ?_
    refine wnil (then_n (wp_ret ?_))
    refine bodyPost_ret (v := .bool false) (res1 rfl (rv_t (by kernel_rfl))) (by kernel_rfl) ?_
    refine ⟨ret_bool (decide_eq_false (fun e => ?_)).symm, (Mod.up M15)⟩
    rw [e, v32] at v31; cases v31
  refine bcase y.gone (fun v32 => ?_) (fun v32 => ?_)
  · refine wl (sv (by kernel_rfl) (v := .bool false) (r_eqb (a := true) (b := false) Try.underlying4 (ebool (b := x.gone) (by kernel_rfl) v31) (ebool (b := y.gone) (by kernel_rfl) v32)) ?_)
    refine wl (sv rfl (v := .bool false) (r_pkT (by kernel_rfl) (by kernel_rfl)) ?_)
    refine wmv (v := .bool false) ?_
    refine wsp ?_
    refine wsp ?_
    refine wsp ?_
    refine wsp ?_
    refine wsp ?_
    refine wl (sv rfl (v := .bool false) (r_pkF (by kernel_rfl) (by kernel_rfl)) ?_)
    refine wmv (v := .bool false) ?_
    refine wsp ?_
    refine wsp ?_
    refine wsp ?_
    refine wsp ?_
    refine wsp ?_
    refine wl (sv rfl (v := .bool false) (r_pkF (by kernel_rfl) (by kernel_rfl)) ?_)
    refine was (v := .bool false) ?_
    refine wnil (then_n (wp_ret ?_))
    refine bodyPost_ret (v := .bool false) (res1 rfl (rv_t (by kernel_rfl))) (by kernel_rfl) ?_
    refine ⟨ret_bool (decide_eq_false (fun e => ?_)).symm, (Mod.up M15)⟩
    rw [e, v32] at v31; cases v31
  refine wl (sv (by kernel_rfl) (v := .bool true) (r_eqb (a := true) (b := true) Try.underlying4 (ebool (b := x.gone) (by kernel_rfl) v31) (ebool (b := y.gone) (by kernel_rfl) v32)) ?_)
  refine wl (sv rfl (v := .bool true) (r_pkT (by kernel_rfl) (by kernel_rfl)) ?_)
  refine wmv (v := .bool true) ?_
  refine wl (sv (by kernel_rfl) (v := .pointer (some ⟨b1, 8, none⟩)) (r_fieldAddr (u := .pointer (some ⟨b1, 0, none⟩)) (by kernel_rfl) (fun _ => (by kernel_rfl))) ?_)
  refine wl (sv (by kernel_rfl) (v := .agg #[.int .i64 x.by_.t, .int .i64 x.by_.w]) (r_loads (k := 8) (by kernel_rfl) Ty.ag24 Ty.sz24 h16 (by kernel_rfl)) ?_)
  refine wl (sv (by kernel_rfl) (v := .pointer (some ⟨b8, 8, none⟩)) (r_fieldAddr (u := .pointer (some ⟨b8, 0, none⟩)) (by kernel_rfl) (fun _ => (by kernel_rfl))) ?_)
  refine wl (sv (by kernel_rfl) (v := .agg #[.int .i64 y.by_.t, .int .i64 y.by_.w]) (r_loads (k := 8) (by kernel_rfl) Ty.ag24 Ty.sz24 h11 (by kernel_rfl)) ?_)
  refine wl (sb (by kernel_rfl) (r_eqS (a := x.by_.t) (b := x.by_.w) (c := y.by_.t) (e := y.by_.w) (by kernel_rfl) (by kernel_rfl)) ?_)
  intro b33 k34
  refine wl (sv rfl (v := .bool b33) (r_pkT (by kernel_rfl) (by kernel_rfl)) ?_)
  refine wmv (v := .bool b33) ?_
  refine bcase b33 (fun v35 => ?_) (fun v35 => ?_)
  · have p36 := of_decide_eq_false (k34.trans v35)
    refine wl (sp (wf (b := b33) rfl (by kernel_rfl) v35) ?_)
    refine wl (sp (wf (b := b33) rfl (by kernel_rfl) v35) ?_)
    refine wl (sp (wf (b := b33) rfl (by kernel_rfl) v35) ?_)
    refine wl (sp (wf (b := b33) rfl (by kernel_rfl) v35) ?_)
    refine wl (sp (wf (b := b33) rfl (by kernel_rfl) v35) ?_)
    refine wl (sv rfl (v := .bool false) (r_pkF (ebool (b := b33) (by kernel_rfl) v35) (by kernel_rfl)) ?_)
    refine was (v := .bool false) ?_
    refine wnil (then_n (wp_ret ?_))
    refine bodyPost_ret (v := .bool false) (res1 rfl (rv_t (by kernel_rfl))) (by kernel_rfl) ?_
    exact ⟨ret_bool (decide_eq_false (fun e => p36 (by rw [e]))).symm, (Mod.up M15)⟩
  have p36 := of_decide_eq_true (k34.trans v35)
  refine wl (sv (wt (b := b33) rfl (by kernel_rfl) v35) (v := .pointer (some ⟨b1, 7, none⟩)) (r_fieldAddr (u := .pointer (some ⟨b1, 0, none⟩)) (by kernel_rfl) (fun _ => (by kernel_rfl))) ?_)
  refine wl (sv (wt (b := b33) rfl (by kernel_rfl) v35) (v := .slice xA xn xc) (r_load (k := 7) (by kernel_rfl) Ty.ag33 h16 (by kernel_rfl)) ?_)
  refine wl (sv (wt (b := b33) rfl (by kernel_rfl) v35) (v := .pointer (some ⟨b8, 7, none⟩)) (r_fieldAddr (u := .pointer (some ⟨b8, 0, none⟩)) (by kernel_rfl) (fun _ => (by kernel_rfl))) ?_)
  refine wl (sv (wt (b := b33) rfl (by kernel_rfl) v35) (v := .slice yA yn yc) (r_load (k := 7) (by kernel_rfl) Ty.ag33 h11 (by kernel_rfl)) ?_)
  have h37 := (Dat.up hx (Mod.up M15))
  have h38 := (Dat.up hy (Mod.up M15))
  refine wl (sc (wt (b := b33) rfl (by kernel_rfl) v35) (r_callv (caps := []) (all := [.slice xA xn xc, .slice yA yn yc]) En.f60 (by kernel_rfl) (by kernel_rfl)) (r01same_at h37 h38) ?_)
  rintro e w39 ⟨rfl, u40⟩
  refine ⟨.bool ((decide (x.data = y.data))), rfl, ?_⟩
  have M41 := Mod.trans M15 (Mod.of_up u40)
  refine wl (sv rfl (v := .bool ((decide (x.data = y.data)))) (r_pkT (ebool (b := b33) (by kernel_rfl) v35) (by kernel_rfl)) ?_)
  refine was (v := .bool ((decide (x.data = y.data)))) ?_
  refine wnil (then_n (wp_ret ?_))
  refine bodyPost_ret (v := .bool ((decide (x.data = y.data)))) (res1 rfl (rv_t (by kernel_rfl))) (by kernel_rfl) ?_
  exact ⟨ret_bool (item_dec x y p20 p24 p28 (v29.trans v30.symm) (v31.trans v32.symm) p36), (Mod.up M41)⟩
end Go.Proofs.Ytefhfoioeoijlaa

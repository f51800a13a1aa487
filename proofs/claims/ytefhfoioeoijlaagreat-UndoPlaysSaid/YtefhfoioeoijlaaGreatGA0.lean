/- GA0: printed by gen.py -/
import Derived.Test.YtefhfoioeoijlaaGreatRws
set_option linter.unusedVariables false
set_option linter.unusedSimpArgs false
namespace Go.Proofs.YtefhfoioeoijlaaGreat
open Go Go.RowKit Go.Sort
theorem same_all {xs ys : List Int} (hl : xs.length = ys.length) (h : ∀ i, i < xs.length → xs.getD i 0 = ys.getD i 0) : xs = ys := by
  apply List.ext_getElem hl
  intro i h1 h2
  have := h i h1
  simpa [List.getD_eq_getElem?_getD, List.getElem?_eq_getElem h1, List.getElem?_eq_getElem h2] using this
theorem same_next {xs ys : List Int} {k : Nat} (h : Hid (∀ i, i < k → xs.getD i 0 = ys.getD i 0)) (e : ¬ xs.getD k 0 ≠ ys.getD k 0) : Hid (∀ i, i < k + 1 → xs.getD i 0 = ys.getD i 0) := fun i hi => by
  rcases Nat.lt_or_ge i k with h1 | h1
  · exact h.out i h1
  · obtain rfl : i = k := by omega
    exact Decidable.not_not.1 e
set_option maxHeartbeats 2000000 in
theorem r01same_sl {B B' : Nat} {w : World} {xA yA : Option Addr} {xn xc yn yc : Nat} {xs ys : List Int} (hx : Dat B w (.slice xA xn xc) xs) (hy : Dat B' w (.slice yA yn yc) ys) : Calls Tryz.prog 46 #[.slice xA xn xc, .slice yA yn yc] w fun r w' => r = .returned (.bool (decide (xs = ys))) ∧ Up w w' := by
  have hxl := hx.len
  have hyl := hy.len
  obtain ⟨hxl, hxm⟩ := hxl
  obtain ⟨hyl, hym⟩ := hyl
  go_enter Tryz.func46, Tryz.ntmps46
  refine wp_seq (rg_lit ?_)
  refine was (v := .bool false) ?_
  refine wnil (then_n (wp_seq (wp_seq (rg_lit ?_))))
  refine wmv (v := .slice xA xn xc) ?_
  refine wl (sv rfl (v := .int .i64 ((xn : Int))) (r_len Ty.un36 (ad := xA) (n := xn) (c := xc) (by kernel_rfl)) ?_)
  refine wmv (v := .slice yA yn yc) ?_
  refine wl (sv rfl (v := .int .i64 ((yn : Int))) (r_len Ty.un36 (ad := yA) (n := yn) (c := yc) (by kernel_rfl)) ?_)
  refine wl (sb rfl (r_ne (k := .i64) (m := ((xn : Int))) (n := ((yn : Int))) (by kernel_rfl) (by kernel_rfl)) ?_)
  intro b1 k2
  refine wnil (then_n ?_)
  refine bcase b1 (fun v3 => ?_) (fun v3 => ?_)
  ·
   have p4 := of_decide_eq_false (k2.trans v3)
   refine wp_cond_false (ebool (b := b1) (by kernel_rfl) v3) ?_
   refine wp_skip (then_n (wp_seq (wp_seq (rg_lit ?_))))
   refine was (v := .int .i64 0) ?_
   refine wnil (then_n (wp_block ?_))
   refine lp (fun n a r1 => ∃ (k : Nat) (z4 z11 z12 z13 z14 z15 z16 z17 z18 z19 z20 z21 z22 z23 z24 z25 : Value), (n = xn - k) ∧ (a = ⟨#[.slice xA xn xc, .slice yA yn yc, undef, undef, z4, .int .i64 ((k : Int)), .slice xA xn xc, .int .i64 ((xn : Int)), .slice yA yn yc, .int .i64 ((yn : Int)), .bool b1, z11, z12, z13, z14, z15, z16, z17, z18, z19, z20, z21, z22, z23, z24, z25], []⟩) ∧ (Mod [] w r1) ∧ (k ≤ xn) ∧ (Hid (∀ i, i < k → xs.getD i 0 = ys.getD i 0))) ⟨_, 0, .bool false, undef, undef, undef, undef, undef, undef, undef, undef, undef, undef, undef, undef, undef, undef, undef, rfl, (by kernel_rfl), Mod.refl _ _, Nat.zero_le _, (fun i hi => absurd hi (Nat.not_lt_zero _))⟩ ?_
   rintro _ _ r1 ⟨k, z4, z11, z12, z13, z14, z15, z16, z17, z18, z19, z20, z21, z22, z23, z24, z25, rfl, rfl, hM1, hF1_0, hF1_1⟩
   have M5 := Mod.thin (Mod.refl [] w) hM1 (by simp)
   refine wp_seq (wp_seq (rg_lit ?_))
   refine wmv (v := .int .i64 ((k : Int))) ?_
   refine wmv (v := .slice xA xn xc) ?_
   refine wl (sv rfl (v := .int .i64 ((xn : Int))) (r_len Ty.un36 (ad := xA) (n := xn) (c := xc) (by kernel_rfl)) ?_)
   refine wl (sb rfl (r_lt (k := .i64) (m := ((k : Int))) (n := ((xn : Int))) (by kernel_rfl) (by kernel_rfl)) ?_)
   intro b6 k7
   refine wnil (then_n ?_)
   refine bcase b6 (fun v8 => ?_) (fun v8 => ?_)
   ·
    have p9 := of_decide_eq_false (k7.trans v8)
    refine wp_cond_false (ebool (b := b6) (by kernel_rfl) v8) ?_
    refine wp_exit (then_x (by nofun) (then_x (by nofun) (inb_hit (then_n (wp_seq (rg_lit ?_))))))
    refine was (v := .bool true) ?_
    refine wnil (then_n (wp_ret ?_))
    refine bodyPost_ret (v := .bool true) (res1 rfl (rv_t (by kernel_rfl))) (by kernel_rfl) ?_
    refine ⟨ret_bool (decide_eq_true ?_).symm, (Mod.up M5)⟩
    exact same_all (by omega) (fun i hi => hF1_1.out i (by omega))
   have p9 := of_decide_eq_true (k7.trans v8)
   have q10 : k < xn := by omega
   have q11 : k < xn := by omega
   have q12 : k < yn := by omega
   refine wp_cond_true (ebool (b := b6) (by kernel_rfl) v8) ?_
   refine wp_skip (then_n (wp_seq (wp_block (wp_seq ?_))))
   refine rg_all (by kernel_rfl) (by kernel_rfl) ?_
   refine qmv (v := .slice xA xn xc) ?_
   refine qmv (v := .int .i64 ((k : Int))) ?_
   have h13 := (Dat.up hx (Mod.up M5))
   obtain ⟨g14, o14, hA14, hl14, hc14⟩ := Dat.get h13 (i := k) q11
   refine qv rfl (v := .pointer (some ⟨g14, o14 + k, none⟩)) (fun _ _ => r_ixaddr' (A := xA) (b := g14) (o := o14) (n := xn) (c := xc) (sz := 1) (j := (k : Int)) (by kernel_rfl) hA14 (by kernel_rfl) Ty.un36 Ty.sz5 (by omega) (by omega) (by simp)) ?_
   refine qv rfl (v := .int .u8 (xs.getD k 0)) (fun _ uz => r_loadc (by kernel_rfl) Ty.ag5 ((uz.cell (p := ⟨g14, o14 + k, none⟩) hl14).trans hc14)) ?_
   refine qmv (v := .slice yA yn yc) ?_
   refine qmv (v := .int .i64 ((k : Int))) ?_
   have h15 := (Dat.up hy (Mod.up M5))
   obtain ⟨g16, o16, hA16, hl16, hc16⟩ := Dat.get h15 (i := k) q12
   refine qv rfl (v := .pointer (some ⟨g16, o16 + k, none⟩)) (fun _ _ => r_ixaddr' (A := yA) (b := g16) (o := o16) (n := yn) (c := yc) (sz := 1) (j := (k : Int)) (by kernel_rfl) hA16 (by kernel_rfl) Ty.un36 Ty.sz5 (by omega) (by omega) (by simp)) ?_
   refine qv rfl (v := .int .u8 (ys.getD k 0)) (fun _ uz => r_loadc (by kernel_rfl) Ty.ag5 ((uz.cell (p := ⟨g16, o16 + k, none⟩) hl16).trans hc16)) ?_
   refine qb rfl (fun _ _ => r_ne (k := .u8) (m := (xs.getD k 0)) (n := (ys.getD k 0)) (by kernel_rfl) (by kernel_rfl)) ?_
   intro b17 k18
   refine qnil ?_
   intro w19 u20
   have M21 := Mod.trans M5 (Mod.of_up u20)
   have M22 := Mod.trans hM1 (Mod.of_up u20)
   refine then_n ?_
   refine bcase b17 (fun v23 => ?_) (fun v23 => ?_)
   ·
    have p24 := of_decide_eq_false (k18.trans v23)
    refine wp_cond_false (ebool (b := b17) (by kernel_rfl) v23) ?_
    refine wp_skip (inb_n (then_n (rg_lit ?_)))
    refine wmv (v := .int .i64 ((k : Int))) ?_
    refine wl (sv rfl (v := .int .i64 (((k : Int)) + 1)) (r_add (k := .i64) (m := ((k : Int))) (n := 1) (by kernel_rfl) (by kernel_rfl) (IntWalk.i64_in _ (by omega))) ?_)
    refine was (v := .int .i64 (((k : Int)) + 1)) ?_
    refine wnil (then_n ?_)
    refine ⟨xn - (k + 1), ?_, (k + 1), z4, .int .i64 ((k : Int)), .slice xA xn xc, .int .i64 ((xn : Int)), .bool b6, .int .i64 ((k : Int)), .int .i64 (((k : Int)) + 1), .slice xA xn xc, .int .i64 ((k : Int)), .pointer (some ⟨g14, o14 + k, none⟩), .int .u8 (xs.getD k 0), .slice yA yn yc, .int .i64 ((k : Int)), .pointer (some ⟨g16, o16 + k, none⟩), .int .u8 (ys.getD k 0), .bool b17, rfl, (by kernel_rfl), M22, (by omega), (same_next hF1_1 p24)⟩
    · omega
   have p24 := of_decide_eq_true (k18.trans v23)
   refine wp_cond_true (ebool (b := b17) (by kernel_rfl) v23) ?_
   refine wp_seq (rg_lit ?_)
   refine was (v := .bool false) ?_
   refine wnil (then_n (wp_ret (inb_r (then_x (by nofun) (then_x (by nofun) (inb_r (then_x (by nofun) ?_)))))))
   refine bodyPost_ret (v := .bool false) (res1 rfl (rv_t (by kernel_rfl))) (by kernel_rfl) ?_
   refine ⟨ret_bool (decide_eq_false ?_).symm, (Mod.up M21)⟩
   intro e; rw [e] at p24; exact p24 rfl
  have p4 := of_decide_eq_true (k2.trans v3)
  refine wp_cond_true (ebool (b := b1) (by kernel_rfl) v3) ?_
  refine wp_seq (rg_lit ?_)
  refine was (v := .bool false) ?_
  refine wnil (then_n (wp_ret (then_x (by nofun) ?_)))
  refine bodyPost_ret (v := .bool false) (res1 rfl (rv_t (by kernel_rfl))) (by kernel_rfl) ?_
  refine ⟨ret_bool (decide_eq_false ?_).symm, (Mod.up (Mod.refl [] w))⟩
  intro e; have := congrArg List.length e; omega
theorem r01same_at {B B' : Nat} {w : World} {d e : Value} {xs ys : List Int} (hx : Dat B w d xs) (hy : Dat B' w e ys) : Calls Tryz.prog 46 #[d, e] w fun r w' => r = .returned (.bool (decide (xs = ys))) ∧ Up w w' := by
  obtain ⟨A, n, c, rfl⟩ := hx.form
  obtain ⟨A', n', c', rfl⟩ := hy.form
  exact r01same_sl hx hy
end Go.Proofs.YtefhfoioeoijlaaGreat

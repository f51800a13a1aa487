/- GPA: printed by gen.py -/
import Derived.Test.YtefhfoioeoijlaaGreatPlays
set_option linter.unusedVariables false
set_option linter.unusedSimpArgs false
namespace Go.Proofs.YtefhfoioeoijlaaGreat
open Go Go.RowKit Go.Sort
set_option maxHeartbeats 2000000 in
theorem behind_at {B base : Nat} {w : World} {mb vc : Nat} {vA : Option Addr} {D : List OpD} (hmb : w.heap[mb]? = some (.cells #[.slice vA D.length vc] 30 (0, 0))) (hD : ORow 38 B base w (.slice vA D.length vc) D) (hn : D.length ≤ 100000) (m1 m2 : Int) :
    Calls Tryz.prog 24 #[trP mb, .agg #[.int .i64 m1, .int .i64 m2]] w fun e w' => ∃ (n : Nat) (p : Int), e = .returned (.tuple #[.int .i64 n, .int .i64 p]) ∧ n = afterN D ⟨m1, m2⟩ ∧ PlP D ⟨m1, m2⟩ D.length p ∧ Up w w' := by
  go_enter Tryz.func24, Tryz.ntmps24
  refine wp_seq (rg_lit ?_)
  refine wl (sn rfl (cs := #[.int .i64 m1, .int .i64 m2]) (T := 35) (V := fun b => .pointer (some ⟨b, 0, none⟩)) (r_box (v := .agg #[.int .i64 m1, .int .i64 m2]) (by kernel_rfl) rfl) ?_)
  intro b1 w2 e3 h4 u5
  have l6 : mb < b1 := by rw [e3]; exact lt_ob hmb
  have g7 : w.heap.size ≤ b1 := by rw [e3]; exact (Mod.refl [] w).size
  have M8 := Mod.trans (Mod.refl [] w) (Mod.of_up u5)
  refine was (v := .int .i64 0) ?_
  refine was (v := .int .i64 0) ?_
  refine wnil (then_n (wp_seq (rg_lit ?_)))
  refine was (v := .int .i64 0) ?_
  refine was (v := .int .i64 (-1)) ?_
  refine wnil (then_n (wp_seq (wp_seq (rg_lit ?_))))
  refine was (v := .int .i64 0) ?_
  refine wnil (then_n (wp_block ?_))
  have h9 := md_ob M8 nin0 hmb
  have h10 := (ORow.up hD (Mod.up M8))
  refine lp (fun n a r1 => ∃ (kd : Nat) (nb : Nat) (pl : Int) (z9 z10 z11 z12 z13 z14 z15 z16 z17 z18 z19 z20 z21 z22 z23 z24 z25 z26 z27 z28 z29 z30 z31 z32 z33 z34 z35 z36 z37 z38 z39 z40 : Value), (n = D.length - kd) ∧ (a = ⟨#[.pointer (some ⟨mb, 0, none⟩), .agg #[.int .i64 m1, .int .i64 m2], undef, .pointer (some ⟨b1, 0, none⟩), .int .i64 0, .int .i64 0, .int .i64 ((nb : Int)), .int .i64 pl, .int .i64 ((kd : Int)), z9, z10, z11, z12, z13, z14, z15, z16, z17, z18, z19, z20, z21, z22, z23, z24, z25, z26, z27, z28, z29, z30, z31, z32, z33, z34, z35, z36, z37, z38, z39, z40, undef, undef], []⟩) ∧ (Mod [] w2 r1) ∧ (kd ≤ D.length) ∧ (nb ≤ kd) ∧ (nb = afterN (D.take kd) ⟨m1, m2⟩) ∧ (PlP D ⟨m1, m2⟩ kd pl)) ⟨_, 0, 0, (-1), undef, undef, undef, undef, undef, undef, undef, undef, undef, undef, undef, undef, undef, undef, undef, undef, undef, undef, undef, undef, undef, undef, undef, undef, undef, undef, undef, undef, undef, undef, undef, undef, rfl, (by kernel_rfl), Mod.refl _ _, (Nat.zero_le _), (Nat.le_refl _), rfl, (PlP.zero _ _)⟩ ?_
  rintro _ _ r1 ⟨kd, nb, pl, z9, z10, z11, z12, z13, z14, z15, z16, z17, z18, z19, z20, z21, z22, z23, z24, z25, z26, z27, z28, z29, z30, z31, z32, z33, z34, z35, z36, z37, z38, z39, z40, rfl, rfl, hM1, hF1_0, hF1_1, hF1_2, hF1_3⟩
  have M11 := Mod.thin M8 hM1 (by simp)
  refine wp_seq (wp_seq (rg_lit ?_))
  refine wmv (v := .int .i64 ((kd : Int))) ?_
  refine wmv (v := .pointer (some ⟨mb, 0, none⟩)) ?_
  refine wl (sv rfl (v := .pointer (some ⟨mb, 0, none⟩)) (r_nilCheck (by kernel_rfl)) ?_)
  refine wl (sv rfl (v := .pointer (some ⟨mb, 0, none⟩)) (r_fieldAddr (u := .pointer (some ⟨mb, 0, none⟩)) (by kernel_rfl) (fun _ => (by kernel_rfl))) ?_)
  have h12 := md_ob M11 nin0 hmb
  refine wl (sv rfl (v := .slice vA D.length vc) (r_load (k := 0) (by kernel_rfl) Ty.ag28 h12 (by kernel_rfl)) ?_)
  refine wl (sv rfl (v := .int .i64 ((D.length : Int))) (r_len Ty.un28 (ad := vA) (n := D.length) (c := vc) (by kernel_rfl)) ?_)
  refine wl (sb rfl (r_lt (k := .i64) (m := ((kd : Int))) (n := ((D.length : Int))) (by kernel_rfl) (by kernel_rfl)) ?_)
  intro b13 k14
  refine wnil (then_n ?_)
  refine bcase b13 (fun v15 => ?_) (fun v15 => ?_)
  ·
   have p16 := of_decide_eq_false (k14.trans v15)
   refine wp_cond_false (ebool (b := b13) (by kernel_rfl) v15) ?_
   refine wp_exit (then_x (by nofun) (then_x (by nofun) (inb_hit (then_n (wp_seq (rg_lit ?_))))))
   refine wmv (v := .int .i64 ((nb : Int))) ?_
   refine wmv (v := .int .i64 pl) ?_
   refine was (v := .int .i64 ((nb : Int))) ?_
   refine was (v := .int .i64 pl) ?_
   refine wnil (then_n (wp_ret ?_))
   refine bodyPost_ret (v := .tuple #[.int .i64 ((nb : Int)), .int .i64 pl]) (res2 rfl (rv_t (by kernel_rfl)) (rv_t (by kernel_rfl))) (by kernel_rfl) ?_
   exact ⟨_, _, rfl, (by rw [hF1_2, List.take_of_length_le (by omega)]), PlP.end_ hF1_3 (by omega), (Mod.up M11)⟩
  have p16 := of_decide_eq_true (k14.trans v15)
  have q17 : kd < D.length := by omega
  have q18 : kd < D.length := by omega
  refine wp_cond_true (ebool (b := b13) (by kernel_rfl) v15) ?_
  refine wp_skip (then_n (wp_seq (wp_block (wp_seq (wp_seq ?_)))))
  refine rg_all (by kernel_rfl) (by kernel_rfl) ?_
  have h19 := md_ob hM1 nin0 h4
  refine qv rfl (v := .agg #[.int .i64 m1, .int .i64 m2]) (fun _ uz => r_loads (k := 0) (by kernel_rfl) Ty.ag35 Ty.sz35 (up_ob uz h19) (by kernel_rfl)) ?_
  refine qmv (v := .pointer (some ⟨mb, 0, none⟩)) ?_
  refine qv rfl (v := .pointer (some ⟨mb, 0, none⟩)) (fun _ _ => r_nilCheck (by kernel_rfl)) ?_
  refine qv rfl (v := .pointer (some ⟨mb, 0, none⟩)) (fun _ _ => r_fieldAddr (u := .pointer (some ⟨mb, 0, none⟩)) (by kernel_rfl) (fun _ => (by kernel_rfl))) ?_
  refine qv rfl (v := .slice vA D.length vc) (fun _ uz => r_load (k := 0) (by kernel_rfl) Ty.ag28 (up_ob uz h12) (by kernel_rfl)) ?_
  refine qmv (v := .int .i64 ((kd : Int))) ?_
  have h20 := (ORow.up hD (Mod.up M11))
  obtain ⟨o21, ho21⟩ : ∃ x, D[kd]? = some x := ⟨_, List.getElem?_eq_getElem (by omega)⟩
  obtain ⟨g21, cp21, cu21, dA21, dn21, dc21, hA21, hg21, hb21, he21, hD21⟩ := ORow.get h20 ho21
  injection hA21 with hA21 _ _
  replace he21 : (cu21.toList.drop (0 + kd * 10)).take 10 = opC o21 (.slice dA21 dn21 dc21) := by rw [Nat.zero_add]; exact he21
  refine qv rfl (v := .pointer (some ⟨g21, 0 + kd * 10, none⟩)) (fun _ _ => r_ixaddr' (A := vA) (b := g21) (o := 0) (n := D.length) (c := vc) (sz := 10) (j := ((kd : Int))) (by kernel_rfl) hA21 (by kernel_rfl) Ty.un28 Ty.sz38 (by omega) (by omega) (by simp)) ?_
  refine qv rfl (v := .pointer (some ⟨g21, 0 + kd * 10 + 1, none⟩)) (fun _ _ => r_fieldAddr (u := .pointer (some ⟨g21, 0 + kd * 10, none⟩)) (by kernel_rfl) (fun _ => (by kernel_rfl))) ?_
  refine qv rfl (v := .agg #[.int .i64 o21.at_.t, .int .i64 o21.at_.w]) (fun _ uz => r_loads (k := 0 + kd * 10 + 1) (by kernel_rfl) Ty.ag35 Ty.sz35 (up_ob uz hb21) (el_sub he21 1 rfl)) ?_
  refine qc rfl (v := .bool ((lessS ⟨m1, m2⟩ ⟨o21.at_.t, o21.at_.w⟩))) (fun _ _ => r_callv (caps := []) (all := [.agg #[.int .i64 m1, .int .i64 m2], .agg #[.int .i64 o21.at_.t, .int .i64 o21.at_.w]]) En.f42 (by kernel_rfl) (by kernel_rfl)) (fun wz uz => r04less_any ⟨m1, m2⟩ ⟨o21.at_.t, o21.at_.w⟩ _) ?_ ?_
  · rintro w1 e w2 hC ⟨rfl, hu⟩; exact ⟨rfl, up_step hC hu.below⟩
  refine qnil ?_
  intro w22 u23
  have M24 := Mod.trans M11 (Mod.of_up u23)
  have M25 := Mod.trans hM1 (Mod.of_up u23)
  refine then_n ?_
  refine bcase ((lessS ⟨m1, m2⟩ ⟨o21.at_.t, o21.at_.w⟩)) (fun v26 => ?_) (fun v26 => ?_)
  ·
   refine wp_cond_false (ebool (b := (lessS ⟨m1, m2⟩ ⟨o21.at_.t, o21.at_.w⟩)) (by kernel_rfl) v26) ?_
   refine wp_skip (then_n (wp_seq ?_))
   refine rg_all (by kernel_rfl) (by kernel_rfl) ?_
   refine qmv (v := .pointer (some ⟨mb, 0, none⟩)) ?_
   refine qv rfl (v := .pointer (some ⟨mb, 0, none⟩)) (fun _ _ => r_nilCheck (by kernel_rfl)) ?_
   refine qv rfl (v := .pointer (some ⟨mb, 0, none⟩)) (fun _ _ => r_fieldAddr (u := .pointer (some ⟨mb, 0, none⟩)) (by kernel_rfl) (fun _ => (by kernel_rfl))) ?_
   have h27 := md_ob M24 nin0 hmb
   refine qv rfl (v := .slice vA D.length vc) (fun _ uz => r_load (k := 0) (by kernel_rfl) Ty.ag28 (up_ob uz h27) (by kernel_rfl)) ?_
   refine qmv (v := .int .i64 ((kd : Int))) ?_
   have h28 := (ORow.up hD (Mod.up M24))
   obtain ⟨g29, cp29, cu29, dA29, dn29, dc29, hA29, hg29, hb29, he29, hD29⟩ := ORow.get h28 ho21
   injection hA29 with hA29 _ _
   replace he29 : (cu29.toList.drop (0 + kd * 10)).take 10 = opC o21 (.slice dA29 dn29 dc29) := by rw [Nat.zero_add]; exact he29
   refine qv rfl (v := .pointer (some ⟨g29, 0 + kd * 10, none⟩)) (fun _ _ => r_ixaddr' (A := vA) (b := g29) (o := 0) (n := D.length) (c := vc) (sz := 10) (j := ((kd : Int))) (by kernel_rfl) hA29 (by kernel_rfl) Ty.un28 Ty.sz38 (by omega) (by omega) (by simp)) ?_
   refine qv rfl (v := .pointer (some ⟨g29, 0 + kd * 10 + 1, none⟩)) (fun _ _ => r_fieldAddr (u := .pointer (some ⟨g29, 0 + kd * 10, none⟩)) (by kernel_rfl) (fun _ => (by kernel_rfl))) ?_
   refine qv rfl (v := .agg #[.int .i64 o21.at_.t, .int .i64 o21.at_.w]) (fun _ uz => r_loads (k := 0 + kd * 10 + 1) (by kernel_rfl) Ty.ag35 Ty.sz35 (up_ob uz hb29) (el_sub he29 1 rfl)) ?_
   have h30 := md_ob M25 nin0 h4
   refine qv rfl (v := .agg #[.int .i64 m1, .int .i64 m2]) (fun _ uz => r_loads (k := 0) (by kernel_rfl) Ty.ag35 Ty.sz35 (up_ob uz h30) (by kernel_rfl)) ?_
   refine qb rfl (fun _ _ => r_eqS (a := o21.at_.t) (b := o21.at_.w) (c := m1) (e := m2) (by kernel_rfl) (by kernel_rfl)) ?_
   intro b31 k32
   refine qnil ?_
   intro w33 u34
   have M35 := Mod.trans M24 (Mod.of_up u34)
   have M36 := Mod.trans M25 (Mod.of_up u34)
   refine then_n ?_
   refine bcase b31 (fun v37 => ?_) (fun v37 => ?_)
   ·
    have p38 := of_decide_eq_false (k32.trans v37)
    refine wp_cond_false (ebool (b := b31) (by kernel_rfl) v37) ?_
    refine wp_skip (inb_n (then_n (rg_lit ?_)))
    refine wmv (v := .int .i64 ((kd : Int))) ?_
    refine wl (sv rfl (v := .int .i64 (((kd + 1 : Nat) : Int))) (r_add (k := .i64) (m := ((kd : Int))) (n := 1) (c := (((kd + 1 : Nat) : Int))) (by kernel_rfl) (by kernel_rfl) ((IntWalk.i64_in _ (by omega)).trans (by omega))) ?_)
    refine was (v := .int .i64 (((kd + 1 : Nat) : Int))) ?_
    refine wnil (then_n ?_)
    refine ⟨D.length - (kd + 1), ?_, (kd + 1), nb, pl, .int .i64 ((kd : Int)), .pointer (some ⟨mb, 0, none⟩), .pointer (some ⟨mb, 0, none⟩), .pointer (some ⟨mb, 0, none⟩), .slice vA D.length vc, .int .i64 ((D.length : Int)), .bool b13, .int .i64 ((kd : Int)), .int .i64 (((kd + 1 : Nat) : Int)), .agg #[.int .i64 m1, .int .i64 m2], .pointer (some ⟨mb, 0, none⟩), .pointer (some ⟨mb, 0, none⟩), .pointer (some ⟨mb, 0, none⟩), .slice vA D.length vc, .int .i64 ((kd : Int)), .pointer (some ⟨g21, 0 + kd * 10, none⟩), .pointer (some ⟨g21, 0 + kd * 10 + 1, none⟩), .agg #[.int .i64 o21.at_.t, .int .i64 o21.at_.w], .bool ((lessS ⟨m1, m2⟩ ⟨o21.at_.t, o21.at_.w⟩)), z28, z29, .pointer (some ⟨mb, 0, none⟩), .pointer (some ⟨mb, 0, none⟩), .pointer (some ⟨mb, 0, none⟩), .slice vA D.length vc, .int .i64 ((kd : Int)), .pointer (some ⟨g29, 0 + kd * 10, none⟩), .pointer (some ⟨g29, 0 + kd * 10 + 1, none⟩), .agg #[.int .i64 o21.at_.t, .int .i64 o21.at_.w], .agg #[.int .i64 m1, .int .i64 m2], .bool b31, z40, rfl, (by kernel_rfl), M36, (by omega), (by omega), (by rw [hF1_2]; exact after_not ho21 v26), (PlP.miss hF1_3 ho21 p38)⟩
    · omega
   have p38 := of_decide_eq_true (k32.trans v37)
   refine wp_cond_true (ebool (b := b31) (by kernel_rfl) v37) ?_
   refine rg_lit ?_
   refine wmv (v := .int .i64 ((kd : Int))) ?_
   refine was (v := .int .i64 ((kd : Int))) ?_
   refine wnil (inb_n (then_n (rg_lit ?_)))
   refine wmv (v := .int .i64 ((kd : Int))) ?_
   refine wl (sv rfl (v := .int .i64 (((kd + 1 : Nat) : Int))) (r_add (k := .i64) (m := ((kd : Int))) (n := 1) (c := (((kd + 1 : Nat) : Int))) (by kernel_rfl) (by kernel_rfl) ((IntWalk.i64_in _ (by omega)).trans (by omega))) ?_)
   refine was (v := .int .i64 (((kd + 1 : Nat) : Int))) ?_
   refine wnil (then_n ?_)
   refine ⟨D.length - (kd + 1), ?_, (kd + 1), nb, ((kd : Int)), .int .i64 ((kd : Int)), .pointer (some ⟨mb, 0, none⟩), .pointer (some ⟨mb, 0, none⟩), .pointer (some ⟨mb, 0, none⟩), .slice vA D.length vc, .int .i64 ((D.length : Int)), .bool b13, .int .i64 ((kd : Int)), .int .i64 (((kd + 1 : Nat) : Int)), .agg #[.int .i64 m1, .int .i64 m2], .pointer (some ⟨mb, 0, none⟩), .pointer (some ⟨mb, 0, none⟩), .pointer (some ⟨mb, 0, none⟩), .slice vA D.length vc, .int .i64 ((kd : Int)), .pointer (some ⟨g21, 0 + kd * 10, none⟩), .pointer (some ⟨g21, 0 + kd * 10 + 1, none⟩), .agg #[.int .i64 o21.at_.t, .int .i64 o21.at_.w], .bool ((lessS ⟨m1, m2⟩ ⟨o21.at_.t, o21.at_.w⟩)), z28, z29, .pointer (some ⟨mb, 0, none⟩), .pointer (some ⟨mb, 0, none⟩), .pointer (some ⟨mb, 0, none⟩), .slice vA D.length vc, .int .i64 ((kd : Int)), .pointer (some ⟨g29, 0 + kd * 10, none⟩), .pointer (some ⟨g29, 0 + kd * 10 + 1, none⟩), .agg #[.int .i64 o21.at_.t, .int .i64 o21.at_.w], .agg #[.int .i64 m1, .int .i64 m2], .bool b31, .int .i64 ((kd : Int)), rfl, (by kernel_rfl), M36, (by omega), (by omega), (by rw [hF1_2]; exact after_not ho21 v26), (PlP.hit ho21 p38)⟩
   · omega
  refine wp_cond_true (ebool (b := (lessS ⟨m1, m2⟩ ⟨o21.at_.t, o21.at_.w⟩)) (by kernel_rfl) v26) ?_
  refine rg_lit ?_
  refine wmv (v := .int .i64 ((nb : Int))) ?_
  refine wl (sv rfl (v := .int .i64 (((nb + 1 : Nat) : Int))) (r_add (k := .i64) (m := ((nb : Int))) (n := 1) (c := (((nb + 1 : Nat) : Int))) (by kernel_rfl) (by kernel_rfl) ((IntWalk.i64_in _ (by omega)).trans (by omega))) ?_)
  refine was (v := .int .i64 (((nb + 1 : Nat) : Int))) ?_
  refine wnil (then_n (wp_seq ?_))
  refine rg_all (by kernel_rfl) (by kernel_rfl) ?_
  refine qmv (v := .pointer (some ⟨mb, 0, none⟩)) ?_
  refine qv rfl (v := .pointer (some ⟨mb, 0, none⟩)) (fun _ _ => r_nilCheck (by kernel_rfl)) ?_
  refine qv rfl (v := .pointer (some ⟨mb, 0, none⟩)) (fun _ _ => r_fieldAddr (u := .pointer (some ⟨mb, 0, none⟩)) (by kernel_rfl) (fun _ => (by kernel_rfl))) ?_
  have h27 := md_ob M24 nin0 hmb
  refine qv rfl (v := .slice vA D.length vc) (fun _ uz => r_load (k := 0) (by kernel_rfl) Ty.ag28 (up_ob uz h27) (by kernel_rfl)) ?_
  refine qmv (v := .int .i64 ((kd : Int))) ?_
  have h28 := (ORow.up hD (Mod.up M24))
  obtain ⟨g29, cp29, cu29, dA29, dn29, dc29, hA29, hg29, hb29, he29, hD29⟩ := ORow.get h28 ho21
  injection hA29 with hA29 _ _
  replace he29 : (cu29.toList.drop (0 + kd * 10)).take 10 = opC o21 (.slice dA29 dn29 dc29) := by rw [Nat.zero_add]; exact he29
  refine qv rfl (v := .pointer (some ⟨g29, 0 + kd * 10, none⟩)) (fun _ _ => r_ixaddr' (A := vA) (b := g29) (o := 0) (n := D.length) (c := vc) (sz := 10) (j := ((kd : Int))) (by kernel_rfl) hA29 (by kernel_rfl) Ty.un28 Ty.sz38 (by omega) (by omega) (by simp)) ?_
  refine qv rfl (v := .pointer (some ⟨g29, 0 + kd * 10 + 1, none⟩)) (fun _ _ => r_fieldAddr (u := .pointer (some ⟨g29, 0 + kd * 10, none⟩)) (by kernel_rfl) (fun _ => (by kernel_rfl))) ?_
  refine qv rfl (v := .agg #[.int .i64 o21.at_.t, .int .i64 o21.at_.w]) (fun _ uz => r_loads (k := 0 + kd * 10 + 1) (by kernel_rfl) Ty.ag35 Ty.sz35 (up_ob uz hb29) (el_sub he29 1 rfl)) ?_
  have h30 := md_ob M25 nin0 h4
  refine qv rfl (v := .agg #[.int .i64 m1, .int .i64 m2]) (fun _ uz => r_loads (k := 0) (by kernel_rfl) Ty.ag35 Ty.sz35 (up_ob uz h30) (by kernel_rfl)) ?_
  refine qb rfl (fun _ _ => r_eqS (a := o21.at_.t) (b := o21.at_.w) (c := m1) (e := m2) (by kernel_rfl) (by kernel_rfl)) ?_
  intro b31 k32
  refine qnil ?_
  intro w33 u34
  have M35 := Mod.trans M24 (Mod.of_up u34)
  have M36 := Mod.trans M25 (Mod.of_up u34)
  refine then_n ?_
  refine bcase b31 (fun v37 => ?_) (fun v37 => ?_)
  ·
   have p38 := of_decide_eq_false (k32.trans v37)
   refine wp_cond_false (ebool (b := b31) (by kernel_rfl) v37) ?_
   refine wp_skip (inb_n (then_n (rg_lit ?_)))
   refine wmv (v := .int .i64 ((kd : Int))) ?_
   refine wl (sv rfl (v := .int .i64 (((kd + 1 : Nat) : Int))) (r_add (k := .i64) (m := ((kd : Int))) (n := 1) (c := (((kd + 1 : Nat) : Int))) (by kernel_rfl) (by kernel_rfl) ((IntWalk.i64_in _ (by omega)).trans (by omega))) ?_)
   refine was (v := .int .i64 (((kd + 1 : Nat) : Int))) ?_
   refine wnil (then_n ?_)
   refine ⟨D.length - (kd + 1), ?_, (kd + 1), (nb + 1), pl, .int .i64 ((kd : Int)), .pointer (some ⟨mb, 0, none⟩), .pointer (some ⟨mb, 0, none⟩), .pointer (some ⟨mb, 0, none⟩), .slice vA D.length vc, .int .i64 ((D.length : Int)), .bool b13, .int .i64 ((kd : Int)), .int .i64 (((kd + 1 : Nat) : Int)), .agg #[.int .i64 m1, .int .i64 m2], .pointer (some ⟨mb, 0, none⟩), .pointer (some ⟨mb, 0, none⟩), .pointer (some ⟨mb, 0, none⟩), .slice vA D.length vc, .int .i64 ((kd : Int)), .pointer (some ⟨g21, 0 + kd * 10, none⟩), .pointer (some ⟨g21, 0 + kd * 10 + 1, none⟩), .agg #[.int .i64 o21.at_.t, .int .i64 o21.at_.w], .bool ((lessS ⟨m1, m2⟩ ⟨o21.at_.t, o21.at_.w⟩)), .int .i64 ((nb : Int)), .int .i64 (((nb + 1 : Nat) : Int)), .pointer (some ⟨mb, 0, none⟩), .pointer (some ⟨mb, 0, none⟩), .pointer (some ⟨mb, 0, none⟩), .slice vA D.length vc, .int .i64 ((kd : Int)), .pointer (some ⟨g29, 0 + kd * 10, none⟩), .pointer (some ⟨g29, 0 + kd * 10 + 1, none⟩), .agg #[.int .i64 o21.at_.t, .int .i64 o21.at_.w], .agg #[.int .i64 m1, .int .i64 m2], .bool b31, z40, rfl, (by kernel_rfl), M36, (by omega), (by omega), (by rw [hF1_2]; exact after_yes ho21 v26), (PlP.miss hF1_3 ho21 p38)⟩
   · omega
  have p38 := of_decide_eq_true (k32.trans v37)
  refine wp_cond_true (ebool (b := b31) (by kernel_rfl) v37) ?_
  refine rg_lit ?_
  refine wmv (v := .int .i64 ((kd : Int))) ?_
  refine was (v := .int .i64 ((kd : Int))) ?_
  refine wnil (inb_n (then_n (rg_lit ?_)))
  refine wmv (v := .int .i64 ((kd : Int))) ?_
  refine wl (sv rfl (v := .int .i64 (((kd + 1 : Nat) : Int))) (r_add (k := .i64) (m := ((kd : Int))) (n := 1) (c := (((kd + 1 : Nat) : Int))) (by kernel_rfl) (by kernel_rfl) ((IntWalk.i64_in _ (by omega)).trans (by omega))) ?_)
  refine was (v := .int .i64 (((kd + 1 : Nat) : Int))) ?_
  refine wnil (then_n ?_)
  refine ⟨D.length - (kd + 1), ?_, (kd + 1), (nb + 1), ((kd : Int)), .int .i64 ((kd : Int)), .pointer (some ⟨mb, 0, none⟩), .pointer (some ⟨mb, 0, none⟩), .pointer (some ⟨mb, 0, none⟩), .slice vA D.length vc, .int .i64 ((D.length : Int)), .bool b13, .int .i64 ((kd : Int)), .int .i64 (((kd + 1 : Nat) : Int)), .agg #[.int .i64 m1, .int .i64 m2], .pointer (some ⟨mb, 0, none⟩), .pointer (some ⟨mb, 0, none⟩), .pointer (some ⟨mb, 0, none⟩), .slice vA D.length vc, .int .i64 ((kd : Int)), .pointer (some ⟨g21, 0 + kd * 10, none⟩), .pointer (some ⟨g21, 0 + kd * 10 + 1, none⟩), .agg #[.int .i64 o21.at_.t, .int .i64 o21.at_.w], .bool ((lessS ⟨m1, m2⟩ ⟨o21.at_.t, o21.at_.w⟩)), .int .i64 ((nb : Int)), .int .i64 (((nb + 1 : Nat) : Int)), .pointer (some ⟨mb, 0, none⟩), .pointer (some ⟨mb, 0, none⟩), .pointer (some ⟨mb, 0, none⟩), .slice vA D.length vc, .int .i64 ((kd : Int)), .pointer (some ⟨g29, 0 + kd * 10, none⟩), .pointer (some ⟨g29, 0 + kd * 10 + 1, none⟩), .agg #[.int .i64 o21.at_.t, .int .i64 o21.at_.w], .agg #[.int .i64 m1, .int .i64 m2], .bool b31, .int .i64 ((kd : Int)), rfl, (by kernel_rfl), M36, (by omega), (by omega), (by rw [hF1_2]; exact after_yes ho21 v26), (PlP.hit ho21 p38)⟩
  · omega
end Go.Proofs.YtefhfoioeoijlaaGreat

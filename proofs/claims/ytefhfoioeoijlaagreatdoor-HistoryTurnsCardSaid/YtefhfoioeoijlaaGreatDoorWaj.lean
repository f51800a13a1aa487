/- GL -/
import Derived.Test.YtefhfoioeoijlaaGreatDoorWai
set_option linter.unusedVariables false
set_option linter.unusedSimpArgs false
namespace Go.Proofs.YtefhfoioeoijlaaGreatDoor
open Go Go.RowKit Go.Sort
def SymOK (N : Nat) : Prop := ∀ {B base : Nat} {w : World} {g nn c : Nat} {f : Nat → OpD} {pre A Bb post : List Nat} {ia m ib : Nat}, A.length + Bb.length ≤ N → ORow 49 B base w (.slice (some ⟨g, 0, none⟩) nn c) ((pre ++ (A ++ (Bb ++ post))).map f) → B ≤ base → nn ≤ 1000000 → pre.length = ia → ia + A.length = m → m + Bb.length = ib → 0 < A.length → 0 < Bb.length → A.Pairwise (lx f) → Bb.Pairwise (lx f) → Ahead (· < ·) A Bb →
    Calls Tryz.prog 201 #[.slice (some ⟨g, 0, none⟩) nn c, .int .i64 ia, .int .i64 m, .int .i64 ib, .func (.func 115) #[] #[]] w fun e w' => ∃ D, e = .returned (.tuple #[]) ∧ ORow 49 B base w' (.slice (some ⟨g, 0, none⟩) nn c) ((pre ++ (D ++ post)).map f) ∧ Merged (lx f) A Bb D ∧ Chg w w' g
theorem wp_cutA {P : Program} {c : Code} {a : Act} {w : World} {next : Act → World → Prop} {Q : Exit → Act → World → Prop} (R : Act → World → Prop) (h1 : c.wp P (Exit.then R Q) a w) (h2 : ∀ a' w', R a' w' → next a' w') : c.wp P (Exit.then next Q) a w := by
  refine wp_mono h1 ?_
  intro e a' w' h
  cases e <;> first | exact h2 _ _ h | exact h
theorem same_el {I : List Nat} {ia x y : Nat} (h : I[ia]? = some x) (k : I[ia]? = some y) : x = y := Option.some.inj (h.symm.trans k)
set_option maxRecDepth 20000 in
set_option maxHeartbeats 2000000 in
theorem sym_step {N : Nat} (ih : SymOK N) : SymOK (N + 1) := by
  intro B base w g nn c f pre A Bb post ia m ib hN h hBb hn ha hm hb hA0 hB0 hAs hBs hAB
  obtain ⟨hnL, hnc, hcm, cu0, hg, hcs0⟩ := ORow.blk h
  have hBg := ORow.ge h hBb
  have hn0 : nn = pre.length + (A.length + (Bb.length + post.length)) := by simpa using hnL
  have hl0 : (pre ++ (A ++ (Bb ++ post))).length = nn := by simp; omega
  go_enter Tryz.func201, Tryz.ntmps201
  refine wp_seq (wp_seq (rg_lit ?_))
  refine wmv (v := .int .i64 (m : Int)) ?_
  refine wmv (v := .int .i64 (ia : Int)) ?_
  refine wl (sv rfl (v := .int .i64 ((m - ia : Nat) : Int)) (r_sub (k := .i64) (m := (m : Int)) (n := (ia : Int)) (c := ((m - ia : Nat) : Int)) (by kernel_rfl) (by kernel_rfl) ((IntWalk.i64_in _ (by omega)).trans (by omega))) ?_)
  refine wl (sb rfl (r_eq (k := .i64) (m := ((m - ia : Nat) : Int)) (n := 1) (by kernel_rfl) (by kernel_rfl)) ?_)
  intro b1 k2
  refine wnil (then_n ?_)
  refine bcase b1 (fun v3 => ?_) (fun v3 => ?_)
  ·
   have p4 := of_decide_eq_false (k2.trans v3)
   refine wp_cond_false (ebool (b := b1) (by kernel_rfl) v3) ?_
   refine wp_skip (then_n (wp_seq (wp_seq (rg_lit ?_))))
   refine wmv (v := .int .i64 (ib : Int)) ?_
   refine wmv (v := .int .i64 (m : Int)) ?_
   refine wl (sv rfl (v := .int .i64 ((ib - m : Nat) : Int)) (r_sub (k := .i64) (m := (ib : Int)) (n := (m : Int)) (c := ((ib - m : Nat) : Int)) (by kernel_rfl) (by kernel_rfl) ((IntWalk.i64_in _ (by omega)).trans (by omega))) ?_)
   refine wl (sb rfl (r_eq (k := .i64) (m := ((ib - m : Nat) : Int)) (n := 1) (by kernel_rfl) (by kernel_rfl)) ?_)
   intro b5 k6
   refine wnil (then_n ?_)
   refine bcase b5 (fun v7 => ?_) (fun v7 => ?_)
   ·
    have p8 := of_decide_eq_false (k6.trans v7)
    refine wp_cond_false (ebool (b := b5) (by kernel_rfl) v7) ?_
    refine wp_skip (then_n (wp_seq (rg_lit ?_)))
    refine wmv (v := .int .i64 (ia : Int)) ?_
    refine wmv (v := .int .i64 (ib : Int)) ?_
    refine wl (sv rfl (v := .int .i64 ((ia + ib : Nat) : Int)) (r_add (k := .i64) (m := (ia : Int)) (n := (ib : Int)) (c := ((ia + ib : Nat) : Int)) (by kernel_rfl) (by kernel_rfl) ((IntWalk.i64_in _ (by omega)).trans (by omega))) ?_)
    refine wl (sv rfl (v := .int .u64 ((ia + ib : Nat) : Int)) (r_toUn (m := (ia + ib)) (by kernel_rfl) (by omega)) ?_)
    refine wl (sv rfl (v := .int .u64 (((ia + ib) / 2 : Nat) : Int)) (r_halfn (m := (ia + ib)) (by kernel_rfl) (by kernel_rfl)) ?_)
    refine wl (sv rfl (v := .int .i64 (((ia + ib) / 2 : Nat) : Int)) (r_toIn (m := ((ia + ib) / 2)) (by kernel_rfl) (by omega)) ?_)
    refine was (v := .int .i64 (((ia + ib) / 2 : Nat) : Int)) ?_
    refine wnil (then_n (wp_seq (rg_lit ?_)))
    refine wmv (v := .int .i64 (((ia + ib) / 2 : Nat) : Int)) ?_
    refine wmv (v := .int .i64 (m : Int)) ?_
    refine wl (sv rfl (v := .int .i64 (((ia + ib) / 2 + m : Nat) : Int)) (r_add (k := .i64) (m := (((ia + ib) / 2 : Nat) : Int)) (n := (m : Int)) (c := (((ia + ib) / 2 + m : Nat) : Int)) (by kernel_rfl) (by kernel_rfl) ((IntWalk.i64_in _ (by omega)).trans (by omega))) ?_)
    refine was (v := .int .i64 (((ia + ib) / 2 + m : Nat) : Int)) ?_
    refine wnil (then_n (wp_seq (rg_lit ?_)))
    refine was (v := .int .i64 0) ?_
    refine was (v := .int .i64 0) ?_
    refine wnil (then_n (wp_seq (wp_seq (rg_lit ?_))))
    refine wmv (v := .int .i64 (m : Int)) ?_
    refine wmv (v := .int .i64 (((ia + ib) / 2 : Nat) : Int)) ?_
    refine wl (sb rfl (r_gt (k := .i64) (m := (m : Int)) (n := (((ia + ib) / 2 : Nat) : Int)) (by kernel_rfl) (by kernel_rfl)) ?_)
    intro b9 k10
    refine wnil (then_n ?_)
    refine wp_cutA (R := fun a wq => ∃ (s0 : Nat) (r0 : Nat) (y141 y142 y143 y144 y145 y146 : Value), (a = ⟨#[.slice (some ⟨g, 0, none⟩) nn c, .int .i64 (ia : Int), .int .i64 (m : Int), .int .i64 (ib : Int), .func (.func 115) #[] #[], undef, undef, undef, undef, undef, undef, undef, undef, undef, undef, undef, undef, undef, .int .i64 (((ia + ib) / 2 : Nat) : Int), .int .i64 (((ia + ib) / 2 + m : Nat) : Int), .int .i64 (s0 : Int), .int .i64 (r0 : Int), undef, undef, undef, .int .i64 (m : Int), .int .i64 (ia : Int), .int .i64 ((m - ia : Nat) : Int), .bool b1, undef, undef, undef, undef, undef, undef, undef, undef, undef, undef, undef, undef, undef, undef, undef, undef, undef, undef, undef, undef, undef, undef, undef, undef, undef, undef, undef, undef, undef, undef, undef, undef, undef, undef, undef, undef, undef, undef, undef, undef, undef, undef, undef, undef, undef, undef, undef, undef, .int .i64 (ib : Int), .int .i64 (m : Int), .int .i64 ((ib - m : Nat) : Int), .bool b5, undef, undef, undef, undef, undef, undef, undef, undef, undef, undef, undef, undef, undef, undef, undef, undef, undef, undef, undef, undef, undef, undef, undef, undef, undef, undef, undef, undef, undef, undef, undef, undef, undef, undef, undef, undef, undef, undef, undef, undef, undef, undef, undef, undef, undef, undef, undef, undef, .int .i64 (ia : Int), .int .i64 (ib : Int), .int .i64 ((ia + ib : Nat) : Int), .int .u64 ((ia + ib : Nat) : Int), .int .u64 (((ia + ib) / 2 : Nat) : Int), .int .i64 (((ia + ib) / 2 : Nat) : Int), .int .i64 (((ia + ib) / 2 : Nat) : Int), .int .i64 (m : Int), .int .i64 (((ia + ib) / 2 + m : Nat) : Int), .int .i64 (m : Int), .int .i64 (((ia + ib) / 2 : Nat) : Int), .bool b9, y141, y142, y143, y144, y145, y146, undef, undef, undef, undef, undef, undef, undef, undef, undef, undef, undef, undef, undef, undef, undef, undef, undef, undef, undef, undef, undef, undef, undef, undef, undef, undef, undef, undef, undef, undef, undef, undef, undef, undef, undef, undef, undef, undef, undef, undef, undef, undef, undef, undef, undef, undef, undef, undef, undef, undef, undef, undef, undef, undef, undef, undef, undef, undef, undef, undef, undef, undef, undef, undef, undef, undef, undef, undef, undef, undef, undef, undef, undef], []⟩) ∧ (w = wq) ∧ ((ia + ib) / 2 < m ∧ s0 = (ia + ib) / 2 + m - ib ∧ r0 = (ia + ib) / 2 ∨ m ≤ (ia + ib) / 2 ∧ s0 = ia ∧ r0 = m)) ?_ ?_
    ·
     refine bcase b9 (fun v11 => ?_) (fun v11 => ?_)
     ·
      have p12 := of_decide_eq_false (k10.trans v11)
      refine wp_cond_false (ebool (b := b9) (by kernel_rfl) v11) ?_
      refine wp_seq (rg_lit ?_)
      refine wmv (v := .int .i64 (ia : Int)) ?_
      refine was (v := .int .i64 (ia : Int)) ?_
      refine wnil (then_n (rg_lit ?_))
      refine wmv (v := .int .i64 (m : Int)) ?_
      refine was (v := .int .i64 (m : Int)) ?_
      refine wnil (then_n ?_)
      exact ⟨ia, m, undef, undef, undef, undef, .int .i64 (ia : Int), .int .i64 (m : Int), (by kernel_rfl), rfl, (by omega)⟩
     have p12 := of_decide_eq_true (k10.trans v11)
     refine wp_cond_true (ebool (b := b9) (by kernel_rfl) v11) ?_
     refine wp_seq (rg_lit ?_)
     refine wmv (v := .int .i64 (((ia + ib) / 2 + m : Nat) : Int)) ?_
     refine wmv (v := .int .i64 (ib : Int)) ?_
     refine wl (sv rfl (v := .int .i64 (((ia + ib) / 2 + m - ib : Nat) : Int)) (r_sub (k := .i64) (m := (((ia + ib) / 2 + m : Nat) : Int)) (n := (ib : Int)) (c := (((ia + ib) / 2 + m - ib : Nat) : Int)) (by kernel_rfl) (by kernel_rfl) ((IntWalk.i64_in _ (by omega)).trans (by omega))) ?_)
     refine was (v := .int .i64 (((ia + ib) / 2 + m - ib : Nat) : Int)) ?_
     refine wnil (then_n (rg_lit ?_))
     refine wmv (v := .int .i64 (((ia + ib) / 2 : Nat) : Int)) ?_
     refine was (v := .int .i64 (((ia + ib) / 2 : Nat) : Int)) ?_
     refine wnil (then_n ?_)
     exact ⟨((ia + ib) / 2 + m - ib), ((ia + ib) / 2), .int .i64 (((ia + ib) / 2 + m : Nat) : Int), .int .i64 (ib : Int), .int .i64 (((ia + ib) / 2 + m - ib : Nat) : Int), .int .i64 (((ia + ib) / 2 : Nat) : Int), undef, undef, (by kernel_rfl), rfl, (by omega)⟩
    rintro _ _ ⟨s0, r0, y141, y142, y143, y144, y145, y146, rfl, rfl, h11⟩
    refine wp_seq (rg_lit ?_)
    refine wmv (v := .int .i64 (((ia + ib) / 2 + m : Nat) : Int)) ?_
    refine wl (sv rfl (v := .int .i64 (((ia + ib) / 2 + m - 1 : Nat) : Int)) (r_sub (k := .i64) (m := (((ia + ib) / 2 + m : Nat) : Int)) (n := 1) (c := (((ia + ib) / 2 + m - 1 : Nat) : Int)) (by kernel_rfl) (by kernel_rfl) ((IntWalk.i64_in _ (by omega)).trans (by omega))) ?_)
    refine was (v := .int .i64 (((ia + ib) / 2 + m - 1 : Nat) : Int)) ?_
    refine wnil (then_n (wp_seq (wp_block ?_)))
    refine lp (fun n a r1 => ∃ (sa : Nat) (ra : Nat) (z23 z149 z150 z151 z152 z153 z154 z155 z156 z157 z158 z159 z160 z161 z162 z163 z164 z165 z166 z167 z168 z169 z170 z171 z172 z173 z174 : Value), (n = ra - sa) ∧ (a = ⟨#[.slice (some ⟨g, 0, none⟩) nn c, .int .i64 (ia : Int), .int .i64 (m : Int), .int .i64 (ib : Int), .func (.func 115) #[] #[], undef, undef, undef, undef, undef, undef, undef, undef, undef, undef, undef, undef, undef, .int .i64 (((ia + ib) / 2 : Nat) : Int), .int .i64 (((ia + ib) / 2 + m : Nat) : Int), .int .i64 (sa : Int), .int .i64 (ra : Int), .int .i64 (((ia + ib) / 2 + m - 1 : Nat) : Int), z23, undef, .int .i64 (m : Int), .int .i64 (ia : Int), .int .i64 ((m - ia : Nat) : Int), .bool b1, undef, undef, undef, undef, undef, undef, undef, undef, undef, undef, undef, undef, undef, undef, undef, undef, undef, undef, undef, undef, undef, undef, undef, undef, undef, undef, undef, undef, undef, undef, undef, undef, undef, undef, undef, undef, undef, undef, undef, undef, undef, undef, undef, undef, undef, undef, undef, undef, .int .i64 (ib : Int), .int .i64 (m : Int), .int .i64 ((ib - m : Nat) : Int), .bool b5, undef, undef, undef, undef, undef, undef, undef, undef, undef, undef, undef, undef, undef, undef, undef, undef, undef, undef, undef, undef, undef, undef, undef, undef, undef, undef, undef, undef, undef, undef, undef, undef, undef, undef, undef, undef, undef, undef, undef, undef, undef, undef, undef, undef, undef, undef, undef, undef, .int .i64 (ia : Int), .int .i64 (ib : Int), .int .i64 ((ia + ib : Nat) : Int), .int .u64 ((ia + ib : Nat) : Int), .int .u64 (((ia + ib) / 2 : Nat) : Int), .int .i64 (((ia + ib) / 2 : Nat) : Int), .int .i64 (((ia + ib) / 2 : Nat) : Int), .int .i64 (m : Int), .int .i64 (((ia + ib) / 2 + m : Nat) : Int), .int .i64 (m : Int), .int .i64 (((ia + ib) / 2 : Nat) : Int), .bool b9, y141, y142, y143, y144, y145, y146, .int .i64 (((ia + ib) / 2 + m : Nat) : Int), .int .i64 (((ia + ib) / 2 + m - 1 : Nat) : Int), z149, z150, z151, z152, z153, z154, z155, z156, z157, z158, z159, z160, z161, z162, z163, z164, z165, z166, z167, z168, z169, z170, z171, z172, z173, z174, undef, undef, undef, undef, undef, undef, undef, undef, undef, undef, undef, undef, undef, undef, undef, undef, undef, undef, undef, undef, undef, undef, undef, undef, undef, undef, undef, undef, undef, undef, undef, undef, undef, undef, undef, undef, undef, undef, undef, undef, undef, undef, undef, undef, undef], []⟩) ∧ (Mod [] w r1) ∧ (SymS f (pre ++ (A ++ (Bb ++ post))) ((ia + ib) / 2 + m) s0 r0 sa ra)) ⟨_, s0, r0, undef, undef, undef, undef, undef, undef, undef, undef, undef, undef, undef, undef, undef, undef, undef, undef, undef, undef, undef, undef, undef, undef, undef, undef, undef, undef, undef, rfl, (by kernel_rfl), Mod.refl _ _, (SymS.first _ _ _ _ _ (by omega))⟩ ?_
    rintro _ _ r1 ⟨sa, ra, z23, z149, z150, z151, z152, z153, z154, z155, z156, z157, z158, z159, z160, z161, z162, z163, z164, z165, z166, z167, z168, z169, z170, z171, z172, z173, z174, rfl, rfl, hM1, hF1_0⟩
    have M12 := Mod.thin (Mod.refl [] w) hM1 (by simp)
    have hz1 := hF1_0.1
    have hz2 := hF1_0.2.1
    have hz3 := hF1_0.2.2.1
    refine wp_seq (wp_seq (rg_lit ?_))
    refine wmv (v := .int .i64 (sa : Int)) ?_
    refine wmv (v := .int .i64 (ra : Int)) ?_
    refine wl (sb rfl (r_lt (k := .i64) (m := (sa : Int)) (n := (ra : Int)) (by kernel_rfl) (by kernel_rfl)) ?_)
    intro b13 k14
    refine wnil (then_n ?_)
    refine bcase b13 (fun v15 => ?_) (fun v15 => ?_)
    ·
     have p16 := of_decide_eq_false (k14.trans v15)
     refine wp_cond_false (ebool (b := b13) (by kernel_rfl) v15) ?_
     refine wp_exit (then_x (by nofun) (then_x (by nofun) (inb_hit (then_n (wp_seq (rg_lit ?_))))))
     refine wmv (v := .int .i64 (((ia + ib) / 2 + m : Nat) : Int)) ?_
     refine wmv (v := .int .i64 (sa : Int)) ?_
     refine wl (sv rfl (v := .int .i64 (((ia + ib) / 2 + m - sa : Nat) : Int)) (r_sub (k := .i64) (m := (((ia + ib) / 2 + m : Nat) : Int)) (n := (sa : Int)) (c := (((ia + ib) / 2 + m - sa : Nat) : Int)) (by kernel_rfl) (by kernel_rfl) ((IntWalk.i64_in _ (by omega)).trans (by omega))) ?_)
     refine was (v := .int .i64 (((ia + ib) / 2 + m - sa : Nat) : Int)) ?_
     refine wnil (then_n (wp_seq (wp_seq (rg_lit ?_))))
     refine wmv (v := .int .i64 (sa : Int)) ?_
     refine wmv (v := .int .i64 (m : Int)) ?_
     refine wl (sb rfl (r_lt (k := .i64) (m := (sa : Int)) (n := (m : Int)) (by kernel_rfl) (by kernel_rfl)) ?_)
     intro b17 k18
     refine wmv (v := .bool b17) ?_
     refine bcase b17 (fun v19 => ?_) (fun v19 => ?_)
     ·
      have p20 := of_decide_eq_false (k18.trans v19)
      refine wl (sp (wf (b := b17) rfl (by kernel_rfl) v19) ?_)
      refine wl (sp (wf (b := b17) rfl (by kernel_rfl) v19) ?_)
      refine wl (sp (wf (b := b17) rfl (by kernel_rfl) v19) ?_)
      refine wl (sv rfl (v := .bool false) (r_pkF (ebool (b := b17) (by kernel_rfl) v19) (by kernel_rfl)) ?_)
      refine wnil (then_n ?_)
      have hq21 : SymS f (pre ++ (A ++ (Bb ++ post))) ((ia + ib) / 2 + m) s0 r0 sa sa := by have h0 := hF1_0; rw [show ra = sa by omega] at h0; exact h0
      have hT21 := SymS.fin hq21 rfl ha hm hb rfl rfl (by omega) hAs hBs hAB
      obtain ⟨ht1, ht2, ht3, ht4, ht5⟩ := Sym1.len hT21
      refine wp_cutA (R := fun a wq => ∃ (I4 : List Nat) (y186 y187 y188 y189 y190 y191 : Value), (a = ⟨#[.slice (some ⟨g, 0, none⟩) nn c, .int .i64 (ia : Int), .int .i64 (m : Int), .int .i64 (ib : Int), .func (.func 115) #[] #[], undef, undef, undef, undef, undef, undef, undef, undef, undef, undef, undef, undef, undef, .int .i64 (((ia + ib) / 2 : Nat) : Int), .int .i64 (((ia + ib) / 2 + m : Nat) : Int), .int .i64 (sa : Int), .int .i64 (ra : Int), .int .i64 (((ia + ib) / 2 + m - 1 : Nat) : Int), z23, .int .i64 (((ia + ib) / 2 + m - sa : Nat) : Int), .int .i64 (m : Int), .int .i64 (ia : Int), .int .i64 ((m - ia : Nat) : Int), .bool b1, undef, undef, undef, undef, undef, undef, undef, undef, undef, undef, undef, undef, undef, undef, undef, undef, undef, undef, undef, undef, undef, undef, undef, undef, undef, undef, undef, undef, undef, undef, undef, undef, undef, undef, undef, undef, undef, undef, undef, undef, undef, undef, undef, undef, undef, undef, undef, undef, .int .i64 (ib : Int), .int .i64 (m : Int), .int .i64 ((ib - m : Nat) : Int), .bool b5, undef, undef, undef, undef, undef, undef, undef, undef, undef, undef, undef, undef, undef, undef, undef, undef, undef, undef, undef, undef, undef, undef, undef, undef, undef, undef, undef, undef, undef, undef, undef, undef, undef, undef, undef, undef, undef, undef, undef, undef, undef, undef, undef, undef, undef, undef, undef, undef, .int .i64 (ia : Int), .int .i64 (ib : Int), .int .i64 ((ia + ib : Nat) : Int), .int .u64 ((ia + ib : Nat) : Int), .int .u64 (((ia + ib) / 2 : Nat) : Int), .int .i64 (((ia + ib) / 2 : Nat) : Int), .int .i64 (((ia + ib) / 2 : Nat) : Int), .int .i64 (m : Int), .int .i64 (((ia + ib) / 2 + m : Nat) : Int), .int .i64 (m : Int), .int .i64 (((ia + ib) / 2 : Nat) : Int), .bool b9, y141, y142, y143, y144, y145, y146, .int .i64 (((ia + ib) / 2 + m : Nat) : Int), .int .i64 (((ia + ib) / 2 + m - 1 : Nat) : Int), .int .i64 (sa : Int), .int .i64 (ra : Int), .bool b13, z152, z153, z154, z155, z156, z157, z158, z159, z160, z161, z162, z163, z164, z165, z166, z167, z168, z169, z170, z171, z172, z173, z174, .int .i64 (((ia + ib) / 2 + m : Nat) : Int), .int .i64 (sa : Int), .int .i64 (((ia + ib) / 2 + m - sa : Nat) : Int), .int .i64 (sa : Int), .int .i64 (m : Int), .bool b17, .bool b17, undef, undef, undef, .bool false, y186, y187, y188, y189, y190, y191, undef, undef, undef, undef, undef, undef, undef, undef, undef, undef, undef, undef, undef, undef, undef, undef, undef, undef, undef, undef, undef, undef, undef, undef, undef, undef, undef, undef], []⟩) ∧ (Mod [g] r1 wq) ∧ (ORow 49 B base wq (.slice (some ⟨g, 0, none⟩) nn c) (I4.map f)) ∧ (Sym2 f pre A Bb post I4 sa ((ia + ib) / 2) ((ia + ib) / 2 + m - sa))) ?_ ?_
      ·
       refine wp_cond_false (by kernel_rfl) ?_
       refine wp_skip (then_n ?_)
       have h22 := (ORow.up h (Mod.up hM1))
       have hT23 := Sym1.skip (mid := (ia + ib) / 2) hT21 (by omega) (by omega)
       exact ⟨(pre ++ (A ++ (Bb ++ post))), undef, undef, undef, undef, undef, undef, (by kernel_rfl), (Mod.refl _ _), h22, hT23⟩
      rintro _ w22 ⟨I4, y186, y187, y188, y189, y190, y191, rfl, h23, h24, h25⟩
      have M26 := Mod.trans (Mod.of_mod (Y := [g]) M12 (by simp)) (Mod.of_mod (Y := [g]) h23 (by simp))
      have M27 := Mod.trans (Mod.of_mod (Y := [g]) hM1 (by simp)) (Mod.of_mod (Y := [g]) h23 (by simp))
      obtain ⟨_, _, _, cg28, hg28, _⟩ := ORow.blk h24
      refine wp_seq (wp_seq (rg_lit ?_))
      refine wmv (v := .int .i64 (ia : Int)) ?_
      refine wmv (v := .int .i64 (sa : Int)) ?_
      refine wl (sb rfl (r_lt (k := .i64) (m := (ia : Int)) (n := (sa : Int)) (by kernel_rfl) (by kernel_rfl)) ?_)
      intro b29 k30
      refine wmv (v := .bool b29) ?_
      refine bcase b29 (fun v31 => ?_) (fun v31 => ?_)
      ·
       have p32 := of_decide_eq_false (k30.trans v31)
       refine wl (sp (wf (b := b29) rfl (by kernel_rfl) v31) ?_)
       refine wl (sp (wf (b := b29) rfl (by kernel_rfl) v31) ?_)
       refine wl (sp (wf (b := b29) rfl (by kernel_rfl) v31) ?_)
       refine wl (sv rfl (v := .bool false) (r_pkF (ebool (b := b29) (by kernel_rfl) v31) (by kernel_rfl)) ?_)
       refine wnil (then_n ?_)
       refine wp_cutA (R := fun a wq => ∃ (I5 : List Nat) (y200 y201 y202 y203 y204 y205 : Value), (a = ⟨#[.slice (some ⟨g, 0, none⟩) nn c, .int .i64 (ia : Int), .int .i64 (m : Int), .int .i64 (ib : Int), .func (.func 115) #[] #[], undef, undef, undef, undef, undef, undef, undef, undef, undef, undef, undef, undef, undef, .int .i64 (((ia + ib) / 2 : Nat) : Int), .int .i64 (((ia + ib) / 2 + m : Nat) : Int), .int .i64 (sa : Int), .int .i64 (ra : Int), .int .i64 (((ia + ib) / 2 + m - 1 : Nat) : Int), z23, .int .i64 (((ia + ib) / 2 + m - sa : Nat) : Int), .int .i64 (m : Int), .int .i64 (ia : Int), .int .i64 ((m - ia : Nat) : Int), .bool b1, undef, undef, undef, undef, undef, undef, undef, undef, undef, undef, undef, undef, undef, undef, undef, undef, undef, undef, undef, undef, undef, undef, undef, undef, undef, undef, undef, undef, undef, undef, undef, undef, undef, undef, undef, undef, undef, undef, undef, undef, undef, undef, undef, undef, undef, undef, undef, undef, .int .i64 (ib : Int), .int .i64 (m : Int), .int .i64 ((ib - m : Nat) : Int), .bool b5, undef, undef, undef, undef, undef, undef, undef, undef, undef, undef, undef, undef, undef, undef, undef, undef, undef, undef, undef, undef, undef, undef, undef, undef, undef, undef, undef, undef, undef, undef, undef, undef, undef, undef, undef, undef, undef, undef, undef, undef, undef, undef, undef, undef, undef, undef, undef, undef, .int .i64 (ia : Int), .int .i64 (ib : Int), .int .i64 ((ia + ib : Nat) : Int), .int .u64 ((ia + ib : Nat) : Int), .int .u64 (((ia + ib) / 2 : Nat) : Int), .int .i64 (((ia + ib) / 2 : Nat) : Int), .int .i64 (((ia + ib) / 2 : Nat) : Int), .int .i64 (m : Int), .int .i64 (((ia + ib) / 2 + m : Nat) : Int), .int .i64 (m : Int), .int .i64 (((ia + ib) / 2 : Nat) : Int), .bool b9, y141, y142, y143, y144, y145, y146, .int .i64 (((ia + ib) / 2 + m : Nat) : Int), .int .i64 (((ia + ib) / 2 + m - 1 : Nat) : Int), .int .i64 (sa : Int), .int .i64 (ra : Int), .bool b13, z152, z153, z154, z155, z156, z157, z158, z159, z160, z161, z162, z163, z164, z165, z166, z167, z168, z169, z170, z171, z172, z173, z174, .int .i64 (((ia + ib) / 2 + m : Nat) : Int), .int .i64 (sa : Int), .int .i64 (((ia + ib) / 2 + m - sa : Nat) : Int), .int .i64 (sa : Int), .int .i64 (m : Int), .bool b17, .bool b17, undef, undef, undef, .bool false, y186, y187, y188, y189, y190, y191, .int .i64 (ia : Int), .int .i64 (sa : Int), .bool b29, .bool b29, undef, undef, undef, .bool false, y200, y201, y202, y203, y204, y205, undef, undef, undef, undef, undef, undef, undef, undef, undef, undef, undef, undef, undef, undef], []⟩) ∧ (Mod [g] w22 wq) ∧ (ORow 49 B base wq (.slice (some ⟨g, 0, none⟩) nn c) (I5.map f)) ∧ (Sym3 f pre A Bb post I5 ((ia + ib) / 2) ((ia + ib) / 2 + m - sa))) ?_ ?_
       ·
        refine wp_cond_false (by kernel_rfl) ?_
        refine wp_skip (then_n ?_)
        have hT33 := Sym2.skip h25 (by omega) hAs hBs
        exact ⟨I4, undef, undef, undef, undef, undef, undef, (by kernel_rfl), (Mod.refl _ _), h24, hT33⟩
       rintro _ w33 ⟨I5, y200, y201, y202, y203, y204, y205, rfl, h34, h35, h36⟩
       have M37 := Mod.trans M26 (Mod.of_mod h34 (by simp))
       have M38 := Mod.trans M27 (Mod.of_mod h34 (by simp))
       obtain ⟨_, _, _, cg39, hg39, _⟩ := ORow.blk h35
       refine wp_seq (rg_lit ?_)
       refine wmv (v := .int .i64 (((ia + ib) / 2 : Nat) : Int)) ?_
       refine wmv (v := .int .i64 (((ia + ib) / 2 + m - sa : Nat) : Int)) ?_
       refine wl (sb rfl (r_lt (k := .i64) (m := (((ia + ib) / 2 : Nat) : Int)) (n := (((ia + ib) / 2 + m - sa : Nat) : Int)) (by kernel_rfl) (by kernel_rfl)) ?_)
       intro b40 k41
       refine wmv (v := .bool b40) ?_
       refine bcase b40 (fun v42 => ?_) (fun v42 => ?_)
       ·
        have p43 := of_decide_eq_false (k41.trans v42)
        refine wl (sp (wf (b := b40) rfl (by kernel_rfl) v42) ?_)
        refine wl (sp (wf (b := b40) rfl (by kernel_rfl) v42) ?_)
        refine wl (sp (wf (b := b40) rfl (by kernel_rfl) v42) ?_)
        refine wl (sv rfl (v := .bool false) (r_pkF (ebool (b := b40) (by kernel_rfl) v42) (by kernel_rfl)) ?_)
        refine wnil (then_n ?_)
        refine wp_cond_false (by kernel_rfl) ?_
        refine wp_skip ?_
        refine bodyPost_end (v := .tuple #[]) (res0 rfl ) (by kernel_rfl) ?_
        obtain ⟨D, hD, hM⟩ := Sym3.skip h36 (by omega) hAs hBs
        exact ⟨D, rfl, ORow.to h35 (by rw [hD]), hM, (Mod.chg M37)⟩
       have p43 := of_decide_eq_true (k41.trans v42)
       refine wl (sv (wt (b := b40) rfl (by kernel_rfl) v42) (v := .int .i64 (((ia + ib) / 2 + m - sa : Nat) : Int)) (r_move (by kernel_rfl)) ?_)
       refine wl (sv (wt (b := b40) rfl (by kernel_rfl) v42) (v := .int .i64 (ib : Int)) (r_move (by kernel_rfl)) ?_)
       refine wl (sb (wt (b := b40) rfl (by kernel_rfl) v42) (r_lt (k := .i64) (m := (((ia + ib) / 2 + m - sa : Nat) : Int)) (n := (ib : Int)) (by kernel_rfl) (by kernel_rfl)) ?_)
       intro b44 k45
       refine wl (sv rfl (v := .bool b44) (r_pkT (ebool (b := b40) (by kernel_rfl) v42) (by kernel_rfl)) ?_)
       refine wnil (then_n ?_)
       refine bcase b44 (fun v46 => ?_) (fun v46 => ?_)
       ·
        have p47 := of_decide_eq_false (k45.trans v46)
        refine wp_cond_false (ebool (b := b44) (by kernel_rfl) v46) ?_
        refine wp_skip ?_
        refine bodyPost_end (v := .tuple #[]) (res0 rfl ) (by kernel_rfl) ?_
        obtain ⟨D, hD, hM⟩ := Sym3.skip h36 (by omega) hAs hBs
        exact ⟨D, rfl, ORow.to h35 (by rw [hD]), hM, (Mod.chg M37)⟩
       have p47 := of_decide_eq_true (k45.trans v46)
       refine wp_cond_true (ebool (b := b44) (by kernel_rfl) v46) ?_
       refine rg_lit ?_
       refine wmv (v := .slice (some ⟨g, 0, none⟩) nn c) ?_
       refine wmv (v := .int .i64 (((ia + ib) / 2 : Nat) : Int)) ?_
       refine wmv (v := .int .i64 (((ia + ib) / 2 + m - sa : Nat) : Int)) ?_
       refine wmv (v := .int .i64 (ib : Int)) ?_
       refine wmv (v := .func (.func 115) #[] #[]) ?_
       obtain ⟨p48, X48, Y48, hI48, hp48, hX48, hY48, hsX48, hsY48, hXY48, hN48⟩ := Sym3.half h36 hAs hBs hAB
       have ho48 := ORow.to h35 (congrArg (List.map f) hI48)
       refine wl (sc rfl (r_callv (caps := []) (all := [.slice (some ⟨g, 0, none⟩) nn c, .int .i64 (((ia + ib) / 2 : Nat) : Int), .int .i64 (((ia + ib) / 2 + m - sa : Nat) : Int), .int .i64 (ib : Int), .func (.func 115) #[] #[]]) En.f201 (by kernel_rfl) (by kernel_rfl)) (ih (by omega) ho48 hBb hn hp48 (by omega) (by omega) (by omega) (by omega) hsX48 hsY48 hXY48) ?_)
       rintro e w49 ⟨D50, rfl, h51, m52, c53⟩
       refine ⟨.tuple #[], rfl, ?_⟩
       have M54 := Mod.trans M37 (Mod.of_chg c53 (by simp))
       have M55 := Mod.trans M38 (Mod.of_chg c53 (by simp))
       obtain ⟨_, _, _, cg56, hg56, _⟩ := ORow.blk h51
       have hT48 := hN48 _ m52
       refine wnil ?_
       refine bodyPost_end (v := .tuple #[]) (res0 rfl ) (by kernel_rfl) ?_
       obtain ⟨D, hD, hM⟩ := hT48
       exact ⟨D, rfl, ORow.to h51 (by rw [hD]), hM, (Mod.chg M54)⟩
      have p32 := of_decide_eq_true (k30.trans v31)
      have q33 : ia < sa := by omega
      have q34 : ia < sa := by omega
      refine wl (sv (wt (b := b29) rfl (by kernel_rfl) v31) (v := .int .i64 (sa : Int)) (r_move (by kernel_rfl)) ?_)
      refine wl (sv (wt (b := b29) rfl (by kernel_rfl) v31) (v := .int .i64 (((ia + ib) / 2 : Nat) : Int)) (r_move (by kernel_rfl)) ?_)
      refine wl (sb (wt (b := b29) rfl (by kernel_rfl) v31) (r_lt (k := .i64) (m := (sa : Int)) (n := (((ia + ib) / 2 : Nat) : Int)) (by kernel_rfl) (by kernel_rfl)) ?_)
      intro b35 k36
      refine wl (sv rfl (v := .bool b35) (r_pkT (ebool (b := b29) (by kernel_rfl) v31) (by kernel_rfl)) ?_)
      refine wnil (then_n ?_)
      refine wp_cutA (R := fun a wq => ∃ (I5 : List Nat) (y200 y201 y202 y203 y204 y205 : Value), (a = ⟨#[.slice (some ⟨g, 0, none⟩) nn c, .int .i64 (ia : Int), .int .i64 (m : Int), .int .i64 (ib : Int), .func (.func 115) #[] #[], undef, undef, undef, undef, undef, undef, undef, undef, undef, undef, undef, undef, undef, .int .i64 (((ia + ib) / 2 : Nat) : Int), .int .i64 (((ia + ib) / 2 + m : Nat) : Int), .int .i64 (sa : Int), .int .i64 (ra : Int), .int .i64 (((ia + ib) / 2 + m - 1 : Nat) : Int), z23, .int .i64 (((ia + ib) / 2 + m - sa : Nat) : Int), .int .i64 (m : Int), .int .i64 (ia : Int), .int .i64 ((m - ia : Nat) : Int), .bool b1, undef, undef, undef, undef, undef, undef, undef, undef, undef, undef, undef, undef, undef, undef, undef, undef, undef, undef, undef, undef, undef, undef, undef, undef, undef, undef, undef, undef, undef, undef, undef, undef, undef, undef, undef, undef, undef, undef, undef, undef, undef, undef, undef, undef, undef, undef, undef, undef, .int .i64 (ib : Int), .int .i64 (m : Int), .int .i64 ((ib - m : Nat) : Int), .bool b5, undef, undef, undef, undef, undef, undef, undef, undef, undef, undef, undef, undef, undef, undef, undef, undef, undef, undef, undef, undef, undef, undef, undef, undef, undef, undef, undef, undef, undef, undef, undef, undef, undef, undef, undef, undef, undef, undef, undef, undef, undef, undef, undef, undef, undef, undef, undef, undef, .int .i64 (ia : Int), .int .i64 (ib : Int), .int .i64 ((ia + ib : Nat) : Int), .int .u64 ((ia + ib : Nat) : Int), .int .u64 (((ia + ib) / 2 : Nat) : Int), .int .i64 (((ia + ib) / 2 : Nat) : Int), .int .i64 (((ia + ib) / 2 : Nat) : Int), .int .i64 (m : Int), .int .i64 (((ia + ib) / 2 + m : Nat) : Int), .int .i64 (m : Int), .int .i64 (((ia + ib) / 2 : Nat) : Int), .bool b9, y141, y142, y143, y144, y145, y146, .int .i64 (((ia + ib) / 2 + m : Nat) : Int), .int .i64 (((ia + ib) / 2 + m - 1 : Nat) : Int), .int .i64 (sa : Int), .int .i64 (ra : Int), .bool b13, z152, z153, z154, z155, z156, z157, z158, z159, z160, z161, z162, z163, z164, z165, z166, z167, z168, z169, z170, z171, z172, z173, z174, .int .i64 (((ia + ib) / 2 + m : Nat) : Int), .int .i64 (sa : Int), .int .i64 (((ia + ib) / 2 + m - sa : Nat) : Int), .int .i64 (sa : Int), .int .i64 (m : Int), .bool b17, .bool b17, undef, undef, undef, .bool false, y186, y187, y188, y189, y190, y191, .int .i64 (ia : Int), .int .i64 (sa : Int), .bool b29, .bool b29, .int .i64 (sa : Int), .int .i64 (((ia + ib) / 2 : Nat) : Int), .bool b35, .bool b35, y200, y201, y202, y203, y204, y205, undef, undef, undef, undef, undef, undef, undef, undef, undef, undef, undef, undef, undef, undef], []⟩) ∧ (Mod [g] w22 wq) ∧ (ORow 49 B base wq (.slice (some ⟨g, 0, none⟩) nn c) (I5.map f)) ∧ (Sym3 f pre A Bb post I5 ((ia + ib) / 2) ((ia + ib) / 2 + m - sa))) ?_ ?_
      ·
       refine bcase b35 (fun v37 => ?_) (fun v37 => ?_)
       ·
        have p38 := of_decide_eq_false (k36.trans v37)
        refine wp_cond_false (ebool (b := b35) (by kernel_rfl) v37) ?_
        refine wp_skip (then_n ?_)
        have hT39 := Sym2.skip h25 (by omega) hAs hBs
        exact ⟨I4, undef, undef, undef, undef, undef, undef, (by kernel_rfl), (Mod.refl _ _), h24, hT39⟩
       have p38 := of_decide_eq_true (k36.trans v37)
       refine wp_cond_true (ebool (b := b35) (by kernel_rfl) v37) ?_
       refine rg_lit ?_
       refine wmv (v := .slice (some ⟨g, 0, none⟩) nn c) ?_
       refine wmv (v := .int .i64 (ia : Int)) ?_
       refine wmv (v := .int .i64 (sa : Int)) ?_
       refine wmv (v := .int .i64 (((ia + ib) / 2 : Nat) : Int)) ?_
       refine wmv (v := .func (.func 115) #[] #[]) ?_
       obtain ⟨X39, Y39, q39, hI39, hX39, hY39, hsX39, hsY39, hXY39, hN39⟩ := Sym2.half h25 hAs hBs hAB
       have ho39 := ORow.to h24 (congrArg (List.map f) hI39)
       refine wl (sc rfl (r_callv (caps := []) (all := [.slice (some ⟨g, 0, none⟩) nn c, .int .i64 (ia : Int), .int .i64 (sa : Int), .int .i64 (((ia + ib) / 2 : Nat) : Int), .func (.func 115) #[] #[]]) En.f201 (by kernel_rfl) (by kernel_rfl)) (ih (by omega) ho39 hBb hn ha (by omega) (by omega) (by omega) (by omega) hsX39 hsY39 hXY39) ?_)
       rintro e w40 ⟨D41, rfl, h42, m43, c44⟩
       refine ⟨.tuple #[], rfl, ?_⟩
       have M45 := Mod.trans M26 (Mod.of_chg c44 (by simp))
       have M46 := Mod.trans M27 (Mod.of_chg c44 (by simp))
       obtain ⟨_, _, _, cg47, hg47, _⟩ := ORow.blk h42
       have hT39 := hN39 _ m43
       refine wnil (then_n ?_)
       exact ⟨(pre ++ (D41 ++ q39)), .slice (some ⟨g, 0, none⟩) nn c, .int .i64 (ia : Int), .int .i64 (sa : Int), .int .i64 (((ia + ib) / 2 : Nat) : Int), .func (.func 115) #[] #[], undef, (by kernel_rfl), (Mod.of_chg c44 (by simp)), h42, hT39⟩
      rintro _ w37 ⟨I5, y200, y201, y202, y203, y204, y205, rfl, h38, h39, h40⟩
      have M41 := Mod.trans M26 (Mod.of_mod h38 (by simp))
      have M42 := Mod.trans M27 (Mod.of_mod h38 (by simp))
      obtain ⟨_, _, _, cg43, hg43, _⟩ := ORow.blk h39
      refine wp_seq (rg_lit ?_)
      refine wmv (v := .int .i64 (((ia + ib) / 2 : Nat) : Int)) ?_
      refine wmv (v := .int .i64 (((ia + ib) / 2 + m - sa : Nat) : Int)) ?_
      refine wl (sb rfl (r_lt (k := .i64) (m := (((ia + ib) / 2 : Nat) : Int)) (n := (((ia + ib) / 2 + m - sa : Nat) : Int)) (by kernel_rfl) (by kernel_rfl)) ?_)
      intro b44 k45
      refine wmv (v := .bool b44) ?_
      refine bcase b44 (fun v46 => ?_) (fun v46 => ?_)
      ·
       have p47 := of_decide_eq_false (k45.trans v46)
       refine wl (sp (wf (b := b44) rfl (by kernel_rfl) v46) ?_)
       refine wl (sp (wf (b := b44) rfl (by kernel_rfl) v46) ?_)
       refine wl (sp (wf (b := b44) rfl (by kernel_rfl) v46) ?_)
       refine wl (sv rfl (v := .bool false) (r_pkF (ebool (b := b44) (by kernel_rfl) v46) (by kernel_rfl)) ?_)
       refine wnil (then_n ?_)
       refine wp_cond_false (by kernel_rfl) ?_
       refine wp_skip ?_
       refine bodyPost_end (v := .tuple #[]) (res0 rfl ) (by kernel_rfl) ?_
       obtain ⟨D, hD, hM⟩ := Sym3.skip h40 (by omega) hAs hBs
       exact ⟨D, rfl, ORow.to h39 (by rw [hD]), hM, (Mod.chg M41)⟩
      have p47 := of_decide_eq_true (k45.trans v46)
      refine wl (sv (wt (b := b44) rfl (by kernel_rfl) v46) (v := .int .i64 (((ia + ib) / 2 + m - sa : Nat) : Int)) (r_move (by kernel_rfl)) ?_)
      refine wl (sv (wt (b := b44) rfl (by kernel_rfl) v46) (v := .int .i64 (ib : Int)) (r_move (by kernel_rfl)) ?_)
      refine wl (sb (wt (b := b44) rfl (by kernel_rfl) v46) (r_lt (k := .i64) (m := (((ia + ib) / 2 + m - sa : Nat) : Int)) (n := (ib : Int)) (by kernel_rfl) (by kernel_rfl)) ?_)
      intro b48 k49
      refine wl (sv rfl (v := .bool b48) (r_pkT (ebool (b := b44) (by kernel_rfl) v46) (by kernel_rfl)) ?_)
      refine wnil (then_n ?_)
      refine bcase b48 (fun v50 => ?_) (fun v50 => ?_)
      ·
       have p51 := of_decide_eq_false (k49.trans v50)
       refine wp_cond_false (ebool (b := b48) (by kernel_rfl) v50) ?_
       refine wp_skip ?_
       refine bodyPost_end (v := .tuple #[]) (res0 rfl ) (by kernel_rfl) ?_
       obtain ⟨D, hD, hM⟩ := Sym3.skip h40 (by omega) hAs hBs
       exact ⟨D, rfl, ORow.to h39 (by rw [hD]), hM, (Mod.chg M41)⟩
      have p51 := of_decide_eq_true (k49.trans v50)
      refine wp_cond_true (ebool (b := b48) (by kernel_rfl) v50) ?_
      refine rg_lit ?_
      refine wmv (v := .slice (some ⟨g, 0, none⟩) nn c) ?_
      refine wmv (v := .int .i64 (((ia + ib) / 2 : Nat) : Int)) ?_
      refine wmv (v := .int .i64 (((ia + ib) / 2 + m - sa : Nat) : Int)) ?_
      refine wmv (v := .int .i64 (ib : Int)) ?_
      refine wmv (v := .func (.func 115) #[] #[]) ?_
      obtain ⟨p52, X52, Y52, hI52, hp52, hX52, hY52, hsX52, hsY52, hXY52, hN52⟩ := Sym3.half h40 hAs hBs hAB
      have ho52 := ORow.to h39 (congrArg (List.map f) hI52)
      refine wl (sc rfl (r_callv (caps := []) (all := [.slice (some ⟨g, 0, none⟩) nn c, .int .i64 (((ia + ib) / 2 : Nat) : Int), .int .i64 (((ia + ib) / 2 + m - sa : Nat) : Int), .int .i64 (ib : Int), .func (.func 115) #[] #[]]) En.f201 (by kernel_rfl) (by kernel_rfl)) (ih (by omega) ho52 hBb hn hp52 (by omega) (by omega) (by omega) (by omega) hsX52 hsY52 hXY52) ?_)
      rintro e w53 ⟨D54, rfl, h55, m56, c57⟩
      refine ⟨.tuple #[], rfl, ?_⟩
      have M58 := Mod.trans M41 (Mod.of_chg c57 (by simp))
      have M59 := Mod.trans M42 (Mod.of_chg c57 (by simp))
      obtain ⟨_, _, _, cg60, hg60, _⟩ := ORow.blk h55
      have hT52 := hN52 _ m56
      refine wnil ?_
      refine bodyPost_end (v := .tuple #[]) (res0 rfl ) (by kernel_rfl) ?_
      obtain ⟨D, hD, hM⟩ := hT52
      exact ⟨D, rfl, ORow.to h55 (by rw [hD]), hM, (Mod.chg M58)⟩
     have p20 := of_decide_eq_true (k18.trans v19)
     have q21 : sa < m := by omega
     have q22 : sa < m := by omega
     refine wl (sv (wt (b := b17) rfl (by kernel_rfl) v19) (v := .int .i64 (m : Int)) (r_move (by kernel_rfl)) ?_)
     refine wl (sv (wt (b := b17) rfl (by kernel_rfl) v19) (v := .int .i64 (((ia + ib) / 2 + m - sa : Nat) : Int)) (r_move (by kernel_rfl)) ?_)
     refine wl (sb (wt (b := b17) rfl (by kernel_rfl) v19) (r_lt (k := .i64) (m := (m : Int)) (n := (((ia + ib) / 2 + m - sa : Nat) : Int)) (by kernel_rfl) (by kernel_rfl)) ?_)
     intro b23 k24
     refine wl (sv rfl (v := .bool b23) (r_pkT (ebool (b := b17) (by kernel_rfl) v19) (by kernel_rfl)) ?_)
     refine wnil (then_n ?_)
     have hq25 : SymS f (pre ++ (A ++ (Bb ++ post))) ((ia + ib) / 2 + m) s0 r0 sa sa := by have h0 := hF1_0; rw [show ra = sa by omega] at h0; exact h0
     have hT25 := SymS.fin hq25 rfl ha hm hb rfl rfl (by omega) hAs hBs hAB
     obtain ⟨ht1, ht2, ht3, ht4, ht5⟩ := Sym1.len hT25
     refine wp_cutA (R := fun a wq => ∃ (I4 : List Nat) (y186 y187 y188 y189 y190 y191 : Value), (a = ⟨#[.slice (some ⟨g, 0, none⟩) nn c, .int .i64 (ia : Int), .int .i64 (m : Int), .int .i64 (ib : Int), .func (.func 115) #[] #[], undef, undef, undef, undef, undef, undef, undef, undef, undef, undef, undef, undef, undef, .int .i64 (((ia + ib) / 2 : Nat) : Int), .int .i64 (((ia + ib) / 2 + m : Nat) : Int), .int .i64 (sa : Int), .int .i64 (ra : Int), .int .i64 (((ia + ib) / 2 + m - 1 : Nat) : Int), z23, .int .i64 (((ia + ib) / 2 + m - sa : Nat) : Int), .int .i64 (m : Int), .int .i64 (ia : Int), .int .i64 ((m - ia : Nat) : Int), .bool b1, undef, undef, undef, undef, undef, undef, undef, undef, undef, undef, undef, undef, undef, undef, undef, undef, undef, undef, undef, undef, undef, undef, undef, undef, undef, undef, undef, undef, undef, undef, undef, undef, undef, undef, undef, undef, undef, undef, undef, undef, undef, undef, undef, undef, undef, undef, undef, undef, .int .i64 (ib : Int), .int .i64 (m : Int), .int .i64 ((ib - m : Nat) : Int), .bool b5, undef, undef, undef, undef, undef, undef, undef, undef, undef, undef, undef, undef, undef, undef, undef, undef, undef, undef, undef, undef, undef, undef, undef, undef, undef, undef, undef, undef, undef, undef, undef, undef, undef, undef, undef, undef, undef, undef, undef, undef, undef, undef, undef, undef, undef, undef, undef, undef, .int .i64 (ia : Int), .int .i64 (ib : Int), .int .i64 ((ia + ib : Nat) : Int), .int .u64 ((ia + ib : Nat) : Int), .int .u64 (((ia + ib) / 2 : Nat) : Int), .int .i64 (((ia + ib) / 2 : Nat) : Int), .int .i64 (((ia + ib) / 2 : Nat) : Int), .int .i64 (m : Int), .int .i64 (((ia + ib) / 2 + m : Nat) : Int), .int .i64 (m : Int), .int .i64 (((ia + ib) / 2 : Nat) : Int), .bool b9, y141, y142, y143, y144, y145, y146, .int .i64 (((ia + ib) / 2 + m : Nat) : Int), .int .i64 (((ia + ib) / 2 + m - 1 : Nat) : Int), .int .i64 (sa : Int), .int .i64 (ra : Int), .bool b13, z152, z153, z154, z155, z156, z157, z158, z159, z160, z161, z162, z163, z164, z165, z166, z167, z168, z169, z170, z171, z172, z173, z174, .int .i64 (((ia + ib) / 2 + m : Nat) : Int), .int .i64 (sa : Int), .int .i64 (((ia + ib) / 2 + m - sa : Nat) : Int), .int .i64 (sa : Int), .int .i64 (m : Int), .bool b17, .bool b17, .int .i64 (m : Int), .int .i64 (((ia + ib) / 2 + m - sa : Nat) : Int), .bool b23, .bool b23, y186, y187, y188, y189, y190, y191, undef, undef, undef, undef, undef, undef, undef, undef, undef, undef, undef, undef, undef, undef, undef, undef, undef, undef, undef, undef, undef, undef, undef, undef, undef, undef, undef, undef], []⟩) ∧ (Mod [g] r1 wq) ∧ (ORow 49 B base wq (.slice (some ⟨g, 0, none⟩) nn c) (I4.map f)) ∧ (Sym2 f pre A Bb post I4 sa ((ia + ib) / 2) ((ia + ib) / 2 + m - sa))) ?_ ?_
     ·
      refine bcase b23 (fun v26 => ?_) (fun v26 => ?_)
      ·
       have p27 := of_decide_eq_false (k24.trans v26)
       refine wp_cond_false (ebool (b := b23) (by kernel_rfl) v26) ?_
       refine wp_skip (then_n ?_)
       have h28 := (ORow.up h (Mod.up hM1))
       have hT29 := Sym1.skip (mid := (ia + ib) / 2) hT25 (by omega) (by omega)
       exact ⟨(pre ++ (A ++ (Bb ++ post))), undef, undef, undef, undef, undef, undef, (by kernel_rfl), (Mod.refl _ _), h28, hT29⟩
      have p27 := of_decide_eq_true (k24.trans v26)
      refine wp_cond_true (ebool (b := b23) (by kernel_rfl) v26) ?_
      refine rg_lit ?_
      refine wmv (v := .slice (some ⟨g, 0, none⟩) nn c) ?_
      refine wmv (v := .int .i64 (sa : Int)) ?_
      refine wmv (v := .int .i64 (m : Int)) ?_
      refine wmv (v := .int .i64 (((ia + ib) / 2 + m - sa : Nat) : Int)) ?_
      refine wmv (v := .func (.func 115) #[] #[]) ?_
      have h29 := md_ob M12 nin0 hg
      have h30 := (ORow.up h (Mod.up hM1))
      obtain ⟨p28, X28, Y28, q28, hI28, hp28, hX28, hY28, hT28⟩ := Sym1.turn (mid := (ia + ib) / 2) hT25 (by omega)
      have ho28 := ORow.to h30 (congrArg (List.map f) hI28)
      refine wl (sc rfl (r_callv (caps := []) (all := [.slice (some ⟨g, 0, none⟩) nn c, .int .i64 (sa : Int), .int .i64 (m : Int), .int .i64 (((ia + ib) / 2 + m - sa : Nat) : Int), .func (.func 115) #[] #[]]) En.f230 (by kernel_rfl) (by kernel_rfl)) (rotate_at ho28 hBb hn hp28 (by omega) (by omega) (by omega) (by omega)) ?_)
      rintro e w31 ⟨rfl, h32, c33⟩
      refine ⟨.tuple #[], rfl, ?_⟩
      have M34 := md_old M12 c33
      have M35 := md_old hM1 c33
      obtain ⟨_, _, _, cg36, hg36, _⟩ := ORow.blk h32
      refine wnil (then_n ?_)
      exact ⟨(p28 ++ (Y28 ++ (X28 ++ q28))), .slice (some ⟨g, 0, none⟩) nn c, .int .i64 (sa : Int), .int .i64 (m : Int), .int .i64 (((ia + ib) / 2 + m - sa : Nat) : Int), .func (.func 115) #[] #[], undef, (by kernel_rfl), (Mod.of_chg c33 (by simp)), h32, hT28⟩
     rintro _ w26 ⟨I4, y186, y187, y188, y189, y190, y191, rfl, h27, h28, h29⟩
     have M30 := Mod.trans (Mod.of_mod (Y := [g]) M12 (by simp)) (Mod.of_mod (Y := [g]) h27 (by simp))
     have M31 := Mod.trans (Mod.of_mod (Y := [g]) hM1 (by simp)) (Mod.of_mod (Y := [g]) h27 (by simp))
     obtain ⟨_, _, _, cg32, hg32, _⟩ := ORow.blk h28
     refine wp_seq (wp_seq (rg_lit ?_))
     refine wmv (v := .int .i64 (ia : Int)) ?_
     refine wmv (v := .int .i64 (sa : Int)) ?_
     refine wl (sb rfl (r_lt (k := .i64) (m := (ia : Int)) (n := (sa : Int)) (by kernel_rfl) (by kernel_rfl)) ?_)
     intro b33 k34
     refine wmv (v := .bool b33) ?_
     refine bcase b33 (fun v35 => ?_) (fun v35 => ?_)
     ·
      have p36 := of_decide_eq_false (k34.trans v35)
      refine wl (sp (wf (b := b33) rfl (by kernel_rfl) v35) ?_)
      refine wl (sp (wf (b := b33) rfl (by kernel_rfl) v35) ?_)
      refine wl (sp (wf (b := b33) rfl (by kernel_rfl) v35) ?_)
      refine wl (sv rfl (v := .bool false) (r_pkF (ebool (b := b33) (by kernel_rfl) v35) (by kernel_rfl)) ?_)
      refine wnil (then_n ?_)
      refine wp_cutA (R := fun a wq => ∃ (I5 : List Nat) (y200 y201 y202 y203 y204 y205 : Value), (a = ⟨#[.slice (some ⟨g, 0, none⟩) nn c, .int .i64 (ia : Int), .int .i64 (m : Int), .int .i64 (ib : Int), .func (.func 115) #[] #[], undef, undef, undef, undef, undef, undef, undef, undef, undef, undef, undef, undef, undef, .int .i64 (((ia + ib) / 2 : Nat) : Int), .int .i64 (((ia + ib) / 2 + m : Nat) : Int), .int .i64 (sa : Int), .int .i64 (ra : Int), .int .i64 (((ia + ib) / 2 + m - 1 : Nat) : Int), z23, .int .i64 (((ia + ib) / 2 + m - sa : Nat) : Int), .int .i64 (m : Int), .int .i64 (ia : Int), .int .i64 ((m - ia : Nat) : Int), .bool b1, undef, undef, undef, undef, undef, undef, undef, undef, undef, undef, undef, undef, undef, undef, undef, undef, undef, undef, undef, undef, undef, undef, undef, undef, undef, undef, undef, undef, undef, undef, undef, undef, undef, undef, undef, undef, undef, undef, undef, undef, undef, undef, undef, undef, undef, undef, undef, undef, .int .i64 (ib : Int), .int .i64 (m : Int), .int .i64 ((ib - m : Nat) : Int), .bool b5, undef, undef, undef, undef, undef, undef, undef, undef, undef, undef, undef, undef, undef, undef, undef, undef, undef, undef, undef, undef, undef, undef, undef, undef, undef, undef, undef, undef, undef, undef, undef, undef, undef, undef, undef, undef, undef, undef, undef, undef, undef, undef, undef, undef, undef, undef, undef, undef, .int .i64 (ia : Int), .int .i64 (ib : Int), .int .i64 ((ia + ib : Nat) : Int), .int .u64 ((ia + ib : Nat) : Int), .int .u64 (((ia + ib) / 2 : Nat) : Int), .int .i64 (((ia + ib) / 2 : Nat) : Int), .int .i64 (((ia + ib) / 2 : Nat) : Int), .int .i64 (m : Int), .int .i64 (((ia + ib) / 2 + m : Nat) : Int), .int .i64 (m : Int), .int .i64 (((ia + ib) / 2 : Nat) : Int), .bool b9, y141, y142, y143, y144, y145, y146, .int .i64 (((ia + ib) / 2 + m : Nat) : Int), .int .i64 (((ia + ib) / 2 + m - 1 : Nat) : Int), .int .i64 (sa : Int), .int .i64 (ra : Int), .bool b13, z152, z153, z154, z155, z156, z157, z158, z159, z160, z161, z162, z163, z164, z165, z166, z167, z168, z169, z170, z171, z172, z173, z174, .int .i64 (((ia + ib) / 2 + m : Nat) : Int), .int .i64 (sa : Int), .int .i64 (((ia + ib) / 2 + m - sa : Nat) : Int), .int .i64 (sa : Int), .int .i64 (m : Int), .bool b17, .bool b17, .int .i64 (m : Int), .int .i64 (((ia + ib) / 2 + m - sa : Nat) : Int), .bool b23, .bool b23, y186, y187, y188, y189, y190, y191, .int .i64 (ia : Int), .int .i64 (sa : Int), .bool b33, .bool b33, undef, undef, undef, .bool false, y200, y201, y202, y203, y204, y205, undef, undef, undef, undef, undef, undef, undef, undef, undef, undef, undef, undef, undef, undef], []⟩) ∧ (Mod [g] w26 wq) ∧ (ORow 49 B base wq (.slice (some ⟨g, 0, none⟩) nn c) (I5.map f)) ∧ (Sym3 f pre A Bb post I5 ((ia + ib) / 2) ((ia + ib) / 2 + m - sa))) ?_ ?_
      ·
       refine wp_cond_false (by kernel_rfl) ?_
       refine wp_skip (then_n ?_)
       have hT37 := Sym2.skip h29 (by omega) hAs hBs
       exact ⟨I4, undef, undef, undef, undef, undef, undef, (by kernel_rfl), (Mod.refl _ _), h28, hT37⟩
      rintro _ w37 ⟨I5, y200, y201, y202, y203, y204, y205, rfl, h38, h39, h40⟩
      have M41 := Mod.trans M30 (Mod.of_mod h38 (by simp))
      have M42 := Mod.trans M31 (Mod.of_mod h38 (by simp))
      obtain ⟨_, _, _, cg43, hg43, _⟩ := ORow.blk h39
      refine wp_seq (rg_lit ?_)
      refine wmv (v := .int .i64 (((ia + ib) / 2 : Nat) : Int)) ?_
      refine wmv (v := .int .i64 (((ia + ib) / 2 + m - sa : Nat) : Int)) ?_
      refine wl (sb rfl (r_lt (k := .i64) (m := (((ia + ib) / 2 : Nat) : Int)) (n := (((ia + ib) / 2 + m - sa : Nat) : Int)) (by kernel_rfl) (by kernel_rfl)) ?_)
      intro b44 k45
      refine wmv (v := .bool b44) ?_
      refine bcase b44 (fun v46 => ?_) (fun v46 => ?_)
      ·
       have p47 := of_decide_eq_false (k45.trans v46)
       refine wl (sp (wf (b := b44) rfl (by kernel_rfl) v46) ?_)
       refine wl (sp (wf (b := b44) rfl (by kernel_rfl) v46) ?_)
       refine wl (sp (wf (b := b44) rfl (by kernel_rfl) v46) ?_)
       refine wl (sv rfl (v := .bool false) (r_pkF (ebool (b := b44) (by kernel_rfl) v46) (by kernel_rfl)) ?_)
       refine wnil (then_n ?_)
       refine wp_cond_false (by kernel_rfl) ?_
       refine wp_skip ?_
       refine bodyPost_end (v := .tuple #[]) (res0 rfl ) (by kernel_rfl) ?_
       obtain ⟨D, hD, hM⟩ := Sym3.skip h40 (by omega) hAs hBs
       exact ⟨D, rfl, ORow.to h39 (by rw [hD]), hM, (Mod.chg M41)⟩
      have p47 := of_decide_eq_true (k45.trans v46)
      refine wl (sv (wt (b := b44) rfl (by kernel_rfl) v46) (v := .int .i64 (((ia + ib) / 2 + m - sa : Nat) : Int)) (r_move (by kernel_rfl)) ?_)
      refine wl (sv (wt (b := b44) rfl (by kernel_rfl) v46) (v := .int .i64 (ib : Int)) (r_move (by kernel_rfl)) ?_)
      refine wl (sb (wt (b := b44) rfl (by kernel_rfl) v46) (r_lt (k := .i64) (m := (((ia + ib) / 2 + m - sa : Nat) : Int)) (n := (ib : Int)) (by kernel_rfl) (by kernel_rfl)) ?_)
      intro b48 k49
      refine wl (sv rfl (v := .bool b48) (r_pkT (ebool (b := b44) (by kernel_rfl) v46) (by kernel_rfl)) ?_)
      refine wnil (then_n ?_)
      refine bcase b48 (fun v50 => ?_) (fun v50 => ?_)
      ·
       have p51 := of_decide_eq_false (k49.trans v50)
       refine wp_cond_false (ebool (b := b48) (by kernel_rfl) v50) ?_
       refine wp_skip ?_
       refine bodyPost_end (v := .tuple #[]) (res0 rfl ) (by kernel_rfl) ?_
       obtain ⟨D, hD, hM⟩ := Sym3.skip h40 (by omega) hAs hBs
       exact ⟨D, rfl, ORow.to h39 (by rw [hD]), hM, (Mod.chg M41)⟩
      have p51 := of_decide_eq_true (k49.trans v50)
      refine wp_cond_true (ebool (b := b48) (by kernel_rfl) v50) ?_
      refine rg_lit ?_
      refine wmv (v := .slice (some ⟨g, 0, none⟩) nn c) ?_
      refine wmv (v := .int .i64 (((ia + ib) / 2 : Nat) : Int)) ?_
      refine wmv (v := .int .i64 (((ia + ib) / 2 + m - sa : Nat) : Int)) ?_
      refine wmv (v := .int .i64 (ib : Int)) ?_
      refine wmv (v := .func (.func 115) #[] #[]) ?_
      obtain ⟨p52, X52, Y52, hI52, hp52, hX52, hY52, hsX52, hsY52, hXY52, hN52⟩ := Sym3.half h40 hAs hBs hAB
      have ho52 := ORow.to h39 (congrArg (List.map f) hI52)
      refine wl (sc rfl (r_callv (caps := []) (all := [.slice (some ⟨g, 0, none⟩) nn c, .int .i64 (((ia + ib) / 2 : Nat) : Int), .int .i64 (((ia + ib) / 2 + m - sa : Nat) : Int), .int .i64 (ib : Int), .func (.func 115) #[] #[]]) En.f201 (by kernel_rfl) (by kernel_rfl)) (ih (by omega) ho52 hBb hn hp52 (by omega) (by omega) (by omega) (by omega) hsX52 hsY52 hXY52) ?_)
      rintro e w53 ⟨D54, rfl, h55, m56, c57⟩
      refine ⟨.tuple #[], rfl, ?_⟩
      have M58 := Mod.trans M41 (Mod.of_chg c57 (by simp))
      have M59 := Mod.trans M42 (Mod.of_chg c57 (by simp))
      obtain ⟨_, _, _, cg60, hg60, _⟩ := ORow.blk h55
      have hT52 := hN52 _ m56
      refine wnil ?_
      refine bodyPost_end (v := .tuple #[]) (res0 rfl ) (by kernel_rfl) ?_
      obtain ⟨D, hD, hM⟩ := hT52
      exact ⟨D, rfl, ORow.to h55 (by rw [hD]), hM, (Mod.chg M58)⟩
     have p36 := of_decide_eq_true (k34.trans v35)
     have q37 : ia < sa := by omega
     have q38 : ia < sa := by omega
     refine wl (sv (wt (b := b33) rfl (by kernel_rfl) v35) (v := .int .i64 (sa : Int)) (r_move (by kernel_rfl)) ?_)
     refine wl (sv (wt (b := b33) rfl (by kernel_rfl) v35) (v := .int .i64 (((ia + ib) / 2 : Nat) : Int)) (r_move (by kernel_rfl)) ?_)
     refine wl (sb (wt (b := b33) rfl (by kernel_rfl) v35) (r_lt (k := .i64) (m := (sa : Int)) (n := (((ia + ib) / 2 : Nat) : Int)) (by kernel_rfl) (by kernel_rfl)) ?_)
     intro b39 k40
     refine wl (sv rfl (v := .bool b39) (r_pkT (ebool (b := b33) (by kernel_rfl) v35) (by kernel_rfl)) ?_)
     refine wnil (then_n ?_)
     refine wp_cutA (R := fun a wq => ∃ (I5 : List Nat) (y200 y201 y202 y203 y204 y205 : Value), (a = ⟨#[.slice (some ⟨g, 0, none⟩) nn c, .int .i64 (ia : Int), .int .i64 (m : Int), .int .i64 (ib : Int), .func (.func 115) #[] #[], undef, undef, undef, undef, undef, undef, undef, undef, undef, undef, undef, undef, undef, .int .i64 (((ia + ib) / 2 : Nat) : Int), .int .i64 (((ia + ib) / 2 + m : Nat) : Int), .int .i64 (sa : Int), .int .i64 (ra : Int), .int .i64 (((ia + ib) / 2 + m - 1 : Nat) : Int), z23, .int .i64 (((ia + ib) / 2 + m - sa : Nat) : Int), .int .i64 (m : Int), .int .i64 (ia : Int), .int .i64 ((m - ia : Nat) : Int), .bool b1, undef, undef, undef, undef, undef, undef, undef, undef, undef, undef, undef, undef, undef, undef, undef, undef, undef, undef, undef, undef, undef, undef, undef, undef, undef, undef, undef, undef, undef, undef, undef, undef, undef, undef, undef, undef, undef, undef, undef, undef, undef, undef, undef, undef, undef, undef, undef, undef, .int .i64 (ib : Int), .int .i64 (m : Int), .int .i64 ((ib - m : Nat) : Int), .bool b5, undef, undef, undef, undef, undef, undef, undef, undef, undef, undef, undef, undef, undef, undef, undef, undef, undef, undef, undef, undef, undef, undef, undef, undef, undef, undef, undef, undef, undef, undef, undef, undef, undef, undef, undef, undef, undef, undef, undef, undef, undef, undef, undef, undef, undef, undef, undef, undef, .int .i64 (ia : Int), .int .i64 (ib : Int), .int .i64 ((ia + ib : Nat) : Int), .int .u64 ((ia + ib : Nat) : Int), .int .u64 (((ia + ib) / 2 : Nat) : Int), .int .i64 (((ia + ib) / 2 : Nat) : Int), .int .i64 (((ia + ib) / 2 : Nat) : Int), .int .i64 (m : Int), .int .i64 (((ia + ib) / 2 + m : Nat) : Int), .int .i64 (m : Int), .int .i64 (((ia + ib) / 2 : Nat) : Int), .bool b9, y141, y142, y143, y144, y145, y146, .int .i64 (((ia + ib) / 2 + m : Nat) : Int), .int .i64 (((ia + ib) / 2 + m - 1 : Nat) : Int), .int .i64 (sa : Int), .int .i64 (ra : Int), .bool b13, z152, z153, z154, z155, z156, z157, z158, z159, z160, z161, z162, z163, z164, z165, z166, z167, z168, z169, z170, z171, z172, z173, z174, .int .i64 (((ia + ib) / 2 + m : Nat) : Int), .int .i64 (sa : Int), .int .i64 (((ia + ib) / 2 + m - sa : Nat) : Int), .int .i64 (sa : Int), .int .i64 (m : Int), .bool b17, .bool b17, .int .i64 (m : Int), .int .i64 (((ia + ib) / 2 + m - sa : Nat) : Int), .bool b23, .bool b23, y186, y187, y188, y189, y190, y191, .int .i64 (ia : Int), .int .i64 (sa : Int), .bool b33, .bool b33, .int .i64 (sa : Int), .int .i64 (((ia + ib) / 2 : Nat) : Int), .bool b39, .bool b39, y200, y201, y202, y203, y204, y205, undef, undef, undef, undef, undef, undef, undef, undef, undef, undef, undef, undef, undef, undef], []⟩) ∧ (Mod [g] w26 wq) ∧ (ORow 49 B base wq (.slice (some ⟨g, 0, none⟩) nn c) (I5.map f)) ∧ (Sym3 f pre A Bb post I5 ((ia + ib) / 2) ((ia + ib) / 2 + m - sa))) ?_ ?_
     ·
      refine bcase b39 (fun v41 => ?_) (fun v41 => ?_)
      ·
       have p42 := of_decide_eq_false (k40.trans v41)
       refine wp_cond_false (ebool (b := b39) (by kernel_rfl) v41) ?_
       refine wp_skip (then_n ?_)
       have hT43 := Sym2.skip h29 (by omega) hAs hBs
       exact ⟨I4, undef, undef, undef, undef, undef, undef, (by kernel_rfl), (Mod.refl _ _), h28, hT43⟩
      have p42 := of_decide_eq_true (k40.trans v41)
      refine wp_cond_true (ebool (b := b39) (by kernel_rfl) v41) ?_
      refine rg_lit ?_
      refine wmv (v := .slice (some ⟨g, 0, none⟩) nn c) ?_
      refine wmv (v := .int .i64 (ia : Int)) ?_
      refine wmv (v := .int .i64 (sa : Int)) ?_
      refine wmv (v := .int .i64 (((ia + ib) / 2 : Nat) : Int)) ?_
      refine wmv (v := .func (.func 115) #[] #[]) ?_
      obtain ⟨X43, Y43, q43, hI43, hX43, hY43, hsX43, hsY43, hXY43, hN43⟩ := Sym2.half h29 hAs hBs hAB
      have ho43 := ORow.to h28 (congrArg (List.map f) hI43)
      refine wl (sc rfl (r_callv (caps := []) (all := [.slice (some ⟨g, 0, none⟩) nn c, .int .i64 (ia : Int), .int .i64 (sa : Int), .int .i64 (((ia + ib) / 2 : Nat) : Int), .func (.func 115) #[] #[]]) En.f201 (by kernel_rfl) (by kernel_rfl)) (ih (by omega) ho43 hBb hn ha (by omega) (by omega) (by omega) (by omega) hsX43 hsY43 hXY43) ?_)
      rintro e w44 ⟨D45, rfl, h46, m47, c48⟩
      refine ⟨.tuple #[], rfl, ?_⟩
      have M49 := Mod.trans M30 (Mod.of_chg c48 (by simp))
      have M50 := Mod.trans M31 (Mod.of_chg c48 (by simp))
      obtain ⟨_, _, _, cg51, hg51, _⟩ := ORow.blk h46
      have hT43 := hN43 _ m47
      refine wnil (then_n ?_)
      exact ⟨(pre ++ (D45 ++ q43)), .slice (some ⟨g, 0, none⟩) nn c, .int .i64 (ia : Int), .int .i64 (sa : Int), .int .i64 (((ia + ib) / 2 : Nat) : Int), .func (.func 115) #[] #[], undef, (by kernel_rfl), (Mod.of_chg c48 (by simp)), h46, hT43⟩
     rintro _ w41 ⟨I5, y200, y201, y202, y203, y204, y205, rfl, h42, h43, h44⟩
     have M45 := Mod.trans M30 (Mod.of_mod h42 (by simp))
     have M46 := Mod.trans M31 (Mod.of_mod h42 (by simp))
     obtain ⟨_, _, _, cg47, hg47, _⟩ := ORow.blk h43
     refine wp_seq (rg_lit ?_)
     refine wmv (v := .int .i64 (((ia + ib) / 2 : Nat) : Int)) ?_
     refine wmv (v := .int .i64 (((ia + ib) / 2 + m - sa : Nat) : Int)) ?_
     refine wl (sb rfl (r_lt (k := .i64) (m := (((ia + ib) / 2 : Nat) : Int)) (n := (((ia + ib) / 2 + m - sa : Nat) : Int)) (by kernel_rfl) (by kernel_rfl)) ?_)
     intro b48 k49
     refine wmv (v := .bool b48) ?_
     refine bcase b48 (fun v50 => ?_) (fun v50 => ?_)
     ·
      have p51 := of_decide_eq_false (k49.trans v50)
      refine wl (sp (wf (b := b48) rfl (by kernel_rfl) v50) ?_)
      refine wl (sp (wf (b := b48) rfl (by kernel_rfl) v50) ?_)
      refine wl (sp (wf (b := b48) rfl (by kernel_rfl) v50) ?_)
      refine wl (sv rfl (v := .bool false) (r_pkF (ebool (b := b48) (by kernel_rfl) v50) (by kernel_rfl)) ?_)
      refine wnil (then_n ?_)
      refine wp_cond_false (by kernel_rfl) ?_
      refine wp_skip ?_
      refine bodyPost_end (v := .tuple #[]) (res0 rfl ) (by kernel_rfl) ?_
      obtain ⟨D, hD, hM⟩ := Sym3.skip h44 (by omega) hAs hBs
      exact ⟨D, rfl, ORow.to h43 (by rw [hD]), hM, (Mod.chg M45)⟩
     have p51 := of_decide_eq_true (k49.trans v50)
     refine wl (sv (wt (b := b48) rfl (by kernel_rfl) v50) (v := .int .i64 (((ia + ib) / 2 + m - sa : Nat) : Int)) (r_move (by kernel_rfl)) ?_)
     refine wl (sv (wt (b := b48) rfl (by kernel_rfl) v50) (v := .int .i64 (ib : Int)) (r_move (by kernel_rfl)) ?_)
     refine wl (sb (wt (b := b48) rfl (by kernel_rfl) v50) (r_lt (k := .i64) (m := (((ia + ib) / 2 + m - sa : Nat) : Int)) (n := (ib : Int)) (by kernel_rfl) (by kernel_rfl)) ?_)
     intro b52 k53
     refine wl (sv rfl (v := .bool b52) (r_pkT (ebool (b := b48) (by kernel_rfl) v50) (by kernel_rfl)) ?_)
     refine wnil (then_n ?_)
     refine bcase b52 (fun v54 => ?_) (fun v54 => ?_)
     ·
      have p55 := of_decide_eq_false (k53.trans v54)
      refine wp_cond_false (ebool (b := b52) (by kernel_rfl) v54) ?_
      refine wp_skip ?_
      refine bodyPost_end (v := .tuple #[]) (res0 rfl ) (by kernel_rfl) ?_
      obtain ⟨D, hD, hM⟩ := Sym3.skip h44 (by omega) hAs hBs
      exact ⟨D, rfl, ORow.to h43 (by rw [hD]), hM, (Mod.chg M45)⟩
     have p55 := of_decide_eq_true (k53.trans v54)
     refine wp_cond_true (ebool (b := b52) (by kernel_rfl) v54) ?_
     refine rg_lit ?_
     refine wmv (v := .slice (some ⟨g, 0, none⟩) nn c) ?_
     refine wmv (v := .int .i64 (((ia + ib) / 2 : Nat) : Int)) ?_
     refine wmv (v := .int .i64 (((ia + ib) / 2 + m - sa : Nat) : Int)) ?_
     refine wmv (v := .int .i64 (ib : Int)) ?_
     refine wmv (v := .func (.func 115) #[] #[]) ?_
     obtain ⟨p56, X56, Y56, hI56, hp56, hX56, hY56, hsX56, hsY56, hXY56, hN56⟩ := Sym3.half h44 hAs hBs hAB
     have ho56 := ORow.to h43 (congrArg (List.map f) hI56)
     refine wl (sc rfl (r_callv (caps := []) (all := [.slice (some ⟨g, 0, none⟩) nn c, .int .i64 (((ia + ib) / 2 : Nat) : Int), .int .i64 (((ia + ib) / 2 + m - sa : Nat) : Int), .int .i64 (ib : Int), .func (.func 115) #[] #[]]) En.f201 (by kernel_rfl) (by kernel_rfl)) (ih (by omega) ho56 hBb hn hp56 (by omega) (by omega) (by omega) (by omega) hsX56 hsY56 hXY56) ?_)
     rintro e w57 ⟨D58, rfl, h59, m60, c61⟩
     refine ⟨.tuple #[], rfl, ?_⟩
     have M62 := Mod.trans M45 (Mod.of_chg c61 (by simp))
     have M63 := Mod.trans M46 (Mod.of_chg c61 (by simp))
     obtain ⟨_, _, _, cg64, hg64, _⟩ := ORow.blk h59
     have hT56 := hN56 _ m60
     refine wnil ?_
     refine bodyPost_end (v := .tuple #[]) (res0 rfl ) (by kernel_rfl) ?_
     obtain ⟨D, hD, hM⟩ := hT56
     exact ⟨D, rfl, ORow.to h59 (by rw [hD]), hM, (Mod.chg M62)⟩
    have p16 := of_decide_eq_true (k14.trans v15)
    have q17 : sa < ra := by omega
    have q18 : sa < ra := by omega
    refine wp_cond_true (ebool (b := b13) (by kernel_rfl) v15) ?_
    refine wp_skip (then_n (wp_block (wp_seq (rg_lit ?_))))
    refine wmv (v := .int .i64 (sa : Int)) ?_
    refine wmv (v := .int .i64 (ra : Int)) ?_
    refine wl (sv rfl (v := .int .i64 ((sa + ra : Nat) : Int)) (r_add (k := .i64) (m := (sa : Int)) (n := (ra : Int)) (c := ((sa + ra : Nat) : Int)) (by kernel_rfl) (by kernel_rfl) ((IntWalk.i64_in _ (by omega)).trans (by omega))) ?_)
    refine wl (sv rfl (v := .int .u64 ((sa + ra : Nat) : Int)) (r_toUn (m := (sa + ra)) (by kernel_rfl) (by omega)) ?_)
    refine wl (sv rfl (v := .int .u64 (((sa + ra) / 2 : Nat) : Int)) (r_halfn (m := (sa + ra)) (by kernel_rfl) (by kernel_rfl)) ?_)
    refine wl (sv rfl (v := .int .i64 (((sa + ra) / 2 : Nat) : Int)) (r_toIn (m := ((sa + ra) / 2)) (by kernel_rfl) (by omega)) ?_)
    refine was (v := .int .i64 (((sa + ra) / 2 : Nat) : Int)) ?_
    refine wnil (then_n (wp_seq ?_))
    refine rg_tail 11 (by kernel_rfl) (by kernel_rfl) rfl rfl ?_
    refine qmv (v := .func (.func 115) #[] #[]) ?_
    refine qmv (v := .slice (some ⟨g, 0, none⟩) nn c) ?_
    refine qmv (v := .int .i64 (((ia + ib) / 2 + m - 1 : Nat) : Int)) ?_
    refine qmv (v := .int .i64 (((sa + ra) / 2 : Nat) : Int)) ?_
    refine qv rfl (v := .int .i64 (((ia + ib) / 2 + m - 1 - ((sa + ra) / 2) : Nat) : Int)) (fun _ _ => r_sub (k := .i64) (m := (((ia + ib) / 2 + m - 1 : Nat) : Int)) (n := (((sa + ra) / 2 : Nat) : Int)) (c := (((ia + ib) / 2 + m - 1 - ((sa + ra) / 2) : Nat) : Int)) (by kernel_rfl) (by kernel_rfl) ((IntWalk.i64_in _ (by omega)).trans (by omega))) ?_
    refine qv rfl (v := .pointer (some ⟨g, ((ia + ib) / 2 + m - 1 - ((sa + ra) / 2)) * 10, none⟩)) (fun _ _ => r_ixaddr' (A := some ⟨g, 0, none⟩) (b := g) (o := 0) (n := nn) (c := c) (sz := 10) (j := (((ia + ib) / 2 + m - 1 - ((sa + ra) / 2) : Nat) : Int)) (m := ((ia + ib) / 2 + m - 1 - ((sa + ra) / 2)) * 10) (by kernel_rfl) rfl (by kernel_rfl) Ty.un22 Ty.sz49 (by omega) (by omega) (by omega)) ?_
    have h19 := (ORow.up h (Mod.up hM1))
    obtain ⟨x20, hx20⟩ : ∃ x, (pre ++ (A ++ (Bb ++ post)))[(ia + ib) / 2 + m - 1 - ((sa + ra) / 2)]? = some x := ⟨_, List.getElem?_eq_getElem (by omega)⟩
    obtain ⟨cu21, dA21, dn21, dc21, hb21, he21, hD21⟩ := ORow.elem h19 (map_get' hx20)
    refine qv rfl (v := opV (f x20) (.slice dA21 dn21 dc21)) (fun _ uz => r_loads (k := ((ia + ib) / 2 + m - 1 - ((sa + ra) / 2)) * 10) (vs := (opC (f x20) (.slice dA21 dn21 dc21))) (by kernel_rfl) Ty.ag49 Ty.sz49 (up_ob uz hb21) (el_sub0 he21 rfl)) ?_
    refine qmv (v := .slice (some ⟨g, 0, none⟩) nn c) ?_
    refine qmv (v := .int .i64 (((sa + ra) / 2 : Nat) : Int)) ?_
    refine qv rfl (v := .pointer (some ⟨g, ((sa + ra) / 2) * 10, none⟩)) (fun _ _ => r_ixaddr' (A := some ⟨g, 0, none⟩) (b := g) (o := 0) (n := nn) (c := c) (sz := 10) (j := (((sa + ra) / 2 : Nat) : Int)) (m := ((sa + ra) / 2) * 10) (by kernel_rfl) rfl (by kernel_rfl) Ty.un22 Ty.sz49 (by omega) (by omega) (by omega)) ?_
    obtain ⟨x22, hx22⟩ : ∃ x, (pre ++ (A ++ (Bb ++ post)))[(sa + ra) / 2]? = some x := ⟨_, List.getElem?_eq_getElem (by omega)⟩
    obtain ⟨cu23, dA23, dn23, dc23, hb23, he23, hD23⟩ := ORow.elem h19 (map_get' hx22)
    refine qv rfl (v := opV (f x22) (.slice dA23 dn23 dc23)) (fun _ uz => r_loads (k := ((sa + ra) / 2) * 10) (vs := (opC (f x22) (.slice dA23 dn23 dc23))) (by kernel_rfl) Ty.ag49 Ty.sz49 (up_ob uz hb23) (el_sub0 he23 rfl)) ?_
    refine qnil ?_
    intro w24 u25
    have M26 := Mod.trans M12 (Mod.of_up u25)
    have M27 := Mod.trans hM1 (Mod.of_up u25)
    refine wl (sc rfl (r_callv (caps := []) (all := [opV (f x20) (.slice dA21 dn21 dc21), opV (f x22) (.slice dA23 dn23 dc23)]) En.f115 (by kernel_rfl) (by kernel_rfl)) (opcompare_at (f x20) (f x22) dA21 dA23 dn21 dc21 dn23 dc23) ?_)
    rintro e w28 ⟨rfl, u29⟩
    refine ⟨.int .i64 (cmpS (f x20).at_ (f x22).at_), rfl, ?_⟩
    have M30 := Mod.trans M26 (Mod.of_up u29)
    have M31 := Mod.trans M27 (Mod.of_up u29)
    refine wl (sb rfl (r_lt (k := .i64) (m := (cmpS (f x20).at_ (f x22).at_)) (n := 0) (by kernel_rfl) (by kernel_rfl)) ?_)
    intro b32 k33
    refine wl (sv rfl (v := .bool (!b32)) (r_not (b := b32) (by kernel_rfl)) ?_)
    refine wnil (then_n ?_)
    refine bcase b32 (fun v34 => ?_) (fun v34 => ?_)
    ·
     have p35 := of_decide_eq_false (k33.trans v34)
     refine wp_cond_true (ebool (b := !b32) (by kernel_rfl) (bneg v34)) ?_
     refine rg_lit ?_
     refine wmv (v := .int .i64 (((sa + ra) / 2 : Nat) : Int)) ?_
     refine wl (sv rfl (v := .int .i64 (((sa + ra) / 2 + 1 : Nat) : Int)) (r_add (k := .i64) (m := (((sa + ra) / 2 : Nat) : Int)) (n := 1) (c := (((sa + ra) / 2 + 1 : Nat) : Int)) (by kernel_rfl) (by kernel_rfl) ((IntWalk.i64_in _ (by omega)).trans (by omega))) ?_)
     refine was (v := .int .i64 (((sa + ra) / 2 + 1 : Nat) : Int)) ?_
     refine wnil (inb_n (then_n ?_))
     refine ⟨ra - ((sa + ra) / 2 + 1), ?_, ((sa + ra) / 2 + 1), ra, .int .i64 (((sa + ra) / 2 : Nat) : Int), .int .i64 (sa : Int), .int .i64 (ra : Int), .bool b13, .int .i64 (sa : Int), .int .i64 (ra : Int), .int .i64 ((sa + ra : Nat) : Int), .int .u64 ((sa + ra : Nat) : Int), .int .u64 (((sa + ra) / 2 : Nat) : Int), .int .i64 (((sa + ra) / 2 : Nat) : Int), .func (.func 115) #[] #[], .slice (some ⟨g, 0, none⟩) nn c, .int .i64 (((ia + ib) / 2 + m - 1 : Nat) : Int), .int .i64 (((sa + ra) / 2 : Nat) : Int), .int .i64 (((ia + ib) / 2 + m - 1 - ((sa + ra) / 2) : Nat) : Int), .pointer (some ⟨g, ((ia + ib) / 2 + m - 1 - ((sa + ra) / 2)) * 10, none⟩), opV (f x20) (.slice dA21 dn21 dc21), .slice (some ⟨g, 0, none⟩) nn c, .int .i64 (((sa + ra) / 2 : Nat) : Int), .pointer (some ⟨g, ((sa + ra) / 2) * 10, none⟩), opV (f x22) (.slice dA23 dn23 dc23), .int .i64 (cmpS (f x20).at_ (f x22).at_), .bool b32, .bool (!b32), .int .i64 (((sa + ra) / 2 : Nat) : Int), .int .i64 (((sa + ra) / 2 + 1 : Nat) : Int), z174, rfl, (by kernel_rfl), M31, (SymS.yes hF1_0 (by omega) (by omega) hx22 hx20 (cmpS_no p35))⟩
     · omega
    have p35 := of_decide_eq_true (k33.trans v34)
    refine wp_cond_false (ebool (b := !b32) (by kernel_rfl) (bneg v34)) ?_
    refine rg_lit ?_
    refine wmv (v := .int .i64 (((sa + ra) / 2 : Nat) : Int)) ?_
    refine was (v := .int .i64 (((sa + ra) / 2 : Nat) : Int)) ?_
    refine wnil (inb_n (then_n ?_))
    refine ⟨((sa + ra) / 2) - sa, ?_, sa, ((sa + ra) / 2), .int .i64 (((sa + ra) / 2 : Nat) : Int), .int .i64 (sa : Int), .int .i64 (ra : Int), .bool b13, .int .i64 (sa : Int), .int .i64 (ra : Int), .int .i64 ((sa + ra : Nat) : Int), .int .u64 ((sa + ra : Nat) : Int), .int .u64 (((sa + ra) / 2 : Nat) : Int), .int .i64 (((sa + ra) / 2 : Nat) : Int), .func (.func 115) #[] #[], .slice (some ⟨g, 0, none⟩) nn c, .int .i64 (((ia + ib) / 2 + m - 1 : Nat) : Int), .int .i64 (((sa + ra) / 2 : Nat) : Int), .int .i64 (((ia + ib) / 2 + m - 1 - ((sa + ra) / 2) : Nat) : Int), .pointer (some ⟨g, ((ia + ib) / 2 + m - 1 - ((sa + ra) / 2)) * 10, none⟩), opV (f x20) (.slice dA21 dn21 dc21), .slice (some ⟨g, 0, none⟩) nn c, .int .i64 (((sa + ra) / 2 : Nat) : Int), .pointer (some ⟨g, ((sa + ra) / 2) * 10, none⟩), opV (f x22) (.slice dA23 dn23 dc23), .int .i64 (cmpS (f x20).at_ (f x22).at_), .bool b32, .bool (!b32), z172, z173, .int .i64 (((sa + ra) / 2 : Nat) : Int), rfl, (by kernel_rfl), M31, (SymS.no hF1_0 (by omega) (by omega) hx22 hx20 (cmpS_yes p35))⟩
    · omega
   have p8 := of_decide_eq_true (k6.trans v7)
   refine wp_cond_true (ebool (b := b5) (by kernel_rfl) v7) ?_
   refine wp_seq (rg_lit ?_)
   refine wmv (v := .int .i64 (ia : Int)) ?_
   refine was (v := .int .i64 (ia : Int)) ?_
   refine wnil (then_n (wp_seq (rg_lit ?_)))
   refine wmv (v := .int .i64 (m : Int)) ?_
   refine was (v := .int .i64 (m : Int)) ?_
   refine wnil (then_n (wp_seq (wp_block ?_)))
   obtain ⟨y0, hB1⟩ : ∃ x, Bb = [x] := List.length_eq_one_iff.1 (by omega)
   have hy0 : (pre ++ (A ++ (Bb ++ post)))[m]? = some y0 := by rw [hB1, ← List.append_assoc, List.getElem?_append_right (by simp; omega)]; simp [show m - (pre.length + A.length) = 0 by omega]
   refine lp (fun n a r2 => ∃ (il : Nat) (jl : Nat) (z16 z83 z84 z85 z86 z87 z88 z89 z90 z91 z92 z93 z94 z95 z96 z97 z98 z99 z100 z101 z102 z103 z104 z105 z106 : Value), (n = jl - il) ∧ (a = ⟨#[.slice (some ⟨g, 0, none⟩) nn c, .int .i64 (ia : Int), .int .i64 (m : Int), .int .i64 (ib : Int), .func (.func 115) #[] #[], undef, undef, undef, undef, undef, undef, undef, undef, undef, .int .i64 (il : Int), .int .i64 (jl : Int), z16, undef, undef, undef, undef, undef, undef, undef, undef, .int .i64 (m : Int), .int .i64 (ia : Int), .int .i64 ((m - ia : Nat) : Int), .bool b1, undef, undef, undef, undef, undef, undef, undef, undef, undef, undef, undef, undef, undef, undef, undef, undef, undef, undef, undef, undef, undef, undef, undef, undef, undef, undef, undef, undef, undef, undef, undef, undef, undef, undef, undef, undef, undef, undef, undef, undef, undef, undef, undef, undef, undef, undef, undef, undef, .int .i64 (ib : Int), .int .i64 (m : Int), .int .i64 ((ib - m : Nat) : Int), .bool b5, .int .i64 (ia : Int), .int .i64 (m : Int), z83, z84, z85, z86, z87, z88, z89, z90, z91, z92, z93, z94, z95, z96, z97, z98, z99, z100, z101, z102, z103, z104, z105, z106, undef, undef, undef, undef, undef, undef, undef, undef, undef, undef, undef, undef, undef, undef, undef, undef, undef, undef, undef, undef, undef, undef, undef, undef, undef, undef, undef, undef, undef, undef, undef, undef, undef, undef, undef, undef, undef, undef, undef, undef, undef, undef, undef, undef, undef, undef, undef, undef, undef, undef, undef, undef, undef, undef, undef, undef, undef, undef, undef, undef, undef, undef, undef, undef, undef, undef, undef, undef, undef, undef, undef, undef, undef, undef, undef, undef, undef, undef, undef, undef, undef, undef, undef, undef, undef, undef, undef, undef, undef, undef, undef, undef, undef, undef, undef, undef, undef, undef, undef, undef, undef, undef, undef, undef, undef, undef, undef, undef, undef, undef, undef, undef, undef], []⟩) ∧ (Mod [] w r2) ∧ (F2 f (pre ++ (A ++ (Bb ++ post))) y0 ia m il jl)) ⟨_, ia, m, undef, undef, undef, undef, undef, undef, undef, undef, undef, undef, undef, undef, undef, undef, undef, undef, undef, undef, undef, undef, undef, undef, undef, undef, undef, rfl, (by kernel_rfl), Mod.refl _ _, (F2.first _ _ _ _ _ (by omega))⟩ ?_
   rintro _ _ r2 ⟨il, jl, z16, z83, z84, z85, z86, z87, z88, z89, z90, z91, z92, z93, z94, z95, z96, z97, z98, z99, z100, z101, z102, z103, z104, z105, z106, rfl, rfl, hM2, hF2_0⟩
   have M9 := Mod.thin (Mod.refl [] w) hM2 (by simp)
   have hz1 := hF2_0.1
   have hz2 := hF2_0.2.1
   have hz3 := hF2_0.2.2.1
   refine wp_seq (wp_seq (rg_lit ?_))
   refine wmv (v := .int .i64 (il : Int)) ?_
   refine wmv (v := .int .i64 (jl : Int)) ?_
   refine wl (sb rfl (r_lt (k := .i64) (m := (il : Int)) (n := (jl : Int)) (by kernel_rfl) (by kernel_rfl)) ?_)
   intro b10 k11
   refine wnil (then_n ?_)
   refine bcase b10 (fun v12 => ?_) (fun v12 => ?_)
   ·
    have p13 := of_decide_eq_false (k11.trans v12)
    refine wp_cond_false (ebool (b := b10) (by kernel_rfl) v12) ?_
    refine wp_exit (then_x (by nofun) (then_x (by nofun) (inb_hit (then_n (wp_seq (wp_seq (rg_lit ?_)))))))
    refine wmv (v := .int .i64 (m : Int)) ?_
    refine was (v := .int .i64 (m : Int)) ?_
    refine wnil (then_n (wp_block ?_))
    have h14 := md_ob M9 nin0 hg
    have h15 := (ORow.up h (Mod.up hM2))
    have hq1 : F2 f (pre ++ (A ++ (y0 :: post))) y0 ia m il il := by have h0 := hF2_0; rw [show jl = il by omega, hB1] at h0; exact h0
    obtain ⟨Aa, Ab, hAA, hAl, hMg⟩ := F2.fin hq1 ha (by omega) hAs (by rw [← hB1]; exact hAB)
    have hIe : (pre ++ (A ++ (Bb ++ post))) = (pre ++ Aa) ++ (Ab ++ (y0 :: post)) := by rw [hB1, hAA]; simp
    have hA2 : Aa.length + Ab.length = A.length := by rw [hAA]; simp
    have hpl : (pre ++ Aa).length = il := by simp; omega
    refine lp (fun n a r3 => ∃ (I3 : List Nat) (kl : Nat) (z108 z109 z110 z111 z112 z113 z114 z115 z116 z117 z118 z119 z120 z121 z122 z123 z124 z125 z126 z127 z128 : Value), (n = kl + 1) ∧ (a = ⟨#[.slice (some ⟨g, 0, none⟩) nn c, .int .i64 (ia : Int), .int .i64 (m : Int), .int .i64 (ib : Int), .func (.func 115) #[] #[], undef, undef, undef, undef, undef, undef, undef, undef, undef, .int .i64 (il : Int), .int .i64 (jl : Int), z16, .int .i64 (kl : Int), undef, undef, undef, undef, undef, undef, undef, .int .i64 (m : Int), .int .i64 (ia : Int), .int .i64 ((m - ia : Nat) : Int), .bool b1, undef, undef, undef, undef, undef, undef, undef, undef, undef, undef, undef, undef, undef, undef, undef, undef, undef, undef, undef, undef, undef, undef, undef, undef, undef, undef, undef, undef, undef, undef, undef, undef, undef, undef, undef, undef, undef, undef, undef, undef, undef, undef, undef, undef, undef, undef, undef, undef, .int .i64 (ib : Int), .int .i64 (m : Int), .int .i64 ((ib - m : Nat) : Int), .bool b5, .int .i64 (ia : Int), .int .i64 (m : Int), .int .i64 (il : Int), .int .i64 (jl : Int), .bool b10, z86, z87, z88, z89, z90, z91, z92, z93, z94, z95, z96, z97, z98, z99, z100, z101, z102, z103, z104, z105, z106, .int .i64 (m : Int), z108, z109, z110, z111, z112, z113, z114, z115, z116, z117, z118, z119, z120, z121, z122, z123, z124, z125, z126, z127, z128, undef, undef, undef, undef, undef, undef, undef, undef, undef, undef, undef, undef, undef, undef, undef, undef, undef, undef, undef, undef, undef, undef, undef, undef, undef, undef, undef, undef, undef, undef, undef, undef, undef, undef, undef, undef, undef, undef, undef, undef, undef, undef, undef, undef, undef, undef, undef, undef, undef, undef, undef, undef, undef, undef, undef, undef, undef, undef, undef, undef, undef, undef, undef, undef, undef, undef, undef, undef, undef, undef, undef, undef, undef, undef, undef, undef, undef, undef, undef, undef, undef, undef, undef, undef, undef, undef, undef, undef, undef, undef, undef], []⟩) ∧ (Mod [g] r2 r3) ∧ (Mv (pre ++ Aa) Ab post y0 I3 kl) ∧ (ORow 49 B base r3 (.slice (some ⟨g, 0, none⟩) nn c) (I3.map f))) ⟨_, (pre ++ (A ++ (Bb ++ post))), m, undef, undef, undef, undef, undef, undef, undef, undef, undef, undef, undef, undef, undef, undef, undef, undef, undef, undef, undef, undef, undef, rfl, (by kernel_rfl), Mod.refl _ _, (by rw [hIe]; exact Mv.right _ _ _ _ _ (by omega)), h15⟩ ?_
    rintro _ _ r3 ⟨I3, kl, z108, z109, z110, z111, z112, z113, z114, z115, z116, z117, z118, z119, z120, z121, z122, z123, z124, z125, z126, z127, z128, rfl, rfl, hM3, hF3_0, hF3_1⟩
    have M16 := Mod.trans (Mod.of_mod (Y := [g]) M9 (by simp)) (Mod.of_mod (Y := [g]) hM3 (by simp))
    have M17 := Mod.trans (Mod.of_mod (Y := [g]) hM2 (by simp)) (Mod.of_mod (Y := [g]) hM3 (by simp))
    obtain ⟨hlM, hlm, hln⟩ := Mv.len hF3_0
    obtain ⟨_, _, _, cg18, hg18, _⟩ := ORow.blk hF3_1
    refine wp_seq (wp_seq (rg_lit ?_))
    refine wmv (v := .int .i64 (kl : Int)) ?_
    refine wmv (v := .int .i64 (il : Int)) ?_
    refine wl (sb rfl (r_gt (k := .i64) (m := (kl : Int)) (n := (il : Int)) (by kernel_rfl) (by kernel_rfl)) ?_)
    intro b19 k20
    refine wnil (then_n ?_)
    refine bcase b19 (fun v21 => ?_) (fun v21 => ?_)
    ·
     have p22 := of_decide_eq_false (k20.trans v21)
     refine wp_cond_false (ebool (b := b19) (by kernel_rfl) v21) ?_
     refine wp_exit (then_x (by nofun) (then_x (by nofun) (inb_hit (then_n (wp_ret (then_x (by nofun) ?_))))))
     refine bodyPost_ret (v := .tuple #[]) (res0 rfl ) (by kernel_rfl) ?_
     exact ⟨Aa ++ y0 :: Ab, rfl, ORow.to hF3_1 (by rw [Mv.atLeft hF3_0 (by omega)]; simp), by rw [hB1]; exact hMg, (Mod.chg M16)⟩
    have p22 := of_decide_eq_true (k20.trans v21)
    refine wp_cond_true (ebool (b := b19) (by kernel_rfl) v21) ?_
    refine wp_skip (then_n (wp_seq (wp_block ?_)))
    refine rg_held [g] (n := 18) (by kernel_rfl) rfl ?_
    intro w23 u24
    have M25 := Mod.trans M16 (Mod.of_up u24)
    have M26 := Mod.trans M17 (Mod.of_up u24)
    have M27 := Mod.trans hM3 (Mod.of_up u24)
    refine hvq (i := 0) (fuel := 17) rfl (fun _ _ _ h => h) (Mod.refl _ _) rfl (v := .slice (some ⟨g, 0, none⟩) nn c) (fun _ _ => r_move (by kernel_rfl)) ?_
    refine hvq (i := 1) (fuel := 16) rfl (fun _ _ _ h => h) (Mod.refl _ _) rfl (v := .int .i64 (kl : Int)) (fun _ _ => r_move (by kernel_rfl)) ?_
    refine hvq (i := 2) (fuel := 15) rfl (fun _ _ _ h => h) (Mod.refl _ _) rfl (v := .slice (some ⟨g, 0, none⟩) nn c) (fun _ _ => r_move (by kernel_rfl)) ?_
    refine hvq (i := 3) (fuel := 14) rfl (fun _ _ _ h => h) (Mod.refl _ _) rfl (v := .int .i64 (kl : Int)) (fun _ _ => r_move (by kernel_rfl)) ?_
    refine hvq (i := 4) (fuel := 13) rfl (fun _ _ _ h => h) (Mod.refl _ _) rfl (v := .int .i64 ((kl - 1 : Nat) : Int)) (fun _ _ => r_sub (k := .i64) (m := (kl : Int)) (n := 1) (c := ((kl - 1 : Nat) : Int)) (by kernel_rfl) (by kernel_rfl) ((IntWalk.i64_in _ (by omega)).trans (by omega))) ?_
    refine hvq (i := 5) (fuel := 12) rfl (fun _ _ _ h => h) (Mod.refl _ _) rfl (v := .slice (some ⟨g, 0, none⟩) nn c) (fun _ _ => r_move (by kernel_rfl)) ?_
    refine hvq (i := 6) (fuel := 11) rfl (fun _ _ _ h => h) (Mod.refl _ _) rfl (v := .int .i64 (kl : Int)) (fun _ _ => r_move (by kernel_rfl)) ?_
    refine hvq (i := 7) (fuel := 10) rfl (fun _ _ _ h => h) (Mod.refl _ _) rfl (v := .int .i64 ((kl - 1 : Nat) : Int)) (fun _ _ => r_sub (k := .i64) (m := (kl : Int)) (n := 1) (c := ((kl - 1 : Nat) : Int)) (by kernel_rfl) (by kernel_rfl) ((IntWalk.i64_in _ (by omega)).trans (by omega))) ?_
    refine hvq (i := 8) (fuel := 9) rfl (fun _ _ _ h => h) (Mod.refl _ _) rfl (v := .pointer (some ⟨g, (kl - 1) * 10, none⟩)) (fun _ _ => r_ixaddr' (A := some ⟨g, 0, none⟩) (b := g) (o := 0) (n := nn) (c := c) (sz := 10) (j := ((kl - 1 : Nat) : Int)) (m := (kl - 1) * 10) (by kernel_rfl) rfl (by kernel_rfl) Ty.un22 Ty.sz49 (by omega) (by omega) (by omega)) ?_
    refine hvq (i := 10) (fuel := 8) rfl (fun _ _ _ h => h) (Mod.refl _ _) rfl (v := .slice (some ⟨g, 0, none⟩) nn c) (fun _ _ => r_move (by kernel_rfl)) ?_
    refine hvq (i := 11) (fuel := 7) rfl (fun _ _ _ h => h) (Mod.refl _ _) rfl (v := .int .i64 (kl : Int)) (fun _ _ => r_move (by kernel_rfl)) ?_
    refine hvq (i := 12) (fuel := 6) rfl (fun _ _ _ h => h) (Mod.refl _ _) rfl (v := .pointer (some ⟨g, kl * 10, none⟩)) (fun _ _ => r_ixaddr' (A := some ⟨g, 0, none⟩) (b := g) (o := 0) (n := nn) (c := c) (sz := 10) (j := (kl : Int)) (m := kl * 10) (by kernel_rfl) rfl (by kernel_rfl) Ty.un22 Ty.sz49 (by omega) (by omega) (by omega)) ?_
    refine h2 (i := 9) (j := 13) (fuel := 5) (by kernel_rfl) rfl rfl ?_ ?_
    ·
     have h28 := (ORow.up hF3_1 u24)
     obtain ⟨x29, hx29⟩ : ∃ x, I3[kl - 1]? = some x := ⟨_, List.getElem?_eq_getElem (by omega)⟩
     obtain ⟨cu30, dA30, dn30, dc30, hb30, he30, hD30⟩ := ORow.elem h28 (map_get' hx29)
     refine sv rfl (v := opV (f x29) (.slice dA30 dn30 dc30)) (r_loads (k := (kl - 1) * 10) (vs := (opC (f x29) (.slice dA30 dn30 dc30))) (by kernel_rfl) Ty.ag49 Ty.sz49 hb30 (el_sub0 he30 rfl)) ?_
     refine hx (Y := [g]) (Mod.refl _ _) (fun y hy => .inl hy) ?_
     obtain ⟨x31, hx31⟩ : ∃ x, I3[kl]? = some x := ⟨_, List.getElem?_eq_getElem (by omega)⟩
     obtain ⟨cu32, dA32, dn32, dc32, hb32, he32, hD32⟩ := ORow.elem h28 (map_get' hx31)
     refine h1 (i := 13) (fuel := 4) (by kernel_rfl) rfl (sv rfl (v := opV (f x31) (.slice dA32 dn32 dc32)) (r_loads (k := kl * 10) (vs := (opC (f x31) (.slice dA32 dn32 dc32))) (by kernel_rfl) Ty.ag49 Ty.sz49 hb32 (el_sub0 he32 rfl)) ?_)
     refine hx (Y := [g]) (Mod.refl _ _) (fun y hy => .inl hy) ?_
     refine hvq (i := 14) (fuel := 3) rfl (fun _ _ _ h => h) (Mod.refl _ _) rfl (v := .pointer (some ⟨g, kl * 10, none⟩)) (fun _ _ => r_ixaddr' (A := some ⟨g, 0, none⟩) (b := g) (o := 0) (n := nn) (c := c) (sz := 10) (j := (kl : Int)) (m := kl * 10) (by kernel_rfl) rfl (by kernel_rfl) Ty.un22 Ty.sz49 (by omega) (by omega) (by omega)) ?_
     obtain ⟨cu33, hb33, hk33, hp33⟩ := ORow.put (i := kl) h28 (by simp; omega) hD30 (by decide) hBb
     refine h1 (i := 15) (fuel := 2) (by kernel_rfl) rfl (ss rfl (k := kl * 10) (v := opV (f x29) (.slice dA30 dn30 dc30)) (vs := (opC (f x29) (.slice dA30 dn30 dc30))) (cs' := _) (by kernel_rfl) (by kernel_rfl) rfl Ty.sz49 hb33 rfl hk33 rfl ?_)
     intro w34 h35 c36
     have hr33 := hp33 _ h35 c36
     rw [map_set'] at hr33
     have M37 := Mod.trans M25 (Mod.of_chg c36 (by simp))
     have M38 := Mod.trans M26 (Mod.of_chg c36 (by simp))
     have M39 := Mod.trans M27 (Mod.of_chg c36 (by simp))
     obtain ⟨_, _, _, cg40, hg40, _⟩ := ORow.blk hr33
     refine hx (Y := [g]) (Mod.of_chg c36 (by simp)) (fun y hy => .inl hy) ?_
     refine hvq (i := 16) (fuel := 1) rfl (fun _ _ _ h => h) (Mod.refl _ _) rfl (v := .pointer (some ⟨g, (kl - 1) * 10, none⟩)) (fun _ _ => r_ixaddr' (A := some ⟨g, 0, none⟩) (b := g) (o := 0) (n := nn) (c := c) (sz := 10) (j := ((kl - 1 : Nat) : Int)) (m := (kl - 1) * 10) (by kernel_rfl) rfl (by kernel_rfl) Ty.un22 Ty.sz49 (by omega) (by omega) (by omega)) ?_
     have h42 := (Dat.chg hD32 c36 ⟨hBg, NotU8.of hb33 (by decide)⟩)
     obtain ⟨cu41, hb41, hk41, hp41⟩ := ORow.put (i := kl - 1) hr33 (by simp; omega) h42 (by decide) hBb
     refine h1 (i := 17) (fuel := 0) (by kernel_rfl) rfl (ss rfl (k := (kl - 1) * 10) (v := opV (f x31) (.slice dA32 dn32 dc32)) (vs := (opC (f x31) (.slice dA32 dn32 dc32))) (cs' := _) (by kernel_rfl) (by kernel_rfl) rfl Ty.sz49 hb41 rfl hk41 rfl ?_)
     intro w43 h44 c45
     have hr41 := hp41 _ h44 c45
     rw [map_set'] at hr41
     have M46 := Mod.trans M37 (Mod.of_chg c45 (by simp))
     have M47 := Mod.trans M38 (Mod.of_chg c45 (by simp))
     have M48 := Mod.trans M39 (Mod.of_chg c45 (by simp))
     obtain ⟨_, _, _, cg49, hg49, _⟩ := ORow.blk hr41
     refine hx (Y := [g]) (Mod.of_chg c45 (by simp)) (fun y hy => .inl hy) ?_
     refine hend (by kernel_rfl) ?_
     refine inb_n (then_n (rg_lit ?_))
     refine wmv (v := .int .i64 (kl : Int)) ?_
     refine wl (sv rfl (v := .int .i64 ((kl - 1 : Nat) : Int)) (r_sub (k := .i64) (m := (kl : Int)) (n := 1) (c := ((kl - 1 : Nat) : Int)) (by kernel_rfl) (by kernel_rfl) ((IntWalk.i64_in _ (by omega)).trans (by omega))) ?_)
     refine was (v := .int .i64 ((kl - 1 : Nat) : Int)) ?_
     refine wnil (then_n ?_)
     refine ⟨(kl - 1) + 1, ?_, ((I3.set kl x29).set (kl - 1) x31), (kl - 1), .int .i64 (kl : Int), .int .i64 (il : Int), .bool b19, .int .i64 (kl : Int), .int .i64 ((kl - 1 : Nat) : Int), .slice (some ⟨g, 0, none⟩) nn c, .int .i64 (kl : Int), .slice (some ⟨g, 0, none⟩) nn c, .int .i64 (kl : Int), .int .i64 ((kl - 1 : Nat) : Int), .slice (some ⟨g, 0, none⟩) nn c, .int .i64 (kl : Int), .int .i64 ((kl - 1 : Nat) : Int), .pointer (some ⟨g, (kl - 1) * 10, none⟩), opV (f x29) (.slice dA30 dn30 dc30), .slice (some ⟨g, 0, none⟩) nn c, .int .i64 (kl : Int), .pointer (some ⟨g, kl * 10, none⟩), opV (f x31) (.slice dA32 dn32 dc32), .pointer (some ⟨g, kl * 10, none⟩), .pointer (some ⟨g, (kl - 1) * 10, none⟩), rfl, (by kernel_rfl), M48, (Mv.down hF3_0 (by omega) hx31 hx29), hr41⟩
     · omega
    ·
     have h28 := (ORow.up hF3_1 u24)
     obtain ⟨x29, hx29⟩ : ∃ x, I3[kl]? = some x := ⟨_, List.getElem?_eq_getElem (by omega)⟩
     obtain ⟨cu30, dA30, dn30, dc30, hb30, he30, hD30⟩ := ORow.elem h28 (map_get' hx29)
     refine sv rfl (v := opV (f x29) (.slice dA30 dn30 dc30)) (r_loads (k := kl * 10) (vs := (opC (f x29) (.slice dA30 dn30 dc30))) (by kernel_rfl) Ty.ag49 Ty.sz49 hb30 (el_sub0 he30 rfl)) ?_
     refine hx (Y := [g]) (Mod.refl _ _) (fun y hy => .inl hy) ?_
     obtain ⟨x31, hx31⟩ : ∃ x, I3[kl - 1]? = some x := ⟨_, List.getElem?_eq_getElem (by omega)⟩
     obtain ⟨cu32, dA32, dn32, dc32, hb32, he32, hD32⟩ := ORow.elem h28 (map_get' hx31)
     refine h1 (i := 9) (fuel := 4) (by kernel_rfl) rfl (sv rfl (v := opV (f x31) (.slice dA32 dn32 dc32)) (r_loads (k := (kl - 1) * 10) (vs := (opC (f x31) (.slice dA32 dn32 dc32))) (by kernel_rfl) Ty.ag49 Ty.sz49 hb32 (el_sub0 he32 rfl)) ?_)
     refine hx (Y := [g]) (Mod.refl _ _) (fun y hy => .inl hy) ?_
     refine hvq (i := 14) (fuel := 3) rfl (fun _ _ _ h => h) (Mod.refl _ _) rfl (v := .pointer (some ⟨g, kl * 10, none⟩)) (fun _ _ => r_ixaddr' (A := some ⟨g, 0, none⟩) (b := g) (o := 0) (n := nn) (c := c) (sz := 10) (j := (kl : Int)) (m := kl * 10) (by kernel_rfl) rfl (by kernel_rfl) Ty.un22 Ty.sz49 (by omega) (by omega) (by omega)) ?_
     obtain ⟨cu33, hb33, hk33, hp33⟩ := ORow.put (i := kl) h28 (by simp; omega) hD32 (by decide) hBb
     refine h1 (i := 15) (fuel := 2) (by kernel_rfl) rfl (ss rfl (k := kl * 10) (v := opV (f x31) (.slice dA32 dn32 dc32)) (vs := (opC (f x31) (.slice dA32 dn32 dc32))) (cs' := _) (by kernel_rfl) (by kernel_rfl) rfl Ty.sz49 hb33 rfl hk33 rfl ?_)
     intro w34 h35 c36
     have hr33 := hp33 _ h35 c36
     rw [map_set'] at hr33
     have M37 := Mod.trans M25 (Mod.of_chg c36 (by simp))
     have M38 := Mod.trans M26 (Mod.of_chg c36 (by simp))
     have M39 := Mod.trans M27 (Mod.of_chg c36 (by simp))
     obtain ⟨_, _, _, cg40, hg40, _⟩ := ORow.blk hr33
     refine hx (Y := [g]) (Mod.of_chg c36 (by simp)) (fun y hy => .inl hy) ?_
     refine hvq (i := 16) (fuel := 1) rfl (fun _ _ _ h => h) (Mod.refl _ _) rfl (v := .pointer (some ⟨g, (kl - 1) * 10, none⟩)) (fun _ _ => r_ixaddr' (A := some ⟨g, 0, none⟩) (b := g) (o := 0) (n := nn) (c := c) (sz := 10) (j := ((kl - 1 : Nat) : Int)) (m := (kl - 1) * 10) (by kernel_rfl) rfl (by kernel_rfl) Ty.un22 Ty.sz49 (by omega) (by omega) (by omega)) ?_
     have h42 := (Dat.chg hD30 c36 ⟨hBg, NotU8.of hb33 (by decide)⟩)
     obtain ⟨cu41, hb41, hk41, hp41⟩ := ORow.put (i := kl - 1) hr33 (by simp; omega) h42 (by decide) hBb
     refine h1 (i := 17) (fuel := 0) (by kernel_rfl) rfl (ss rfl (k := (kl - 1) * 10) (v := opV (f x29) (.slice dA30 dn30 dc30)) (vs := (opC (f x29) (.slice dA30 dn30 dc30))) (cs' := _) (by kernel_rfl) (by kernel_rfl) rfl Ty.sz49 hb41 rfl hk41 rfl ?_)
     intro w43 h44 c45
     have hr41 := hp41 _ h44 c45
     rw [map_set'] at hr41
     have M46 := Mod.trans M37 (Mod.of_chg c45 (by simp))
     have M47 := Mod.trans M38 (Mod.of_chg c45 (by simp))
     have M48 := Mod.trans M39 (Mod.of_chg c45 (by simp))
     obtain ⟨_, _, _, cg49, hg49, _⟩ := ORow.blk hr41
     refine hx (Y := [g]) (Mod.of_chg c45 (by simp)) (fun y hy => .inl hy) ?_
     refine hend (by kernel_rfl) ?_
     refine inb_n (then_n (rg_lit ?_))
     refine wmv (v := .int .i64 (kl : Int)) ?_
     refine wl (sv rfl (v := .int .i64 ((kl - 1 : Nat) : Int)) (r_sub (k := .i64) (m := (kl : Int)) (n := 1) (c := ((kl - 1 : Nat) : Int)) (by kernel_rfl) (by kernel_rfl) ((IntWalk.i64_in _ (by omega)).trans (by omega))) ?_)
     refine was (v := .int .i64 ((kl - 1 : Nat) : Int)) ?_
     refine wnil (then_n ?_)
     refine ⟨(kl - 1) + 1, ?_, ((I3.set kl x31).set (kl - 1) x29), (kl - 1), .int .i64 (kl : Int), .int .i64 (il : Int), .bool b19, .int .i64 (kl : Int), .int .i64 ((kl - 1 : Nat) : Int), .slice (some ⟨g, 0, none⟩) nn c, .int .i64 (kl : Int), .slice (some ⟨g, 0, none⟩) nn c, .int .i64 (kl : Int), .int .i64 ((kl - 1 : Nat) : Int), .slice (some ⟨g, 0, none⟩) nn c, .int .i64 (kl : Int), .int .i64 ((kl - 1 : Nat) : Int), .pointer (some ⟨g, (kl - 1) * 10, none⟩), opV (f x31) (.slice dA32 dn32 dc32), .slice (some ⟨g, 0, none⟩) nn c, .int .i64 (kl : Int), .pointer (some ⟨g, kl * 10, none⟩), opV (f x29) (.slice dA30 dn30 dc30), .pointer (some ⟨g, kl * 10, none⟩), .pointer (some ⟨g, (kl - 1) * 10, none⟩), rfl, (by kernel_rfl), M48, (Mv.down hF3_0 (by omega) hx29 hx31), hr41⟩
     · omega
   have p13 := of_decide_eq_true (k11.trans v12)
   have q14 : il < jl := by omega
   have q15 : il < jl := by omega
   refine wp_cond_true (ebool (b := b10) (by kernel_rfl) v12) ?_
   refine wp_skip (then_n (wp_block (wp_seq (rg_lit ?_))))
   refine wmv (v := .int .i64 (il : Int)) ?_
   refine wmv (v := .int .i64 (jl : Int)) ?_
   refine wl (sv rfl (v := .int .i64 ((il + jl : Nat) : Int)) (r_add (k := .i64) (m := (il : Int)) (n := (jl : Int)) (c := ((il + jl : Nat) : Int)) (by kernel_rfl) (by kernel_rfl) ((IntWalk.i64_in _ (by omega)).trans (by omega))) ?_)
   refine wl (sv rfl (v := .int .u64 ((il + jl : Nat) : Int)) (r_toUn (m := (il + jl)) (by kernel_rfl) (by omega)) ?_)
   refine wl (sv rfl (v := .int .u64 (((il + jl) / 2 : Nat) : Int)) (r_halfn (m := (il + jl)) (by kernel_rfl) (by kernel_rfl)) ?_)
   refine wl (sv rfl (v := .int .i64 (((il + jl) / 2 : Nat) : Int)) (r_toIn (m := ((il + jl) / 2)) (by kernel_rfl) (by omega)) ?_)
   refine was (v := .int .i64 (((il + jl) / 2 : Nat) : Int)) ?_
   refine wnil (then_n (wp_seq ?_))
   refine rg_tail 9 (by kernel_rfl) (by kernel_rfl) rfl rfl ?_
   refine qmv (v := .func (.func 115) #[] #[]) ?_
   refine qmv (v := .slice (some ⟨g, 0, none⟩) nn c) ?_
   refine qmv (v := .int .i64 (m : Int)) ?_
   refine qv rfl (v := .pointer (some ⟨g, m * 10, none⟩)) (fun _ _ => r_ixaddr' (A := some ⟨g, 0, none⟩) (b := g) (o := 0) (n := nn) (c := c) (sz := 10) (j := (m : Int)) (m := m * 10) (by kernel_rfl) rfl (by kernel_rfl) Ty.un22 Ty.sz49 (by omega) (by omega) (by omega)) ?_
   have h16 := (ORow.up h (Mod.up hM2))
   obtain ⟨x17, hx17⟩ : ∃ x, (pre ++ (A ++ (Bb ++ post)))[m]? = some x := ⟨_, List.getElem?_eq_getElem (by omega)⟩
   obtain ⟨cu18, dA18, dn18, dc18, hb18, he18, hD18⟩ := ORow.elem h16 (map_get' hx17)
   refine qv rfl (v := opV (f x17) (.slice dA18 dn18 dc18)) (fun _ uz => r_loads (k := m * 10) (vs := (opC (f x17) (.slice dA18 dn18 dc18))) (by kernel_rfl) Ty.ag49 Ty.sz49 (up_ob uz hb18) (el_sub0 he18 rfl)) ?_
   refine qmv (v := .slice (some ⟨g, 0, none⟩) nn c) ?_
   refine qmv (v := .int .i64 (((il + jl) / 2 : Nat) : Int)) ?_
   refine qv rfl (v := .pointer (some ⟨g, ((il + jl) / 2) * 10, none⟩)) (fun _ _ => r_ixaddr' (A := some ⟨g, 0, none⟩) (b := g) (o := 0) (n := nn) (c := c) (sz := 10) (j := (((il + jl) / 2 : Nat) : Int)) (m := ((il + jl) / 2) * 10) (by kernel_rfl) rfl (by kernel_rfl) Ty.un22 Ty.sz49 (by omega) (by omega) (by omega)) ?_
   obtain ⟨x19, hx19⟩ : ∃ x, (pre ++ (A ++ (Bb ++ post)))[(il + jl) / 2]? = some x := ⟨_, List.getElem?_eq_getElem (by omega)⟩
   obtain ⟨cu20, dA20, dn20, dc20, hb20, he20, hD20⟩ := ORow.elem h16 (map_get' hx19)
   refine qv rfl (v := opV (f x19) (.slice dA20 dn20 dc20)) (fun _ uz => r_loads (k := ((il + jl) / 2) * 10) (vs := (opC (f x19) (.slice dA20 dn20 dc20))) (by kernel_rfl) Ty.ag49 Ty.sz49 (up_ob uz hb20) (el_sub0 he20 rfl)) ?_
   refine qnil ?_
   intro w21 u22
   have M23 := Mod.trans M9 (Mod.of_up u22)
   have M24 := Mod.trans hM2 (Mod.of_up u22)
   refine wl (sc rfl (r_callv (caps := []) (all := [opV (f x17) (.slice dA18 dn18 dc18), opV (f x19) (.slice dA20 dn20 dc20)]) En.f115 (by kernel_rfl) (by kernel_rfl)) (opcompare_at (f x17) (f x19) dA18 dA20 dn18 dc18 dn20 dc20) ?_)
   rintro e w25 ⟨rfl, u26⟩
   refine ⟨.int .i64 (cmpS (f x17).at_ (f x19).at_), rfl, ?_⟩
   have M27 := Mod.trans M23 (Mod.of_up u26)
   have M28 := Mod.trans M24 (Mod.of_up u26)
   refine wl (sb rfl (r_lt (k := .i64) (m := (cmpS (f x17).at_ (f x19).at_)) (n := 0) (by kernel_rfl) (by kernel_rfl)) ?_)
   intro b29 k30
   refine wl (sv rfl (v := .bool (!b29)) (r_not (b := b29) (by kernel_rfl)) ?_)
   refine wnil (then_n ?_)
   refine bcase b29 (fun v31 => ?_) (fun v31 => ?_)
   ·
    have p32 := of_decide_eq_false (k30.trans v31)
    refine wp_cond_true (ebool (b := !b29) (by kernel_rfl) (bneg v31)) ?_
    refine rg_lit ?_
    refine wmv (v := .int .i64 (((il + jl) / 2 : Nat) : Int)) ?_
    refine wl (sv rfl (v := .int .i64 (((il + jl) / 2 + 1 : Nat) : Int)) (r_add (k := .i64) (m := (((il + jl) / 2 : Nat) : Int)) (n := 1) (c := (((il + jl) / 2 + 1 : Nat) : Int)) (by kernel_rfl) (by kernel_rfl) ((IntWalk.i64_in _ (by omega)).trans (by omega))) ?_)
    refine was (v := .int .i64 (((il + jl) / 2 + 1 : Nat) : Int)) ?_
    refine wnil (inb_n (then_n ?_))
    refine ⟨jl - ((il + jl) / 2 + 1), ?_, ((il + jl) / 2 + 1), jl, .int .i64 (((il + jl) / 2 : Nat) : Int), .int .i64 (il : Int), .int .i64 (jl : Int), .bool b10, .int .i64 (il : Int), .int .i64 (jl : Int), .int .i64 ((il + jl : Nat) : Int), .int .u64 ((il + jl : Nat) : Int), .int .u64 (((il + jl) / 2 : Nat) : Int), .int .i64 (((il + jl) / 2 : Nat) : Int), .func (.func 115) #[] #[], .slice (some ⟨g, 0, none⟩) nn c, .int .i64 (m : Int), .pointer (some ⟨g, m * 10, none⟩), opV (f x17) (.slice dA18 dn18 dc18), .slice (some ⟨g, 0, none⟩) nn c, .int .i64 (((il + jl) / 2 : Nat) : Int), .pointer (some ⟨g, ((il + jl) / 2) * 10, none⟩), opV (f x19) (.slice dA20 dn20 dc20), .int .i64 (cmpS (f x17).at_ (f x19).at_), .bool b29, .bool (!b29), .int .i64 (((il + jl) / 2 : Nat) : Int), .int .i64 (((il + jl) / 2 + 1 : Nat) : Int), z106, rfl, (by kernel_rfl), M28, (F2.yes hF2_0 (by omega) (by omega) hx19 (by rw [same_el hy0 hx17]; exact cmpS_no p32))⟩
    · omega
   have p32 := of_decide_eq_true (k30.trans v31)
   refine wp_cond_false (ebool (b := !b29) (by kernel_rfl) (bneg v31)) ?_
   refine rg_lit ?_
   refine wmv (v := .int .i64 (((il + jl) / 2 : Nat) : Int)) ?_
   refine was (v := .int .i64 (((il + jl) / 2 : Nat) : Int)) ?_
   refine wnil (inb_n (then_n ?_))
   refine ⟨((il + jl) / 2) - il, ?_, il, ((il + jl) / 2), .int .i64 (((il + jl) / 2 : Nat) : Int), .int .i64 (il : Int), .int .i64 (jl : Int), .bool b10, .int .i64 (il : Int), .int .i64 (jl : Int), .int .i64 ((il + jl : Nat) : Int), .int .u64 ((il + jl : Nat) : Int), .int .u64 (((il + jl) / 2 : Nat) : Int), .int .i64 (((il + jl) / 2 : Nat) : Int), .func (.func 115) #[] #[], .slice (some ⟨g, 0, none⟩) nn c, .int .i64 (m : Int), .pointer (some ⟨g, m * 10, none⟩), opV (f x17) (.slice dA18 dn18 dc18), .slice (some ⟨g, 0, none⟩) nn c, .int .i64 (((il + jl) / 2 : Nat) : Int), .pointer (some ⟨g, ((il + jl) / 2) * 10, none⟩), opV (f x19) (.slice dA20 dn20 dc20), .int .i64 (cmpS (f x17).at_ (f x19).at_), .bool b29, .bool (!b29), z104, z105, .int .i64 (((il + jl) / 2 : Nat) : Int), rfl, (by kernel_rfl), M28, (F2.no hF2_0 (by omega) (by omega) hx19 (by rw [same_el hy0 hx17]; exact cmpS_yes p32))⟩
   · omega
  have p4 := of_decide_eq_true (k2.trans v3)
  refine wp_cond_true (ebool (b := b1) (by kernel_rfl) v3) ?_
  refine wp_seq (rg_lit ?_)
  refine wmv (v := .int .i64 (m : Int)) ?_
  refine was (v := .int .i64 (m : Int)) ?_
  refine wnil (then_n (wp_seq (rg_lit ?_)))
  refine wmv (v := .int .i64 (ib : Int)) ?_
  refine was (v := .int .i64 (ib : Int)) ?_
  refine wnil (then_n (wp_seq (wp_block ?_)))
  obtain ⟨x0, hA1⟩ : ∃ x, A = [x] := List.length_eq_one_iff.1 (by omega)
  have hx0 : (pre ++ (A ++ (Bb ++ post)))[ia]? = some x0 := by rw [hA1, ← ha]; simp
  refine lp (fun n a r4 => ∃ (ii : Nat) (jj : Nat) (z12 z31 z32 z33 z34 z35 z36 z37 z38 z39 z40 z41 z42 z43 z44 z45 z46 z47 z48 z49 z50 z51 z52 z53 : Value), (n = jj - ii) ∧ (a = ⟨#[.slice (some ⟨g, 0, none⟩) nn c, .int .i64 (ia : Int), .int .i64 (m : Int), .int .i64 (ib : Int), .func (.func 115) #[] #[], undef, undef, undef, undef, undef, .int .i64 (ii : Int), .int .i64 (jj : Int), z12, undef, undef, undef, undef, undef, undef, undef, undef, undef, undef, undef, undef, .int .i64 (m : Int), .int .i64 (ia : Int), .int .i64 ((m - ia : Nat) : Int), .bool b1, .int .i64 (m : Int), .int .i64 (ib : Int), z31, z32, z33, z34, z35, z36, z37, z38, z39, z40, z41, z42, z43, z44, z45, z46, z47, z48, z49, z50, z51, z52, z53, undef, undef, undef, undef, undef, undef, undef, undef, undef, undef, undef, undef, undef, undef, undef, undef, undef, undef, undef, undef, undef, undef, undef, undef, undef, undef, undef, undef, undef, undef, undef, undef, undef, undef, undef, undef, undef, undef, undef, undef, undef, undef, undef, undef, undef, undef, undef, undef, undef, undef, undef, undef, undef, undef, undef, undef, undef, undef, undef, undef, undef, undef, undef, undef, undef, undef, undef, undef, undef, undef, undef, undef, undef, undef, undef, undef, undef, undef, undef, undef, undef, undef, undef, undef, undef, undef, undef, undef, undef, undef, undef, undef, undef, undef, undef, undef, undef, undef, undef, undef, undef, undef, undef, undef, undef, undef, undef, undef, undef, undef, undef, undef, undef, undef, undef, undef, undef, undef, undef, undef, undef, undef, undef, undef, undef, undef, undef, undef, undef, undef, undef, undef, undef, undef, undef, undef, undef, undef, undef, undef, undef, undef, undef, undef, undef, undef, undef, undef, undef, undef, undef, undef, undef, undef, undef, undef, undef, undef, undef, undef, undef, undef, undef, undef, undef, undef], []⟩) ∧ (Mod [] w r4) ∧ (F1 f (pre ++ (A ++ (Bb ++ post))) x0 m ib ii jj)) ⟨_, m, ib, undef, undef, undef, undef, undef, undef, undef, undef, undef, undef, undef, undef, undef, undef, undef, undef, undef, undef, undef, undef, undef, undef, undef, undef, rfl, (by kernel_rfl), Mod.refl _ _, (F1.first _ _ _ _ _ (by omega))⟩ ?_
  rintro _ _ r4 ⟨ii, jj, z12, z31, z32, z33, z34, z35, z36, z37, z38, z39, z40, z41, z42, z43, z44, z45, z46, z47, z48, z49, z50, z51, z52, z53, rfl, rfl, hM4, hF4_0⟩
  have M5 := Mod.thin (Mod.refl [] w) hM4 (by simp)
  have hz1 := hF4_0.1
  have hz2 := hF4_0.2.1
  have hz3 := hF4_0.2.2.1
  refine wp_seq (wp_seq (rg_lit ?_))
  refine wmv (v := .int .i64 (ii : Int)) ?_
  refine wmv (v := .int .i64 (jj : Int)) ?_
  refine wl (sb rfl (r_lt (k := .i64) (m := (ii : Int)) (n := (jj : Int)) (by kernel_rfl) (by kernel_rfl)) ?_)
  intro b6 k7
  refine wnil (then_n ?_)
  refine bcase b6 (fun v8 => ?_) (fun v8 => ?_)
  ·
   have p9 := of_decide_eq_false (k7.trans v8)
   refine wp_cond_false (ebool (b := b6) (by kernel_rfl) v8) ?_
   refine wp_exit (then_x (by nofun) (then_x (by nofun) (inb_hit (then_n (wp_seq (wp_seq (rg_lit ?_)))))))
   refine wmv (v := .int .i64 (ia : Int)) ?_
   refine was (v := .int .i64 (ia : Int)) ?_
   refine wnil (then_n (wp_block ?_))
   have h10 := md_ob M5 nin0 hg
   have h11 := (ORow.up h (Mod.up hM4))
   have hq1 : F1 f (pre ++ (x0 :: (Bb ++ post))) x0 m ib ii ii := by have h0 := hF4_0; rw [show jj = ii by omega, hA1] at h0; exact h0
   obtain ⟨Ba, Bc, hBB, hBl, hMg⟩ := F1.fin hq1 (by omega) (by omega) hBs (by rw [← hA1]; exact hAB)
   have hIe : (pre ++ (A ++ (Bb ++ post))) = pre ++ (x0 :: (Ba ++ (Bc ++ post))) := by rw [hA1, hBB]; simp
   refine lp (fun n a r5 => ∃ (I2 : List Nat) (kk : Nat) (z55 z56 z57 z58 z59 z60 z61 z62 z63 z64 z65 z66 z67 z68 z69 z70 z71 z72 z73 z74 z75 z76 : Value), (n = ib - kk) ∧ (a = ⟨#[.slice (some ⟨g, 0, none⟩) nn c, .int .i64 (ia : Int), .int .i64 (m : Int), .int .i64 (ib : Int), .func (.func 115) #[] #[], undef, undef, undef, undef, undef, .int .i64 (ii : Int), .int .i64 (jj : Int), z12, .int .i64 (kk : Int), undef, undef, undef, undef, undef, undef, undef, undef, undef, undef, undef, .int .i64 (m : Int), .int .i64 (ia : Int), .int .i64 ((m - ia : Nat) : Int), .bool b1, .int .i64 (m : Int), .int .i64 (ib : Int), .int .i64 (ii : Int), .int .i64 (jj : Int), .bool b6, z34, z35, z36, z37, z38, z39, z40, z41, z42, z43, z44, z45, z46, z47, z48, z49, z50, z51, z52, z53, .int .i64 (ia : Int), z55, z56, z57, z58, z59, z60, z61, z62, z63, z64, z65, z66, z67, z68, z69, z70, z71, z72, z73, z74, z75, z76, undef, undef, undef, undef, undef, undef, undef, undef, undef, undef, undef, undef, undef, undef, undef, undef, undef, undef, undef, undef, undef, undef, undef, undef, undef, undef, undef, undef, undef, undef, undef, undef, undef, undef, undef, undef, undef, undef, undef, undef, undef, undef, undef, undef, undef, undef, undef, undef, undef, undef, undef, undef, undef, undef, undef, undef, undef, undef, undef, undef, undef, undef, undef, undef, undef, undef, undef, undef, undef, undef, undef, undef, undef, undef, undef, undef, undef, undef, undef, undef, undef, undef, undef, undef, undef, undef, undef, undef, undef, undef, undef, undef, undef, undef, undef, undef, undef, undef, undef, undef, undef, undef, undef, undef, undef, undef, undef, undef, undef, undef, undef, undef, undef, undef, undef, undef, undef, undef, undef, undef, undef, undef, undef, undef, undef, undef, undef, undef, undef, undef, undef, undef, undef, undef, undef, undef, undef, undef, undef, undef, undef, undef, undef], []⟩) ∧ (Mod [g] r4 r5) ∧ (Mv pre Ba (Bc ++ post) x0 I2 kk) ∧ (ORow 49 B base r5 (.slice (some ⟨g, 0, none⟩) nn c) (I2.map f))) ⟨_, (pre ++ (A ++ (Bb ++ post))), ia, undef, undef, undef, undef, undef, undef, undef, undef, undef, undef, undef, undef, undef, undef, undef, undef, undef, undef, undef, undef, undef, undef, rfl, (by kernel_rfl), Mod.refl _ _, (by rw [hIe, ← ha]; exact Mv.left _ _ _ _), h11⟩ ?_
   rintro _ _ r5 ⟨I2, kk, z55, z56, z57, z58, z59, z60, z61, z62, z63, z64, z65, z66, z67, z68, z69, z70, z71, z72, z73, z74, z75, z76, rfl, rfl, hM5, hF5_0, hF5_1⟩
   have M12 := Mod.trans (Mod.of_mod (Y := [g]) M5 (by simp)) (Mod.of_mod (Y := [g]) hM5 (by simp))
   have M13 := Mod.trans (Mod.of_mod (Y := [g]) hM4 (by simp)) (Mod.of_mod (Y := [g]) hM5 (by simp))
   obtain ⟨hlM, hlm, hln⟩ := Mv.len hF5_0
   have hB2 : Ba.length + Bc.length = Bb.length := by rw [hBB]; simp
   simp only [List.length_append] at hlM
   obtain ⟨_, _, _, cg14, hg14, _⟩ := ORow.blk hF5_1
   refine wp_seq (wp_seq (rg_lit ?_))
   refine wmv (v := .int .i64 (kk : Int)) ?_
   refine wmv (v := .int .i64 (ii : Int)) ?_
   refine wl (sv rfl (v := .int .i64 ((ii - 1 : Nat) : Int)) (r_sub (k := .i64) (m := (ii : Int)) (n := 1) (c := ((ii - 1 : Nat) : Int)) (by kernel_rfl) (by kernel_rfl) ((IntWalk.i64_in _ (by omega)).trans (by omega))) ?_)
   refine wl (sb rfl (r_lt (k := .i64) (m := (kk : Int)) (n := ((ii - 1 : Nat) : Int)) (by kernel_rfl) (by kernel_rfl)) ?_)
   intro b15 k16
   refine wnil (then_n ?_)
   refine bcase b15 (fun v17 => ?_) (fun v17 => ?_)
   ·
    have p18 := of_decide_eq_false (k16.trans v17)
    refine wp_cond_false (ebool (b := b15) (by kernel_rfl) v17) ?_
    refine wp_exit (then_x (by nofun) (then_x (by nofun) (inb_hit (then_n (wp_ret (then_x (by nofun) ?_))))))
    refine bodyPost_ret (v := .tuple #[]) (res0 rfl ) (by kernel_rfl) ?_
    exact ⟨Ba ++ x0 :: Bc, rfl, ORow.to hF5_1 (by rw [Mv.atRight hF5_0 (by omega)]; simp), by rw [hA1]; exact hMg, (Mod.chg M12)⟩
   have p18 := of_decide_eq_true (k16.trans v17)
   refine wp_cond_true (ebool (b := b15) (by kernel_rfl) v17) ?_
   refine wp_skip (then_n (wp_seq (wp_block ?_)))
   refine rg_held [g] (n := 18) (by kernel_rfl) rfl ?_
   intro w19 u20
   have M21 := Mod.trans M12 (Mod.of_up u20)
   have M22 := Mod.trans M13 (Mod.of_up u20)
   have M23 := Mod.trans hM5 (Mod.of_up u20)
   refine hvq (i := 0) (fuel := 17) rfl (fun _ _ _ h => h) (Mod.refl _ _) rfl (v := .slice (some ⟨g, 0, none⟩) nn c) (fun _ _ => r_move (by kernel_rfl)) ?_
   refine hvq (i := 1) (fuel := 16) rfl (fun _ _ _ h => h) (Mod.refl _ _) rfl (v := .int .i64 (kk : Int)) (fun _ _ => r_move (by kernel_rfl)) ?_
   refine hvq (i := 2) (fuel := 15) rfl (fun _ _ _ h => h) (Mod.refl _ _) rfl (v := .slice (some ⟨g, 0, none⟩) nn c) (fun _ _ => r_move (by kernel_rfl)) ?_
   refine hvq (i := 3) (fuel := 14) rfl (fun _ _ _ h => h) (Mod.refl _ _) rfl (v := .int .i64 (kk : Int)) (fun _ _ => r_move (by kernel_rfl)) ?_
   refine hvq (i := 4) (fuel := 13) rfl (fun _ _ _ h => h) (Mod.refl _ _) rfl (v := .int .i64 ((kk + 1 : Nat) : Int)) (fun _ _ => r_add (k := .i64) (m := (kk : Int)) (n := 1) (c := ((kk + 1 : Nat) : Int)) (by kernel_rfl) (by kernel_rfl) ((IntWalk.i64_in _ (by omega)).trans (by omega))) ?_
   refine hvq (i := 5) (fuel := 12) rfl (fun _ _ _ h => h) (Mod.refl _ _) rfl (v := .slice (some ⟨g, 0, none⟩) nn c) (fun _ _ => r_move (by kernel_rfl)) ?_
   refine hvq (i := 6) (fuel := 11) rfl (fun _ _ _ h => h) (Mod.refl _ _) rfl (v := .int .i64 (kk : Int)) (fun _ _ => r_move (by kernel_rfl)) ?_
   refine hvq (i := 7) (fuel := 10) rfl (fun _ _ _ h => h) (Mod.refl _ _) rfl (v := .int .i64 ((kk + 1 : Nat) : Int)) (fun _ _ => r_add (k := .i64) (m := (kk : Int)) (n := 1) (c := ((kk + 1 : Nat) : Int)) (by kernel_rfl) (by kernel_rfl) ((IntWalk.i64_in _ (by omega)).trans (by omega))) ?_
   refine hvq (i := 8) (fuel := 9) rfl (fun _ _ _ h => h) (Mod.refl _ _) rfl (v := .pointer (some ⟨g, (kk + 1) * 10, none⟩)) (fun _ _ => r_ixaddr' (A := some ⟨g, 0, none⟩) (b := g) (o := 0) (n := nn) (c := c) (sz := 10) (j := ((kk + 1 : Nat) : Int)) (m := (kk + 1) * 10) (by kernel_rfl) rfl (by kernel_rfl) Ty.un22 Ty.sz49 (by omega) (by omega) (by omega)) ?_
   refine hvq (i := 10) (fuel := 8) rfl (fun _ _ _ h => h) (Mod.refl _ _) rfl (v := .slice (some ⟨g, 0, none⟩) nn c) (fun _ _ => r_move (by kernel_rfl)) ?_
   refine hvq (i := 11) (fuel := 7) rfl (fun _ _ _ h => h) (Mod.refl _ _) rfl (v := .int .i64 (kk : Int)) (fun _ _ => r_move (by kernel_rfl)) ?_
   refine hvq (i := 12) (fuel := 6) rfl (fun _ _ _ h => h) (Mod.refl _ _) rfl (v := .pointer (some ⟨g, kk * 10, none⟩)) (fun _ _ => r_ixaddr' (A := some ⟨g, 0, none⟩) (b := g) (o := 0) (n := nn) (c := c) (sz := 10) (j := (kk : Int)) (m := kk * 10) (by kernel_rfl) rfl (by kernel_rfl) Ty.un22 Ty.sz49 (by omega) (by omega) (by omega)) ?_
   refine h2 (i := 9) (j := 13) (fuel := 5) (by kernel_rfl) rfl rfl ?_ ?_
   ·
    have h24 := (ORow.up hF5_1 u20)
    obtain ⟨x25, hx25⟩ : ∃ x, I2[kk + 1]? = some x := ⟨_, List.getElem?_eq_getElem (by omega)⟩
    obtain ⟨cu26, dA26, dn26, dc26, hb26, he26, hD26⟩ := ORow.elem h24 (map_get' hx25)
    refine sv rfl (v := opV (f x25) (.slice dA26 dn26 dc26)) (r_loads (k := (kk + 1) * 10) (vs := (opC (f x25) (.slice dA26 dn26 dc26))) (by kernel_rfl) Ty.ag49 Ty.sz49 hb26 (el_sub0 he26 rfl)) ?_
    refine hx (Y := [g]) (Mod.refl _ _) (fun y hy => .inl hy) ?_
    obtain ⟨x27, hx27⟩ : ∃ x, I2[kk]? = some x := ⟨_, List.getElem?_eq_getElem (by omega)⟩
    obtain ⟨cu28, dA28, dn28, dc28, hb28, he28, hD28⟩ := ORow.elem h24 (map_get' hx27)
    refine h1 (i := 13) (fuel := 4) (by kernel_rfl) rfl (sv rfl (v := opV (f x27) (.slice dA28 dn28 dc28)) (r_loads (k := kk * 10) (vs := (opC (f x27) (.slice dA28 dn28 dc28))) (by kernel_rfl) Ty.ag49 Ty.sz49 hb28 (el_sub0 he28 rfl)) ?_)
    refine hx (Y := [g]) (Mod.refl _ _) (fun y hy => .inl hy) ?_
    refine hvq (i := 14) (fuel := 3) rfl (fun _ _ _ h => h) (Mod.refl _ _) rfl (v := .pointer (some ⟨g, kk * 10, none⟩)) (fun _ _ => r_ixaddr' (A := some ⟨g, 0, none⟩) (b := g) (o := 0) (n := nn) (c := c) (sz := 10) (j := (kk : Int)) (m := kk * 10) (by kernel_rfl) rfl (by kernel_rfl) Ty.un22 Ty.sz49 (by omega) (by omega) (by omega)) ?_
    obtain ⟨cu29, hb29, hk29, hp29⟩ := ORow.put (i := kk) h24 (by simp; omega) hD26 (by decide) hBb
    refine h1 (i := 15) (fuel := 2) (by kernel_rfl) rfl (ss rfl (k := kk * 10) (v := opV (f x25) (.slice dA26 dn26 dc26)) (vs := (opC (f x25) (.slice dA26 dn26 dc26))) (cs' := _) (by kernel_rfl) (by kernel_rfl) rfl Ty.sz49 hb29 rfl hk29 rfl ?_)
    intro w30 h31 c32
    have hr29 := hp29 _ h31 c32
    rw [map_set'] at hr29
    have M33 := Mod.trans M21 (Mod.of_chg c32 (by simp))
    have M34 := Mod.trans M22 (Mod.of_chg c32 (by simp))
    have M35 := Mod.trans M23 (Mod.of_chg c32 (by simp))
    obtain ⟨_, _, _, cg36, hg36, _⟩ := ORow.blk hr29
    refine hx (Y := [g]) (Mod.of_chg c32 (by simp)) (fun y hy => .inl hy) ?_
    refine hvq (i := 16) (fuel := 1) rfl (fun _ _ _ h => h) (Mod.refl _ _) rfl (v := .pointer (some ⟨g, (kk + 1) * 10, none⟩)) (fun _ _ => r_ixaddr' (A := some ⟨g, 0, none⟩) (b := g) (o := 0) (n := nn) (c := c) (sz := 10) (j := ((kk + 1 : Nat) : Int)) (m := (kk + 1) * 10) (by kernel_rfl) rfl (by kernel_rfl) Ty.un22 Ty.sz49 (by omega) (by omega) (by omega)) ?_
    have h38 := (Dat.chg hD28 c32 ⟨hBg, NotU8.of hb29 (by decide)⟩)
    obtain ⟨cu37, hb37, hk37, hp37⟩ := ORow.put (i := kk + 1) hr29 (by simp; omega) h38 (by decide) hBb
    refine h1 (i := 17) (fuel := 0) (by kernel_rfl) rfl (ss rfl (k := (kk + 1) * 10) (v := opV (f x27) (.slice dA28 dn28 dc28)) (vs := (opC (f x27) (.slice dA28 dn28 dc28))) (cs' := _) (by kernel_rfl) (by kernel_rfl) rfl Ty.sz49 hb37 rfl hk37 rfl ?_)
    intro w39 h40 c41
    have hr37 := hp37 _ h40 c41
    rw [map_set'] at hr37
    have M42 := Mod.trans M33 (Mod.of_chg c41 (by simp))
    have M43 := Mod.trans M34 (Mod.of_chg c41 (by simp))
    have M44 := Mod.trans M35 (Mod.of_chg c41 (by simp))
    obtain ⟨_, _, _, cg45, hg45, _⟩ := ORow.blk hr37
    refine hx (Y := [g]) (Mod.of_chg c41 (by simp)) (fun y hy => .inl hy) ?_
    refine hend (by kernel_rfl) ?_
    refine inb_n (then_n (rg_lit ?_))
    refine wmv (v := .int .i64 (kk : Int)) ?_
    refine wl (sv rfl (v := .int .i64 ((kk + 1 : Nat) : Int)) (r_add (k := .i64) (m := (kk : Int)) (n := 1) (c := ((kk + 1 : Nat) : Int)) (by kernel_rfl) (by kernel_rfl) ((IntWalk.i64_in _ (by omega)).trans (by omega))) ?_)
    refine was (v := .int .i64 ((kk + 1 : Nat) : Int)) ?_
    refine wnil (then_n ?_)
    refine ⟨ib - (kk + 1), ?_, ((I2.set kk x25).set (kk + 1) x27), (kk + 1), .int .i64 (kk : Int), .int .i64 (ii : Int), .int .i64 ((ii - 1 : Nat) : Int), .bool b15, .int .i64 (kk : Int), .int .i64 ((kk + 1 : Nat) : Int), .slice (some ⟨g, 0, none⟩) nn c, .int .i64 (kk : Int), .slice (some ⟨g, 0, none⟩) nn c, .int .i64 (kk : Int), .int .i64 ((kk + 1 : Nat) : Int), .slice (some ⟨g, 0, none⟩) nn c, .int .i64 (kk : Int), .int .i64 ((kk + 1 : Nat) : Int), .pointer (some ⟨g, (kk + 1) * 10, none⟩), opV (f x25) (.slice dA26 dn26 dc26), .slice (some ⟨g, 0, none⟩) nn c, .int .i64 (kk : Int), .pointer (some ⟨g, kk * 10, none⟩), opV (f x27) (.slice dA28 dn28 dc28), .pointer (some ⟨g, kk * 10, none⟩), .pointer (some ⟨g, (kk + 1) * 10, none⟩), rfl, (by kernel_rfl), M44, (Mv.up hF5_0 (by omega) hx27 hx25), hr37⟩
    · omega
   ·
    have h24 := (ORow.up hF5_1 u20)
    obtain ⟨x25, hx25⟩ : ∃ x, I2[kk]? = some x := ⟨_, List.getElem?_eq_getElem (by omega)⟩
    obtain ⟨cu26, dA26, dn26, dc26, hb26, he26, hD26⟩ := ORow.elem h24 (map_get' hx25)
    refine sv rfl (v := opV (f x25) (.slice dA26 dn26 dc26)) (r_loads (k := kk * 10) (vs := (opC (f x25) (.slice dA26 dn26 dc26))) (by kernel_rfl) Ty.ag49 Ty.sz49 hb26 (el_sub0 he26 rfl)) ?_
    refine hx (Y := [g]) (Mod.refl _ _) (fun y hy => .inl hy) ?_
    obtain ⟨x27, hx27⟩ : ∃ x, I2[kk + 1]? = some x := ⟨_, List.getElem?_eq_getElem (by omega)⟩
    obtain ⟨cu28, dA28, dn28, dc28, hb28, he28, hD28⟩ := ORow.elem h24 (map_get' hx27)
    refine h1 (i := 9) (fuel := 4) (by kernel_rfl) rfl (sv rfl (v := opV (f x27) (.slice dA28 dn28 dc28)) (r_loads (k := (kk + 1) * 10) (vs := (opC (f x27) (.slice dA28 dn28 dc28))) (by kernel_rfl) Ty.ag49 Ty.sz49 hb28 (el_sub0 he28 rfl)) ?_)
    refine hx (Y := [g]) (Mod.refl _ _) (fun y hy => .inl hy) ?_
    refine hvq (i := 14) (fuel := 3) rfl (fun _ _ _ h => h) (Mod.refl _ _) rfl (v := .pointer (some ⟨g, kk * 10, none⟩)) (fun _ _ => r_ixaddr' (A := some ⟨g, 0, none⟩) (b := g) (o := 0) (n := nn) (c := c) (sz := 10) (j := (kk : Int)) (m := kk * 10) (by kernel_rfl) rfl (by kernel_rfl) Ty.un22 Ty.sz49 (by omega) (by omega) (by omega)) ?_
    obtain ⟨cu29, hb29, hk29, hp29⟩ := ORow.put (i := kk) h24 (by simp; omega) hD28 (by decide) hBb
    refine h1 (i := 15) (fuel := 2) (by kernel_rfl) rfl (ss rfl (k := kk * 10) (v := opV (f x27) (.slice dA28 dn28 dc28)) (vs := (opC (f x27) (.slice dA28 dn28 dc28))) (cs' := _) (by kernel_rfl) (by kernel_rfl) rfl Ty.sz49 hb29 rfl hk29 rfl ?_)
    intro w30 h31 c32
    have hr29 := hp29 _ h31 c32
    rw [map_set'] at hr29
    have M33 := Mod.trans M21 (Mod.of_chg c32 (by simp))
    have M34 := Mod.trans M22 (Mod.of_chg c32 (by simp))
    have M35 := Mod.trans M23 (Mod.of_chg c32 (by simp))
    obtain ⟨_, _, _, cg36, hg36, _⟩ := ORow.blk hr29
    refine hx (Y := [g]) (Mod.of_chg c32 (by simp)) (fun y hy => .inl hy) ?_
    refine hvq (i := 16) (fuel := 1) rfl (fun _ _ _ h => h) (Mod.refl _ _) rfl (v := .pointer (some ⟨g, (kk + 1) * 10, none⟩)) (fun _ _ => r_ixaddr' (A := some ⟨g, 0, none⟩) (b := g) (o := 0) (n := nn) (c := c) (sz := 10) (j := ((kk + 1 : Nat) : Int)) (m := (kk + 1) * 10) (by kernel_rfl) rfl (by kernel_rfl) Ty.un22 Ty.sz49 (by omega) (by omega) (by omega)) ?_
    have h38 := (Dat.chg hD26 c32 ⟨hBg, NotU8.of hb29 (by decide)⟩)
    obtain ⟨cu37, hb37, hk37, hp37⟩ := ORow.put (i := kk + 1) hr29 (by simp; omega) h38 (by decide) hBb
    refine h1 (i := 17) (fuel := 0) (by kernel_rfl) rfl (ss rfl (k := (kk + 1) * 10) (v := opV (f x25) (.slice dA26 dn26 dc26)) (vs := (opC (f x25) (.slice dA26 dn26 dc26))) (cs' := _) (by kernel_rfl) (by kernel_rfl) rfl Ty.sz49 hb37 rfl hk37 rfl ?_)
    intro w39 h40 c41
    have hr37 := hp37 _ h40 c41
    rw [map_set'] at hr37
    have M42 := Mod.trans M33 (Mod.of_chg c41 (by simp))
    have M43 := Mod.trans M34 (Mod.of_chg c41 (by simp))
    have M44 := Mod.trans M35 (Mod.of_chg c41 (by simp))
    obtain ⟨_, _, _, cg45, hg45, _⟩ := ORow.blk hr37
    refine hx (Y := [g]) (Mod.of_chg c41 (by simp)) (fun y hy => .inl hy) ?_
    refine hend (by kernel_rfl) ?_
    refine inb_n (then_n (rg_lit ?_))
    refine wmv (v := .int .i64 (kk : Int)) ?_
    refine wl (sv rfl (v := .int .i64 ((kk + 1 : Nat) : Int)) (r_add (k := .i64) (m := (kk : Int)) (n := 1) (c := ((kk + 1 : Nat) : Int)) (by kernel_rfl) (by kernel_rfl) ((IntWalk.i64_in _ (by omega)).trans (by omega))) ?_)
    refine was (v := .int .i64 ((kk + 1 : Nat) : Int)) ?_
    refine wnil (then_n ?_)
    refine ⟨ib - (kk + 1), ?_, ((I2.set kk x27).set (kk + 1) x25), (kk + 1), .int .i64 (kk : Int), .int .i64 (ii : Int), .int .i64 ((ii - 1 : Nat) : Int), .bool b15, .int .i64 (kk : Int), .int .i64 ((kk + 1 : Nat) : Int), .slice (some ⟨g, 0, none⟩) nn c, .int .i64 (kk : Int), .slice (some ⟨g, 0, none⟩) nn c, .int .i64 (kk : Int), .int .i64 ((kk + 1 : Nat) : Int), .slice (some ⟨g, 0, none⟩) nn c, .int .i64 (kk : Int), .int .i64 ((kk + 1 : Nat) : Int), .pointer (some ⟨g, (kk + 1) * 10, none⟩), opV (f x27) (.slice dA28 dn28 dc28), .slice (some ⟨g, 0, none⟩) nn c, .int .i64 (kk : Int), .pointer (some ⟨g, kk * 10, none⟩), opV (f x25) (.slice dA26 dn26 dc26), .pointer (some ⟨g, kk * 10, none⟩), .pointer (some ⟨g, (kk + 1) * 10, none⟩), rfl, (by kernel_rfl), M44, (Mv.up hF5_0 (by omega) hx25 hx27), hr37⟩
    · omega
  have p9 := of_decide_eq_true (k7.trans v8)
  have q10 : ii < jj := by omega
  have q11 : ii < jj := by omega
  refine wp_cond_true (ebool (b := b6) (by kernel_rfl) v8) ?_
  refine wp_skip (then_n (wp_block (wp_seq (rg_lit ?_))))
  refine wmv (v := .int .i64 (ii : Int)) ?_
  refine wmv (v := .int .i64 (jj : Int)) ?_
  refine wl (sv rfl (v := .int .i64 ((ii + jj : Nat) : Int)) (r_add (k := .i64) (m := (ii : Int)) (n := (jj : Int)) (c := ((ii + jj : Nat) : Int)) (by kernel_rfl) (by kernel_rfl) ((IntWalk.i64_in _ (by omega)).trans (by omega))) ?_)
  refine wl (sv rfl (v := .int .u64 ((ii + jj : Nat) : Int)) (r_toUn (m := (ii + jj)) (by kernel_rfl) (by omega)) ?_)
  refine wl (sv rfl (v := .int .u64 (((ii + jj) / 2 : Nat) : Int)) (r_halfn (m := (ii + jj)) (by kernel_rfl) (by kernel_rfl)) ?_)
  refine wl (sv rfl (v := .int .i64 (((ii + jj) / 2 : Nat) : Int)) (r_toIn (m := ((ii + jj) / 2)) (by kernel_rfl) (by omega)) ?_)
  refine was (v := .int .i64 (((ii + jj) / 2 : Nat) : Int)) ?_
  refine wnil (then_n (wp_seq ?_))
  refine rg_tail 9 (by kernel_rfl) (by kernel_rfl) rfl rfl ?_
  refine qmv (v := .func (.func 115) #[] #[]) ?_
  refine qmv (v := .slice (some ⟨g, 0, none⟩) nn c) ?_
  refine qmv (v := .int .i64 (((ii + jj) / 2 : Nat) : Int)) ?_
  refine qv rfl (v := .pointer (some ⟨g, ((ii + jj) / 2) * 10, none⟩)) (fun _ _ => r_ixaddr' (A := some ⟨g, 0, none⟩) (b := g) (o := 0) (n := nn) (c := c) (sz := 10) (j := (((ii + jj) / 2 : Nat) : Int)) (m := ((ii + jj) / 2) * 10) (by kernel_rfl) rfl (by kernel_rfl) Ty.un22 Ty.sz49 (by omega) (by omega) (by omega)) ?_
  have h12 := (ORow.up h (Mod.up hM4))
  obtain ⟨x13, hx13⟩ : ∃ x, (pre ++ (A ++ (Bb ++ post)))[(ii + jj) / 2]? = some x := ⟨_, List.getElem?_eq_getElem (by omega)⟩
  obtain ⟨cu14, dA14, dn14, dc14, hb14, he14, hD14⟩ := ORow.elem h12 (map_get' hx13)
  refine qv rfl (v := opV (f x13) (.slice dA14 dn14 dc14)) (fun _ uz => r_loads (k := ((ii + jj) / 2) * 10) (vs := (opC (f x13) (.slice dA14 dn14 dc14))) (by kernel_rfl) Ty.ag49 Ty.sz49 (up_ob uz hb14) (el_sub0 he14 rfl)) ?_
  refine qmv (v := .slice (some ⟨g, 0, none⟩) nn c) ?_
  refine qmv (v := .int .i64 (ia : Int)) ?_
  refine qv rfl (v := .pointer (some ⟨g, ia * 10, none⟩)) (fun _ _ => r_ixaddr' (A := some ⟨g, 0, none⟩) (b := g) (o := 0) (n := nn) (c := c) (sz := 10) (j := (ia : Int)) (m := ia * 10) (by kernel_rfl) rfl (by kernel_rfl) Ty.un22 Ty.sz49 (by omega) (by omega) (by omega)) ?_
  obtain ⟨x15, hx15⟩ : ∃ x, (pre ++ (A ++ (Bb ++ post)))[ia]? = some x := ⟨_, List.getElem?_eq_getElem (by omega)⟩
  obtain ⟨cu16, dA16, dn16, dc16, hb16, he16, hD16⟩ := ORow.elem h12 (map_get' hx15)
  refine qv rfl (v := opV (f x15) (.slice dA16 dn16 dc16)) (fun _ uz => r_loads (k := ia * 10) (vs := (opC (f x15) (.slice dA16 dn16 dc16))) (by kernel_rfl) Ty.ag49 Ty.sz49 (up_ob uz hb16) (el_sub0 he16 rfl)) ?_
  refine qnil ?_
  intro w17 u18
  have M19 := Mod.trans M5 (Mod.of_up u18)
  have M20 := Mod.trans hM4 (Mod.of_up u18)
  refine wl (sc rfl (r_callv (caps := []) (all := [opV (f x13) (.slice dA14 dn14 dc14), opV (f x15) (.slice dA16 dn16 dc16)]) En.f115 (by kernel_rfl) (by kernel_rfl)) (opcompare_at (f x13) (f x15) dA14 dA16 dn14 dc14 dn16 dc16) ?_)
  rintro e w21 ⟨rfl, u22⟩
  refine ⟨.int .i64 (cmpS (f x13).at_ (f x15).at_), rfl, ?_⟩
  have M23 := Mod.trans M19 (Mod.of_up u22)
  have M24 := Mod.trans M20 (Mod.of_up u22)
  refine wl (sb rfl (r_lt (k := .i64) (m := (cmpS (f x13).at_ (f x15).at_)) (n := 0) (by kernel_rfl) (by kernel_rfl)) ?_)
  intro b25 k26
  refine wnil (then_n ?_)
  refine bcase b25 (fun v27 => ?_) (fun v27 => ?_)
  ·
   have p28 := of_decide_eq_false (k26.trans v27)
   refine wp_cond_false (ebool (b := b25) (by kernel_rfl) v27) ?_
   refine rg_lit ?_
   refine wmv (v := .int .i64 (((ii + jj) / 2 : Nat) : Int)) ?_
   refine was (v := .int .i64 (((ii + jj) / 2 : Nat) : Int)) ?_
   refine wnil (inb_n (then_n ?_))
   refine ⟨((ii + jj) / 2) - ii, ?_, ii, ((ii + jj) / 2), .int .i64 (((ii + jj) / 2 : Nat) : Int), .int .i64 (ii : Int), .int .i64 (jj : Int), .bool b6, .int .i64 (ii : Int), .int .i64 (jj : Int), .int .i64 ((ii + jj : Nat) : Int), .int .u64 ((ii + jj : Nat) : Int), .int .u64 (((ii + jj) / 2 : Nat) : Int), .int .i64 (((ii + jj) / 2 : Nat) : Int), .func (.func 115) #[] #[], .slice (some ⟨g, 0, none⟩) nn c, .int .i64 (((ii + jj) / 2 : Nat) : Int), .pointer (some ⟨g, ((ii + jj) / 2) * 10, none⟩), opV (f x13) (.slice dA14 dn14 dc14), .slice (some ⟨g, 0, none⟩) nn c, .int .i64 (ia : Int), .pointer (some ⟨g, ia * 10, none⟩), opV (f x15) (.slice dA16 dn16 dc16), .int .i64 (cmpS (f x13).at_ (f x15).at_), .bool b25, z51, z52, .int .i64 (((ii + jj) / 2 : Nat) : Int), rfl, (by kernel_rfl), M24, (F1.no hF4_0 (by omega) (by omega) hx13 (by rw [same_el hx0 hx15]; exact cmpS_no p28))⟩
   · omega
  have p28 := of_decide_eq_true (k26.trans v27)
  refine wp_cond_true (ebool (b := b25) (by kernel_rfl) v27) ?_
  refine rg_lit ?_
  refine wmv (v := .int .i64 (((ii + jj) / 2 : Nat) : Int)) ?_
  refine wl (sv rfl (v := .int .i64 (((ii + jj) / 2 + 1 : Nat) : Int)) (r_add (k := .i64) (m := (((ii + jj) / 2 : Nat) : Int)) (n := 1) (c := (((ii + jj) / 2 + 1 : Nat) : Int)) (by kernel_rfl) (by kernel_rfl) ((IntWalk.i64_in _ (by omega)).trans (by omega))) ?_)
  refine was (v := .int .i64 (((ii + jj) / 2 + 1 : Nat) : Int)) ?_
  refine wnil (inb_n (then_n ?_))
  refine ⟨jj - ((ii + jj) / 2 + 1), ?_, ((ii + jj) / 2 + 1), jj, .int .i64 (((ii + jj) / 2 : Nat) : Int), .int .i64 (ii : Int), .int .i64 (jj : Int), .bool b6, .int .i64 (ii : Int), .int .i64 (jj : Int), .int .i64 ((ii + jj : Nat) : Int), .int .u64 ((ii + jj : Nat) : Int), .int .u64 (((ii + jj) / 2 : Nat) : Int), .int .i64 (((ii + jj) / 2 : Nat) : Int), .func (.func 115) #[] #[], .slice (some ⟨g, 0, none⟩) nn c, .int .i64 (((ii + jj) / 2 : Nat) : Int), .pointer (some ⟨g, ((ii + jj) / 2) * 10, none⟩), opV (f x13) (.slice dA14 dn14 dc14), .slice (some ⟨g, 0, none⟩) nn c, .int .i64 (ia : Int), .pointer (some ⟨g, ia * 10, none⟩), opV (f x15) (.slice dA16 dn16 dc16), .int .i64 (cmpS (f x13).at_ (f x15).at_), .bool b25, .int .i64 (((ii + jj) / 2 : Nat) : Int), .int .i64 (((ii + jj) / 2 + 1 : Nat) : Int), z53, rfl, (by kernel_rfl), M24, (F1.yes hF4_0 (by omega) (by omega) hx13 (by rw [same_el hx0 hx15]; exact cmpS_yes p28))⟩
  · omega
theorem sym_all (N : Nat) : SymOK N := by
  induction N with
  | zero => intro B base w g nn c f pre A Bb post ia m ib hN _ _ _ _ _ _ hA0 _ _ _ _; omega
  | succ N ih => exact sym_step ih
end Go.Proofs.YtefhfoioeoijlaaGreatDoor

/- GL: printed by gen.py -/
import Derived.Test.YtefhfoioeoijlaaGreatDoorGK
set_option linter.unusedVariables false
set_option linter.unusedSimpArgs false
namespace Go.Proofs.YtefhfoioeoijlaaGreatDoor
open Go Go.RowKit Go.Sort
/-- A merge of at most N places does what it is to do. -/
def SymOK (N : Nat) : Prop := ∀ {B base : Nat} {w : World} {g nn c : Nat} {f : Nat → OpD} {pre A Bb post : List Nat} {ia m ib : Nat}, A.length + Bb.length ≤ N → ORow 49 B base w (.slice (some ⟨g, 0, none⟩) nn c) ((pre ++ (A ++ (Bb ++ post))).map f) → B ≤ base → nn ≤ 1000000 → pre.length = ia → ia + A.length = m → m + Bb.length = ib → 0 < A.length → 0 < Bb.length → A.Pairwise (lx f) → Bb.Pairwise (lx f) → Ahead (· < ·) A Bb →
    Calls Tryz.prog 201 #[.slice (some ⟨g, 0, none⟩) nn c, .int .i64 ia, .int .i64 m, .int .i64 ib, .func (.func 115) #[] #[]] w fun e w' => ∃ D, e = .returned (.tuple #[]) ∧ ORow 49 B base w' (.slice (some ⟨g, 0, none⟩) nn c) ((pre ++ (D ++ post)).map f) ∧ Merged (lx f) A Bb D ∧ Chg w w' g
theorem same_el {I : List Nat} {ia x y : Nat} (h : I[ia]? = some x) (k : I[ia]? = some y) : x = y := Option.some.inj (h.symm.trans k)
set_option maxRecDepth 20000 in
set_option maxHeartbeats 2000000 in
theorem sym_step {N : Nat} (ih : SymOK N) : SymOK (N + 1) := by
  intro B base w g nn c f pre A Bb post ia m ib hN h hBb hn ha hm hb hA0 hB0 hAs hBs hAB
  obtain ⟨hnL, hnc, hcm, cu0, hg, hcs0⟩ := ORow.blk h
  have hBg := ORow.ge h hBb
  have hn0 : nn = pre.length + (A.length + (Bb.length + post.length)) := by simpa using hnL
  have hl0 : (pre ++ (A ++ (Bb ++ post))).length = nn := by simp; omega
  go_enter Tryz.func201, Tryz.ntmps201
  refine wp_seq (wp_seq (rg_lit ?_))
  refine wmv (v := .int .i64 ((m : Int))) ?_
  refine wmv (v := .int .i64 ((ia : Int))) ?_
  refine wl (sv rfl (v := .int .i64 (((m - ia : Nat) : Int))) (r_sub (k := .i64) (m := ((m : Int))) (n := ((ia : Int))) (c := (((m - ia : Nat) : Int))) (by kernel_rfl) (by kernel_rfl) ((IntWalk.i64_in _ (by omega)).trans (by omega))) ?_)
  refine wl (sb rfl (r_eq (k := .i64) (m := (((m - ia : Nat) : Int))) (n := 1) (by kernel_rfl) (by kernel_rfl)) ?_)
  intro b1 k2
  refine wnil (then_n ?_)
  refine bcase b1 (fun v3 => ?_) (fun v3 => ?_)
  ·
   have p4 := of_decide_eq_false (k2.trans v3)
   refine wp_cond_false (ebool (b := b1) (by kernel_rfl) v3) ?_
   refine wp_skip (then_n (wp_seq (wp_seq (rg_lit ?_))))
   refine wmv (v := .int .i64 ((ib : Int))) ?_
   refine wmv (v := .int .i64 ((m : Int))) ?_
   refine wl (sv rfl (v := .int .i64 (((ib - m : Nat) : Int))) (r_sub (k := .i64) (m := ((ib : Int))) (n := ((m : Int))) (c := (((ib - m : Nat) : Int))) (by kernel_rfl) (by kernel_rfl) ((IntWalk.i64_in _ (by omega)).trans (by omega))) ?_)
   refine wl (sb rfl (r_eq (k := .i64) (m := (((ib - m : Nat) : Int))) (n := 1) (by kernel_rfl) (by kernel_rfl)) ?_)
   intro b5 k6
   refine wnil (then_n ?_)
   refine bcase b5 (fun v7 => ?_) (fun v7 => ?_)
   ·
    have p8 := of_decide_eq_false (k6.trans v7)
    refine wp_cond_false (ebool (b := b5) (by kernel_rfl) v7) ?_
    refine wp_skip (then_n (wp_seq (rg_lit ?_)))
    refine wmv (v := .int .i64 ((ia : Int))) ?_
    refine wmv (v := .int .i64 ((ib : Int))) ?_
    refine wl (sv rfl (v := .int .i64 (((ia + ib : Nat) : Int))) (r_add (k := .i64) (m := ((ia : Int))) (n := ((ib : Int))) (c := (((ia + ib : Nat) : Int))) (by kernel_rfl) (by kernel_rfl) ((IntWalk.i64_in _ (by omega)).trans (by omega))) ?_)
    refine wl (sv rfl (v := .int .u64 (((ia + ib : Nat) : Int))) (r_toUn (m := (ia + ib)) (by kernel_rfl) (by omega)) ?_)
    refine wl (sv rfl (v := .int .u64 ((((ia + ib) / 2 : Nat) : Int))) (r_halfn (m := (ia + ib)) (by kernel_rfl) (by kernel_rfl)) ?_)
    refine wl (sv rfl (v := .int .i64 ((((ia + ib) / 2 : Nat) : Int))) (r_toIn (m := ((ia + ib) / 2)) (by kernel_rfl) (by omega)) ?_)
    refine was (v := .int .i64 ((((ia + ib) / 2 : Nat) : Int))) ?_
    refine wnil (then_n (wp_seq (rg_lit ?_)))
    refine wmv (v := .int .i64 ((((ia + ib) / 2 : Nat) : Int))) ?_
    refine wmv (v := .int .i64 ((m : Int))) ?_
    refine wl (sv rfl (v := .int .i64 ((((ia + ib) / 2 + m : Nat) : Int))) (r_add (k := .i64) (m := ((((ia + ib) / 2 : Nat) : Int))) (n := ((m : Int))) (c := ((((ia + ib) / 2 + m : Nat) : Int))) (by kernel_rfl) (by kernel_rfl) ((IntWalk.i64_in _ (by omega)).trans (by omega))) ?_)
    refine was (v := .int .i64 ((((ia + ib) / 2 + m : Nat) : Int))) ?_
    refine wnil (then_n (wp_seq (rg_lit ?_)))
    refine was (v := .int .i64 0) ?_
    refine was (v := .int .i64 0) ?_
    refine wnil (then_n (wp_seq (wp_seq (rg_lit ?_))))
    refine wmv (v := .int .i64 ((m : Int))) ?_
    refine wmv (v := .int .i64 ((((ia + ib) / 2 : Nat) : Int))) ?_
    refine wl (sb rfl (r_gt (k := .i64) (m := ((m : Int))) (n := ((((ia + ib) / 2 : Nat) : Int))) (by kernel_rfl) (by kernel_rfl)) ?_)
    intro b9 k10
    refine wnil (then_n ?_)
    refine bcase b9 (fun v11 => ?_) (fun v11 => ?_)
    ·
     have p12 := of_decide_eq_false (k10.trans v11)
     refine wp_cond_false (ebool (b := b9) (by kernel_rfl) v11) ?_
     refine wp_seq (rg_lit ?_)
     refine wmv (v := .int .i64 ((ia : Int))) ?_
     refine was (v := .int .i64 ((ia : Int))) ?_
     refine wnil (then_n (rg_lit ?_))
     refine wmv (v := .int .i64 ((m : Int))) ?_
     refine was (v := .int .i64 ((m : Int))) ?_
     refine wnil (then_n (wp_seq (rg_lit ?_)))
     refine wmv (v := .int .i64 ((((ia + ib) / 2 + m : Nat) : Int))) ?_
     refine wl (sv rfl (v := .int .i64 ((((ia + ib) / 2 + m - 1 : Nat) : Int))) (r_sub (k := .i64) (m := ((((ia + ib) / 2 + m : Nat) : Int))) (n := 1) (c := ((((ia + ib) / 2 + m - 1 : Nat) : Int))) (by kernel_rfl) (by kernel_rfl) ((IntWalk.i64_in _ (by omega)).trans (by omega))) ?_)
     refine was (v := .int .i64 ((((ia + ib) / 2 + m - 1 : Nat) : Int))) ?_
     refine wnil (then_n (wp_seq (wp_block ?_)))
     refine lp (fun n a r1 => ∃ (sa : Nat) (ra : Nat) (z23 z149 z150 z151 z152 z153 z154 z155 z156 z157 z158 z159 z160 z161 z162 z163 z164 z165 z166 z167 z168 z169 z170 z171 z172 z173 z174 : Value), (n = ra - sa) ∧ (a = ⟨#[.slice (some ⟨g, 0, none⟩) nn c, .int .i64 ((ia : Int)), .int .i64 ((m : Int)), .int .i64 ((ib : Int)), .func (.func 115) #[] #[], undef, undef, undef, undef, undef, undef, undef, undef, undef, undef, undef, undef, undef, .int .i64 ((((ia + ib) / 2 : Nat) : Int)), .int .i64 ((((ia + ib) / 2 + m : Nat) : Int)), .int .i64 ((sa : Int)), .int .i64 ((ra : Int)), .int .i64 ((((ia + ib) / 2 + m - 1 : Nat) : Int)), z23, undef, .int .i64 ((m : Int)), .int .i64 ((ia : Int)), .int .i64 (((m - ia : Nat) : Int)), .bool b1, undef, undef, undef, undef, undef, undef, undef, undef, undef, undef, undef, undef, undef, undef, undef, undef, undef, undef, undef, undef, undef, undef, undef, undef, undef, undef, undef, undef, undef, undef, undef, undef, undef, undef, undef, undef, undef, undef, undef, undef, undef, undef, undef, undef, undef, undef, undef, undef, .int .i64 ((ib : Int)), .int .i64 ((m : Int)), .int .i64 (((ib - m : Nat) : Int)), .bool b5, undef, undef, undef, undef, undef, undef, undef, undef, undef, undef, undef, undef, undef, undef, undef, undef, undef, undef, undef, undef, undef, undef, undef, undef, undef, undef, undef, undef, undef, undef, undef, undef, undef, undef, undef, undef, undef, undef, undef, undef, undef, undef, undef, undef, undef, undef, undef, undef, .int .i64 ((ia : Int)), .int .i64 ((ib : Int)), .int .i64 (((ia + ib : Nat) : Int)), .int .u64 (((ia + ib : Nat) : Int)), .int .u64 ((((ia + ib) / 2 : Nat) : Int)), .int .i64 ((((ia + ib) / 2 : Nat) : Int)), .int .i64 ((((ia + ib) / 2 : Nat) : Int)), .int .i64 ((m : Int)), .int .i64 ((((ia + ib) / 2 + m : Nat) : Int)), .int .i64 ((m : Int)), .int .i64 ((((ia + ib) / 2 : Nat) : Int)), .bool b9, undef, undef, undef, undef, .int .i64 ((ia : Int)), .int .i64 ((m : Int)), .int .i64 ((((ia + ib) / 2 + m : Nat) : Int)), .int .i64 ((((ia + ib) / 2 + m - 1 : Nat) : Int)), z149, z150, z151, z152, z153, z154, z155, z156, z157, z158, z159, z160, z161, z162, z163, z164, z165, z166, z167, z168, z169, z170, z171, z172, z173, z174, undef, undef, undef, undef, undef, undef, undef, undef, undef, undef, undef, undef, undef, undef, undef, undef, undef, undef, undef, undef, undef, undef, undef, undef, undef, undef, undef, undef, undef, undef, undef, undef, undef, undef, undef, undef, undef, undef, undef, undef, undef, undef, undef, undef, undef], []⟩) ∧ (Mod [] w r1) ∧ (SymS f (pre ++ (A ++ (Bb ++ post))) ((ia + ib) / 2 + m) ia m sa ra)) ⟨_, ia, m, undef, undef, undef, undef, undef, undef, undef, undef, undef, undef, undef, undef, undef, undef, undef, undef, undef, undef, undef, undef, undef, undef, undef, undef, undef, undef, undef, rfl, (by kernel_rfl), Mod.refl _ _, (SymS.first _ _ _ _ _ (by omega))⟩ ?_
     rintro _ _ r1 ⟨sa, ra, z23, z149, z150, z151, z152, z153, z154, z155, z156, z157, z158, z159, z160, z161, z162, z163, z164, z165, z166, z167, z168, z169, z170, z171, z172, z173, z174, rfl, rfl, hM1, hF1_0⟩
     have M13 := Mod.thin (Mod.refl [] w) hM1 (by simp)
     have hz1 := hF1_0.1
     have hz2 := hF1_0.2.1
     have hz3 := hF1_0.2.2.1
     refine wp_seq (wp_seq (rg_lit ?_))
     refine wmv (v := .int .i64 ((sa : Int))) ?_
     refine wmv (v := .int .i64 ((ra : Int))) ?_
     refine wl (sb rfl (r_lt (k := .i64) (m := ((sa : Int))) (n := ((ra : Int))) (by kernel_rfl) (by kernel_rfl)) ?_)
     intro b14 k15
     refine wnil (then_n ?_)
     refine bcase b14 (fun v16 => ?_) (fun v16 => ?_)
     ·
      have p17 := of_decide_eq_false (k15.trans v16)
      refine wp_cond_false (ebool (b := b14) (by kernel_rfl) v16) ?_
      refine wp_exit (then_x (by nofun) (then_x (by nofun) (inb_hit (then_n (wp_seq (rg_lit ?_))))))
      refine wmv (v := .int .i64 ((((ia + ib) / 2 + m : Nat) : Int))) ?_
      refine wmv (v := .int .i64 ((sa : Int))) ?_
      refine wl (sv rfl (v := .int .i64 ((((ia + ib) / 2 + m - sa : Nat) : Int))) (r_sub (k := .i64) (m := ((((ia + ib) / 2 + m : Nat) : Int))) (n := ((sa : Int))) (c := ((((ia + ib) / 2 + m - sa : Nat) : Int))) (by kernel_rfl) (by kernel_rfl) ((IntWalk.i64_in _ (by omega)).trans (by omega))) ?_)
      refine was (v := .int .i64 ((((ia + ib) / 2 + m - sa : Nat) : Int))) ?_
      refine wnil (then_n (wp_seq (wp_seq (rg_lit ?_))))
      refine wmv (v := .int .i64 ((sa : Int))) ?_
      refine wmv (v := .int .i64 ((m : Int))) ?_
      refine wl (sb rfl (r_lt (k := .i64) (m := ((sa : Int))) (n := ((m : Int))) (by kernel_rfl) (by kernel_rfl)) ?_)
      intro b18 k19
      refine wmv (v := .bool b18) ?_
      refine bcase b18 (fun v20 => ?_) (fun v20 => ?_)
      ·
       have p21 := of_decide_eq_false (k19.trans v20)
       refine wl (sp (wf (b := b18) rfl (by kernel_rfl) v20) ?_)
       refine wl (sp (wf (b := b18) rfl (by kernel_rfl) v20) ?_)
       refine wl (sp (wf (b := b18) rfl (by kernel_rfl) v20) ?_)
       refine wl (sv rfl (v := .bool false) (r_pkF (ebool (b := b18) (by kernel_rfl) v20) (by kernel_rfl)) ?_)
       refine wnil (then_n ?_)
       refine wp_cond_false (by kernel_rfl) ?_
       refine wp_skip (then_n (wp_seq (wp_seq (rg_lit ?_))))
       refine wmv (v := .int .i64 ((ia : Int))) ?_
       refine wmv (v := .int .i64 ((sa : Int))) ?_
       refine wl (sb rfl (r_lt (k := .i64) (m := ((ia : Int))) (n := ((sa : Int))) (by kernel_rfl) (by kernel_rfl)) ?_)
       intro b22 k23
       refine wmv (v := .bool b22) ?_
       refine bcase b22 (fun v24 => ?_) (fun v24 => ?_)
       ·
        have p25 := of_decide_eq_false (k23.trans v24)
        refine wl (sp (wf (b := b22) rfl (by kernel_rfl) v24) ?_)
        refine wl (sp (wf (b := b22) rfl (by kernel_rfl) v24) ?_)
        refine wl (sp (wf (b := b22) rfl (by kernel_rfl) v24) ?_)
        refine wl (sv rfl (v := .bool false) (r_pkF (ebool (b := b22) (by kernel_rfl) v24) (by kernel_rfl)) ?_)
        refine wnil (then_n ?_)
        refine wp_cond_false (by kernel_rfl) ?_
        refine wp_skip (then_n (wp_seq (rg_lit ?_)))
        refine wmv (v := .int .i64 ((((ia + ib) / 2 : Nat) : Int))) ?_
        refine wmv (v := .int .i64 ((((ia + ib) / 2 + m - sa : Nat) : Int))) ?_
        refine wl (sb rfl (r_lt (k := .i64) (m := ((((ia + ib) / 2 : Nat) : Int))) (n := ((((ia + ib) / 2 + m - sa : Nat) : Int))) (by kernel_rfl) (by kernel_rfl)) ?_)
        intro b26 k27
        refine wmv (v := .bool b26) ?_
        refine bcase b26 (fun v28 => ?_) (fun v28 => ?_)
        ·
         have p29 := of_decide_eq_false (k27.trans v28)
         refine wl (sp (wf (b := b26) rfl (by kernel_rfl) v28) ?_)
         refine wl (sp (wf (b := b26) rfl (by kernel_rfl) v28) ?_)
         refine wl (sp (wf (b := b26) rfl (by kernel_rfl) v28) ?_)
         refine wl (sv rfl (v := .bool false) (r_pkF (ebool (b := b26) (by kernel_rfl) v28) (by kernel_rfl)) ?_)
         refine wnil (then_n ?_)
         refine wp_cond_false (by kernel_rfl) ?_
         refine wp_skip ?_
         refine bodyPost_end (v := .tuple #[]) (res0 rfl ) (by kernel_rfl) ?_
         have h30 := (ORow.up h (Mod.up hM1))
         have hq31 : SymS f (pre ++ (A ++ (Bb ++ post))) ((ia + ib) / 2 + m) ia m sa sa := by have h0 := hF1_0; rw [show ra = sa by omega] at h0; exact h0
         have hT31 := SymS.fin hq31 rfl ha hm hb rfl rfl (by omega) hAs hBs hAB
         obtain ⟨ht1, ht2, ht3, ht4, ht5⟩ := Sym1.len hT31
         have hT32 := Sym1.skip (mid := (ia + ib) / 2) hT31 (by omega) (by omega)
         have hT33 := Sym2.skip hT32 (by omega) hAs hBs
         obtain ⟨D, hD, hM⟩ := Sym3.skip hT33 (by omega) hAs hBs
         exact ⟨D, rfl, ORow.to h30 (by rw [hD]), hM, (to_chg (Mod.up M13) g)⟩
        have p29 := of_decide_eq_true (k27.trans v28)
        refine wl (sv (wt (b := b26) rfl (by kernel_rfl) v28) (v := .int .i64 ((((ia + ib) / 2 + m - sa : Nat) : Int))) (r_move (by kernel_rfl)) ?_)
        refine wl (sv (wt (b := b26) rfl (by kernel_rfl) v28) (v := .int .i64 ((ib : Int))) (r_move (by kernel_rfl)) ?_)
        refine wl (sb (wt (b := b26) rfl (by kernel_rfl) v28) (r_lt (k := .i64) (m := ((((ia + ib) / 2 + m - sa : Nat) : Int))) (n := ((ib : Int))) (by kernel_rfl) (by kernel_rfl)) ?_)
        intro b30 k31
        refine wl (sv rfl (v := .bool b30) (r_pkT (ebool (b := b26) (by kernel_rfl) v28) (by kernel_rfl)) ?_)
        refine wnil (then_n ?_)
        refine bcase b30 (fun v32 => ?_) (fun v32 => ?_)
        ·
         have p33 := of_decide_eq_false (k31.trans v32)
         refine wp_cond_false (ebool (b := b30) (by kernel_rfl) v32) ?_
         refine wp_skip ?_
         refine bodyPost_end (v := .tuple #[]) (res0 rfl ) (by kernel_rfl) ?_
         have h34 := (ORow.up h (Mod.up hM1))
         have hq35 : SymS f (pre ++ (A ++ (Bb ++ post))) ((ia + ib) / 2 + m) ia m sa sa := by have h0 := hF1_0; rw [show ra = sa by omega] at h0; exact h0
         have hT35 := SymS.fin hq35 rfl ha hm hb rfl rfl (by omega) hAs hBs hAB
         obtain ⟨ht1, ht2, ht3, ht4, ht5⟩ := Sym1.len hT35
         have hT36 := Sym1.skip (mid := (ia + ib) / 2) hT35 (by omega) (by omega)
         have hT37 := Sym2.skip hT36 (by omega) hAs hBs
         obtain ⟨D, hD, hM⟩ := Sym3.skip hT37 (by omega) hAs hBs
         exact ⟨D, rfl, ORow.to h34 (by rw [hD]), hM, (to_chg (Mod.up M13) g)⟩
        have p33 := of_decide_eq_true (k31.trans v32)
        refine wp_cond_true (ebool (b := b30) (by kernel_rfl) v32) ?_
        refine rg_lit ?_
        refine wmv (v := .slice (some ⟨g, 0, none⟩) nn c) ?_
        refine wmv (v := .int .i64 ((((ia + ib) / 2 : Nat) : Int))) ?_
        refine wmv (v := .int .i64 ((((ia + ib) / 2 + m - sa : Nat) : Int))) ?_
        refine wmv (v := .int .i64 ((ib : Int))) ?_
        refine wmv (v := .func (.func 115) #[] #[]) ?_
        have hq35 : SymS f (pre ++ (A ++ (Bb ++ post))) ((ia + ib) / 2 + m) ia m sa sa := by have h0 := hF1_0; rw [show ra = sa by omega] at h0; exact h0
        have hT35 := SymS.fin hq35 rfl ha hm hb rfl rfl (by omega) hAs hBs hAB
        obtain ⟨ht1, ht2, ht3, ht4, ht5⟩ := Sym1.len hT35
        have hT36 := Sym1.skip (mid := (ia + ib) / 2) hT35 (by omega) (by omega)
        have hT37 := Sym2.skip hT36 (by omega) hAs hBs
        obtain ⟨p34, X34, Y34, hI34, hp34, hX34, hY34, hsX34, hsY34, hXY34, hN34⟩ := Sym3.half hT37 hAs hBs hAB
        have h38 := md_ob M13 nin0 hg
        have h39 := (ORow.up h (Mod.up hM1))
        have ho34 := ORow.to h39 (congrArg (List.map f) hI34)
        refine wl (sc rfl (r_callv (caps := []) (all := [.slice (some ⟨g, 0, none⟩) nn c, .int .i64 ((((ia + ib) / 2 : Nat) : Int)), .int .i64 ((((ia + ib) / 2 + m - sa : Nat) : Int)), .int .i64 ((ib : Int)), .func (.func 115) #[] #[]]) En.f201 (by kernel_rfl) (by kernel_rfl)) (ih (by omega) ho34 hBb hn hp34 (by omega) (by omega) (by omega) (by omega) hsX34 hsY34 hXY34) ?_)
        rintro e w40 ⟨D41, rfl, h42, m43, c44⟩
        refine ⟨.tuple #[], rfl, ?_⟩
        have M45 := md_old M13 c44
        have M46 := md_old hM1 c44
        obtain ⟨_, _, _, cg47, hg47, _⟩ := ORow.blk h42
        have hT34 := hN34 _ m43
        refine wnil ?_
        refine bodyPost_end (v := .tuple #[]) (res0 rfl ) (by kernel_rfl) ?_
        obtain ⟨D, hD, hM⟩ := hT34
        exact ⟨D, rfl, ORow.to h42 (by rw [hD]), hM, (Mod.chg M45)⟩
       have p25 := of_decide_eq_true (k23.trans v24)
       have q26 : ia < sa := by omega
       have q27 : ia < sa := by omega
       refine wl (sv (wt (b := b22) rfl (by kernel_rfl) v24) (v := .int .i64 ((sa : Int))) (r_move (by kernel_rfl)) ?_)
       refine wl (sv (wt (b := b22) rfl (by kernel_rfl) v24) (v := .int .i64 ((((ia + ib) / 2 : Nat) : Int))) (r_move (by kernel_rfl)) ?_)
       refine wl (sb (wt (b := b22) rfl (by kernel_rfl) v24) (r_lt (k := .i64) (m := ((sa : Int))) (n := ((((ia + ib) / 2 : Nat) : Int))) (by kernel_rfl) (by kernel_rfl)) ?_)
       intro b28 k29
       refine wl (sv rfl (v := .bool b28) (r_pkT (ebool (b := b22) (by kernel_rfl) v24) (by kernel_rfl)) ?_)
       refine wnil (then_n ?_)
       refine bcase b28 (fun v30 => ?_) (fun v30 => ?_)
       ·
        have p31 := of_decide_eq_false (k29.trans v30)
        refine wp_cond_false (ebool (b := b28) (by kernel_rfl) v30) ?_
        refine wp_skip (then_n (wp_seq (rg_lit ?_)))
        refine wmv (v := .int .i64 ((((ia + ib) / 2 : Nat) : Int))) ?_
        refine wmv (v := .int .i64 ((((ia + ib) / 2 + m - sa : Nat) : Int))) ?_
        refine wl (sb rfl (r_lt (k := .i64) (m := ((((ia + ib) / 2 : Nat) : Int))) (n := ((((ia + ib) / 2 + m - sa : Nat) : Int))) (by kernel_rfl) (by kernel_rfl)) ?_)
        intro b32 k33
        refine wmv (v := .bool b32) ?_
        refine bcase b32 (fun v34 => ?_) (fun v34 => ?_)
        ·
         have p35 := of_decide_eq_false (k33.trans v34)
         refine wl (sp (wf (b := b32) rfl (by kernel_rfl) v34) ?_)
         refine wl (sp (wf (b := b32) rfl (by kernel_rfl) v34) ?_)
         refine wl (sp (wf (b := b32) rfl (by kernel_rfl) v34) ?_)
         refine wl (sv rfl (v := .bool false) (r_pkF (ebool (b := b32) (by kernel_rfl) v34) (by kernel_rfl)) ?_)
         refine wnil (then_n ?_)
         refine wp_cond_false (by kernel_rfl) ?_
         refine wp_skip ?_
         refine bodyPost_end (v := .tuple #[]) (res0 rfl ) (by kernel_rfl) ?_
         have h36 := (ORow.up h (Mod.up hM1))
         have hq37 : SymS f (pre ++ (A ++ (Bb ++ post))) ((ia + ib) / 2 + m) ia m sa sa := by have h0 := hF1_0; rw [show ra = sa by omega] at h0; exact h0
         have hT37 := SymS.fin hq37 rfl ha hm hb rfl rfl (by omega) hAs hBs hAB
         obtain ⟨ht1, ht2, ht3, ht4, ht5⟩ := Sym1.len hT37
         have hT38 := Sym1.skip (mid := (ia + ib) / 2) hT37 (by omega) (by omega)
         have hT39 := Sym2.skip hT38 (by omega) hAs hBs
         obtain ⟨D, hD, hM⟩ := Sym3.skip hT39 (by omega) hAs hBs
         exact ⟨D, rfl, ORow.to h36 (by rw [hD]), hM, (to_chg (Mod.up M13) g)⟩
        have p35 := of_decide_eq_true (k33.trans v34)
        refine wl (sv (wt (b := b32) rfl (by kernel_rfl) v34) (v := .int .i64 ((((ia + ib) / 2 + m - sa : Nat) : Int))) (r_move (by kernel_rfl)) ?_)
        refine wl (sv (wt (b := b32) rfl (by kernel_rfl) v34) (v := .int .i64 ((ib : Int))) (r_move (by kernel_rfl)) ?_)
        refine wl (sb (wt (b := b32) rfl (by kernel_rfl) v34) (r_lt (k := .i64) (m := ((((ia + ib) / 2 + m - sa : Nat) : Int))) (n := ((ib : Int))) (by kernel_rfl) (by kernel_rfl)) ?_)
        intro b36 k37
        refine wl (sv rfl (v := .bool b36) (r_pkT (ebool (b := b32) (by kernel_rfl) v34) (by kernel_rfl)) ?_)
        refine wnil (then_n ?_)
        refine bcase b36 (fun v38 => ?_) (fun v38 => ?_)
        ·
         have p39 := of_decide_eq_false (k37.trans v38)
         refine wp_cond_false (ebool (b := b36) (by kernel_rfl) v38) ?_
         refine wp_skip ?_
         refine bodyPost_end (v := .tuple #[]) (res0 rfl ) (by kernel_rfl) ?_
         have h40 := (ORow.up h (Mod.up hM1))
         have hq41 : SymS f (pre ++ (A ++ (Bb ++ post))) ((ia + ib) / 2 + m) ia m sa sa := by have h0 := hF1_0; rw [show ra = sa by omega] at h0; exact h0
         have hT41 := SymS.fin hq41 rfl ha hm hb rfl rfl (by omega) hAs hBs hAB
         obtain ⟨ht1, ht2, ht3, ht4, ht5⟩ := Sym1.len hT41
         have hT42 := Sym1.skip (mid := (ia + ib) / 2) hT41 (by omega) (by omega)
         have hT43 := Sym2.skip hT42 (by omega) hAs hBs
         obtain ⟨D, hD, hM⟩ := Sym3.skip hT43 (by omega) hAs hBs
         exact ⟨D, rfl, ORow.to h40 (by rw [hD]), hM, (to_chg (Mod.up M13) g)⟩
        have p39 := of_decide_eq_true (k37.trans v38)
        refine wp_cond_true (ebool (b := b36) (by kernel_rfl) v38) ?_
        refine rg_lit ?_
        refine wmv (v := .slice (some ⟨g, 0, none⟩) nn c) ?_
        refine wmv (v := .int .i64 ((((ia + ib) / 2 : Nat) : Int))) ?_
        refine wmv (v := .int .i64 ((((ia + ib) / 2 + m - sa : Nat) : Int))) ?_
        refine wmv (v := .int .i64 ((ib : Int))) ?_
        refine wmv (v := .func (.func 115) #[] #[]) ?_
        have hq41 : SymS f (pre ++ (A ++ (Bb ++ post))) ((ia + ib) / 2 + m) ia m sa sa := by have h0 := hF1_0; rw [show ra = sa by omega] at h0; exact h0
        have hT41 := SymS.fin hq41 rfl ha hm hb rfl rfl (by omega) hAs hBs hAB
        obtain ⟨ht1, ht2, ht3, ht4, ht5⟩ := Sym1.len hT41
        have hT42 := Sym1.skip (mid := (ia + ib) / 2) hT41 (by omega) (by omega)
        have hT43 := Sym2.skip hT42 (by omega) hAs hBs
        obtain ⟨p40, X40, Y40, hI40, hp40, hX40, hY40, hsX40, hsY40, hXY40, hN40⟩ := Sym3.half hT43 hAs hBs hAB
        have h44 := md_ob M13 nin0 hg
        have h45 := (ORow.up h (Mod.up hM1))
        have ho40 := ORow.to h45 (congrArg (List.map f) hI40)
        refine wl (sc rfl (r_callv (caps := []) (all := [.slice (some ⟨g, 0, none⟩) nn c, .int .i64 ((((ia + ib) / 2 : Nat) : Int)), .int .i64 ((((ia + ib) / 2 + m - sa : Nat) : Int)), .int .i64 ((ib : Int)), .func (.func 115) #[] #[]]) En.f201 (by kernel_rfl) (by kernel_rfl)) (ih (by omega) ho40 hBb hn hp40 (by omega) (by omega) (by omega) (by omega) hsX40 hsY40 hXY40) ?_)
        rintro e w46 ⟨D47, rfl, h48, m49, c50⟩
        refine ⟨.tuple #[], rfl, ?_⟩
        have M51 := md_old M13 c50
        have M52 := md_old hM1 c50
        obtain ⟨_, _, _, cg53, hg53, _⟩ := ORow.blk h48
        have hT40 := hN40 _ m49
        refine wnil ?_
        refine bodyPost_end (v := .tuple #[]) (res0 rfl ) (by kernel_rfl) ?_
        obtain ⟨D, hD, hM⟩ := hT40
        exact ⟨D, rfl, ORow.to h48 (by rw [hD]), hM, (Mod.chg M51)⟩
       have p31 := of_decide_eq_true (k29.trans v30)
       refine wp_cond_true (ebool (b := b28) (by kernel_rfl) v30) ?_
       refine rg_lit ?_
       refine wmv (v := .slice (some ⟨g, 0, none⟩) nn c) ?_
       refine wmv (v := .int .i64 ((ia : Int))) ?_
       refine wmv (v := .int .i64 ((sa : Int))) ?_
       refine wmv (v := .int .i64 ((((ia + ib) / 2 : Nat) : Int))) ?_
       refine wmv (v := .func (.func 115) #[] #[]) ?_
       have hq33 : SymS f (pre ++ (A ++ (Bb ++ post))) ((ia + ib) / 2 + m) ia m sa sa := by have h0 := hF1_0; rw [show ra = sa by omega] at h0; exact h0
       have hT33 := SymS.fin hq33 rfl ha hm hb rfl rfl (by omega) hAs hBs hAB
       obtain ⟨ht1, ht2, ht3, ht4, ht5⟩ := Sym1.len hT33
       have hT34 := Sym1.skip (mid := (ia + ib) / 2) hT33 (by omega) (by omega)
       obtain ⟨X32, Y32, q32, hI32, hX32, hY32, hsX32, hsY32, hXY32, hN32⟩ := Sym2.half hT34 hAs hBs hAB
       have h35 := md_ob M13 nin0 hg
       have h36 := (ORow.up h (Mod.up hM1))
       have ho32 := ORow.to h36 (congrArg (List.map f) hI32)
       refine wl (sc rfl (r_callv (caps := []) (all := [.slice (some ⟨g, 0, none⟩) nn c, .int .i64 ((ia : Int)), .int .i64 ((sa : Int)), .int .i64 ((((ia + ib) / 2 : Nat) : Int)), .func (.func 115) #[] #[]]) En.f201 (by kernel_rfl) (by kernel_rfl)) (ih (by omega) ho32 hBb hn ha (by omega) (by omega) (by omega) (by omega) hsX32 hsY32 hXY32) ?_)
       rintro e w37 ⟨D38, rfl, h39, m40, c41⟩
       refine ⟨.tuple #[], rfl, ?_⟩
       have M42 := md_old M13 c41
       have M43 := md_old hM1 c41
       obtain ⟨_, _, _, cg44, hg44, _⟩ := ORow.blk h39
       have hT32 := hN32 _ m40
       refine wnil (then_n (wp_seq (rg_lit ?_)))
       refine wmv (v := .int .i64 ((((ia + ib) / 2 : Nat) : Int))) ?_
       refine wmv (v := .int .i64 ((((ia + ib) / 2 + m - sa : Nat) : Int))) ?_
       refine wl (sb rfl (r_lt (k := .i64) (m := ((((ia + ib) / 2 : Nat) : Int))) (n := ((((ia + ib) / 2 + m - sa : Nat) : Int))) (by kernel_rfl) (by kernel_rfl)) ?_)
       intro b45 k46
       refine wmv (v := .bool b45) ?_
       refine bcase b45 (fun v47 => ?_) (fun v47 => ?_)
       ·
        have p48 := of_decide_eq_false (k46.trans v47)
        refine wl (sp (wf (b := b45) rfl (by kernel_rfl) v47) ?_)
        refine wl (sp (wf (b := b45) rfl (by kernel_rfl) v47) ?_)
        refine wl (sp (wf (b := b45) rfl (by kernel_rfl) v47) ?_)
        refine wl (sv rfl (v := .bool false) (r_pkF (ebool (b := b45) (by kernel_rfl) v47) (by kernel_rfl)) ?_)
        refine wnil (then_n ?_)
        refine wp_cond_false (by kernel_rfl) ?_
        refine wp_skip ?_
        refine bodyPost_end (v := .tuple #[]) (res0 rfl ) (by kernel_rfl) ?_
        obtain ⟨D, hD, hM⟩ := Sym3.skip hT32 (by omega) hAs hBs
        exact ⟨D, rfl, ORow.to h39 (by rw [hD]), hM, (Mod.chg M42)⟩
       have p48 := of_decide_eq_true (k46.trans v47)
       refine wl (sv (wt (b := b45) rfl (by kernel_rfl) v47) (v := .int .i64 ((((ia + ib) / 2 + m - sa : Nat) : Int))) (r_move (by kernel_rfl)) ?_)
       refine wl (sv (wt (b := b45) rfl (by kernel_rfl) v47) (v := .int .i64 ((ib : Int))) (r_move (by kernel_rfl)) ?_)
       refine wl (sb (wt (b := b45) rfl (by kernel_rfl) v47) (r_lt (k := .i64) (m := ((((ia + ib) / 2 + m - sa : Nat) : Int))) (n := ((ib : Int))) (by kernel_rfl) (by kernel_rfl)) ?_)
       intro b49 k50
       refine wl (sv rfl (v := .bool b49) (r_pkT (ebool (b := b45) (by kernel_rfl) v47) (by kernel_rfl)) ?_)
       refine wnil (then_n ?_)
       refine bcase b49 (fun v51 => ?_) (fun v51 => ?_)
       ·
        have p52 := of_decide_eq_false (k50.trans v51)
        refine wp_cond_false (ebool (b := b49) (by kernel_rfl) v51) ?_
        refine wp_skip ?_
        refine bodyPost_end (v := .tuple #[]) (res0 rfl ) (by kernel_rfl) ?_
        obtain ⟨D, hD, hM⟩ := Sym3.skip hT32 (by omega) hAs hBs
        exact ⟨D, rfl, ORow.to h39 (by rw [hD]), hM, (Mod.chg M42)⟩
       have p52 := of_decide_eq_true (k50.trans v51)
       refine wp_cond_true (ebool (b := b49) (by kernel_rfl) v51) ?_
       refine rg_lit ?_
       refine wmv (v := .slice (some ⟨g, 0, none⟩) nn c) ?_
       refine wmv (v := .int .i64 ((((ia + ib) / 2 : Nat) : Int))) ?_
       refine wmv (v := .int .i64 ((((ia + ib) / 2 + m - sa : Nat) : Int))) ?_
       refine wmv (v := .int .i64 ((ib : Int))) ?_
       refine wmv (v := .func (.func 115) #[] #[]) ?_
       obtain ⟨p53, X53, Y53, hI53, hp53, hX53, hY53, hsX53, hsY53, hXY53, hN53⟩ := Sym3.half hT32 hAs hBs hAB
       have ho53 := ORow.to h39 (congrArg (List.map f) hI53)
       refine wl (sc rfl (r_callv (caps := []) (all := [.slice (some ⟨g, 0, none⟩) nn c, .int .i64 ((((ia + ib) / 2 : Nat) : Int)), .int .i64 ((((ia + ib) / 2 + m - sa : Nat) : Int)), .int .i64 ((ib : Int)), .func (.func 115) #[] #[]]) En.f201 (by kernel_rfl) (by kernel_rfl)) (ih (by omega) ho53 hBb hn hp53 (by omega) (by omega) (by omega) (by omega) hsX53 hsY53 hXY53) ?_)
       rintro e w54 ⟨D55, rfl, h56, m57, c58⟩
       refine ⟨.tuple #[], rfl, ?_⟩
       have M59 := Mod.trans M42 (Mod.of_chg c58 (by simp))
       have M60 := Mod.trans M43 (Mod.of_chg c58 (by simp))
       obtain ⟨_, _, _, cg61, hg61, _⟩ := ORow.blk h56
       have hT53 := hN53 _ m57
       refine wnil ?_
       refine bodyPost_end (v := .tuple #[]) (res0 rfl ) (by kernel_rfl) ?_
       obtain ⟨D, hD, hM⟩ := hT53
       exact ⟨D, rfl, ORow.to h56 (by rw [hD]), hM, (Mod.chg M59)⟩
      have p21 := of_decide_eq_true (k19.trans v20)
      have q22 : sa < m := by omega
      have q23 : sa < m := by omega
      refine wl (sv (wt (b := b18) rfl (by kernel_rfl) v20) (v := .int .i64 ((m : Int))) (r_move (by kernel_rfl)) ?_)
      refine wl (sv (wt (b := b18) rfl (by kernel_rfl) v20) (v := .int .i64 ((((ia + ib) / 2 + m - sa : Nat) : Int))) (r_move (by kernel_rfl)) ?_)
      refine wl (sb (wt (b := b18) rfl (by kernel_rfl) v20) (r_lt (k := .i64) (m := ((m : Int))) (n := ((((ia + ib) / 2 + m - sa : Nat) : Int))) (by kernel_rfl) (by kernel_rfl)) ?_)
      intro b24 k25
      refine wl (sv rfl (v := .bool b24) (r_pkT (ebool (b := b18) (by kernel_rfl) v20) (by kernel_rfl)) ?_)
      refine wnil (then_n ?_)
      refine bcase b24 (fun v26 => ?_) (fun v26 => ?_)
      ·
       have p27 := of_decide_eq_false (k25.trans v26)
       refine wp_cond_false (ebool (b := b24) (by kernel_rfl) v26) ?_
       refine wp_skip (then_n (wp_seq (wp_seq (rg_lit ?_))))
       refine wmv (v := .int .i64 ((ia : Int))) ?_
       refine wmv (v := .int .i64 ((sa : Int))) ?_
       refine wl (sb rfl (r_lt (k := .i64) (m := ((ia : Int))) (n := ((sa : Int))) (by kernel_rfl) (by kernel_rfl)) ?_)
       intro b28 k29
       refine wmv (v := .bool b28) ?_
       refine bcase b28 (fun v30 => ?_) (fun v30 => ?_)
       ·
        have p31 := of_decide_eq_false (k29.trans v30)
        refine wl (sp (wf (b := b28) rfl (by kernel_rfl) v30) ?_)
        refine wl (sp (wf (b := b28) rfl (by kernel_rfl) v30) ?_)
        refine wl (sp (wf (b := b28) rfl (by kernel_rfl) v30) ?_)
        refine wl (sv rfl (v := .bool false) (r_pkF (ebool (b := b28) (by kernel_rfl) v30) (by kernel_rfl)) ?_)
        refine wnil (then_n ?_)
        refine wp_cond_false (by kernel_rfl) ?_
        refine wp_skip (then_n (wp_seq (rg_lit ?_)))
        refine wmv (v := .int .i64 ((((ia + ib) / 2 : Nat) : Int))) ?_
        refine wmv (v := .int .i64 ((((ia + ib) / 2 + m - sa : Nat) : Int))) ?_
        refine wl (sb rfl (r_lt (k := .i64) (m := ((((ia + ib) / 2 : Nat) : Int))) (n := ((((ia + ib) / 2 + m - sa : Nat) : Int))) (by kernel_rfl) (by kernel_rfl)) ?_)
        intro b32 k33
        refine wmv (v := .bool b32) ?_
        refine bcase b32 (fun v34 => ?_) (fun v34 => ?_)
        ·
         have p35 := of_decide_eq_false (k33.trans v34)
         refine wl (sp (wf (b := b32) rfl (by kernel_rfl) v34) ?_)
         refine wl (sp (wf (b := b32) rfl (by kernel_rfl) v34) ?_)
         refine wl (sp (wf (b := b32) rfl (by kernel_rfl) v34) ?_)
         refine wl (sv rfl (v := .bool false) (r_pkF (ebool (b := b32) (by kernel_rfl) v34) (by kernel_rfl)) ?_)
         refine wnil (then_n ?_)
         refine wp_cond_false (by kernel_rfl) ?_
         refine wp_skip ?_
         refine bodyPost_end (v := .tuple #[]) (res0 rfl ) (by kernel_rfl) ?_
         have h36 := (ORow.up h (Mod.up hM1))
         have hq37 : SymS f (pre ++ (A ++ (Bb ++ post))) ((ia + ib) / 2 + m) ia m sa sa := by have h0 := hF1_0; rw [show ra = sa by omega] at h0; exact h0
         have hT37 := SymS.fin hq37 rfl ha hm hb rfl rfl (by omega) hAs hBs hAB
         obtain ⟨ht1, ht2, ht3, ht4, ht5⟩ := Sym1.len hT37
         have hT38 := Sym1.skip (mid := (ia + ib) / 2) hT37 (by omega) (by omega)
         have hT39 := Sym2.skip hT38 (by omega) hAs hBs
         obtain ⟨D, hD, hM⟩ := Sym3.skip hT39 (by omega) hAs hBs
         exact ⟨D, rfl, ORow.to h36 (by rw [hD]), hM, (to_chg (Mod.up M13) g)⟩
        have p35 := of_decide_eq_true (k33.trans v34)
        refine wl (sv (wt (b := b32) rfl (by kernel_rfl) v34) (v := .int .i64 ((((ia + ib) / 2 + m - sa : Nat) : Int))) (r_move (by kernel_rfl)) ?_)
        refine wl (sv (wt (b := b32) rfl (by kernel_rfl) v34) (v := .int .i64 ((ib : Int))) (r_move (by kernel_rfl)) ?_)
        refine wl (sb (wt (b := b32) rfl (by kernel_rfl) v34) (r_lt (k := .i64) (m := ((((ia + ib) / 2 + m - sa : Nat) : Int))) (n := ((ib : Int))) (by kernel_rfl) (by kernel_rfl)) ?_)
        intro b36 k37
        refine wl (sv rfl (v := .bool b36) (r_pkT (ebool (b := b32) (by kernel_rfl) v34) (by kernel_rfl)) ?_)
        refine wnil (then_n ?_)
        refine bcase b36 (fun v38 => ?_) (fun v38 => ?_)
        ·
         have p39 := of_decide_eq_false (k37.trans v38)
         refine wp_cond_false (ebool (b := b36) (by kernel_rfl) v38) ?_
         refine wp_skip ?_
         refine bodyPost_end (v := .tuple #[]) (res0 rfl ) (by kernel_rfl) ?_
         have h40 := (ORow.up h (Mod.up hM1))
         have hq41 : SymS f (pre ++ (A ++ (Bb ++ post))) ((ia + ib) / 2 + m) ia m sa sa := by have h0 := hF1_0; rw [show ra = sa by omega] at h0; exact h0
         have hT41 := SymS.fin hq41 rfl ha hm hb rfl rfl (by omega) hAs hBs hAB
         obtain ⟨ht1, ht2, ht3, ht4, ht5⟩ := Sym1.len hT41
         have hT42 := Sym1.skip (mid := (ia + ib) / 2) hT41 (by omega) (by omega)
         have hT43 := Sym2.skip hT42 (by omega) hAs hBs
         obtain ⟨D, hD, hM⟩ := Sym3.skip hT43 (by omega) hAs hBs
         exact ⟨D, rfl, ORow.to h40 (by rw [hD]), hM, (to_chg (Mod.up M13) g)⟩
        have p39 := of_decide_eq_true (k37.trans v38)
        refine wp_cond_true (ebool (b := b36) (by kernel_rfl) v38) ?_
        refine rg_lit ?_
        refine wmv (v := .slice (some ⟨g, 0, none⟩) nn c) ?_
        refine wmv (v := .int .i64 ((((ia + ib) / 2 : Nat) : Int))) ?_
        refine wmv (v := .int .i64 ((((ia + ib) / 2 + m - sa : Nat) : Int))) ?_
        refine wmv (v := .int .i64 ((ib : Int))) ?_
        refine wmv (v := .func (.func 115) #[] #[]) ?_
        have hq41 : SymS f (pre ++ (A ++ (Bb ++ post))) ((ia + ib) / 2 + m) ia m sa sa := by have h0 := hF1_0; rw [show ra = sa by omega] at h0; exact h0
        have hT41 := SymS.fin hq41 rfl ha hm hb rfl rfl (by omega) hAs hBs hAB
        obtain ⟨ht1, ht2, ht3, ht4, ht5⟩ := Sym1.len hT41
        have hT42 := Sym1.skip (mid := (ia + ib) / 2) hT41 (by omega) (by omega)
        have hT43 := Sym2.skip hT42 (by omega) hAs hBs
        obtain ⟨p40, X40, Y40, hI40, hp40, hX40, hY40, hsX40, hsY40, hXY40, hN40⟩ := Sym3.half hT43 hAs hBs hAB
        have h44 := md_ob M13 nin0 hg
        have h45 := (ORow.up h (Mod.up hM1))
        have ho40 := ORow.to h45 (congrArg (List.map f) hI40)
        refine wl (sc rfl (r_callv (caps := []) (all := [.slice (some ⟨g, 0, none⟩) nn c, .int .i64 ((((ia + ib) / 2 : Nat) : Int)), .int .i64 ((((ia + ib) / 2 + m - sa : Nat) : Int)), .int .i64 ((ib : Int)), .func (.func 115) #[] #[]]) En.f201 (by kernel_rfl) (by kernel_rfl)) (ih (by omega) ho40 hBb hn hp40 (by omega) (by omega) (by omega) (by omega) hsX40 hsY40 hXY40) ?_)
        rintro e w46 ⟨D47, rfl, h48, m49, c50⟩
        refine ⟨.tuple #[], rfl, ?_⟩
        have M51 := md_old M13 c50
        have M52 := md_old hM1 c50
        obtain ⟨_, _, _, cg53, hg53, _⟩ := ORow.blk h48
        have hT40 := hN40 _ m49
        refine wnil ?_
        refine bodyPost_end (v := .tuple #[]) (res0 rfl ) (by kernel_rfl) ?_
        obtain ⟨D, hD, hM⟩ := hT40
        exact ⟨D, rfl, ORow.to h48 (by rw [hD]), hM, (Mod.chg M51)⟩
       have p31 := of_decide_eq_true (k29.trans v30)
       have q32 : ia < sa := by omega
       have q33 : ia < sa := by omega
       refine wl (sv (wt (b := b28) rfl (by kernel_rfl) v30) (v := .int .i64 ((sa : Int))) (r_move (by kernel_rfl)) ?_)
       refine wl (sv (wt (b := b28) rfl (by kernel_rfl) v30) (v := .int .i64 ((((ia + ib) / 2 : Nat) : Int))) (r_move (by kernel_rfl)) ?_)
       refine wl (sb (wt (b := b28) rfl (by kernel_rfl) v30) (r_lt (k := .i64) (m := ((sa : Int))) (n := ((((ia + ib) / 2 : Nat) : Int))) (by kernel_rfl) (by kernel_rfl)) ?_)
       intro b34 k35
       refine wl (sv rfl (v := .bool b34) (r_pkT (ebool (b := b28) (by kernel_rfl) v30) (by kernel_rfl)) ?_)
       refine wnil (then_n ?_)
       refine bcase b34 (fun v36 => ?_) (fun v36 => ?_)
       ·
        have p37 := of_decide_eq_false (k35.trans v36)
        refine wp_cond_false (ebool (b := b34) (by kernel_rfl) v36) ?_
        refine wp_skip (then_n (wp_seq (rg_lit ?_)))
        refine wmv (v := .int .i64 ((((ia + ib) / 2 : Nat) : Int))) ?_
        refine wmv (v := .int .i64 ((((ia + ib) / 2 + m - sa : Nat) : Int))) ?_
        refine wl (sb rfl (r_lt (k := .i64) (m := ((((ia + ib) / 2 : Nat) : Int))) (n := ((((ia + ib) / 2 + m - sa : Nat) : Int))) (by kernel_rfl) (by kernel_rfl)) ?_)
        intro b38 k39
        refine wmv (v := .bool b38) ?_
        refine bcase b38 (fun v40 => ?_) (fun v40 => ?_)
        ·
         have p41 := of_decide_eq_false (k39.trans v40)
         refine wl (sp (wf (b := b38) rfl (by kernel_rfl) v40) ?_)
         refine wl (sp (wf (b := b38) rfl (by kernel_rfl) v40) ?_)
         refine wl (sp (wf (b := b38) rfl (by kernel_rfl) v40) ?_)
         refine wl (sv rfl (v := .bool false) (r_pkF (ebool (b := b38) (by kernel_rfl) v40) (by kernel_rfl)) ?_)
         refine wnil (then_n ?_)
         refine wp_cond_false (by kernel_rfl) ?_
         refine wp_skip ?_
         refine bodyPost_end (v := .tuple #[]) (res0 rfl ) (by kernel_rfl) ?_
         have h42 := (ORow.up h (Mod.up hM1))
         have hq43 : SymS f (pre ++ (A ++ (Bb ++ post))) ((ia + ib) / 2 + m) ia m sa sa := by have h0 := hF1_0; rw [show ra = sa by omega] at h0; exact h0
         have hT43 := SymS.fin hq43 rfl ha hm hb rfl rfl (by omega) hAs hBs hAB
         obtain ⟨ht1, ht2, ht3, ht4, ht5⟩ := Sym1.len hT43
         have hT44 := Sym1.skip (mid := (ia + ib) / 2) hT43 (by omega) (by omega)
         have hT45 := Sym2.skip hT44 (by omega) hAs hBs
         obtain ⟨D, hD, hM⟩ := Sym3.skip hT45 (by omega) hAs hBs
         exact ⟨D, rfl, ORow.to h42 (by rw [hD]), hM, (to_chg (Mod.up M13) g)⟩
        have p41 := of_decide_eq_true (k39.trans v40)
        refine wl (sv (wt (b := b38) rfl (by kernel_rfl) v40) (v := .int .i64 ((((ia + ib) / 2 + m - sa : Nat) : Int))) (r_move (by kernel_rfl)) ?_)
        refine wl (sv (wt (b := b38) rfl (by kernel_rfl) v40) (v := .int .i64 ((ib : Int))) (r_move (by kernel_rfl)) ?_)
        refine wl (sb (wt (b := b38) rfl (by kernel_rfl) v40) (r_lt (k := .i64) (m := ((((ia + ib) / 2 + m - sa : Nat) : Int))) (n := ((ib : Int))) (by kernel_rfl) (by kernel_rfl)) ?_)
        intro b42 k43
        refine wl (sv rfl (v := .bool b42) (r_pkT (ebool (b := b38) (by kernel_rfl) v40) (by kernel_rfl)) ?_)
        refine wnil (then_n ?_)
        refine bcase b42 (fun v44 => ?_) (fun v44 => ?_)
        ·
         have p45 := of_decide_eq_false (k43.trans v44)
         refine wp_cond_false (ebool (b := b42) (by kernel_rfl) v44) ?_
         refine wp_skip ?_
         refine bodyPost_end (v := .tuple #[]) (res0 rfl ) (by kernel_rfl) ?_
         have h46 := (ORow.up h (Mod.up hM1))
         have hq47 : SymS f (pre ++ (A ++ (Bb ++ post))) ((ia + ib) / 2 + m) ia m sa sa := by have h0 := hF1_0; rw [show ra = sa by omega] at h0; exact h0
         have hT47 := SymS.fin hq47 rfl ha hm hb rfl rfl (by omega) hAs hBs hAB
         obtain ⟨ht1, ht2, ht3, ht4, ht5⟩ := Sym1.len hT47
         have hT48 := Sym1.skip (mid := (ia + ib) / 2) hT47 (by omega) (by omega)
         have hT49 := Sym2.skip hT48 (by omega) hAs hBs
         obtain ⟨D, hD, hM⟩ := Sym3.skip hT49 (by omega) hAs hBs
         exact ⟨D, rfl, ORow.to h46 (by rw [hD]), hM, (to_chg (Mod.up M13) g)⟩
        have p45 := of_decide_eq_true (k43.trans v44)
        refine wp_cond_true (ebool (b := b42) (by kernel_rfl) v44) ?_
        refine rg_lit ?_
        refine wmv (v := .slice (some ⟨g, 0, none⟩) nn c) ?_
        refine wmv (v := .int .i64 ((((ia + ib) / 2 : Nat) : Int))) ?_
        refine wmv (v := .int .i64 ((((ia + ib) / 2 + m - sa : Nat) : Int))) ?_
        refine wmv (v := .int .i64 ((ib : Int))) ?_
        refine wmv (v := .func (.func 115) #[] #[]) ?_
        have hq47 : SymS f (pre ++ (A ++ (Bb ++ post))) ((ia + ib) / 2 + m) ia m sa sa := by have h0 := hF1_0; rw [show ra = sa by omega] at h0; exact h0
        have hT47 := SymS.fin hq47 rfl ha hm hb rfl rfl (by omega) hAs hBs hAB
        obtain ⟨ht1, ht2, ht3, ht4, ht5⟩ := Sym1.len hT47
        have hT48 := Sym1.skip (mid := (ia + ib) / 2) hT47 (by omega) (by omega)
        have hT49 := Sym2.skip hT48 (by omega) hAs hBs
        obtain ⟨p46, X46, Y46, hI46, hp46, hX46, hY46, hsX46, hsY46, hXY46, hN46⟩ := Sym3.half hT49 hAs hBs hAB
        have h50 := md_ob M13 nin0 hg
        have h51 := (ORow.up h (Mod.up hM1))
        have ho46 := ORow.to h51 (congrArg (List.map f) hI46)
        refine wl (sc rfl (r_callv (caps := []) (all := [.slice (some ⟨g, 0, none⟩) nn c, .int .i64 ((((ia + ib) / 2 : Nat) : Int)), .int .i64 ((((ia + ib) / 2 + m - sa : Nat) : Int)), .int .i64 ((ib : Int)), .func (.func 115) #[] #[]]) En.f201 (by kernel_rfl) (by kernel_rfl)) (ih (by omega) ho46 hBb hn hp46 (by omega) (by omega) (by omega) (by omega) hsX46 hsY46 hXY46) ?_)
        rintro e w52 ⟨D53, rfl, h54, m55, c56⟩
        refine ⟨.tuple #[], rfl, ?_⟩
        have M57 := md_old M13 c56
        have M58 := md_old hM1 c56
        obtain ⟨_, _, _, cg59, hg59, _⟩ := ORow.blk h54
        have hT46 := hN46 _ m55
        refine wnil ?_
        refine bodyPost_end (v := .tuple #[]) (res0 rfl ) (by kernel_rfl) ?_
        obtain ⟨D, hD, hM⟩ := hT46
        exact ⟨D, rfl, ORow.to h54 (by rw [hD]), hM, (Mod.chg M57)⟩
       have p37 := of_decide_eq_true (k35.trans v36)
       refine wp_cond_true (ebool (b := b34) (by kernel_rfl) v36) ?_
       refine rg_lit ?_
       refine wmv (v := .slice (some ⟨g, 0, none⟩) nn c) ?_
       refine wmv (v := .int .i64 ((ia : Int))) ?_
       refine wmv (v := .int .i64 ((sa : Int))) ?_
       refine wmv (v := .int .i64 ((((ia + ib) / 2 : Nat) : Int))) ?_
       refine wmv (v := .func (.func 115) #[] #[]) ?_
       have hq39 : SymS f (pre ++ (A ++ (Bb ++ post))) ((ia + ib) / 2 + m) ia m sa sa := by have h0 := hF1_0; rw [show ra = sa by omega] at h0; exact h0
       have hT39 := SymS.fin hq39 rfl ha hm hb rfl rfl (by omega) hAs hBs hAB
       obtain ⟨ht1, ht2, ht3, ht4, ht5⟩ := Sym1.len hT39
       have hT40 := Sym1.skip (mid := (ia + ib) / 2) hT39 (by omega) (by omega)
       obtain ⟨X38, Y38, q38, hI38, hX38, hY38, hsX38, hsY38, hXY38, hN38⟩ := Sym2.half hT40 hAs hBs hAB
       have h41 := md_ob M13 nin0 hg
       have h42 := (ORow.up h (Mod.up hM1))
       have ho38 := ORow.to h42 (congrArg (List.map f) hI38)
       refine wl (sc rfl (r_callv (caps := []) (all := [.slice (some ⟨g, 0, none⟩) nn c, .int .i64 ((ia : Int)), .int .i64 ((sa : Int)), .int .i64 ((((ia + ib) / 2 : Nat) : Int)), .func (.func 115) #[] #[]]) En.f201 (by kernel_rfl) (by kernel_rfl)) (ih (by omega) ho38 hBb hn ha (by omega) (by omega) (by omega) (by omega) hsX38 hsY38 hXY38) ?_)
       rintro e w43 ⟨D44, rfl, h45, m46, c47⟩
       refine ⟨.tuple #[], rfl, ?_⟩
       have M48 := md_old M13 c47
       have M49 := md_old hM1 c47
       obtain ⟨_, _, _, cg50, hg50, _⟩ := ORow.blk h45
       have hT38 := hN38 _ m46
       refine wnil (then_n (wp_seq (rg_lit ?_)))
       refine wmv (v := .int .i64 ((((ia + ib) / 2 : Nat) : Int))) ?_
       refine wmv (v := .int .i64 ((((ia + ib) / 2 + m - sa : Nat) : Int))) ?_
       refine wl (sb rfl (r_lt (k := .i64) (m := ((((ia + ib) / 2 : Nat) : Int))) (n := ((((ia + ib) / 2 + m - sa : Nat) : Int))) (by kernel_rfl) (by kernel_rfl)) ?_)
       intro b51 k52
       refine wmv (v := .bool b51) ?_
       refine bcase b51 (fun v53 => ?_) (fun v53 => ?_)
       ·
        have p54 := of_decide_eq_false (k52.trans v53)
        refine wl (sp (wf (b := b51) rfl (by kernel_rfl) v53) ?_)
        refine wl (sp (wf (b := b51) rfl (by kernel_rfl) v53) ?_)
        refine wl (sp (wf (b := b51) rfl (by kernel_rfl) v53) ?_)
        refine wl (sv rfl (v := .bool false) (r_pkF (ebool (b := b51) (by kernel_rfl) v53) (by kernel_rfl)) ?_)
        refine wnil (then_n ?_)
        refine wp_cond_false (by kernel_rfl) ?_
        refine wp_skip ?_
        refine bodyPost_end (v := .tuple #[]) (res0 rfl ) (by kernel_rfl) ?_
        obtain ⟨D, hD, hM⟩ := Sym3.skip hT38 (by omega) hAs hBs
        exact ⟨D, rfl, ORow.to h45 (by rw [hD]), hM, (Mod.chg M48)⟩
       have p54 := of_decide_eq_true (k52.trans v53)
       refine wl (sv (wt (b := b51) rfl (by kernel_rfl) v53) (v := .int .i64 ((((ia + ib) / 2 + m - sa : Nat) : Int))) (r_move (by kernel_rfl)) ?_)
       refine wl (sv (wt (b := b51) rfl (by kernel_rfl) v53) (v := .int .i64 ((ib : Int))) (r_move (by kernel_rfl)) ?_)
       refine wl (sb (wt (b := b51) rfl (by kernel_rfl) v53) (r_lt (k := .i64) (m := ((((ia + ib) / 2 + m - sa : Nat) : Int))) (n := ((ib : Int))) (by kernel_rfl) (by kernel_rfl)) ?_)
       intro b55 k56
       refine wl (sv rfl (v := .bool b55) (r_pkT (ebool (b := b51) (by kernel_rfl) v53) (by kernel_rfl)) ?_)
       refine wnil (then_n ?_)
       refine bcase b55 (fun v57 => ?_) (fun v57 => ?_)
       ·
        have p58 := of_decide_eq_false (k56.trans v57)
        refine wp_cond_false (ebool (b := b55) (by kernel_rfl) v57) ?_
        refine wp_skip ?_
        refine bodyPost_end (v := .tuple #[]) (res0 rfl ) (by kernel_rfl) ?_
        obtain ⟨D, hD, hM⟩ := Sym3.skip hT38 (by omega) hAs hBs
        exact ⟨D, rfl, ORow.to h45 (by rw [hD]), hM, (Mod.chg M48)⟩
       have p58 := of_decide_eq_true (k56.trans v57)
       refine wp_cond_true (ebool (b := b55) (by kernel_rfl) v57) ?_
       refine rg_lit ?_
       refine wmv (v := .slice (some ⟨g, 0, none⟩) nn c) ?_
       refine wmv (v := .int .i64 ((((ia + ib) / 2 : Nat) : Int))) ?_
       refine wmv (v := .int .i64 ((((ia + ib) / 2 + m - sa : Nat) : Int))) ?_
       refine wmv (v := .int .i64 ((ib : Int))) ?_
       refine wmv (v := .func (.func 115) #[] #[]) ?_
       obtain ⟨p59, X59, Y59, hI59, hp59, hX59, hY59, hsX59, hsY59, hXY59, hN59⟩ := Sym3.half hT38 hAs hBs hAB
       have ho59 := ORow.to h45 (congrArg (List.map f) hI59)
       refine wl (sc rfl (r_callv (caps := []) (all := [.slice (some ⟨g, 0, none⟩) nn c, .int .i64 ((((ia + ib) / 2 : Nat) : Int)), .int .i64 ((((ia + ib) / 2 + m - sa : Nat) : Int)), .int .i64 ((ib : Int)), .func (.func 115) #[] #[]]) En.f201 (by kernel_rfl) (by kernel_rfl)) (ih (by omega) ho59 hBb hn hp59 (by omega) (by omega) (by omega) (by omega) hsX59 hsY59 hXY59) ?_)
       rintro e w60 ⟨D61, rfl, h62, m63, c64⟩
       refine ⟨.tuple #[], rfl, ?_⟩
       have M65 := Mod.trans M48 (Mod.of_chg c64 (by simp))
       have M66 := Mod.trans M49 (Mod.of_chg c64 (by simp))
       obtain ⟨_, _, _, cg67, hg67, _⟩ := ORow.blk h62
       have hT59 := hN59 _ m63
       refine wnil ?_
       refine bodyPost_end (v := .tuple #[]) (res0 rfl ) (by kernel_rfl) ?_
       obtain ⟨D, hD, hM⟩ := hT59
       exact ⟨D, rfl, ORow.to h62 (by rw [hD]), hM, (Mod.chg M65)⟩
      have p27 := of_decide_eq_true (k25.trans v26)
      refine wp_cond_true (ebool (b := b24) (by kernel_rfl) v26) ?_
      refine rg_lit ?_
      refine wmv (v := .slice (some ⟨g, 0, none⟩) nn c) ?_
      refine wmv (v := .int .i64 ((sa : Int))) ?_
      refine wmv (v := .int .i64 ((m : Int))) ?_
      refine wmv (v := .int .i64 ((((ia + ib) / 2 + m - sa : Nat) : Int))) ?_
      refine wmv (v := .func (.func 115) #[] #[]) ?_
      have hq28 : SymS f (pre ++ (A ++ (Bb ++ post))) ((ia + ib) / 2 + m) ia m sa sa := by have h0 := hF1_0; rw [show ra = sa by omega] at h0; exact h0
      have hT28 := SymS.fin hq28 rfl ha hm hb rfl rfl (by omega) hAs hBs hAB
      obtain ⟨ht1, ht2, ht3, ht4, ht5⟩ := Sym1.len hT28
      have h30 := md_ob M13 nin0 hg
      have h31 := (ORow.up h (Mod.up hM1))
      obtain ⟨p29, X29, Y29, q29, hI29, hp29, hX29, hY29, hT29⟩ := Sym1.turn (mid := (ia + ib) / 2) hT28 (by omega)
      have ho29 := ORow.to h31 (congrArg (List.map f) hI29)
      refine wl (sc rfl (r_callv (caps := []) (all := [.slice (some ⟨g, 0, none⟩) nn c, .int .i64 ((sa : Int)), .int .i64 ((m : Int)), .int .i64 ((((ia + ib) / 2 + m - sa : Nat) : Int)), .func (.func 115) #[] #[]]) En.f230 (by kernel_rfl) (by kernel_rfl)) (rotate_at ho29 hBb hn hp29 (by omega) (by omega) (by omega) (by omega)) ?_)
      rintro e w32 ⟨rfl, h33, c34⟩
      refine ⟨.tuple #[], rfl, ?_⟩
      have M35 := md_old M13 c34
      have M36 := md_old hM1 c34
      obtain ⟨_, _, _, cg37, hg37, _⟩ := ORow.blk h33
      refine wnil (then_n (wp_seq (wp_seq (rg_lit ?_))))
      refine wmv (v := .int .i64 ((ia : Int))) ?_
      refine wmv (v := .int .i64 ((sa : Int))) ?_
      refine wl (sb rfl (r_lt (k := .i64) (m := ((ia : Int))) (n := ((sa : Int))) (by kernel_rfl) (by kernel_rfl)) ?_)
      intro b38 k39
      refine wmv (v := .bool b38) ?_
      refine bcase b38 (fun v40 => ?_) (fun v40 => ?_)
      ·
       have p41 := of_decide_eq_false (k39.trans v40)
       refine wl (sp (wf (b := b38) rfl (by kernel_rfl) v40) ?_)
       refine wl (sp (wf (b := b38) rfl (by kernel_rfl) v40) ?_)
       refine wl (sp (wf (b := b38) rfl (by kernel_rfl) v40) ?_)
       refine wl (sv rfl (v := .bool false) (r_pkF (ebool (b := b38) (by kernel_rfl) v40) (by kernel_rfl)) ?_)
       refine wnil (then_n ?_)
       refine wp_cond_false (by kernel_rfl) ?_
       refine wp_skip (then_n (wp_seq (rg_lit ?_)))
       refine wmv (v := .int .i64 ((((ia + ib) / 2 : Nat) : Int))) ?_
       refine wmv (v := .int .i64 ((((ia + ib) / 2 + m - sa : Nat) : Int))) ?_
       refine wl (sb rfl (r_lt (k := .i64) (m := ((((ia + ib) / 2 : Nat) : Int))) (n := ((((ia + ib) / 2 + m - sa : Nat) : Int))) (by kernel_rfl) (by kernel_rfl)) ?_)
       intro b42 k43
       refine wmv (v := .bool b42) ?_
       refine bcase b42 (fun v44 => ?_) (fun v44 => ?_)
       ·
        have p45 := of_decide_eq_false (k43.trans v44)
        refine wl (sp (wf (b := b42) rfl (by kernel_rfl) v44) ?_)
        refine wl (sp (wf (b := b42) rfl (by kernel_rfl) v44) ?_)
        refine wl (sp (wf (b := b42) rfl (by kernel_rfl) v44) ?_)
        refine wl (sv rfl (v := .bool false) (r_pkF (ebool (b := b42) (by kernel_rfl) v44) (by kernel_rfl)) ?_)
        refine wnil (then_n ?_)
        refine wp_cond_false (by kernel_rfl) ?_
        refine wp_skip ?_
        refine bodyPost_end (v := .tuple #[]) (res0 rfl ) (by kernel_rfl) ?_
        have hT46 := Sym2.skip hT29 (by omega) hAs hBs
        obtain ⟨D, hD, hM⟩ := Sym3.skip hT46 (by omega) hAs hBs
        exact ⟨D, rfl, ORow.to h33 (by rw [hD]), hM, (Mod.chg M35)⟩
       have p45 := of_decide_eq_true (k43.trans v44)
       refine wl (sv (wt (b := b42) rfl (by kernel_rfl) v44) (v := .int .i64 ((((ia + ib) / 2 + m - sa : Nat) : Int))) (r_move (by kernel_rfl)) ?_)
       refine wl (sv (wt (b := b42) rfl (by kernel_rfl) v44) (v := .int .i64 ((ib : Int))) (r_move (by kernel_rfl)) ?_)
       refine wl (sb (wt (b := b42) rfl (by kernel_rfl) v44) (r_lt (k := .i64) (m := ((((ia + ib) / 2 + m - sa : Nat) : Int))) (n := ((ib : Int))) (by kernel_rfl) (by kernel_rfl)) ?_)
       intro b46 k47
       refine wl (sv rfl (v := .bool b46) (r_pkT (ebool (b := b42) (by kernel_rfl) v44) (by kernel_rfl)) ?_)
       refine wnil (then_n ?_)
       refine bcase b46 (fun v48 => ?_) (fun v48 => ?_)
       ·
        have p49 := of_decide_eq_false (k47.trans v48)
        refine wp_cond_false (ebool (b := b46) (by kernel_rfl) v48) ?_
        refine wp_skip ?_
        refine bodyPost_end (v := .tuple #[]) (res0 rfl ) (by kernel_rfl) ?_
        have hT50 := Sym2.skip hT29 (by omega) hAs hBs
        obtain ⟨D, hD, hM⟩ := Sym3.skip hT50 (by omega) hAs hBs
        exact ⟨D, rfl, ORow.to h33 (by rw [hD]), hM, (Mod.chg M35)⟩
       have p49 := of_decide_eq_true (k47.trans v48)
       refine wp_cond_true (ebool (b := b46) (by kernel_rfl) v48) ?_
       refine rg_lit ?_
       refine wmv (v := .slice (some ⟨g, 0, none⟩) nn c) ?_
       refine wmv (v := .int .i64 ((((ia + ib) / 2 : Nat) : Int))) ?_
       refine wmv (v := .int .i64 ((((ia + ib) / 2 + m - sa : Nat) : Int))) ?_
       refine wmv (v := .int .i64 ((ib : Int))) ?_
       refine wmv (v := .func (.func 115) #[] #[]) ?_
       have hT51 := Sym2.skip hT29 (by omega) hAs hBs
       obtain ⟨p50, X50, Y50, hI50, hp50, hX50, hY50, hsX50, hsY50, hXY50, hN50⟩ := Sym3.half hT51 hAs hBs hAB
       have ho50 := ORow.to h33 (congrArg (List.map f) hI50)
       refine wl (sc rfl (r_callv (caps := []) (all := [.slice (some ⟨g, 0, none⟩) nn c, .int .i64 ((((ia + ib) / 2 : Nat) : Int)), .int .i64 ((((ia + ib) / 2 + m - sa : Nat) : Int)), .int .i64 ((ib : Int)), .func (.func 115) #[] #[]]) En.f201 (by kernel_rfl) (by kernel_rfl)) (ih (by omega) ho50 hBb hn hp50 (by omega) (by omega) (by omega) (by omega) hsX50 hsY50 hXY50) ?_)
       rintro e w52 ⟨D53, rfl, h54, m55, c56⟩
       refine ⟨.tuple #[], rfl, ?_⟩
       have M57 := Mod.trans M35 (Mod.of_chg c56 (by simp))
       have M58 := Mod.trans M36 (Mod.of_chg c56 (by simp))
       obtain ⟨_, _, _, cg59, hg59, _⟩ := ORow.blk h54
       have hT50 := hN50 _ m55
       refine wnil ?_
       refine bodyPost_end (v := .tuple #[]) (res0 rfl ) (by kernel_rfl) ?_
       obtain ⟨D, hD, hM⟩ := hT50
       exact ⟨D, rfl, ORow.to h54 (by rw [hD]), hM, (Mod.chg M57)⟩
      have p41 := of_decide_eq_true (k39.trans v40)
      have q42 : ia < sa := by omega
      have q43 : ia < sa := by omega
      refine wl (sv (wt (b := b38) rfl (by kernel_rfl) v40) (v := .int .i64 ((sa : Int))) (r_move (by kernel_rfl)) ?_)
      refine wl (sv (wt (b := b38) rfl (by kernel_rfl) v40) (v := .int .i64 ((((ia + ib) / 2 : Nat) : Int))) (r_move (by kernel_rfl)) ?_)
      refine wl (sb (wt (b := b38) rfl (by kernel_rfl) v40) (r_lt (k := .i64) (m := ((sa : Int))) (n := ((((ia + ib) / 2 : Nat) : Int))) (by kernel_rfl) (by kernel_rfl)) ?_)
      intro b44 k45
      refine wl (sv rfl (v := .bool b44) (r_pkT (ebool (b := b38) (by kernel_rfl) v40) (by kernel_rfl)) ?_)
      refine wnil (then_n ?_)
      refine bcase b44 (fun v46 => ?_) (fun v46 => ?_)
      ·
       have p47 := of_decide_eq_false (k45.trans v46)
       refine wp_cond_false (ebool (b := b44) (by kernel_rfl) v46) ?_
       refine wp_skip (then_n (wp_seq (rg_lit ?_)))
       refine wmv (v := .int .i64 ((((ia + ib) / 2 : Nat) : Int))) ?_
       refine wmv (v := .int .i64 ((((ia + ib) / 2 + m - sa : Nat) : Int))) ?_
       refine wl (sb rfl (r_lt (k := .i64) (m := ((((ia + ib) / 2 : Nat) : Int))) (n := ((((ia + ib) / 2 + m - sa : Nat) : Int))) (by kernel_rfl) (by kernel_rfl)) ?_)
       intro b48 k49
       refine wmv (v := .bool b48) ?_
       refine bcase b48 (fun v50 => ?_) (fun v50 => ?_)
       ·
        have p51 := of_decide_eq_false (k49.trans v50)
        refine wl (sp (wf (b := b48) rfl (by kernel_rfl) v50) ?_)
        refine wl (sp (wf (b := b48) rfl (by kernel_rfl) v50) ?_)
        refine wl (sp (wf (b := b48) rfl (by kernel_rfl) v50) ?_)
        refine wl (sv rfl (v := .bool false) (r_pkF (ebool (b := b48) (by kernel_rfl) v50) (by kernel_rfl)) ?_)
        refine wnil (then_n ?_)
        refine wp_cond_false (by kernel_rfl) ?_
        refine wp_skip ?_
        refine bodyPost_end (v := .tuple #[]) (res0 rfl ) (by kernel_rfl) ?_
        have hT52 := Sym2.skip hT29 (by omega) hAs hBs
        obtain ⟨D, hD, hM⟩ := Sym3.skip hT52 (by omega) hAs hBs
        exact ⟨D, rfl, ORow.to h33 (by rw [hD]), hM, (Mod.chg M35)⟩
       have p51 := of_decide_eq_true (k49.trans v50)
       refine wl (sv (wt (b := b48) rfl (by kernel_rfl) v50) (v := .int .i64 ((((ia + ib) / 2 + m - sa : Nat) : Int))) (r_move (by kernel_rfl)) ?_)
       refine wl (sv (wt (b := b48) rfl (by kernel_rfl) v50) (v := .int .i64 ((ib : Int))) (r_move (by kernel_rfl)) ?_)
       refine wl (sb (wt (b := b48) rfl (by kernel_rfl) v50) (r_lt (k := .i64) (m := ((((ia + ib) / 2 + m - sa : Nat) : Int))) (n := ((ib : Int))) (by kernel_rfl) (by kernel_rfl)) ?_)
       intro b52 k53
       refine wl (sv rfl (v := .bool b52) (r_pkT (ebool (b := b48) (by kernel_rfl) v50) (by kernel_rfl)) ?_)
       refine wnil (then_n ?_)
       refine bcase b52 (fun v54 => ?_) (fun v54 => ?_)
       ·
        have p55 := of_decide_eq_false (k53.trans v54)
        refine wp_cond_false (ebool (b := b52) (by kernel_rfl) v54) ?_
        refine wp_skip ?_
        refine bodyPost_end (v := .tuple #[]) (res0 rfl ) (by kernel_rfl) ?_
        have hT56 := Sym2.skip hT29 (by omega) hAs hBs
        obtain ⟨D, hD, hM⟩ := Sym3.skip hT56 (by omega) hAs hBs
        exact ⟨D, rfl, ORow.to h33 (by rw [hD]), hM, (Mod.chg M35)⟩
       have p55 := of_decide_eq_true (k53.trans v54)
       refine wp_cond_true (ebool (b := b52) (by kernel_rfl) v54) ?_
       refine rg_lit ?_
       refine wmv (v := .slice (some ⟨g, 0, none⟩) nn c) ?_
       refine wmv (v := .int .i64 ((((ia + ib) / 2 : Nat) : Int))) ?_
       refine wmv (v := .int .i64 ((((ia + ib) / 2 + m - sa : Nat) : Int))) ?_
       refine wmv (v := .int .i64 ((ib : Int))) ?_
       refine wmv (v := .func (.func 115) #[] #[]) ?_
       have hT57 := Sym2.skip hT29 (by omega) hAs hBs
       obtain ⟨p56, X56, Y56, hI56, hp56, hX56, hY56, hsX56, hsY56, hXY56, hN56⟩ := Sym3.half hT57 hAs hBs hAB
       have ho56 := ORow.to h33 (congrArg (List.map f) hI56)
       refine wl (sc rfl (r_callv (caps := []) (all := [.slice (some ⟨g, 0, none⟩) nn c, .int .i64 ((((ia + ib) / 2 : Nat) : Int)), .int .i64 ((((ia + ib) / 2 + m - sa : Nat) : Int)), .int .i64 ((ib : Int)), .func (.func 115) #[] #[]]) En.f201 (by kernel_rfl) (by kernel_rfl)) (ih (by omega) ho56 hBb hn hp56 (by omega) (by omega) (by omega) (by omega) hsX56 hsY56 hXY56) ?_)
       rintro e w58 ⟨D59, rfl, h60, m61, c62⟩
       refine ⟨.tuple #[], rfl, ?_⟩
       have M63 := Mod.trans M35 (Mod.of_chg c62 (by simp))
       have M64 := Mod.trans M36 (Mod.of_chg c62 (by simp))
       obtain ⟨_, _, _, cg65, hg65, _⟩ := ORow.blk h60
       have hT56 := hN56 _ m61
       refine wnil ?_
       refine bodyPost_end (v := .tuple #[]) (res0 rfl ) (by kernel_rfl) ?_
       obtain ⟨D, hD, hM⟩ := hT56
       exact ⟨D, rfl, ORow.to h60 (by rw [hD]), hM, (Mod.chg M63)⟩
      have p47 := of_decide_eq_true (k45.trans v46)
      refine wp_cond_true (ebool (b := b44) (by kernel_rfl) v46) ?_
      refine rg_lit ?_
      refine wmv (v := .slice (some ⟨g, 0, none⟩) nn c) ?_
      refine wmv (v := .int .i64 ((ia : Int))) ?_
      refine wmv (v := .int .i64 ((sa : Int))) ?_
      refine wmv (v := .int .i64 ((((ia + ib) / 2 : Nat) : Int))) ?_
      refine wmv (v := .func (.func 115) #[] #[]) ?_
      obtain ⟨X48, Y48, q48, hI48, hX48, hY48, hsX48, hsY48, hXY48, hN48⟩ := Sym2.half hT29 hAs hBs hAB
      have ho48 := ORow.to h33 (congrArg (List.map f) hI48)
      refine wl (sc rfl (r_callv (caps := []) (all := [.slice (some ⟨g, 0, none⟩) nn c, .int .i64 ((ia : Int)), .int .i64 ((sa : Int)), .int .i64 ((((ia + ib) / 2 : Nat) : Int)), .func (.func 115) #[] #[]]) En.f201 (by kernel_rfl) (by kernel_rfl)) (ih (by omega) ho48 hBb hn ha (by omega) (by omega) (by omega) (by omega) hsX48 hsY48 hXY48) ?_)
      rintro e w49 ⟨D50, rfl, h51, m52, c53⟩
      refine ⟨.tuple #[], rfl, ?_⟩
      have M54 := Mod.trans M35 (Mod.of_chg c53 (by simp))
      have M55 := Mod.trans M36 (Mod.of_chg c53 (by simp))
      obtain ⟨_, _, _, cg56, hg56, _⟩ := ORow.blk h51
      have hT48 := hN48 _ m52
      refine wnil (then_n (wp_seq (rg_lit ?_)))
      refine wmv (v := .int .i64 ((((ia + ib) / 2 : Nat) : Int))) ?_
      refine wmv (v := .int .i64 ((((ia + ib) / 2 + m - sa : Nat) : Int))) ?_
      refine wl (sb rfl (r_lt (k := .i64) (m := ((((ia + ib) / 2 : Nat) : Int))) (n := ((((ia + ib) / 2 + m - sa : Nat) : Int))) (by kernel_rfl) (by kernel_rfl)) ?_)
      intro b57 k58
      refine wmv (v := .bool b57) ?_
      refine bcase b57 (fun v59 => ?_) (fun v59 => ?_)
      ·
       have p60 := of_decide_eq_false (k58.trans v59)
       refine wl (sp (wf (b := b57) rfl (by kernel_rfl) v59) ?_)
       refine wl (sp (wf (b := b57) rfl (by kernel_rfl) v59) ?_)
       refine wl (sp (wf (b := b57) rfl (by kernel_rfl) v59) ?_)
       refine wl (sv rfl (v := .bool false) (r_pkF (ebool (b := b57) (by kernel_rfl) v59) (by kernel_rfl)) ?_)
       refine wnil (then_n ?_)
       refine wp_cond_false (by kernel_rfl) ?_
       refine wp_skip ?_
       refine bodyPost_end (v := .tuple #[]) (res0 rfl ) (by kernel_rfl) ?_
       obtain ⟨D, hD, hM⟩ := Sym3.skip hT48 (by omega) hAs hBs
       exact ⟨D, rfl, ORow.to h51 (by rw [hD]), hM, (Mod.chg M54)⟩
      have p60 := of_decide_eq_true (k58.trans v59)
      refine wl (sv (wt (b := b57) rfl (by kernel_rfl) v59) (v := .int .i64 ((((ia + ib) / 2 + m - sa : Nat) : Int))) (r_move (by kernel_rfl)) ?_)
      refine wl (sv (wt (b := b57) rfl (by kernel_rfl) v59) (v := .int .i64 ((ib : Int))) (r_move (by kernel_rfl)) ?_)
      refine wl (sb (wt (b := b57) rfl (by kernel_rfl) v59) (r_lt (k := .i64) (m := ((((ia + ib) / 2 + m - sa : Nat) : Int))) (n := ((ib : Int))) (by kernel_rfl) (by kernel_rfl)) ?_)
      intro b61 k62
      refine wl (sv rfl (v := .bool b61) (r_pkT (ebool (b := b57) (by kernel_rfl) v59) (by kernel_rfl)) ?_)
      refine wnil (then_n ?_)
      refine bcase b61 (fun v63 => ?_) (fun v63 => ?_)
      ·
       have p64 := of_decide_eq_false (k62.trans v63)
       refine wp_cond_false (ebool (b := b61) (by kernel_rfl) v63) ?_
       refine wp_skip ?_
       refine bodyPost_end (v := .tuple #[]) (res0 rfl ) (by kernel_rfl) ?_
       obtain ⟨D, hD, hM⟩ := Sym3.skip hT48 (by omega) hAs hBs
       exact ⟨D, rfl, ORow.to h51 (by rw [hD]), hM, (Mod.chg M54)⟩
      have p64 := of_decide_eq_true (k62.trans v63)
      refine wp_cond_true (ebool (b := b61) (by kernel_rfl) v63) ?_
      refine rg_lit ?_
      refine wmv (v := .slice (some ⟨g, 0, none⟩) nn c) ?_
      refine wmv (v := .int .i64 ((((ia + ib) / 2 : Nat) : Int))) ?_
      refine wmv (v := .int .i64 ((((ia + ib) / 2 + m - sa : Nat) : Int))) ?_
      refine wmv (v := .int .i64 ((ib : Int))) ?_
      refine wmv (v := .func (.func 115) #[] #[]) ?_
      obtain ⟨p65, X65, Y65, hI65, hp65, hX65, hY65, hsX65, hsY65, hXY65, hN65⟩ := Sym3.half hT48 hAs hBs hAB
      have ho65 := ORow.to h51 (congrArg (List.map f) hI65)
      refine wl (sc rfl (r_callv (caps := []) (all := [.slice (some ⟨g, 0, none⟩) nn c, .int .i64 ((((ia + ib) / 2 : Nat) : Int)), .int .i64 ((((ia + ib) / 2 + m - sa : Nat) : Int)), .int .i64 ((ib : Int)), .func (.func 115) #[] #[]]) En.f201 (by kernel_rfl) (by kernel_rfl)) (ih (by omega) ho65 hBb hn hp65 (by omega) (by omega) (by omega) (by omega) hsX65 hsY65 hXY65) ?_)
      rintro e w66 ⟨D67, rfl, h68, m69, c70⟩
      refine ⟨.tuple #[], rfl, ?_⟩
      have M71 := Mod.trans M54 (Mod.of_chg c70 (by simp))
      have M72 := Mod.trans M55 (Mod.of_chg c70 (by simp))
      obtain ⟨_, _, _, cg73, hg73, _⟩ := ORow.blk h68
      have hT65 := hN65 _ m69
      refine wnil ?_
      refine bodyPost_end (v := .tuple #[]) (res0 rfl ) (by kernel_rfl) ?_
      obtain ⟨D, hD, hM⟩ := hT65
      exact ⟨D, rfl, ORow.to h68 (by rw [hD]), hM, (Mod.chg M71)⟩
     have p17 := of_decide_eq_true (k15.trans v16)
     have q18 : sa < ra := by omega
     have q19 : sa < ra := by omega
     refine wp_cond_true (ebool (b := b14) (by kernel_rfl) v16) ?_
     refine wp_skip (then_n (wp_block (wp_seq (rg_lit ?_))))
     refine wmv (v := .int .i64 ((sa : Int))) ?_
     refine wmv (v := .int .i64 ((ra : Int))) ?_
     refine wl (sv rfl (v := .int .i64 (((sa + ra : Nat) : Int))) (r_add (k := .i64) (m := ((sa : Int))) (n := ((ra : Int))) (c := (((sa + ra : Nat) : Int))) (by kernel_rfl) (by kernel_rfl) ((IntWalk.i64_in _ (by omega)).trans (by omega))) ?_)
     refine wl (sv rfl (v := .int .u64 (((sa + ra : Nat) : Int))) (r_toUn (m := (sa + ra)) (by kernel_rfl) (by omega)) ?_)
     refine wl (sv rfl (v := .int .u64 ((((sa + ra) / 2 : Nat) : Int))) (r_halfn (m := (sa + ra)) (by kernel_rfl) (by kernel_rfl)) ?_)
     refine wl (sv rfl (v := .int .i64 ((((sa + ra) / 2 : Nat) : Int))) (r_toIn (m := ((sa + ra) / 2)) (by kernel_rfl) (by omega)) ?_)
     refine was (v := .int .i64 ((((sa + ra) / 2 : Nat) : Int))) ?_
     refine wnil (then_n (wp_seq ?_))
     refine rg_tail 11 (by kernel_rfl) (by kernel_rfl) rfl rfl ?_
     refine qmv (v := .func (.func 115) #[] #[]) ?_
     refine qmv (v := .slice (some ⟨g, 0, none⟩) nn c) ?_
     refine qmv (v := .int .i64 ((((ia + ib) / 2 + m - 1 : Nat) : Int))) ?_
     refine qmv (v := .int .i64 ((((sa + ra) / 2 : Nat) : Int))) ?_
     refine qv rfl (v := .int .i64 ((((ia + ib) / 2 + m - 1 - ((sa + ra) / 2) : Nat) : Int))) (fun _ _ => r_sub (k := .i64) (m := ((((ia + ib) / 2 + m - 1 : Nat) : Int))) (n := ((((sa + ra) / 2 : Nat) : Int))) (c := ((((ia + ib) / 2 + m - 1 - ((sa + ra) / 2) : Nat) : Int))) (by kernel_rfl) (by kernel_rfl) ((IntWalk.i64_in _ (by omega)).trans (by omega))) ?_
     refine qv rfl (v := .pointer (some ⟨g, ((ia + ib) / 2 + m - 1 - ((sa + ra) / 2)) * 10, none⟩)) (fun _ _ => r_ixaddr' (A := some ⟨g, 0, none⟩) (b := g) (o := 0) (n := nn) (c := c) (sz := 10) (j := ((((ia + ib) / 2 + m - 1 - ((sa + ra) / 2) : Nat) : Int))) (m := ((ia + ib) / 2 + m - 1 - ((sa + ra) / 2)) * 10) (by kernel_rfl) rfl (by kernel_rfl) Ty.un22 Ty.sz49 (by omega) (by omega) (by omega)) ?_
     have h20 := (ORow.up h (Mod.up hM1))
     obtain ⟨x21, hx21⟩ : ∃ x, (pre ++ (A ++ (Bb ++ post)))[(ia + ib) / 2 + m - 1 - ((sa + ra) / 2)]? = some x := ⟨_, List.getElem?_eq_getElem (by omega)⟩
     obtain ⟨cu22, dA22, dn22, dc22, hb22, he22, hD22⟩ := ORow.elem h20 (map_get' hx21)
     refine qv rfl (v := opV (f x21) (.slice dA22 dn22 dc22)) (fun _ uz => r_loads (k := ((ia + ib) / 2 + m - 1 - ((sa + ra) / 2)) * 10) (vs := (opC (f x21) (.slice dA22 dn22 dc22))) (by kernel_rfl) Ty.ag49 Ty.sz49 (up_ob uz hb22) (el_sub0 he22 rfl)) ?_
     refine qmv (v := .slice (some ⟨g, 0, none⟩) nn c) ?_
     refine qmv (v := .int .i64 ((((sa + ra) / 2 : Nat) : Int))) ?_
     refine qv rfl (v := .pointer (some ⟨g, ((sa + ra) / 2) * 10, none⟩)) (fun _ _ => r_ixaddr' (A := some ⟨g, 0, none⟩) (b := g) (o := 0) (n := nn) (c := c) (sz := 10) (j := ((((sa + ra) / 2 : Nat) : Int))) (m := ((sa + ra) / 2) * 10) (by kernel_rfl) rfl (by kernel_rfl) Ty.un22 Ty.sz49 (by omega) (by omega) (by omega)) ?_
     obtain ⟨x23, hx23⟩ : ∃ x, (pre ++ (A ++ (Bb ++ post)))[(sa + ra) / 2]? = some x := ⟨_, List.getElem?_eq_getElem (by omega)⟩
     obtain ⟨cu24, dA24, dn24, dc24, hb24, he24, hD24⟩ := ORow.elem h20 (map_get' hx23)
     refine qv rfl (v := opV (f x23) (.slice dA24 dn24 dc24)) (fun _ uz => r_loads (k := ((sa + ra) / 2) * 10) (vs := (opC (f x23) (.slice dA24 dn24 dc24))) (by kernel_rfl) Ty.ag49 Ty.sz49 (up_ob uz hb24) (el_sub0 he24 rfl)) ?_
     refine qnil ?_
     intro w25 u26
     have M27 := Mod.trans M13 (Mod.of_up u26)
     have M28 := Mod.trans hM1 (Mod.of_up u26)
     refine wl (sc rfl (r_callv (caps := []) (all := [opV (f x21) (.slice dA22 dn22 dc22), opV (f x23) (.slice dA24 dn24 dc24)]) En.f115 (by kernel_rfl) (by kernel_rfl)) (opcompare_at (f x21) (f x23) dA22 dA24 dn22 dc22 dn24 dc24) ?_)
     rintro e w29 ⟨rfl, u30⟩
     refine ⟨.int .i64 ((cmpS (f x21).at_ (f x23).at_)), rfl, ?_⟩
     have M31 := Mod.trans M27 (Mod.of_up u30)
     have M32 := Mod.trans M28 (Mod.of_up u30)
     refine wl (sb rfl (r_lt (k := .i64) (m := ((cmpS (f x21).at_ (f x23).at_))) (n := 0) (by kernel_rfl) (by kernel_rfl)) ?_)
     intro b33 k34
     refine wl (sv rfl (v := .bool (!b33)) (r_not (b := b33) (by kernel_rfl)) ?_)
     refine wnil (then_n ?_)
     refine bcase b33 (fun v35 => ?_) (fun v35 => ?_)
     ·
      have p36 := of_decide_eq_false (k34.trans v35)
      refine wp_cond_true (ebool (b := !b33) (by kernel_rfl) (bneg v35)) ?_
      refine rg_lit ?_
      refine wmv (v := .int .i64 ((((sa + ra) / 2 : Nat) : Int))) ?_
      refine wl (sv rfl (v := .int .i64 ((((sa + ra) / 2 + 1 : Nat) : Int))) (r_add (k := .i64) (m := ((((sa + ra) / 2 : Nat) : Int))) (n := 1) (c := ((((sa + ra) / 2 + 1 : Nat) : Int))) (by kernel_rfl) (by kernel_rfl) ((IntWalk.i64_in _ (by omega)).trans (by omega))) ?_)
      refine was (v := .int .i64 ((((sa + ra) / 2 + 1 : Nat) : Int))) ?_
      refine wnil (inb_n (then_n ?_))
      refine ⟨ra - ((sa + ra) / 2 + 1), ?_, ((sa + ra) / 2 + 1), ra, .int .i64 ((((sa + ra) / 2 : Nat) : Int)), .int .i64 ((sa : Int)), .int .i64 ((ra : Int)), .bool b14, .int .i64 ((sa : Int)), .int .i64 ((ra : Int)), .int .i64 (((sa + ra : Nat) : Int)), .int .u64 (((sa + ra : Nat) : Int)), .int .u64 ((((sa + ra) / 2 : Nat) : Int)), .int .i64 ((((sa + ra) / 2 : Nat) : Int)), .func (.func 115) #[] #[], .slice (some ⟨g, 0, none⟩) nn c, .int .i64 ((((ia + ib) / 2 + m - 1 : Nat) : Int)), .int .i64 ((((sa + ra) / 2 : Nat) : Int)), .int .i64 ((((ia + ib) / 2 + m - 1 - ((sa + ra) / 2) : Nat) : Int)), .pointer (some ⟨g, ((ia + ib) / 2 + m - 1 - ((sa + ra) / 2)) * 10, none⟩), opV (f x21) (.slice dA22 dn22 dc22), .slice (some ⟨g, 0, none⟩) nn c, .int .i64 ((((sa + ra) / 2 : Nat) : Int)), .pointer (some ⟨g, ((sa + ra) / 2) * 10, none⟩), opV (f x23) (.slice dA24 dn24 dc24), .int .i64 ((cmpS (f x21).at_ (f x23).at_)), .bool b33, .bool (!b33), .int .i64 ((((sa + ra) / 2 : Nat) : Int)), .int .i64 ((((sa + ra) / 2 + 1 : Nat) : Int)), z174, rfl, (by kernel_rfl), M32, (SymS.yes hF1_0 (by omega) (by omega) hx23 hx21 (cmpS_no p36))⟩
      · omega
     have p36 := of_decide_eq_true (k34.trans v35)
     refine wp_cond_false (ebool (b := !b33) (by kernel_rfl) (bneg v35)) ?_
     refine rg_lit ?_
     refine wmv (v := .int .i64 ((((sa + ra) / 2 : Nat) : Int))) ?_
     refine was (v := .int .i64 ((((sa + ra) / 2 : Nat) : Int))) ?_
     refine wnil (inb_n (then_n ?_))
     refine ⟨((sa + ra) / 2) - sa, ?_, sa, ((sa + ra) / 2), .int .i64 ((((sa + ra) / 2 : Nat) : Int)), .int .i64 ((sa : Int)), .int .i64 ((ra : Int)), .bool b14, .int .i64 ((sa : Int)), .int .i64 ((ra : Int)), .int .i64 (((sa + ra : Nat) : Int)), .int .u64 (((sa + ra : Nat) : Int)), .int .u64 ((((sa + ra) / 2 : Nat) : Int)), .int .i64 ((((sa + ra) / 2 : Nat) : Int)), .func (.func 115) #[] #[], .slice (some ⟨g, 0, none⟩) nn c, .int .i64 ((((ia + ib) / 2 + m - 1 : Nat) : Int)), .int .i64 ((((sa + ra) / 2 : Nat) : Int)), .int .i64 ((((ia + ib) / 2 + m - 1 - ((sa + ra) / 2) : Nat) : Int)), .pointer (some ⟨g, ((ia + ib) / 2 + m - 1 - ((sa + ra) / 2)) * 10, none⟩), opV (f x21) (.slice dA22 dn22 dc22), .slice (some ⟨g, 0, none⟩) nn c, .int .i64 ((((sa + ra) / 2 : Nat) : Int)), .pointer (some ⟨g, ((sa + ra) / 2) * 10, none⟩), opV (f x23) (.slice dA24 dn24 dc24), .int .i64 ((cmpS (f x21).at_ (f x23).at_)), .bool b33, .bool (!b33), z172, z173, .int .i64 ((((sa + ra) / 2 : Nat) : Int)), rfl, (by kernel_rfl), M32, (SymS.no hF1_0 (by omega) (by omega) hx23 hx21 (cmpS_yes p36))⟩
     · omega
    have p12 := of_decide_eq_true (k10.trans v11)
    refine wp_cond_true (ebool (b := b9) (by kernel_rfl) v11) ?_
    refine wp_seq (rg_lit ?_)
    refine wmv (v := .int .i64 ((((ia + ib) / 2 + m : Nat) : Int))) ?_
    refine wmv (v := .int .i64 ((ib : Int))) ?_
    refine wl (sv rfl (v := .int .i64 ((((ia + ib) / 2 + m - ib : Nat) : Int))) (r_sub (k := .i64) (m := ((((ia + ib) / 2 + m : Nat) : Int))) (n := ((ib : Int))) (c := ((((ia + ib) / 2 + m - ib : Nat) : Int))) (by kernel_rfl) (by kernel_rfl) ((IntWalk.i64_in _ (by omega)).trans (by omega))) ?_)
    refine was (v := .int .i64 ((((ia + ib) / 2 + m - ib : Nat) : Int))) ?_
    refine wnil (then_n (rg_lit ?_))
    refine wmv (v := .int .i64 ((((ia + ib) / 2 : Nat) : Int))) ?_
    refine was (v := .int .i64 ((((ia + ib) / 2 : Nat) : Int))) ?_
    refine wnil (then_n (wp_seq (rg_lit ?_)))
    refine wmv (v := .int .i64 ((((ia + ib) / 2 + m : Nat) : Int))) ?_
    refine wl (sv rfl (v := .int .i64 ((((ia + ib) / 2 + m - 1 : Nat) : Int))) (r_sub (k := .i64) (m := ((((ia + ib) / 2 + m : Nat) : Int))) (n := 1) (c := ((((ia + ib) / 2 + m - 1 : Nat) : Int))) (by kernel_rfl) (by kernel_rfl) ((IntWalk.i64_in _ (by omega)).trans (by omega))) ?_)
    refine was (v := .int .i64 ((((ia + ib) / 2 + m - 1 : Nat) : Int))) ?_
    refine wnil (then_n (wp_seq (wp_block ?_)))
    refine lp (fun n a r2 => ∃ (sa : Nat) (ra : Nat) (z23 z149 z150 z151 z152 z153 z154 z155 z156 z157 z158 z159 z160 z161 z162 z163 z164 z165 z166 z167 z168 z169 z170 z171 z172 z173 z174 : Value), (n = ra - sa) ∧ (a = ⟨#[.slice (some ⟨g, 0, none⟩) nn c, .int .i64 ((ia : Int)), .int .i64 ((m : Int)), .int .i64 ((ib : Int)), .func (.func 115) #[] #[], undef, undef, undef, undef, undef, undef, undef, undef, undef, undef, undef, undef, undef, .int .i64 ((((ia + ib) / 2 : Nat) : Int)), .int .i64 ((((ia + ib) / 2 + m : Nat) : Int)), .int .i64 ((sa : Int)), .int .i64 ((ra : Int)), .int .i64 ((((ia + ib) / 2 + m - 1 : Nat) : Int)), z23, undef, .int .i64 ((m : Int)), .int .i64 ((ia : Int)), .int .i64 (((m - ia : Nat) : Int)), .bool b1, undef, undef, undef, undef, undef, undef, undef, undef, undef, undef, undef, undef, undef, undef, undef, undef, undef, undef, undef, undef, undef, undef, undef, undef, undef, undef, undef, undef, undef, undef, undef, undef, undef, undef, undef, undef, undef, undef, undef, undef, undef, undef, undef, undef, undef, undef, undef, undef, .int .i64 ((ib : Int)), .int .i64 ((m : Int)), .int .i64 (((ib - m : Nat) : Int)), .bool b5, undef, undef, undef, undef, undef, undef, undef, undef, undef, undef, undef, undef, undef, undef, undef, undef, undef, undef, undef, undef, undef, undef, undef, undef, undef, undef, undef, undef, undef, undef, undef, undef, undef, undef, undef, undef, undef, undef, undef, undef, undef, undef, undef, undef, undef, undef, undef, undef, .int .i64 ((ia : Int)), .int .i64 ((ib : Int)), .int .i64 (((ia + ib : Nat) : Int)), .int .u64 (((ia + ib : Nat) : Int)), .int .u64 ((((ia + ib) / 2 : Nat) : Int)), .int .i64 ((((ia + ib) / 2 : Nat) : Int)), .int .i64 ((((ia + ib) / 2 : Nat) : Int)), .int .i64 ((m : Int)), .int .i64 ((((ia + ib) / 2 + m : Nat) : Int)), .int .i64 ((m : Int)), .int .i64 ((((ia + ib) / 2 : Nat) : Int)), .bool b9, .int .i64 ((((ia + ib) / 2 + m : Nat) : Int)), .int .i64 ((ib : Int)), .int .i64 ((((ia + ib) / 2 + m - ib : Nat) : Int)), .int .i64 ((((ia + ib) / 2 : Nat) : Int)), undef, undef, .int .i64 ((((ia + ib) / 2 + m : Nat) : Int)), .int .i64 ((((ia + ib) / 2 + m - 1 : Nat) : Int)), z149, z150, z151, z152, z153, z154, z155, z156, z157, z158, z159, z160, z161, z162, z163, z164, z165, z166, z167, z168, z169, z170, z171, z172, z173, z174, undef, undef, undef, undef, undef, undef, undef, undef, undef, undef, undef, undef, undef, undef, undef, undef, undef, undef, undef, undef, undef, undef, undef, undef, undef, undef, undef, undef, undef, undef, undef, undef, undef, undef, undef, undef, undef, undef, undef, undef, undef, undef, undef, undef, undef], []⟩) ∧ (Mod [] w r2) ∧ (SymS f (pre ++ (A ++ (Bb ++ post))) ((ia + ib) / 2 + m) ((ia + ib) / 2 + m - ib) ((ia + ib) / 2) sa ra)) ⟨_, ((ia + ib) / 2 + m - ib), ((ia + ib) / 2), undef, undef, undef, undef, undef, undef, undef, undef, undef, undef, undef, undef, undef, undef, undef, undef, undef, undef, undef, undef, undef, undef, undef, undef, undef, undef, undef, rfl, (by kernel_rfl), Mod.refl _ _, (SymS.first _ _ _ _ _ (by omega))⟩ ?_
    rintro _ _ r2 ⟨sa, ra, z23, z149, z150, z151, z152, z153, z154, z155, z156, z157, z158, z159, z160, z161, z162, z163, z164, z165, z166, z167, z168, z169, z170, z171, z172, z173, z174, rfl, rfl, hM2, hF2_0⟩
    have M13 := Mod.thin (Mod.refl [] w) hM2 (by simp)
    have hz1 := hF2_0.1
    have hz2 := hF2_0.2.1
    have hz3 := hF2_0.2.2.1
    refine wp_seq (wp_seq (rg_lit ?_))
    refine wmv (v := .int .i64 ((sa : Int))) ?_
    refine wmv (v := .int .i64 ((ra : Int))) ?_
    refine wl (sb rfl (r_lt (k := .i64) (m := ((sa : Int))) (n := ((ra : Int))) (by kernel_rfl) (by kernel_rfl)) ?_)
    intro b14 k15
    refine wnil (then_n ?_)
    refine bcase b14 (fun v16 => ?_) (fun v16 => ?_)
    ·
     have p17 := of_decide_eq_false (k15.trans v16)
     refine wp_cond_false (ebool (b := b14) (by kernel_rfl) v16) ?_
     refine wp_exit (then_x (by nofun) (then_x (by nofun) (inb_hit (then_n (wp_seq (rg_lit ?_))))))
     refine wmv (v := .int .i64 ((((ia + ib) / 2 + m : Nat) : Int))) ?_
     refine wmv (v := .int .i64 ((sa : Int))) ?_
     refine wl (sv rfl (v := .int .i64 ((((ia + ib) / 2 + m - sa : Nat) : Int))) (r_sub (k := .i64) (m := ((((ia + ib) / 2 + m : Nat) : Int))) (n := ((sa : Int))) (c := ((((ia + ib) / 2 + m - sa : Nat) : Int))) (by kernel_rfl) (by kernel_rfl) ((IntWalk.i64_in _ (by omega)).trans (by omega))) ?_)
     refine was (v := .int .i64 ((((ia + ib) / 2 + m - sa : Nat) : Int))) ?_
     refine wnil (then_n (wp_seq (wp_seq (rg_lit ?_))))
     refine wmv (v := .int .i64 ((sa : Int))) ?_
     refine wmv (v := .int .i64 ((m : Int))) ?_
     refine wl (sb rfl (r_lt (k := .i64) (m := ((sa : Int))) (n := ((m : Int))) (by kernel_rfl) (by kernel_rfl)) ?_)
     intro b18 k19
     refine wmv (v := .bool b18) ?_
     refine bcase b18 (fun v20 => ?_) (fun v20 => ?_)
     ·
      have p21 := of_decide_eq_false (k19.trans v20)
      refine wl (sp (wf (b := b18) rfl (by kernel_rfl) v20) ?_)
      refine wl (sp (wf (b := b18) rfl (by kernel_rfl) v20) ?_)
      refine wl (sp (wf (b := b18) rfl (by kernel_rfl) v20) ?_)
      refine wl (sv rfl (v := .bool false) (r_pkF (ebool (b := b18) (by kernel_rfl) v20) (by kernel_rfl)) ?_)
      refine wnil (then_n ?_)
      refine wp_cond_false (by kernel_rfl) ?_
      refine wp_skip (then_n (wp_seq (wp_seq (rg_lit ?_))))
      refine wmv (v := .int .i64 ((ia : Int))) ?_
      refine wmv (v := .int .i64 ((sa : Int))) ?_
      refine wl (sb rfl (r_lt (k := .i64) (m := ((ia : Int))) (n := ((sa : Int))) (by kernel_rfl) (by kernel_rfl)) ?_)
      intro b22 k23
      refine wmv (v := .bool b22) ?_
      refine bcase b22 (fun v24 => ?_) (fun v24 => ?_)
      ·
       have p25 := of_decide_eq_false (k23.trans v24)
       refine wl (sp (wf (b := b22) rfl (by kernel_rfl) v24) ?_)
       refine wl (sp (wf (b := b22) rfl (by kernel_rfl) v24) ?_)
       refine wl (sp (wf (b := b22) rfl (by kernel_rfl) v24) ?_)
       refine wl (sv rfl (v := .bool false) (r_pkF (ebool (b := b22) (by kernel_rfl) v24) (by kernel_rfl)) ?_)
       refine wnil (then_n ?_)
       refine wp_cond_false (by kernel_rfl) ?_
       refine wp_skip (then_n (wp_seq (rg_lit ?_)))
       refine wmv (v := .int .i64 ((((ia + ib) / 2 : Nat) : Int))) ?_
       refine wmv (v := .int .i64 ((((ia + ib) / 2 + m - sa : Nat) : Int))) ?_
       refine wl (sb rfl (r_lt (k := .i64) (m := ((((ia + ib) / 2 : Nat) : Int))) (n := ((((ia + ib) / 2 + m - sa : Nat) : Int))) (by kernel_rfl) (by kernel_rfl)) ?_)
       intro b26 k27
       refine wmv (v := .bool b26) ?_
       refine bcase b26 (fun v28 => ?_) (fun v28 => ?_)
       ·
        have p29 := of_decide_eq_false (k27.trans v28)
        refine wl (sp (wf (b := b26) rfl (by kernel_rfl) v28) ?_)
        refine wl (sp (wf (b := b26) rfl (by kernel_rfl) v28) ?_)
        refine wl (sp (wf (b := b26) rfl (by kernel_rfl) v28) ?_)
        refine wl (sv rfl (v := .bool false) (r_pkF (ebool (b := b26) (by kernel_rfl) v28) (by kernel_rfl)) ?_)
        refine wnil (then_n ?_)
        refine wp_cond_false (by kernel_rfl) ?_
        refine wp_skip ?_
        refine bodyPost_end (v := .tuple #[]) (res0 rfl ) (by kernel_rfl) ?_
        have h30 := (ORow.up h (Mod.up hM2))
        have hq31 : SymS f (pre ++ (A ++ (Bb ++ post))) ((ia + ib) / 2 + m) ((ia + ib) / 2 + m - ib) ((ia + ib) / 2) sa sa := by have h0 := hF2_0; rw [show ra = sa by omega] at h0; exact h0
        have hT31 := SymS.fin hq31 rfl ha hm hb rfl rfl (by omega) hAs hBs hAB
        obtain ⟨ht1, ht2, ht3, ht4, ht5⟩ := Sym1.len hT31
        have hT32 := Sym1.skip (mid := (ia + ib) / 2) hT31 (by omega) (by omega)
        have hT33 := Sym2.skip hT32 (by omega) hAs hBs
        obtain ⟨D, hD, hM⟩ := Sym3.skip hT33 (by omega) hAs hBs
        exact ⟨D, rfl, ORow.to h30 (by rw [hD]), hM, (to_chg (Mod.up M13) g)⟩
       have p29 := of_decide_eq_true (k27.trans v28)
       refine wl (sv (wt (b := b26) rfl (by kernel_rfl) v28) (v := .int .i64 ((((ia + ib) / 2 + m - sa : Nat) : Int))) (r_move (by kernel_rfl)) ?_)
       refine wl (sv (wt (b := b26) rfl (by kernel_rfl) v28) (v := .int .i64 ((ib : Int))) (r_move (by kernel_rfl)) ?_)
       refine wl (sb (wt (b := b26) rfl (by kernel_rfl) v28) (r_lt (k := .i64) (m := ((((ia + ib) / 2 + m - sa : Nat) : Int))) (n := ((ib : Int))) (by kernel_rfl) (by kernel_rfl)) ?_)
       intro b30 k31
       refine wl (sv rfl (v := .bool b30) (r_pkT (ebool (b := b26) (by kernel_rfl) v28) (by kernel_rfl)) ?_)
       refine wnil (then_n ?_)
       refine bcase b30 (fun v32 => ?_) (fun v32 => ?_)
       ·
        have p33 := of_decide_eq_false (k31.trans v32)
        refine wp_cond_false (ebool (b := b30) (by kernel_rfl) v32) ?_
        refine wp_skip ?_
        refine bodyPost_end (v := .tuple #[]) (res0 rfl ) (by kernel_rfl) ?_
        have h34 := (ORow.up h (Mod.up hM2))
        have hq35 : SymS f (pre ++ (A ++ (Bb ++ post))) ((ia + ib) / 2 + m) ((ia + ib) / 2 + m - ib) ((ia + ib) / 2) sa sa := by have h0 := hF2_0; rw [show ra = sa by omega] at h0; exact h0
        have hT35 := SymS.fin hq35 rfl ha hm hb rfl rfl (by omega) hAs hBs hAB
        obtain ⟨ht1, ht2, ht3, ht4, ht5⟩ := Sym1.len hT35
        have hT36 := Sym1.skip (mid := (ia + ib) / 2) hT35 (by omega) (by omega)
        have hT37 := Sym2.skip hT36 (by omega) hAs hBs
        obtain ⟨D, hD, hM⟩ := Sym3.skip hT37 (by omega) hAs hBs
        exact ⟨D, rfl, ORow.to h34 (by rw [hD]), hM, (to_chg (Mod.up M13) g)⟩
       have p33 := of_decide_eq_true (k31.trans v32)
       refine wp_cond_true (ebool (b := b30) (by kernel_rfl) v32) ?_
       refine rg_lit ?_
       refine wmv (v := .slice (some ⟨g, 0, none⟩) nn c) ?_
       refine wmv (v := .int .i64 ((((ia + ib) / 2 : Nat) : Int))) ?_
       refine wmv (v := .int .i64 ((((ia + ib) / 2 + m - sa : Nat) : Int))) ?_
       refine wmv (v := .int .i64 ((ib : Int))) ?_
       refine wmv (v := .func (.func 115) #[] #[]) ?_
       have hq35 : SymS f (pre ++ (A ++ (Bb ++ post))) ((ia + ib) / 2 + m) ((ia + ib) / 2 + m - ib) ((ia + ib) / 2) sa sa := by have h0 := hF2_0; rw [show ra = sa by omega] at h0; exact h0
       have hT35 := SymS.fin hq35 rfl ha hm hb rfl rfl (by omega) hAs hBs hAB
       obtain ⟨ht1, ht2, ht3, ht4, ht5⟩ := Sym1.len hT35
       have hT36 := Sym1.skip (mid := (ia + ib) / 2) hT35 (by omega) (by omega)
       have hT37 := Sym2.skip hT36 (by omega) hAs hBs
       obtain ⟨p34, X34, Y34, hI34, hp34, hX34, hY34, hsX34, hsY34, hXY34, hN34⟩ := Sym3.half hT37 hAs hBs hAB
       have h38 := md_ob M13 nin0 hg
       have h39 := (ORow.up h (Mod.up hM2))
       have ho34 := ORow.to h39 (congrArg (List.map f) hI34)
       refine wl (sc rfl (r_callv (caps := []) (all := [.slice (some ⟨g, 0, none⟩) nn c, .int .i64 ((((ia + ib) / 2 : Nat) : Int)), .int .i64 ((((ia + ib) / 2 + m - sa : Nat) : Int)), .int .i64 ((ib : Int)), .func (.func 115) #[] #[]]) En.f201 (by kernel_rfl) (by kernel_rfl)) (ih (by omega) ho34 hBb hn hp34 (by omega) (by omega) (by omega) (by omega) hsX34 hsY34 hXY34) ?_)
       rintro e w40 ⟨D41, rfl, h42, m43, c44⟩
       refine ⟨.tuple #[], rfl, ?_⟩
       have M45 := md_old M13 c44
       have M46 := md_old hM2 c44
       obtain ⟨_, _, _, cg47, hg47, _⟩ := ORow.blk h42
       have hT34 := hN34 _ m43
       refine wnil ?_
       refine bodyPost_end (v := .tuple #[]) (res0 rfl ) (by kernel_rfl) ?_
       obtain ⟨D, hD, hM⟩ := hT34
       exact ⟨D, rfl, ORow.to h42 (by rw [hD]), hM, (Mod.chg M45)⟩
      have p25 := of_decide_eq_true (k23.trans v24)
      have q26 : ia < sa := by omega
      have q27 : ia < sa := by omega
      refine wl (sv (wt (b := b22) rfl (by kernel_rfl) v24) (v := .int .i64 ((sa : Int))) (r_move (by kernel_rfl)) ?_)
      refine wl (sv (wt (b := b22) rfl (by kernel_rfl) v24) (v := .int .i64 ((((ia + ib) / 2 : Nat) : Int))) (r_move (by kernel_rfl)) ?_)
      refine wl (sb (wt (b := b22) rfl (by kernel_rfl) v24) (r_lt (k := .i64) (m := ((sa : Int))) (n := ((((ia + ib) / 2 : Nat) : Int))) (by kernel_rfl) (by kernel_rfl)) ?_)
      intro b28 k29
      refine wl (sv rfl (v := .bool b28) (r_pkT (ebool (b := b22) (by kernel_rfl) v24) (by kernel_rfl)) ?_)
      refine wnil (then_n ?_)
      refine bcase b28 (fun v30 => ?_) (fun v30 => ?_)
      ·
       have p31 := of_decide_eq_false (k29.trans v30)
       refine wp_cond_false (ebool (b := b28) (by kernel_rfl) v30) ?_
       refine wp_skip (then_n (wp_seq (rg_lit ?_)))
       refine wmv (v := .int .i64 ((((ia + ib) / 2 : Nat) : Int))) ?_
       refine wmv (v := .int .i64 ((((ia + ib) / 2 + m - sa : Nat) : Int))) ?_
       refine wl (sb rfl (r_lt (k := .i64) (m := ((((ia + ib) / 2 : Nat) : Int))) (n := ((((ia + ib) / 2 + m - sa : Nat) : Int))) (by kernel_rfl) (by kernel_rfl)) ?_)
       intro b32 k33
       refine wmv (v := .bool b32) ?_
       refine bcase b32 (fun v34 => ?_) (fun v34 => ?_)
       ·
        have p35 := of_decide_eq_false (k33.trans v34)
        refine wl (sp (wf (b := b32) rfl (by kernel_rfl) v34) ?_)
        refine wl (sp (wf (b := b32) rfl (by kernel_rfl) v34) ?_)
        refine wl (sp (wf (b := b32) rfl (by kernel_rfl) v34) ?_)
        refine wl (sv rfl (v := .bool false) (r_pkF (ebool (b := b32) (by kernel_rfl) v34) (by kernel_rfl)) ?_)
        refine wnil (then_n ?_)
        refine wp_cond_false (by kernel_rfl) ?_
        refine wp_skip ?_
        refine bodyPost_end (v := .tuple #[]) (res0 rfl ) (by kernel_rfl) ?_
        have h36 := (ORow.up h (Mod.up hM2))
        have hq37 : SymS f (pre ++ (A ++ (Bb ++ post))) ((ia + ib) / 2 + m) ((ia + ib) / 2 + m - ib) ((ia + ib) / 2) sa sa := by have h0 := hF2_0; rw [show ra = sa by omega] at h0; exact h0
        have hT37 := SymS.fin hq37 rfl ha hm hb rfl rfl (by omega) hAs hBs hAB
        obtain ⟨ht1, ht2, ht3, ht4, ht5⟩ := Sym1.len hT37
        have hT38 := Sym1.skip (mid := (ia + ib) / 2) hT37 (by omega) (by omega)
        have hT39 := Sym2.skip hT38 (by omega) hAs hBs
        obtain ⟨D, hD, hM⟩ := Sym3.skip hT39 (by omega) hAs hBs
        exact ⟨D, rfl, ORow.to h36 (by rw [hD]), hM, (to_chg (Mod.up M13) g)⟩
       have p35 := of_decide_eq_true (k33.trans v34)
       refine wl (sv (wt (b := b32) rfl (by kernel_rfl) v34) (v := .int .i64 ((((ia + ib) / 2 + m - sa : Nat) : Int))) (r_move (by kernel_rfl)) ?_)
       refine wl (sv (wt (b := b32) rfl (by kernel_rfl) v34) (v := .int .i64 ((ib : Int))) (r_move (by kernel_rfl)) ?_)
       refine wl (sb (wt (b := b32) rfl (by kernel_rfl) v34) (r_lt (k := .i64) (m := ((((ia + ib) / 2 + m - sa : Nat) : Int))) (n := ((ib : Int))) (by kernel_rfl) (by kernel_rfl)) ?_)
       intro b36 k37
       refine wl (sv rfl (v := .bool b36) (r_pkT (ebool (b := b32) (by kernel_rfl) v34) (by kernel_rfl)) ?_)
       refine wnil (then_n ?_)
       refine bcase b36 (fun v38 => ?_) (fun v38 => ?_)
       ·
        have p39 := of_decide_eq_false (k37.trans v38)
        refine wp_cond_false (ebool (b := b36) (by kernel_rfl) v38) ?_
        refine wp_skip ?_
        refine bodyPost_end (v := .tuple #[]) (res0 rfl ) (by kernel_rfl) ?_
        have h40 := (ORow.up h (Mod.up hM2))
        have hq41 : SymS f (pre ++ (A ++ (Bb ++ post))) ((ia + ib) / 2 + m) ((ia + ib) / 2 + m - ib) ((ia + ib) / 2) sa sa := by have h0 := hF2_0; rw [show ra = sa by omega] at h0; exact h0
        have hT41 := SymS.fin hq41 rfl ha hm hb rfl rfl (by omega) hAs hBs hAB
        obtain ⟨ht1, ht2, ht3, ht4, ht5⟩ := Sym1.len hT41
        have hT42 := Sym1.skip (mid := (ia + ib) / 2) hT41 (by omega) (by omega)
        have hT43 := Sym2.skip hT42 (by omega) hAs hBs
        obtain ⟨D, hD, hM⟩ := Sym3.skip hT43 (by omega) hAs hBs
        exact ⟨D, rfl, ORow.to h40 (by rw [hD]), hM, (to_chg (Mod.up M13) g)⟩
       have p39 := of_decide_eq_true (k37.trans v38)
       refine wp_cond_true (ebool (b := b36) (by kernel_rfl) v38) ?_
       refine rg_lit ?_
       refine wmv (v := .slice (some ⟨g, 0, none⟩) nn c) ?_
       refine wmv (v := .int .i64 ((((ia + ib) / 2 : Nat) : Int))) ?_
       refine wmv (v := .int .i64 ((((ia + ib) / 2 + m - sa : Nat) : Int))) ?_
       refine wmv (v := .int .i64 ((ib : Int))) ?_
       refine wmv (v := .func (.func 115) #[] #[]) ?_
       have hq41 : SymS f (pre ++ (A ++ (Bb ++ post))) ((ia + ib) / 2 + m) ((ia + ib) / 2 + m - ib) ((ia + ib) / 2) sa sa := by have h0 := hF2_0; rw [show ra = sa by omega] at h0; exact h0
       have hT41 := SymS.fin hq41 rfl ha hm hb rfl rfl (by omega) hAs hBs hAB
       obtain ⟨ht1, ht2, ht3, ht4, ht5⟩ := Sym1.len hT41
       have hT42 := Sym1.skip (mid := (ia + ib) / 2) hT41 (by omega) (by omega)
       have hT43 := Sym2.skip hT42 (by omega) hAs hBs
       obtain ⟨p40, X40, Y40, hI40, hp40, hX40, hY40, hsX40, hsY40, hXY40, hN40⟩ := Sym3.half hT43 hAs hBs hAB
       have h44 := md_ob M13 nin0 hg
       have h45 := (ORow.up h (Mod.up hM2))
       have ho40 := ORow.to h45 (congrArg (List.map f) hI40)
       refine wl (sc rfl (r_callv (caps := []) (all := [.slice (some ⟨g, 0, none⟩) nn c, .int .i64 ((((ia + ib) / 2 : Nat) : Int)), .int .i64 ((((ia + ib) / 2 + m - sa : Nat) : Int)), .int .i64 ((ib : Int)), .func (.func 115) #[] #[]]) En.f201 (by kernel_rfl) (by kernel_rfl)) (ih (by omega) ho40 hBb hn hp40 (by omega) (by omega) (by omega) (by omega) hsX40 hsY40 hXY40) ?_)
       rintro e w46 ⟨D47, rfl, h48, m49, c50⟩
       refine ⟨.tuple #[], rfl, ?_⟩
       have M51 := md_old M13 c50
       have M52 := md_old hM2 c50
       obtain ⟨_, _, _, cg53, hg53, _⟩ := ORow.blk h48
       have hT40 := hN40 _ m49
       refine wnil ?_
       refine bodyPost_end (v := .tuple #[]) (res0 rfl ) (by kernel_rfl) ?_
       obtain ⟨D, hD, hM⟩ := hT40
       exact ⟨D, rfl, ORow.to h48 (by rw [hD]), hM, (Mod.chg M51)⟩
      have p31 := of_decide_eq_true (k29.trans v30)
      refine wp_cond_true (ebool (b := b28) (by kernel_rfl) v30) ?_
      refine rg_lit ?_
      refine wmv (v := .slice (some ⟨g, 0, none⟩) nn c) ?_
      refine wmv (v := .int .i64 ((ia : Int))) ?_
      refine wmv (v := .int .i64 ((sa : Int))) ?_
      refine wmv (v := .int .i64 ((((ia + ib) / 2 : Nat) : Int))) ?_
      refine wmv (v := .func (.func 115) #[] #[]) ?_
      have hq33 : SymS f (pre ++ (A ++ (Bb ++ post))) ((ia + ib) / 2 + m) ((ia + ib) / 2 + m - ib) ((ia + ib) / 2) sa sa := by have h0 := hF2_0; rw [show ra = sa by omega] at h0; exact h0
      have hT33 := SymS.fin hq33 rfl ha hm hb rfl rfl (by omega) hAs hBs hAB
      obtain ⟨ht1, ht2, ht3, ht4, ht5⟩ := Sym1.len hT33
      have hT34 := Sym1.skip (mid := (ia + ib) / 2) hT33 (by omega) (by omega)
      obtain ⟨X32, Y32, q32, hI32, hX32, hY32, hsX32, hsY32, hXY32, hN32⟩ := Sym2.half hT34 hAs hBs hAB
      have h35 := md_ob M13 nin0 hg
      have h36 := (ORow.up h (Mod.up hM2))
      have ho32 := ORow.to h36 (congrArg (List.map f) hI32)
      refine wl (sc rfl (r_callv (caps := []) (all := [.slice (some ⟨g, 0, none⟩) nn c, .int .i64 ((ia : Int)), .int .i64 ((sa : Int)), .int .i64 ((((ia + ib) / 2 : Nat) : Int)), .func (.func 115) #[] #[]]) En.f201 (by kernel_rfl) (by kernel_rfl)) (ih (by omega) ho32 hBb hn ha (by omega) (by omega) (by omega) (by omega) hsX32 hsY32 hXY32) ?_)
      rintro e w37 ⟨D38, rfl, h39, m40, c41⟩
      refine ⟨.tuple #[], rfl, ?_⟩
      have M42 := md_old M13 c41
      have M43 := md_old hM2 c41
      obtain ⟨_, _, _, cg44, hg44, _⟩ := ORow.blk h39
      have hT32 := hN32 _ m40
      refine wnil (then_n (wp_seq (rg_lit ?_)))
      refine wmv (v := .int .i64 ((((ia + ib) / 2 : Nat) : Int))) ?_
      refine wmv (v := .int .i64 ((((ia + ib) / 2 + m - sa : Nat) : Int))) ?_
      refine wl (sb rfl (r_lt (k := .i64) (m := ((((ia + ib) / 2 : Nat) : Int))) (n := ((((ia + ib) / 2 + m - sa : Nat) : Int))) (by kernel_rfl) (by kernel_rfl)) ?_)
      intro b45 k46
      refine wmv (v := .bool b45) ?_
      refine bcase b45 (fun v47 => ?_) (fun v47 => ?_)
      ·
       have p48 := of_decide_eq_false (k46.trans v47)
       refine wl (sp (wf (b := b45) rfl (by kernel_rfl) v47) ?_)
       refine wl (sp (wf (b := b45) rfl (by kernel_rfl) v47) ?_)
       refine wl (sp (wf (b := b45) rfl (by kernel_rfl) v47) ?_)
       refine wl (sv rfl (v := .bool false) (r_pkF (ebool (b := b45) (by kernel_rfl) v47) (by kernel_rfl)) ?_)
       refine wnil (then_n ?_)
       refine wp_cond_false (by kernel_rfl) ?_
       refine wp_skip ?_
       refine bodyPost_end (v := .tuple #[]) (res0 rfl ) (by kernel_rfl) ?_
       obtain ⟨D, hD, hM⟩ := Sym3.skip hT32 (by omega) hAs hBs
       exact ⟨D, rfl, ORow.to h39 (by rw [hD]), hM, (Mod.chg M42)⟩
      have p48 := of_decide_eq_true (k46.trans v47)
      refine wl (sv (wt (b := b45) rfl (by kernel_rfl) v47) (v := .int .i64 ((((ia + ib) / 2 + m - sa : Nat) : Int))) (r_move (by kernel_rfl)) ?_)
      refine wl (sv (wt (b := b45) rfl (by kernel_rfl) v47) (v := .int .i64 ((ib : Int))) (r_move (by kernel_rfl)) ?_)
      refine wl (sb (wt (b := b45) rfl (by kernel_rfl) v47) (r_lt (k := .i64) (m := ((((ia + ib) / 2 + m - sa : Nat) : Int))) (n := ((ib : Int))) (by kernel_rfl) (by kernel_rfl)) ?_)
      intro b49 k50
      refine wl (sv rfl (v := .bool b49) (r_pkT (ebool (b := b45) (by kernel_rfl) v47) (by kernel_rfl)) ?_)
      refine wnil (then_n ?_)
      refine bcase b49 (fun v51 => ?_) (fun v51 => ?_)
      ·
       have p52 := of_decide_eq_false (k50.trans v51)
       refine wp_cond_false (ebool (b := b49) (by kernel_rfl) v51) ?_
       refine wp_skip ?_
       refine bodyPost_end (v := .tuple #[]) (res0 rfl ) (by kernel_rfl) ?_
       obtain ⟨D, hD, hM⟩ := Sym3.skip hT32 (by omega) hAs hBs
       exact ⟨D, rfl, ORow.to h39 (by rw [hD]), hM, (Mod.chg M42)⟩
      have p52 := of_decide_eq_true (k50.trans v51)
      refine wp_cond_true (ebool (b := b49) (by kernel_rfl) v51) ?_
      refine rg_lit ?_
      refine wmv (v := .slice (some ⟨g, 0, none⟩) nn c) ?_
      refine wmv (v := .int .i64 ((((ia + ib) / 2 : Nat) : Int))) ?_
      refine wmv (v := .int .i64 ((((ia + ib) / 2 + m - sa : Nat) : Int))) ?_
      refine wmv (v := .int .i64 ((ib : Int))) ?_
      refine wmv (v := .func (.func 115) #[] #[]) ?_
      obtain ⟨p53, X53, Y53, hI53, hp53, hX53, hY53, hsX53, hsY53, hXY53, hN53⟩ := Sym3.half hT32 hAs hBs hAB
      have ho53 := ORow.to h39 (congrArg (List.map f) hI53)
      refine wl (sc rfl (r_callv (caps := []) (all := [.slice (some ⟨g, 0, none⟩) nn c, .int .i64 ((((ia + ib) / 2 : Nat) : Int)), .int .i64 ((((ia + ib) / 2 + m - sa : Nat) : Int)), .int .i64 ((ib : Int)), .func (.func 115) #[] #[]]) En.f201 (by kernel_rfl) (by kernel_rfl)) (ih (by omega) ho53 hBb hn hp53 (by omega) (by omega) (by omega) (by omega) hsX53 hsY53 hXY53) ?_)
      rintro e w54 ⟨D55, rfl, h56, m57, c58⟩
      refine ⟨.tuple #[], rfl, ?_⟩
      have M59 := Mod.trans M42 (Mod.of_chg c58 (by simp))
      have M60 := Mod.trans M43 (Mod.of_chg c58 (by simp))
      obtain ⟨_, _, _, cg61, hg61, _⟩ := ORow.blk h56
      have hT53 := hN53 _ m57
      refine wnil ?_
      refine bodyPost_end (v := .tuple #[]) (res0 rfl ) (by kernel_rfl) ?_
      obtain ⟨D, hD, hM⟩ := hT53
      exact ⟨D, rfl, ORow.to h56 (by rw [hD]), hM, (Mod.chg M59)⟩
     have p21 := of_decide_eq_true (k19.trans v20)
     have q22 : sa < m := by omega
     have q23 : sa < m := by omega
     refine wl (sv (wt (b := b18) rfl (by kernel_rfl) v20) (v := .int .i64 ((m : Int))) (r_move (by kernel_rfl)) ?_)
     refine wl (sv (wt (b := b18) rfl (by kernel_rfl) v20) (v := .int .i64 ((((ia + ib) / 2 + m - sa : Nat) : Int))) (r_move (by kernel_rfl)) ?_)
     refine wl (sb (wt (b := b18) rfl (by kernel_rfl) v20) (r_lt (k := .i64) (m := ((m : Int))) (n := ((((ia + ib) / 2 + m - sa : Nat) : Int))) (by kernel_rfl) (by kernel_rfl)) ?_)
     intro b24 k25
     refine wl (sv rfl (v := .bool b24) (r_pkT (ebool (b := b18) (by kernel_rfl) v20) (by kernel_rfl)) ?_)
     refine wnil (then_n ?_)
     refine bcase b24 (fun v26 => ?_) (fun v26 => ?_)
     ·
      have p27 := of_decide_eq_false (k25.trans v26)
      refine wp_cond_false (ebool (b := b24) (by kernel_rfl) v26) ?_
      refine wp_skip (then_n (wp_seq (wp_seq (rg_lit ?_))))
      refine wmv (v := .int .i64 ((ia : Int))) ?_
      refine wmv (v := .int .i64 ((sa : Int))) ?_
      refine wl (sb rfl (r_lt (k := .i64) (m := ((ia : Int))) (n := ((sa : Int))) (by kernel_rfl) (by kernel_rfl)) ?_)
      intro b28 k29
      refine wmv (v := .bool b28) ?_
      refine bcase b28 (fun v30 => ?_) (fun v30 => ?_)
      ·
       have p31 := of_decide_eq_false (k29.trans v30)
       refine wl (sp (wf (b := b28) rfl (by kernel_rfl) v30) ?_)
       refine wl (sp (wf (b := b28) rfl (by kernel_rfl) v30) ?_)
       refine wl (sp (wf (b := b28) rfl (by kernel_rfl) v30) ?_)
       refine wl (sv rfl (v := .bool false) (r_pkF (ebool (b := b28) (by kernel_rfl) v30) (by kernel_rfl)) ?_)
       refine wnil (then_n ?_)
       refine wp_cond_false (by kernel_rfl) ?_
       refine wp_skip (then_n (wp_seq (rg_lit ?_)))
       refine wmv (v := .int .i64 ((((ia + ib) / 2 : Nat) : Int))) ?_
       refine wmv (v := .int .i64 ((((ia + ib) / 2 + m - sa : Nat) : Int))) ?_
       refine wl (sb rfl (r_lt (k := .i64) (m := ((((ia + ib) / 2 : Nat) : Int))) (n := ((((ia + ib) / 2 + m - sa : Nat) : Int))) (by kernel_rfl) (by kernel_rfl)) ?_)
       intro b32 k33
       refine wmv (v := .bool b32) ?_
       refine bcase b32 (fun v34 => ?_) (fun v34 => ?_)
       ·
        have p35 := of_decide_eq_false (k33.trans v34)
        refine wl (sp (wf (b := b32) rfl (by kernel_rfl) v34) ?_)
        refine wl (sp (wf (b := b32) rfl (by kernel_rfl) v34) ?_)
        refine wl (sp (wf (b := b32) rfl (by kernel_rfl) v34) ?_)
        refine wl (sv rfl (v := .bool false) (r_pkF (ebool (b := b32) (by kernel_rfl) v34) (by kernel_rfl)) ?_)
        refine wnil (then_n ?_)
        refine wp_cond_false (by kernel_rfl) ?_
        refine wp_skip ?_
        refine bodyPost_end (v := .tuple #[]) (res0 rfl ) (by kernel_rfl) ?_
        have h36 := (ORow.up h (Mod.up hM2))
        have hq37 : SymS f (pre ++ (A ++ (Bb ++ post))) ((ia + ib) / 2 + m) ((ia + ib) / 2 + m - ib) ((ia + ib) / 2) sa sa := by have h0 := hF2_0; rw [show ra = sa by omega] at h0; exact h0
        have hT37 := SymS.fin hq37 rfl ha hm hb rfl rfl (by omega) hAs hBs hAB
        obtain ⟨ht1, ht2, ht3, ht4, ht5⟩ := Sym1.len hT37
        have hT38 := Sym1.skip (mid := (ia + ib) / 2) hT37 (by omega) (by omega)
        have hT39 := Sym2.skip hT38 (by omega) hAs hBs
        obtain ⟨D, hD, hM⟩ := Sym3.skip hT39 (by omega) hAs hBs
        exact ⟨D, rfl, ORow.to h36 (by rw [hD]), hM, (to_chg (Mod.up M13) g)⟩
       have p35 := of_decide_eq_true (k33.trans v34)
       refine wl (sv (wt (b := b32) rfl (by kernel_rfl) v34) (v := .int .i64 ((((ia + ib) / 2 + m - sa : Nat) : Int))) (r_move (by kernel_rfl)) ?_)
       refine wl (sv (wt (b := b32) rfl (by kernel_rfl) v34) (v := .int .i64 ((ib : Int))) (r_move (by kernel_rfl)) ?_)
       refine wl (sb (wt (b := b32) rfl (by kernel_rfl) v34) (r_lt (k := .i64) (m := ((((ia + ib) / 2 + m - sa : Nat) : Int))) (n := ((ib : Int))) (by kernel_rfl) (by kernel_rfl)) ?_)
       intro b36 k37
       refine wl (sv rfl (v := .bool b36) (r_pkT (ebool (b := b32) (by kernel_rfl) v34) (by kernel_rfl)) ?_)
       refine wnil (then_n ?_)
       refine bcase b36 (fun v38 => ?_) (fun v38 => ?_)
       ·
        have p39 := of_decide_eq_false (k37.trans v38)
        refine wp_cond_false (ebool (b := b36) (by kernel_rfl) v38) ?_
        refine wp_skip ?_
        refine bodyPost_end (v := .tuple #[]) (res0 rfl ) (by kernel_rfl) ?_
        have h40 := (ORow.up h (Mod.up hM2))
        have hq41 : SymS f (pre ++ (A ++ (Bb ++ post))) ((ia + ib) / 2 + m) ((ia + ib) / 2 + m - ib) ((ia + ib) / 2) sa sa := by have h0 := hF2_0; rw [show ra = sa by omega] at h0; exact h0
        have hT41 := SymS.fin hq41 rfl ha hm hb rfl rfl (by omega) hAs hBs hAB
        obtain ⟨ht1, ht2, ht3, ht4, ht5⟩ := Sym1.len hT41
        have hT42 := Sym1.skip (mid := (ia + ib) / 2) hT41 (by omega) (by omega)
        have hT43 := Sym2.skip hT42 (by omega) hAs hBs
        obtain ⟨D, hD, hM⟩ := Sym3.skip hT43 (by omega) hAs hBs
        exact ⟨D, rfl, ORow.to h40 (by rw [hD]), hM, (to_chg (Mod.up M13) g)⟩
       have p39 := of_decide_eq_true (k37.trans v38)
       refine wp_cond_true (ebool (b := b36) (by kernel_rfl) v38) ?_
       refine rg_lit ?_
       refine wmv (v := .slice (some ⟨g, 0, none⟩) nn c) ?_
       refine wmv (v := .int .i64 ((((ia + ib) / 2 : Nat) : Int))) ?_
       refine wmv (v := .int .i64 ((((ia + ib) / 2 + m - sa : Nat) : Int))) ?_
       refine wmv (v := .int .i64 ((ib : Int))) ?_
       refine wmv (v := .func (.func 115) #[] #[]) ?_
       have hq41 : SymS f (pre ++ (A ++ (Bb ++ post))) ((ia + ib) / 2 + m) ((ia + ib) / 2 + m - ib) ((ia + ib) / 2) sa sa := by have h0 := hF2_0; rw [show ra = sa by omega] at h0; exact h0
       have hT41 := SymS.fin hq41 rfl ha hm hb rfl rfl (by omega) hAs hBs hAB
       obtain ⟨ht1, ht2, ht3, ht4, ht5⟩ := Sym1.len hT41
       have hT42 := Sym1.skip (mid := (ia + ib) / 2) hT41 (by omega) (by omega)
       have hT43 := Sym2.skip hT42 (by omega) hAs hBs
       obtain ⟨p40, X40, Y40, hI40, hp40, hX40, hY40, hsX40, hsY40, hXY40, hN40⟩ := Sym3.half hT43 hAs hBs hAB
       have h44 := md_ob M13 nin0 hg
       have h45 := (ORow.up h (Mod.up hM2))
       have ho40 := ORow.to h45 (congrArg (List.map f) hI40)
       refine wl (sc rfl (r_callv (caps := []) (all := [.slice (some ⟨g, 0, none⟩) nn c, .int .i64 ((((ia + ib) / 2 : Nat) : Int)), .int .i64 ((((ia + ib) / 2 + m - sa : Nat) : Int)), .int .i64 ((ib : Int)), .func (.func 115) #[] #[]]) En.f201 (by kernel_rfl) (by kernel_rfl)) (ih (by omega) ho40 hBb hn hp40 (by omega) (by omega) (by omega) (by omega) hsX40 hsY40 hXY40) ?_)
       rintro e w46 ⟨D47, rfl, h48, m49, c50⟩
       refine ⟨.tuple #[], rfl, ?_⟩
       have M51 := md_old M13 c50
       have M52 := md_old hM2 c50
       obtain ⟨_, _, _, cg53, hg53, _⟩ := ORow.blk h48
       have hT40 := hN40 _ m49
       refine wnil ?_
       refine bodyPost_end (v := .tuple #[]) (res0 rfl ) (by kernel_rfl) ?_
       obtain ⟨D, hD, hM⟩ := hT40
       exact ⟨D, rfl, ORow.to h48 (by rw [hD]), hM, (Mod.chg M51)⟩
      have p31 := of_decide_eq_true (k29.trans v30)
      have q32 : ia < sa := by omega
      have q33 : ia < sa := by omega
      refine wl (sv (wt (b := b28) rfl (by kernel_rfl) v30) (v := .int .i64 ((sa : Int))) (r_move (by kernel_rfl)) ?_)
      refine wl (sv (wt (b := b28) rfl (by kernel_rfl) v30) (v := .int .i64 ((((ia + ib) / 2 : Nat) : Int))) (r_move (by kernel_rfl)) ?_)
      refine wl (sb (wt (b := b28) rfl (by kernel_rfl) v30) (r_lt (k := .i64) (m := ((sa : Int))) (n := ((((ia + ib) / 2 : Nat) : Int))) (by kernel_rfl) (by kernel_rfl)) ?_)
      intro b34 k35
      refine wl (sv rfl (v := .bool b34) (r_pkT (ebool (b := b28) (by kernel_rfl) v30) (by kernel_rfl)) ?_)
      refine wnil (then_n ?_)
      refine bcase b34 (fun v36 => ?_) (fun v36 => ?_)
      ·
       have p37 := of_decide_eq_false (k35.trans v36)
       refine wp_cond_false (ebool (b := b34) (by kernel_rfl) v36) ?_
       refine wp_skip (then_n (wp_seq (rg_lit ?_)))
       refine wmv (v := .int .i64 ((((ia + ib) / 2 : Nat) : Int))) ?_
       refine wmv (v := .int .i64 ((((ia + ib) / 2 + m - sa : Nat) : Int))) ?_
       refine wl (sb rfl (r_lt (k := .i64) (m := ((((ia + ib) / 2 : Nat) : Int))) (n := ((((ia + ib) / 2 + m - sa : Nat) : Int))) (by kernel_rfl) (by kernel_rfl)) ?_)
       intro b38 k39
       refine wmv (v := .bool b38) ?_
       refine bcase b38 (fun v40 => ?_) (fun v40 => ?_)
       ·
        have p41 := of_decide_eq_false (k39.trans v40)
        refine wl (sp (wf (b := b38) rfl (by kernel_rfl) v40) ?_)
        refine wl (sp (wf (b := b38) rfl (by kernel_rfl) v40) ?_)
        refine wl (sp (wf (b := b38) rfl (by kernel_rfl) v40) ?_)
        refine wl (sv rfl (v := .bool false) (r_pkF (ebool (b := b38) (by kernel_rfl) v40) (by kernel_rfl)) ?_)
        refine wnil (then_n ?_)
        refine wp_cond_false (by kernel_rfl) ?_
        refine wp_skip ?_
        refine bodyPost_end (v := .tuple #[]) (res0 rfl ) (by kernel_rfl) ?_
        have h42 := (ORow.up h (Mod.up hM2))
        have hq43 : SymS f (pre ++ (A ++ (Bb ++ post))) ((ia + ib) / 2 + m) ((ia + ib) / 2 + m - ib) ((ia + ib) / 2) sa sa := by have h0 := hF2_0; rw [show ra = sa by omega] at h0; exact h0
        have hT43 := SymS.fin hq43 rfl ha hm hb rfl rfl (by omega) hAs hBs hAB
        obtain ⟨ht1, ht2, ht3, ht4, ht5⟩ := Sym1.len hT43
        have hT44 := Sym1.skip (mid := (ia + ib) / 2) hT43 (by omega) (by omega)
        have hT45 := Sym2.skip hT44 (by omega) hAs hBs
        obtain ⟨D, hD, hM⟩ := Sym3.skip hT45 (by omega) hAs hBs
        exact ⟨D, rfl, ORow.to h42 (by rw [hD]), hM, (to_chg (Mod.up M13) g)⟩
       have p41 := of_decide_eq_true (k39.trans v40)
       refine wl (sv (wt (b := b38) rfl (by kernel_rfl) v40) (v := .int .i64 ((((ia + ib) / 2 + m - sa : Nat) : Int))) (r_move (by kernel_rfl)) ?_)
       refine wl (sv (wt (b := b38) rfl (by kernel_rfl) v40) (v := .int .i64 ((ib : Int))) (r_move (by kernel_rfl)) ?_)
       refine wl (sb (wt (b := b38) rfl (by kernel_rfl) v40) (r_lt (k := .i64) (m := ((((ia + ib) / 2 + m - sa : Nat) : Int))) (n := ((ib : Int))) (by kernel_rfl) (by kernel_rfl)) ?_)
       intro b42 k43
       refine wl (sv rfl (v := .bool b42) (r_pkT (ebool (b := b38) (by kernel_rfl) v40) (by kernel_rfl)) ?_)
       refine wnil (then_n ?_)
       refine bcase b42 (fun v44 => ?_) (fun v44 => ?_)
       ·
        have p45 := of_decide_eq_false (k43.trans v44)
        refine wp_cond_false (ebool (b := b42) (by kernel_rfl) v44) ?_
        refine wp_skip ?_
        refine bodyPost_end (v := .tuple #[]) (res0 rfl ) (by kernel_rfl) ?_
        have h46 := (ORow.up h (Mod.up hM2))
        have hq47 : SymS f (pre ++ (A ++ (Bb ++ post))) ((ia + ib) / 2 + m) ((ia + ib) / 2 + m - ib) ((ia + ib) / 2) sa sa := by have h0 := hF2_0; rw [show ra = sa by omega] at h0; exact h0
        have hT47 := SymS.fin hq47 rfl ha hm hb rfl rfl (by omega) hAs hBs hAB
        obtain ⟨ht1, ht2, ht3, ht4, ht5⟩ := Sym1.len hT47
        have hT48 := Sym1.skip (mid := (ia + ib) / 2) hT47 (by omega) (by omega)
        have hT49 := Sym2.skip hT48 (by omega) hAs hBs
        obtain ⟨D, hD, hM⟩ := Sym3.skip hT49 (by omega) hAs hBs
        exact ⟨D, rfl, ORow.to h46 (by rw [hD]), hM, (to_chg (Mod.up M13) g)⟩
       have p45 := of_decide_eq_true (k43.trans v44)
       refine wp_cond_true (ebool (b := b42) (by kernel_rfl) v44) ?_
       refine rg_lit ?_
       refine wmv (v := .slice (some ⟨g, 0, none⟩) nn c) ?_
       refine wmv (v := .int .i64 ((((ia + ib) / 2 : Nat) : Int))) ?_
       refine wmv (v := .int .i64 ((((ia + ib) / 2 + m - sa : Nat) : Int))) ?_
       refine wmv (v := .int .i64 ((ib : Int))) ?_
       refine wmv (v := .func (.func 115) #[] #[]) ?_
       have hq47 : SymS f (pre ++ (A ++ (Bb ++ post))) ((ia + ib) / 2 + m) ((ia + ib) / 2 + m - ib) ((ia + ib) / 2) sa sa := by have h0 := hF2_0; rw [show ra = sa by omega] at h0; exact h0
       have hT47 := SymS.fin hq47 rfl ha hm hb rfl rfl (by omega) hAs hBs hAB
       obtain ⟨ht1, ht2, ht3, ht4, ht5⟩ := Sym1.len hT47
       have hT48 := Sym1.skip (mid := (ia + ib) / 2) hT47 (by omega) (by omega)
       have hT49 := Sym2.skip hT48 (by omega) hAs hBs
       obtain ⟨p46, X46, Y46, hI46, hp46, hX46, hY46, hsX46, hsY46, hXY46, hN46⟩ := Sym3.half hT49 hAs hBs hAB
       have h50 := md_ob M13 nin0 hg
       have h51 := (ORow.up h (Mod.up hM2))
       have ho46 := ORow.to h51 (congrArg (List.map f) hI46)
       refine wl (sc rfl (r_callv (caps := []) (all := [.slice (some ⟨g, 0, none⟩) nn c, .int .i64 ((((ia + ib) / 2 : Nat) : Int)), .int .i64 ((((ia + ib) / 2 + m - sa : Nat) : Int)), .int .i64 ((ib : Int)), .func (.func 115) #[] #[]]) En.f201 (by kernel_rfl) (by kernel_rfl)) (ih (by omega) ho46 hBb hn hp46 (by omega) (by omega) (by omega) (by omega) hsX46 hsY46 hXY46) ?_)
       rintro e w52 ⟨D53, rfl, h54, m55, c56⟩
       refine ⟨.tuple #[], rfl, ?_⟩
       have M57 := md_old M13 c56
       have M58 := md_old hM2 c56
       obtain ⟨_, _, _, cg59, hg59, _⟩ := ORow.blk h54
       have hT46 := hN46 _ m55
       refine wnil ?_
       refine bodyPost_end (v := .tuple #[]) (res0 rfl ) (by kernel_rfl) ?_
       obtain ⟨D, hD, hM⟩ := hT46
       exact ⟨D, rfl, ORow.to h54 (by rw [hD]), hM, (Mod.chg M57)⟩
      have p37 := of_decide_eq_true (k35.trans v36)
      refine wp_cond_true (ebool (b := b34) (by kernel_rfl) v36) ?_
      refine rg_lit ?_
      refine wmv (v := .slice (some ⟨g, 0, none⟩) nn c) ?_
      refine wmv (v := .int .i64 ((ia : Int))) ?_
      refine wmv (v := .int .i64 ((sa : Int))) ?_
      refine wmv (v := .int .i64 ((((ia + ib) / 2 : Nat) : Int))) ?_
      refine wmv (v := .func (.func 115) #[] #[]) ?_
      have hq39 : SymS f (pre ++ (A ++ (Bb ++ post))) ((ia + ib) / 2 + m) ((ia + ib) / 2 + m - ib) ((ia + ib) / 2) sa sa := by have h0 := hF2_0; rw [show ra = sa by omega] at h0; exact h0
      have hT39 := SymS.fin hq39 rfl ha hm hb rfl rfl (by omega) hAs hBs hAB
      obtain ⟨ht1, ht2, ht3, ht4, ht5⟩ := Sym1.len hT39
      have hT40 := Sym1.skip (mid := (ia + ib) / 2) hT39 (by omega) (by omega)
      obtain ⟨X38, Y38, q38, hI38, hX38, hY38, hsX38, hsY38, hXY38, hN38⟩ := Sym2.half hT40 hAs hBs hAB
      have h41 := md_ob M13 nin0 hg
      have h42 := (ORow.up h (Mod.up hM2))
      have ho38 := ORow.to h42 (congrArg (List.map f) hI38)
      refine wl (sc rfl (r_callv (caps := []) (all := [.slice (some ⟨g, 0, none⟩) nn c, .int .i64 ((ia : Int)), .int .i64 ((sa : Int)), .int .i64 ((((ia + ib) / 2 : Nat) : Int)), .func (.func 115) #[] #[]]) En.f201 (by kernel_rfl) (by kernel_rfl)) (ih (by omega) ho38 hBb hn ha (by omega) (by omega) (by omega) (by omega) hsX38 hsY38 hXY38) ?_)
      rintro e w43 ⟨D44, rfl, h45, m46, c47⟩
      refine ⟨.tuple #[], rfl, ?_⟩
      have M48 := md_old M13 c47
      have M49 := md_old hM2 c47
      obtain ⟨_, _, _, cg50, hg50, _⟩ := ORow.blk h45
      have hT38 := hN38 _ m46
      refine wnil (then_n (wp_seq (rg_lit ?_)))
      refine wmv (v := .int .i64 ((((ia + ib) / 2 : Nat) : Int))) ?_
      refine wmv (v := .int .i64 ((((ia + ib) / 2 + m - sa : Nat) : Int))) ?_
      refine wl (sb rfl (r_lt (k := .i64) (m := ((((ia + ib) / 2 : Nat) : Int))) (n := ((((ia + ib) / 2 + m - sa : Nat) : Int))) (by kernel_rfl) (by kernel_rfl)) ?_)
      intro b51 k52
      refine wmv (v := .bool b51) ?_
      refine bcase b51 (fun v53 => ?_) (fun v53 => ?_)
      ·
       have p54 := of_decide_eq_false (k52.trans v53)
       refine wl (sp (wf (b := b51) rfl (by kernel_rfl) v53) ?_)
       refine wl (sp (wf (b := b51) rfl (by kernel_rfl) v53) ?_)
       refine wl (sp (wf (b := b51) rfl (by kernel_rfl) v53) ?_)
       refine wl (sv rfl (v := .bool false) (r_pkF (ebool (b := b51) (by kernel_rfl) v53) (by kernel_rfl)) ?_)
       refine wnil (then_n ?_)
       refine wp_cond_false (by kernel_rfl) ?_
       refine wp_skip ?_
       refine bodyPost_end (v := .tuple #[]) (res0 rfl ) (by kernel_rfl) ?_
       obtain ⟨D, hD, hM⟩ := Sym3.skip hT38 (by omega) hAs hBs
       exact ⟨D, rfl, ORow.to h45 (by rw [hD]), hM, (Mod.chg M48)⟩
      have p54 := of_decide_eq_true (k52.trans v53)
      refine wl (sv (wt (b := b51) rfl (by kernel_rfl) v53) (v := .int .i64 ((((ia + ib) / 2 + m - sa : Nat) : Int))) (r_move (by kernel_rfl)) ?_)
      refine wl (sv (wt (b := b51) rfl (by kernel_rfl) v53) (v := .int .i64 ((ib : Int))) (r_move (by kernel_rfl)) ?_)
      refine wl (sb (wt (b := b51) rfl (by kernel_rfl) v53) (r_lt (k := .i64) (m := ((((ia + ib) / 2 + m - sa : Nat) : Int))) (n := ((ib : Int))) (by kernel_rfl) (by kernel_rfl)) ?_)
      intro b55 k56
      refine wl (sv rfl (v := .bool b55) (r_pkT (ebool (b := b51) (by kernel_rfl) v53) (by kernel_rfl)) ?_)
      refine wnil (then_n ?_)
      refine bcase b55 (fun v57 => ?_) (fun v57 => ?_)
      ·
       have p58 := of_decide_eq_false (k56.trans v57)
       refine wp_cond_false (ebool (b := b55) (by kernel_rfl) v57) ?_
       refine wp_skip ?_
       refine bodyPost_end (v := .tuple #[]) (res0 rfl ) (by kernel_rfl) ?_
       obtain ⟨D, hD, hM⟩ := Sym3.skip hT38 (by omega) hAs hBs
       exact ⟨D, rfl, ORow.to h45 (by rw [hD]), hM, (Mod.chg M48)⟩
      have p58 := of_decide_eq_true (k56.trans v57)
      refine wp_cond_true (ebool (b := b55) (by kernel_rfl) v57) ?_
      refine rg_lit ?_
      refine wmv (v := .slice (some ⟨g, 0, none⟩) nn c) ?_
      refine wmv (v := .int .i64 ((((ia + ib) / 2 : Nat) : Int))) ?_
      refine wmv (v := .int .i64 ((((ia + ib) / 2 + m - sa : Nat) : Int))) ?_
      refine wmv (v := .int .i64 ((ib : Int))) ?_
      refine wmv (v := .func (.func 115) #[] #[]) ?_
      obtain ⟨p59, X59, Y59, hI59, hp59, hX59, hY59, hsX59, hsY59, hXY59, hN59⟩ := Sym3.half hT38 hAs hBs hAB
      have ho59 := ORow.to h45 (congrArg (List.map f) hI59)
      refine wl (sc rfl (r_callv (caps := []) (all := [.slice (some ⟨g, 0, none⟩) nn c, .int .i64 ((((ia + ib) / 2 : Nat) : Int)), .int .i64 ((((ia + ib) / 2 + m - sa : Nat) : Int)), .int .i64 ((ib : Int)), .func (.func 115) #[] #[]]) En.f201 (by kernel_rfl) (by kernel_rfl)) (ih (by omega) ho59 hBb hn hp59 (by omega) (by omega) (by omega) (by omega) hsX59 hsY59 hXY59) ?_)
      rintro e w60 ⟨D61, rfl, h62, m63, c64⟩
      refine ⟨.tuple #[], rfl, ?_⟩
      have M65 := Mod.trans M48 (Mod.of_chg c64 (by simp))
      have M66 := Mod.trans M49 (Mod.of_chg c64 (by simp))
      obtain ⟨_, _, _, cg67, hg67, _⟩ := ORow.blk h62
      have hT59 := hN59 _ m63
      refine wnil ?_
      refine bodyPost_end (v := .tuple #[]) (res0 rfl ) (by kernel_rfl) ?_
      obtain ⟨D, hD, hM⟩ := hT59
      exact ⟨D, rfl, ORow.to h62 (by rw [hD]), hM, (Mod.chg M65)⟩
     have p27 := of_decide_eq_true (k25.trans v26)
     refine wp_cond_true (ebool (b := b24) (by kernel_rfl) v26) ?_
     refine rg_lit ?_
     refine wmv (v := .slice (some ⟨g, 0, none⟩) nn c) ?_
     refine wmv (v := .int .i64 ((sa : Int))) ?_
     refine wmv (v := .int .i64 ((m : Int))) ?_
     refine wmv (v := .int .i64 ((((ia + ib) / 2 + m - sa : Nat) : Int))) ?_
     refine wmv (v := .func (.func 115) #[] #[]) ?_
     have hq28 : SymS f (pre ++ (A ++ (Bb ++ post))) ((ia + ib) / 2 + m) ((ia + ib) / 2 + m - ib) ((ia + ib) / 2) sa sa := by have h0 := hF2_0; rw [show ra = sa by omega] at h0; exact h0
     have hT28 := SymS.fin hq28 rfl ha hm hb rfl rfl (by omega) hAs hBs hAB
     obtain ⟨ht1, ht2, ht3, ht4, ht5⟩ := Sym1.len hT28
     have h30 := md_ob M13 nin0 hg
     have h31 := (ORow.up h (Mod.up hM2))
     obtain ⟨p29, X29, Y29, q29, hI29, hp29, hX29, hY29, hT29⟩ := Sym1.turn (mid := (ia + ib) / 2) hT28 (by omega)
     have ho29 := ORow.to h31 (congrArg (List.map f) hI29)
     refine wl (sc rfl (r_callv (caps := []) (all := [.slice (some ⟨g, 0, none⟩) nn c, .int .i64 ((sa : Int)), .int .i64 ((m : Int)), .int .i64 ((((ia + ib) / 2 + m - sa : Nat) : Int)), .func (.func 115) #[] #[]]) En.f230 (by kernel_rfl) (by kernel_rfl)) (rotate_at ho29 hBb hn hp29 (by omega) (by omega) (by omega) (by omega)) ?_)
     rintro e w32 ⟨rfl, h33, c34⟩
     refine ⟨.tuple #[], rfl, ?_⟩
     have M35 := md_old M13 c34
     have M36 := md_old hM2 c34
     obtain ⟨_, _, _, cg37, hg37, _⟩ := ORow.blk h33
     refine wnil (then_n (wp_seq (wp_seq (rg_lit ?_))))
     refine wmv (v := .int .i64 ((ia : Int))) ?_
     refine wmv (v := .int .i64 ((sa : Int))) ?_
     refine wl (sb rfl (r_lt (k := .i64) (m := ((ia : Int))) (n := ((sa : Int))) (by kernel_rfl) (by kernel_rfl)) ?_)
     intro b38 k39
     refine wmv (v := .bool b38) ?_
     refine bcase b38 (fun v40 => ?_) (fun v40 => ?_)
     ·
      have p41 := of_decide_eq_false (k39.trans v40)
      refine wl (sp (wf (b := b38) rfl (by kernel_rfl) v40) ?_)
      refine wl (sp (wf (b := b38) rfl (by kernel_rfl) v40) ?_)
      refine wl (sp (wf (b := b38) rfl (by kernel_rfl) v40) ?_)
      refine wl (sv rfl (v := .bool false) (r_pkF (ebool (b := b38) (by kernel_rfl) v40) (by kernel_rfl)) ?_)
      refine wnil (then_n ?_)
      refine wp_cond_false (by kernel_rfl) ?_
      refine wp_skip (then_n (wp_seq (rg_lit ?_)))
      refine wmv (v := .int .i64 ((((ia + ib) / 2 : Nat) : Int))) ?_
      refine wmv (v := .int .i64 ((((ia + ib) / 2 + m - sa : Nat) : Int))) ?_
      refine wl (sb rfl (r_lt (k := .i64) (m := ((((ia + ib) / 2 : Nat) : Int))) (n := ((((ia + ib) / 2 + m - sa : Nat) : Int))) (by kernel_rfl) (by kernel_rfl)) ?_)
      intro b42 k43
      refine wmv (v := .bool b42) ?_
      refine bcase b42 (fun v44 => ?_) (fun v44 => ?_)
      ·
       have p45 := of_decide_eq_false (k43.trans v44)
       refine wl (sp (wf (b := b42) rfl (by kernel_rfl) v44) ?_)
       refine wl (sp (wf (b := b42) rfl (by kernel_rfl) v44) ?_)
       refine wl (sp (wf (b := b42) rfl (by kernel_rfl) v44) ?_)
       refine wl (sv rfl (v := .bool false) (r_pkF (ebool (b := b42) (by kernel_rfl) v44) (by kernel_rfl)) ?_)
       refine wnil (then_n ?_)
       refine wp_cond_false (by kernel_rfl) ?_
       refine wp_skip ?_
       refine bodyPost_end (v := .tuple #[]) (res0 rfl ) (by kernel_rfl) ?_
       have hT46 := Sym2.skip hT29 (by omega) hAs hBs
       obtain ⟨D, hD, hM⟩ := Sym3.skip hT46 (by omega) hAs hBs
       exact ⟨D, rfl, ORow.to h33 (by rw [hD]), hM, (Mod.chg M35)⟩
      have p45 := of_decide_eq_true (k43.trans v44)
      refine wl (sv (wt (b := b42) rfl (by kernel_rfl) v44) (v := .int .i64 ((((ia + ib) / 2 + m - sa : Nat) : Int))) (r_move (by kernel_rfl)) ?_)
      refine wl (sv (wt (b := b42) rfl (by kernel_rfl) v44) (v := .int .i64 ((ib : Int))) (r_move (by kernel_rfl)) ?_)
      refine wl (sb (wt (b := b42) rfl (by kernel_rfl) v44) (r_lt (k := .i64) (m := ((((ia + ib) / 2 + m - sa : Nat) : Int))) (n := ((ib : Int))) (by kernel_rfl) (by kernel_rfl)) ?_)
      intro b46 k47
      refine wl (sv rfl (v := .bool b46) (r_pkT (ebool (b := b42) (by kernel_rfl) v44) (by kernel_rfl)) ?_)
      refine wnil (then_n ?_)
      refine bcase b46 (fun v48 => ?_) (fun v48 => ?_)
      ·
       have p49 := of_decide_eq_false (k47.trans v48)
       refine wp_cond_false (ebool (b := b46) (by kernel_rfl) v48) ?_
       refine wp_skip ?_
       refine bodyPost_end (v := .tuple #[]) (res0 rfl ) (by kernel_rfl) ?_
       have hT50 := Sym2.skip hT29 (by omega) hAs hBs
       obtain ⟨D, hD, hM⟩ := Sym3.skip hT50 (by omega) hAs hBs
       exact ⟨D, rfl, ORow.to h33 (by rw [hD]), hM, (Mod.chg M35)⟩
      have p49 := of_decide_eq_true (k47.trans v48)
      refine wp_cond_true (ebool (b := b46) (by kernel_rfl) v48) ?_
      refine rg_lit ?_
      refine wmv (v := .slice (some ⟨g, 0, none⟩) nn c) ?_
      refine wmv (v := .int .i64 ((((ia + ib) / 2 : Nat) : Int))) ?_
      refine wmv (v := .int .i64 ((((ia + ib) / 2 + m - sa : Nat) : Int))) ?_
      refine wmv (v := .int .i64 ((ib : Int))) ?_
      refine wmv (v := .func (.func 115) #[] #[]) ?_
      have hT51 := Sym2.skip hT29 (by omega) hAs hBs
      obtain ⟨p50, X50, Y50, hI50, hp50, hX50, hY50, hsX50, hsY50, hXY50, hN50⟩ := Sym3.half hT51 hAs hBs hAB
      have ho50 := ORow.to h33 (congrArg (List.map f) hI50)
      refine wl (sc rfl (r_callv (caps := []) (all := [.slice (some ⟨g, 0, none⟩) nn c, .int .i64 ((((ia + ib) / 2 : Nat) : Int)), .int .i64 ((((ia + ib) / 2 + m - sa : Nat) : Int)), .int .i64 ((ib : Int)), .func (.func 115) #[] #[]]) En.f201 (by kernel_rfl) (by kernel_rfl)) (ih (by omega) ho50 hBb hn hp50 (by omega) (by omega) (by omega) (by omega) hsX50 hsY50 hXY50) ?_)
      rintro e w52 ⟨D53, rfl, h54, m55, c56⟩
      refine ⟨.tuple #[], rfl, ?_⟩
      have M57 := Mod.trans M35 (Mod.of_chg c56 (by simp))
      have M58 := Mod.trans M36 (Mod.of_chg c56 (by simp))
      obtain ⟨_, _, _, cg59, hg59, _⟩ := ORow.blk h54
      have hT50 := hN50 _ m55
      refine wnil ?_
      refine bodyPost_end (v := .tuple #[]) (res0 rfl ) (by kernel_rfl) ?_
      obtain ⟨D, hD, hM⟩ := hT50
      exact ⟨D, rfl, ORow.to h54 (by rw [hD]), hM, (Mod.chg M57)⟩
     have p41 := of_decide_eq_true (k39.trans v40)
     have q42 : ia < sa := by omega
     have q43 : ia < sa := by omega
     refine wl (sv (wt (b := b38) rfl (by kernel_rfl) v40) (v := .int .i64 ((sa : Int))) (r_move (by kernel_rfl)) ?_)
     refine wl (sv (wt (b := b38) rfl (by kernel_rfl) v40) (v := .int .i64 ((((ia + ib) / 2 : Nat) : Int))) (r_move (by kernel_rfl)) ?_)
     refine wl (sb (wt (b := b38) rfl (by kernel_rfl) v40) (r_lt (k := .i64) (m := ((sa : Int))) (n := ((((ia + ib) / 2 : Nat) : Int))) (by kernel_rfl) (by kernel_rfl)) ?_)
     intro b44 k45
     refine wl (sv rfl (v := .bool b44) (r_pkT (ebool (b := b38) (by kernel_rfl) v40) (by kernel_rfl)) ?_)
     refine wnil (then_n ?_)
     refine bcase b44 (fun v46 => ?_) (fun v46 => ?_)
     ·
      have p47 := of_decide_eq_false (k45.trans v46)
      refine wp_cond_false (ebool (b := b44) (by kernel_rfl) v46) ?_
      refine wp_skip (then_n (wp_seq (rg_lit ?_)))
      refine wmv (v := .int .i64 ((((ia + ib) / 2 : Nat) : Int))) ?_
      refine wmv (v := .int .i64 ((((ia + ib) / 2 + m - sa : Nat) : Int))) ?_
      refine wl (sb rfl (r_lt (k := .i64) (m := ((((ia + ib) / 2 : Nat) : Int))) (n := ((((ia + ib) / 2 + m - sa : Nat) : Int))) (by kernel_rfl) (by kernel_rfl)) ?_)
      intro b48 k49
      refine wmv (v := .bool b48) ?_
      refine bcase b48 (fun v50 => ?_) (fun v50 => ?_)
      ·
       have p51 := of_decide_eq_false (k49.trans v50)
       refine wl (sp (wf (b := b48) rfl (by kernel_rfl) v50) ?_)
       refine wl (sp (wf (b := b48) rfl (by kernel_rfl) v50) ?_)
       refine wl (sp (wf (b := b48) rfl (by kernel_rfl) v50) ?_)
       refine wl (sv rfl (v := .bool false) (r_pkF (ebool (b := b48) (by kernel_rfl) v50) (by kernel_rfl)) ?_)
       refine wnil (then_n ?_)
       refine wp_cond_false (by kernel_rfl) ?_
       refine wp_skip ?_
       refine bodyPost_end (v := .tuple #[]) (res0 rfl ) (by kernel_rfl) ?_
       have hT52 := Sym2.skip hT29 (by omega) hAs hBs
       obtain ⟨D, hD, hM⟩ := Sym3.skip hT52 (by omega) hAs hBs
       exact ⟨D, rfl, ORow.to h33 (by rw [hD]), hM, (Mod.chg M35)⟩
      have p51 := of_decide_eq_true (k49.trans v50)
      refine wl (sv (wt (b := b48) rfl (by kernel_rfl) v50) (v := .int .i64 ((((ia + ib) / 2 + m - sa : Nat) : Int))) (r_move (by kernel_rfl)) ?_)
      refine wl (sv (wt (b := b48) rfl (by kernel_rfl) v50) (v := .int .i64 ((ib : Int))) (r_move (by kernel_rfl)) ?_)
      refine wl (sb (wt (b := b48) rfl (by kernel_rfl) v50) (r_lt (k := .i64) (m := ((((ia + ib) / 2 + m - sa : Nat) : Int))) (n := ((ib : Int))) (by kernel_rfl) (by kernel_rfl)) ?_)
      intro b52 k53
      refine wl (sv rfl (v := .bool b52) (r_pkT (ebool (b := b48) (by kernel_rfl) v50) (by kernel_rfl)) ?_)
      refine wnil (then_n ?_)
      refine bcase b52 (fun v54 => ?_) (fun v54 => ?_)
      ·
       have p55 := of_decide_eq_false (k53.trans v54)
       refine wp_cond_false (ebool (b := b52) (by kernel_rfl) v54) ?_
       refine wp_skip ?_
       refine bodyPost_end (v := .tuple #[]) (res0 rfl ) (by kernel_rfl) ?_
       have hT56 := Sym2.skip hT29 (by omega) hAs hBs
       obtain ⟨D, hD, hM⟩ := Sym3.skip hT56 (by omega) hAs hBs
       exact ⟨D, rfl, ORow.to h33 (by rw [hD]), hM, (Mod.chg M35)⟩
      have p55 := of_decide_eq_true (k53.trans v54)
      refine wp_cond_true (ebool (b := b52) (by kernel_rfl) v54) ?_
      refine rg_lit ?_
      refine wmv (v := .slice (some ⟨g, 0, none⟩) nn c) ?_
      refine wmv (v := .int .i64 ((((ia + ib) / 2 : Nat) : Int))) ?_
      refine wmv (v := .int .i64 ((((ia + ib) / 2 + m - sa : Nat) : Int))) ?_
      refine wmv (v := .int .i64 ((ib : Int))) ?_
      refine wmv (v := .func (.func 115) #[] #[]) ?_
      have hT57 := Sym2.skip hT29 (by omega) hAs hBs
      obtain ⟨p56, X56, Y56, hI56, hp56, hX56, hY56, hsX56, hsY56, hXY56, hN56⟩ := Sym3.half hT57 hAs hBs hAB
      have ho56 := ORow.to h33 (congrArg (List.map f) hI56)
      refine wl (sc rfl (r_callv (caps := []) (all := [.slice (some ⟨g, 0, none⟩) nn c, .int .i64 ((((ia + ib) / 2 : Nat) : Int)), .int .i64 ((((ia + ib) / 2 + m - sa : Nat) : Int)), .int .i64 ((ib : Int)), .func (.func 115) #[] #[]]) En.f201 (by kernel_rfl) (by kernel_rfl)) (ih (by omega) ho56 hBb hn hp56 (by omega) (by omega) (by omega) (by omega) hsX56 hsY56 hXY56) ?_)
      rintro e w58 ⟨D59, rfl, h60, m61, c62⟩
      refine ⟨.tuple #[], rfl, ?_⟩
      have M63 := Mod.trans M35 (Mod.of_chg c62 (by simp))
      have M64 := Mod.trans M36 (Mod.of_chg c62 (by simp))
      obtain ⟨_, _, _, cg65, hg65, _⟩ := ORow.blk h60
      have hT56 := hN56 _ m61
      refine wnil ?_
      refine bodyPost_end (v := .tuple #[]) (res0 rfl ) (by kernel_rfl) ?_
      obtain ⟨D, hD, hM⟩ := hT56
      exact ⟨D, rfl, ORow.to h60 (by rw [hD]), hM, (Mod.chg M63)⟩
     have p47 := of_decide_eq_true (k45.trans v46)
     refine wp_cond_true (ebool (b := b44) (by kernel_rfl) v46) ?_
     refine rg_lit ?_
     refine wmv (v := .slice (some ⟨g, 0, none⟩) nn c) ?_
     refine wmv (v := .int .i64 ((ia : Int))) ?_
     refine wmv (v := .int .i64 ((sa : Int))) ?_
     refine wmv (v := .int .i64 ((((ia + ib) / 2 : Nat) : Int))) ?_
     refine wmv (v := .func (.func 115) #[] #[]) ?_
     obtain ⟨X48, Y48, q48, hI48, hX48, hY48, hsX48, hsY48, hXY48, hN48⟩ := Sym2.half hT29 hAs hBs hAB
     have ho48 := ORow.to h33 (congrArg (List.map f) hI48)
     refine wl (sc rfl (r_callv (caps := []) (all := [.slice (some ⟨g, 0, none⟩) nn c, .int .i64 ((ia : Int)), .int .i64 ((sa : Int)), .int .i64 ((((ia + ib) / 2 : Nat) : Int)), .func (.func 115) #[] #[]]) En.f201 (by kernel_rfl) (by kernel_rfl)) (ih (by omega) ho48 hBb hn ha (by omega) (by omega) (by omega) (by omega) hsX48 hsY48 hXY48) ?_)
     rintro e w49 ⟨D50, rfl, h51, m52, c53⟩
     refine ⟨.tuple #[], rfl, ?_⟩
     have M54 := Mod.trans M35 (Mod.of_chg c53 (by simp))
     have M55 := Mod.trans M36 (Mod.of_chg c53 (by simp))
     obtain ⟨_, _, _, cg56, hg56, _⟩ := ORow.blk h51
     have hT48 := hN48 _ m52
     refine wnil (then_n (wp_seq (rg_lit ?_)))
     refine wmv (v := .int .i64 ((((ia + ib) / 2 : Nat) : Int))) ?_
     refine wmv (v := .int .i64 ((((ia + ib) / 2 + m - sa : Nat) : Int))) ?_
     refine wl (sb rfl (r_lt (k := .i64) (m := ((((ia + ib) / 2 : Nat) : Int))) (n := ((((ia + ib) / 2 + m - sa : Nat) : Int))) (by kernel_rfl) (by kernel_rfl)) ?_)
     intro b57 k58
     refine wmv (v := .bool b57) ?_
     refine bcase b57 (fun v59 => ?_) (fun v59 => ?_)
     ·
      have p60 := of_decide_eq_false (k58.trans v59)
      refine wl (sp (wf (b := b57) rfl (by kernel_rfl) v59) ?_)
      refine wl (sp (wf (b := b57) rfl (by kernel_rfl) v59) ?_)
      refine wl (sp (wf (b := b57) rfl (by kernel_rfl) v59) ?_)
      refine wl (sv rfl (v := .bool false) (r_pkF (ebool (b := b57) (by kernel_rfl) v59) (by kernel_rfl)) ?_)
      refine wnil (then_n ?_)
      refine wp_cond_false (by kernel_rfl) ?_
      refine wp_skip ?_
      refine bodyPost_end (v := .tuple #[]) (res0 rfl ) (by kernel_rfl) ?_
      obtain ⟨D, hD, hM⟩ := Sym3.skip hT48 (by omega) hAs hBs
      exact ⟨D, rfl, ORow.to h51 (by rw [hD]), hM, (Mod.chg M54)⟩
     have p60 := of_decide_eq_true (k58.trans v59)
     refine wl (sv (wt (b := b57) rfl (by kernel_rfl) v59) (v := .int .i64 ((((ia + ib) / 2 + m - sa : Nat) : Int))) (r_move (by kernel_rfl)) ?_)
     refine wl (sv (wt (b := b57) rfl (by kernel_rfl) v59) (v := .int .i64 ((ib : Int))) (r_move (by kernel_rfl)) ?_)
     refine wl (sb (wt (b := b57) rfl (by kernel_rfl) v59) (r_lt (k := .i64) (m := ((((ia + ib) / 2 + m - sa : Nat) : Int))) (n := ((ib : Int))) (by kernel_rfl) (by kernel_rfl)) ?_)
     intro b61 k62
     refine wl (sv rfl (v := .bool b61) (r_pkT (ebool (b := b57) (by kernel_rfl) v59) (by kernel_rfl)) ?_)
     refine wnil (then_n ?_)
     refine bcase b61 (fun v63 => ?_) (fun v63 => ?_)
     ·
      have p64 := of_decide_eq_false (k62.trans v63)
      refine wp_cond_false (ebool (b := b61) (by kernel_rfl) v63) ?_
      refine wp_skip ?_
      refine bodyPost_end (v := .tuple #[]) (res0 rfl ) (by kernel_rfl) ?_
      obtain ⟨D, hD, hM⟩ := Sym3.skip hT48 (by omega) hAs hBs
      exact ⟨D, rfl, ORow.to h51 (by rw [hD]), hM, (Mod.chg M54)⟩
     have p64 := of_decide_eq_true (k62.trans v63)
     refine wp_cond_true (ebool (b := b61) (by kernel_rfl) v63) ?_
     refine rg_lit ?_
     refine wmv (v := .slice (some ⟨g, 0, none⟩) nn c) ?_
     refine wmv (v := .int .i64 ((((ia + ib) / 2 : Nat) : Int))) ?_
     refine wmv (v := .int .i64 ((((ia + ib) / 2 + m - sa : Nat) : Int))) ?_
     refine wmv (v := .int .i64 ((ib : Int))) ?_
     refine wmv (v := .func (.func 115) #[] #[]) ?_
     obtain ⟨p65, X65, Y65, hI65, hp65, hX65, hY65, hsX65, hsY65, hXY65, hN65⟩ := Sym3.half hT48 hAs hBs hAB
     have ho65 := ORow.to h51 (congrArg (List.map f) hI65)
     refine wl (sc rfl (r_callv (caps := []) (all := [.slice (some ⟨g, 0, none⟩) nn c, .int .i64 ((((ia + ib) / 2 : Nat) : Int)), .int .i64 ((((ia + ib) / 2 + m - sa : Nat) : Int)), .int .i64 ((ib : Int)), .func (.func 115) #[] #[]]) En.f201 (by kernel_rfl) (by kernel_rfl)) (ih (by omega) ho65 hBb hn hp65 (by omega) (by omega) (by omega) (by omega) hsX65 hsY65 hXY65) ?_)
     rintro e w66 ⟨D67, rfl, h68, m69, c70⟩
     refine ⟨.tuple #[], rfl, ?_⟩
     have M71 := Mod.trans M54 (Mod.of_chg c70 (by simp))
     have M72 := Mod.trans M55 (Mod.of_chg c70 (by simp))
     obtain ⟨_, _, _, cg73, hg73, _⟩ := ORow.blk h68
     have hT65 := hN65 _ m69
     refine wnil ?_
     refine bodyPost_end (v := .tuple #[]) (res0 rfl ) (by kernel_rfl) ?_
     obtain ⟨D, hD, hM⟩ := hT65
     exact ⟨D, rfl, ORow.to h68 (by rw [hD]), hM, (Mod.chg M71)⟩
    have p17 := of_decide_eq_true (k15.trans v16)
    have q18 : sa < ra := by omega
    have q19 : sa < ra := by omega
    refine wp_cond_true (ebool (b := b14) (by kernel_rfl) v16) ?_
    refine wp_skip (then_n (wp_block (wp_seq (rg_lit ?_))))
    refine wmv (v := .int .i64 ((sa : Int))) ?_
    refine wmv (v := .int .i64 ((ra : Int))) ?_
    refine wl (sv rfl (v := .int .i64 (((sa + ra : Nat) : Int))) (r_add (k := .i64) (m := ((sa : Int))) (n := ((ra : Int))) (c := (((sa + ra : Nat) : Int))) (by kernel_rfl) (by kernel_rfl) ((IntWalk.i64_in _ (by omega)).trans (by omega))) ?_)
    refine wl (sv rfl (v := .int .u64 (((sa + ra : Nat) : Int))) (r_toUn (m := (sa + ra)) (by kernel_rfl) (by omega)) ?_)
    refine wl (sv rfl (v := .int .u64 ((((sa + ra) / 2 : Nat) : Int))) (r_halfn (m := (sa + ra)) (by kernel_rfl) (by kernel_rfl)) ?_)
    refine wl (sv rfl (v := .int .i64 ((((sa + ra) / 2 : Nat) : Int))) (r_toIn (m := ((sa + ra) / 2)) (by kernel_rfl) (by omega)) ?_)
    refine was (v := .int .i64 ((((sa + ra) / 2 : Nat) : Int))) ?_
    refine wnil (then_n (wp_seq ?_))
    refine rg_tail 11 (by kernel_rfl) (by kernel_rfl) rfl rfl ?_
    refine qmv (v := .func (.func 115) #[] #[]) ?_
    refine qmv (v := .slice (some ⟨g, 0, none⟩) nn c) ?_
    refine qmv (v := .int .i64 ((((ia + ib) / 2 + m - 1 : Nat) : Int))) ?_
    refine qmv (v := .int .i64 ((((sa + ra) / 2 : Nat) : Int))) ?_
    refine qv rfl (v := .int .i64 ((((ia + ib) / 2 + m - 1 - ((sa + ra) / 2) : Nat) : Int))) (fun _ _ => r_sub (k := .i64) (m := ((((ia + ib) / 2 + m - 1 : Nat) : Int))) (n := ((((sa + ra) / 2 : Nat) : Int))) (c := ((((ia + ib) / 2 + m - 1 - ((sa + ra) / 2) : Nat) : Int))) (by kernel_rfl) (by kernel_rfl) ((IntWalk.i64_in _ (by omega)).trans (by omega))) ?_
    refine qv rfl (v := .pointer (some ⟨g, ((ia + ib) / 2 + m - 1 - ((sa + ra) / 2)) * 10, none⟩)) (fun _ _ => r_ixaddr' (A := some ⟨g, 0, none⟩) (b := g) (o := 0) (n := nn) (c := c) (sz := 10) (j := ((((ia + ib) / 2 + m - 1 - ((sa + ra) / 2) : Nat) : Int))) (m := ((ia + ib) / 2 + m - 1 - ((sa + ra) / 2)) * 10) (by kernel_rfl) rfl (by kernel_rfl) Ty.un22 Ty.sz49 (by omega) (by omega) (by omega)) ?_
    have h20 := (ORow.up h (Mod.up hM2))
    obtain ⟨x21, hx21⟩ : ∃ x, (pre ++ (A ++ (Bb ++ post)))[(ia + ib) / 2 + m - 1 - ((sa + ra) / 2)]? = some x := ⟨_, List.getElem?_eq_getElem (by omega)⟩
    obtain ⟨cu22, dA22, dn22, dc22, hb22, he22, hD22⟩ := ORow.elem h20 (map_get' hx21)
    refine qv rfl (v := opV (f x21) (.slice dA22 dn22 dc22)) (fun _ uz => r_loads (k := ((ia + ib) / 2 + m - 1 - ((sa + ra) / 2)) * 10) (vs := (opC (f x21) (.slice dA22 dn22 dc22))) (by kernel_rfl) Ty.ag49 Ty.sz49 (up_ob uz hb22) (el_sub0 he22 rfl)) ?_
    refine qmv (v := .slice (some ⟨g, 0, none⟩) nn c) ?_
    refine qmv (v := .int .i64 ((((sa + ra) / 2 : Nat) : Int))) ?_
    refine qv rfl (v := .pointer (some ⟨g, ((sa + ra) / 2) * 10, none⟩)) (fun _ _ => r_ixaddr' (A := some ⟨g, 0, none⟩) (b := g) (o := 0) (n := nn) (c := c) (sz := 10) (j := ((((sa + ra) / 2 : Nat) : Int))) (m := ((sa + ra) / 2) * 10) (by kernel_rfl) rfl (by kernel_rfl) Ty.un22 Ty.sz49 (by omega) (by omega) (by omega)) ?_
    obtain ⟨x23, hx23⟩ : ∃ x, (pre ++ (A ++ (Bb ++ post)))[(sa + ra) / 2]? = some x := ⟨_, List.getElem?_eq_getElem (by omega)⟩
    obtain ⟨cu24, dA24, dn24, dc24, hb24, he24, hD24⟩ := ORow.elem h20 (map_get' hx23)
    refine qv rfl (v := opV (f x23) (.slice dA24 dn24 dc24)) (fun _ uz => r_loads (k := ((sa + ra) / 2) * 10) (vs := (opC (f x23) (.slice dA24 dn24 dc24))) (by kernel_rfl) Ty.ag49 Ty.sz49 (up_ob uz hb24) (el_sub0 he24 rfl)) ?_
    refine qnil ?_
    intro w25 u26
    have M27 := Mod.trans M13 (Mod.of_up u26)
    have M28 := Mod.trans hM2 (Mod.of_up u26)
    refine wl (sc rfl (r_callv (caps := []) (all := [opV (f x21) (.slice dA22 dn22 dc22), opV (f x23) (.slice dA24 dn24 dc24)]) En.f115 (by kernel_rfl) (by kernel_rfl)) (opcompare_at (f x21) (f x23) dA22 dA24 dn22 dc22 dn24 dc24) ?_)
    rintro e w29 ⟨rfl, u30⟩
    refine ⟨.int .i64 ((cmpS (f x21).at_ (f x23).at_)), rfl, ?_⟩
    have M31 := Mod.trans M27 (Mod.of_up u30)
    have M32 := Mod.trans M28 (Mod.of_up u30)
    refine wl (sb rfl (r_lt (k := .i64) (m := ((cmpS (f x21).at_ (f x23).at_))) (n := 0) (by kernel_rfl) (by kernel_rfl)) ?_)
    intro b33 k34
    refine wl (sv rfl (v := .bool (!b33)) (r_not (b := b33) (by kernel_rfl)) ?_)
    refine wnil (then_n ?_)
    refine bcase b33 (fun v35 => ?_) (fun v35 => ?_)
    ·
     have p36 := of_decide_eq_false (k34.trans v35)
     refine wp_cond_true (ebool (b := !b33) (by kernel_rfl) (bneg v35)) ?_
     refine rg_lit ?_
     refine wmv (v := .int .i64 ((((sa + ra) / 2 : Nat) : Int))) ?_
     refine wl (sv rfl (v := .int .i64 ((((sa + ra) / 2 + 1 : Nat) : Int))) (r_add (k := .i64) (m := ((((sa + ra) / 2 : Nat) : Int))) (n := 1) (c := ((((sa + ra) / 2 + 1 : Nat) : Int))) (by kernel_rfl) (by kernel_rfl) ((IntWalk.i64_in _ (by omega)).trans (by omega))) ?_)
     refine was (v := .int .i64 ((((sa + ra) / 2 + 1 : Nat) : Int))) ?_
     refine wnil (inb_n (then_n ?_))
     refine ⟨ra - ((sa + ra) / 2 + 1), ?_, ((sa + ra) / 2 + 1), ra, .int .i64 ((((sa + ra) / 2 : Nat) : Int)), .int .i64 ((sa : Int)), .int .i64 ((ra : Int)), .bool b14, .int .i64 ((sa : Int)), .int .i64 ((ra : Int)), .int .i64 (((sa + ra : Nat) : Int)), .int .u64 (((sa + ra : Nat) : Int)), .int .u64 ((((sa + ra) / 2 : Nat) : Int)), .int .i64 ((((sa + ra) / 2 : Nat) : Int)), .func (.func 115) #[] #[], .slice (some ⟨g, 0, none⟩) nn c, .int .i64 ((((ia + ib) / 2 + m - 1 : Nat) : Int)), .int .i64 ((((sa + ra) / 2 : Nat) : Int)), .int .i64 ((((ia + ib) / 2 + m - 1 - ((sa + ra) / 2) : Nat) : Int)), .pointer (some ⟨g, ((ia + ib) / 2 + m - 1 - ((sa + ra) / 2)) * 10, none⟩), opV (f x21) (.slice dA22 dn22 dc22), .slice (some ⟨g, 0, none⟩) nn c, .int .i64 ((((sa + ra) / 2 : Nat) : Int)), .pointer (some ⟨g, ((sa + ra) / 2) * 10, none⟩), opV (f x23) (.slice dA24 dn24 dc24), .int .i64 ((cmpS (f x21).at_ (f x23).at_)), .bool b33, .bool (!b33), .int .i64 ((((sa + ra) / 2 : Nat) : Int)), .int .i64 ((((sa + ra) / 2 + 1 : Nat) : Int)), z174, rfl, (by kernel_rfl), M32, (SymS.yes hF2_0 (by omega) (by omega) hx23 hx21 (cmpS_no p36))⟩
     · omega
    have p36 := of_decide_eq_true (k34.trans v35)
    refine wp_cond_false (ebool (b := !b33) (by kernel_rfl) (bneg v35)) ?_
    refine rg_lit ?_
    refine wmv (v := .int .i64 ((((sa + ra) / 2 : Nat) : Int))) ?_
    refine was (v := .int .i64 ((((sa + ra) / 2 : Nat) : Int))) ?_
    refine wnil (inb_n (then_n ?_))
    refine ⟨((sa + ra) / 2) - sa, ?_, sa, ((sa + ra) / 2), .int .i64 ((((sa + ra) / 2 : Nat) : Int)), .int .i64 ((sa : Int)), .int .i64 ((ra : Int)), .bool b14, .int .i64 ((sa : Int)), .int .i64 ((ra : Int)), .int .i64 (((sa + ra : Nat) : Int)), .int .u64 (((sa + ra : Nat) : Int)), .int .u64 ((((sa + ra) / 2 : Nat) : Int)), .int .i64 ((((sa + ra) / 2 : Nat) : Int)), .func (.func 115) #[] #[], .slice (some ⟨g, 0, none⟩) nn c, .int .i64 ((((ia + ib) / 2 + m - 1 : Nat) : Int)), .int .i64 ((((sa + ra) / 2 : Nat) : Int)), .int .i64 ((((ia + ib) / 2 + m - 1 - ((sa + ra) / 2) : Nat) : Int)), .pointer (some ⟨g, ((ia + ib) / 2 + m - 1 - ((sa + ra) / 2)) * 10, none⟩), opV (f x21) (.slice dA22 dn22 dc22), .slice (some ⟨g, 0, none⟩) nn c, .int .i64 ((((sa + ra) / 2 : Nat) : Int)), .pointer (some ⟨g, ((sa + ra) / 2) * 10, none⟩), opV (f x23) (.slice dA24 dn24 dc24), .int .i64 ((cmpS (f x21).at_ (f x23).at_)), .bool b33, .bool (!b33), z172, z173, .int .i64 ((((sa + ra) / 2 : Nat) : Int)), rfl, (by kernel_rfl), M32, (SymS.no hF2_0 (by omega) (by omega) hx23 hx21 (cmpS_yes p36))⟩
    · omega
   have p8 := of_decide_eq_true (k6.trans v7)
   refine wp_cond_true (ebool (b := b5) (by kernel_rfl) v7) ?_
   refine wp_seq (rg_lit ?_)
   refine wmv (v := .int .i64 ((ia : Int))) ?_
   refine was (v := .int .i64 ((ia : Int))) ?_
   refine wnil (then_n (wp_seq (rg_lit ?_)))
   refine wmv (v := .int .i64 ((m : Int))) ?_
   refine was (v := .int .i64 ((m : Int))) ?_
   refine wnil (then_n (wp_seq (wp_block ?_)))
   obtain ⟨y0, hB1⟩ : ∃ x, Bb = [x] := List.length_eq_one_iff.1 (by omega)
   have hy0 : (pre ++ (A ++ (Bb ++ post)))[m]? = some y0 := by rw [hB1, ← List.append_assoc, List.getElem?_append_right (by simp; omega)]; simp [show m - (pre.length + A.length) = 0 by omega]
   refine lp (fun n a r3 => ∃ (il : Nat) (jl : Nat) (z16 z83 z84 z85 z86 z87 z88 z89 z90 z91 z92 z93 z94 z95 z96 z97 z98 z99 z100 z101 z102 z103 z104 z105 z106 : Value), (n = jl - il) ∧ (a = ⟨#[.slice (some ⟨g, 0, none⟩) nn c, .int .i64 ((ia : Int)), .int .i64 ((m : Int)), .int .i64 ((ib : Int)), .func (.func 115) #[] #[], undef, undef, undef, undef, undef, undef, undef, undef, undef, .int .i64 ((il : Int)), .int .i64 ((jl : Int)), z16, undef, undef, undef, undef, undef, undef, undef, undef, .int .i64 ((m : Int)), .int .i64 ((ia : Int)), .int .i64 (((m - ia : Nat) : Int)), .bool b1, undef, undef, undef, undef, undef, undef, undef, undef, undef, undef, undef, undef, undef, undef, undef, undef, undef, undef, undef, undef, undef, undef, undef, undef, undef, undef, undef, undef, undef, undef, undef, undef, undef, undef, undef, undef, undef, undef, undef, undef, undef, undef, undef, undef, undef, undef, undef, undef, .int .i64 ((ib : Int)), .int .i64 ((m : Int)), .int .i64 (((ib - m : Nat) : Int)), .bool b5, .int .i64 ((ia : Int)), .int .i64 ((m : Int)), z83, z84, z85, z86, z87, z88, z89, z90, z91, z92, z93, z94, z95, z96, z97, z98, z99, z100, z101, z102, z103, z104, z105, z106, undef, undef, undef, undef, undef, undef, undef, undef, undef, undef, undef, undef, undef, undef, undef, undef, undef, undef, undef, undef, undef, undef, undef, undef, undef, undef, undef, undef, undef, undef, undef, undef, undef, undef, undef, undef, undef, undef, undef, undef, undef, undef, undef, undef, undef, undef, undef, undef, undef, undef, undef, undef, undef, undef, undef, undef, undef, undef, undef, undef, undef, undef, undef, undef, undef, undef, undef, undef, undef, undef, undef, undef, undef, undef, undef, undef, undef, undef, undef, undef, undef, undef, undef, undef, undef, undef, undef, undef, undef, undef, undef, undef, undef, undef, undef, undef, undef, undef, undef, undef, undef, undef, undef, undef, undef, undef, undef, undef, undef, undef, undef, undef, undef], []⟩) ∧ (Mod [] w r3) ∧ (F2 f (pre ++ (A ++ (Bb ++ post))) y0 ia m il jl)) ⟨_, ia, m, undef, undef, undef, undef, undef, undef, undef, undef, undef, undef, undef, undef, undef, undef, undef, undef, undef, undef, undef, undef, undef, undef, undef, undef, undef, rfl, (by kernel_rfl), Mod.refl _ _, (F2.first _ _ _ _ _ (by omega))⟩ ?_
   rintro _ _ r3 ⟨il, jl, z16, z83, z84, z85, z86, z87, z88, z89, z90, z91, z92, z93, z94, z95, z96, z97, z98, z99, z100, z101, z102, z103, z104, z105, z106, rfl, rfl, hM3, hF3_0⟩
   have M9 := Mod.thin (Mod.refl [] w) hM3 (by simp)
   have hz1 := hF3_0.1
   have hz2 := hF3_0.2.1
   have hz3 := hF3_0.2.2.1
   refine wp_seq (wp_seq (rg_lit ?_))
   refine wmv (v := .int .i64 ((il : Int))) ?_
   refine wmv (v := .int .i64 ((jl : Int))) ?_
   refine wl (sb rfl (r_lt (k := .i64) (m := ((il : Int))) (n := ((jl : Int))) (by kernel_rfl) (by kernel_rfl)) ?_)
   intro b10 k11
   refine wnil (then_n ?_)
   refine bcase b10 (fun v12 => ?_) (fun v12 => ?_)
   ·
    have p13 := of_decide_eq_false (k11.trans v12)
    refine wp_cond_false (ebool (b := b10) (by kernel_rfl) v12) ?_
    refine wp_exit (then_x (by nofun) (then_x (by nofun) (inb_hit (then_n (wp_seq (wp_seq (rg_lit ?_)))))))
    refine wmv (v := .int .i64 ((m : Int))) ?_
    refine was (v := .int .i64 ((m : Int))) ?_
    refine wnil (then_n (wp_block ?_))
    have h14 := md_ob M9 nin0 hg
    have h15 := (ORow.up h (Mod.up hM3))
    have hq1 : F2 f (pre ++ (A ++ (y0 :: post))) y0 ia m il il := by have h0 := hF3_0; rw [show jl = il by omega, hB1] at h0; exact h0
    obtain ⟨Aa, Ab, hAA, hAl, hMg⟩ := F2.fin hq1 ha (by omega) hAs (by rw [← hB1]; exact hAB)
    have hIe : (pre ++ (A ++ (Bb ++ post))) = (pre ++ Aa) ++ (Ab ++ (y0 :: post)) := by rw [hB1, hAA]; simp
    have hA2 : Aa.length + Ab.length = A.length := by rw [hAA]; simp
    have hpl : (pre ++ Aa).length = il := by simp; omega
    refine lp (fun n a r4 => ∃ (I3 : List Nat) (kl : Nat) (z108 z109 z110 z111 z112 z113 z114 z115 z116 z117 z118 z119 z120 z121 z122 z123 z124 z125 z126 z127 z128 : Value), (n = kl + 1) ∧ (a = ⟨#[.slice (some ⟨g, 0, none⟩) nn c, .int .i64 ((ia : Int)), .int .i64 ((m : Int)), .int .i64 ((ib : Int)), .func (.func 115) #[] #[], undef, undef, undef, undef, undef, undef, undef, undef, undef, .int .i64 ((il : Int)), .int .i64 ((jl : Int)), z16, .int .i64 ((kl : Int)), undef, undef, undef, undef, undef, undef, undef, .int .i64 ((m : Int)), .int .i64 ((ia : Int)), .int .i64 (((m - ia : Nat) : Int)), .bool b1, undef, undef, undef, undef, undef, undef, undef, undef, undef, undef, undef, undef, undef, undef, undef, undef, undef, undef, undef, undef, undef, undef, undef, undef, undef, undef, undef, undef, undef, undef, undef, undef, undef, undef, undef, undef, undef, undef, undef, undef, undef, undef, undef, undef, undef, undef, undef, undef, .int .i64 ((ib : Int)), .int .i64 ((m : Int)), .int .i64 (((ib - m : Nat) : Int)), .bool b5, .int .i64 ((ia : Int)), .int .i64 ((m : Int)), .int .i64 ((il : Int)), .int .i64 ((jl : Int)), .bool b10, z86, z87, z88, z89, z90, z91, z92, z93, z94, z95, z96, z97, z98, z99, z100, z101, z102, z103, z104, z105, z106, .int .i64 ((m : Int)), z108, z109, z110, z111, z112, z113, z114, z115, z116, z117, z118, z119, z120, z121, z122, z123, z124, z125, z126, z127, z128, undef, undef, undef, undef, undef, undef, undef, undef, undef, undef, undef, undef, undef, undef, undef, undef, undef, undef, undef, undef, undef, undef, undef, undef, undef, undef, undef, undef, undef, undef, undef, undef, undef, undef, undef, undef, undef, undef, undef, undef, undef, undef, undef, undef, undef, undef, undef, undef, undef, undef, undef, undef, undef, undef, undef, undef, undef, undef, undef, undef, undef, undef, undef, undef, undef, undef, undef, undef, undef, undef, undef, undef, undef, undef, undef, undef, undef, undef, undef, undef, undef, undef, undef, undef, undef, undef, undef, undef, undef, undef, undef], []⟩) ∧ (Mod [g] r3 r4) ∧ (Mv (pre ++ Aa) Ab post y0 I3 kl) ∧ (ORow 49 B base r4 (.slice (some ⟨g, 0, none⟩) nn c) (I3.map f))) ⟨_, (pre ++ (A ++ (Bb ++ post))), m, undef, undef, undef, undef, undef, undef, undef, undef, undef, undef, undef, undef, undef, undef, undef, undef, undef, undef, undef, undef, undef, rfl, (by kernel_rfl), Mod.refl _ _, (by rw [hIe]; exact Mv.right _ _ _ _ _ (by omega)), h15⟩ ?_
    rintro _ _ r4 ⟨I3, kl, z108, z109, z110, z111, z112, z113, z114, z115, z116, z117, z118, z119, z120, z121, z122, z123, z124, z125, z126, z127, z128, rfl, rfl, hM4, hF4_0, hF4_1⟩
    have M16 := Mod.trans (Mod.of_mod (Y := [g]) M9 (by simp)) (Mod.of_mod (Y := [g]) hM4 (by simp))
    have M17 := Mod.trans (Mod.of_mod (Y := [g]) hM3 (by simp)) (Mod.of_mod (Y := [g]) hM4 (by simp))
    obtain ⟨hlM, hlm, hln⟩ := Mv.len hF4_0
    obtain ⟨_, _, _, cg18, hg18, _⟩ := ORow.blk hF4_1
    refine wp_seq (wp_seq (rg_lit ?_))
    refine wmv (v := .int .i64 ((kl : Int))) ?_
    refine wmv (v := .int .i64 ((il : Int))) ?_
    refine wl (sb rfl (r_gt (k := .i64) (m := ((kl : Int))) (n := ((il : Int))) (by kernel_rfl) (by kernel_rfl)) ?_)
    intro b19 k20
    refine wnil (then_n ?_)
    refine bcase b19 (fun v21 => ?_) (fun v21 => ?_)
    ·
     have p22 := of_decide_eq_false (k20.trans v21)
     refine wp_cond_false (ebool (b := b19) (by kernel_rfl) v21) ?_
     refine wp_exit (then_x (by nofun) (then_x (by nofun) (inb_hit (then_n (wp_ret (then_x (by nofun) ?_))))))
     refine bodyPost_ret (v := .tuple #[]) (res0 rfl ) (by kernel_rfl) ?_
     exact ⟨Aa ++ y0 :: Ab, rfl, ORow.to hF4_1 (by rw [Mv.atLeft hF4_0 (by omega)]; simp), by rw [hB1]; exact hMg, (Mod.chg M16)⟩
    have p22 := of_decide_eq_true (k20.trans v21)
    refine wp_cond_true (ebool (b := b19) (by kernel_rfl) v21) ?_
    refine wp_skip (then_n (wp_seq (wp_block ?_)))
    refine rg_held [g] (n := 18) (by kernel_rfl) rfl ?_
    intro w23 u24
    have M25 := Mod.trans M16 (Mod.of_up u24)
    have M26 := Mod.trans M17 (Mod.of_up u24)
    have M27 := Mod.trans hM4 (Mod.of_up u24)
    refine hvq (i := 0) (fuel := 17) rfl (fun _ _ _ h => h) (Mod.refl _ _) rfl (v := .slice (some ⟨g, 0, none⟩) nn c) (fun _ _ => r_move (by kernel_rfl)) ?_
    refine hvq (i := 1) (fuel := 16) rfl (fun _ _ _ h => h) (Mod.refl _ _) rfl (v := .int .i64 ((kl : Int))) (fun _ _ => r_move (by kernel_rfl)) ?_
    refine hvq (i := 2) (fuel := 15) rfl (fun _ _ _ h => h) (Mod.refl _ _) rfl (v := .slice (some ⟨g, 0, none⟩) nn c) (fun _ _ => r_move (by kernel_rfl)) ?_
    refine hvq (i := 3) (fuel := 14) rfl (fun _ _ _ h => h) (Mod.refl _ _) rfl (v := .int .i64 ((kl : Int))) (fun _ _ => r_move (by kernel_rfl)) ?_
    refine hvq (i := 4) (fuel := 13) rfl (fun _ _ _ h => h) (Mod.refl _ _) rfl (v := .int .i64 (((kl - 1 : Nat) : Int))) (fun _ _ => r_sub (k := .i64) (m := ((kl : Int))) (n := 1) (c := (((kl - 1 : Nat) : Int))) (by kernel_rfl) (by kernel_rfl) ((IntWalk.i64_in _ (by omega)).trans (by omega))) ?_
    refine hvq (i := 5) (fuel := 12) rfl (fun _ _ _ h => h) (Mod.refl _ _) rfl (v := .slice (some ⟨g, 0, none⟩) nn c) (fun _ _ => r_move (by kernel_rfl)) ?_
    refine hvq (i := 6) (fuel := 11) rfl (fun _ _ _ h => h) (Mod.refl _ _) rfl (v := .int .i64 ((kl : Int))) (fun _ _ => r_move (by kernel_rfl)) ?_
    refine hvq (i := 7) (fuel := 10) rfl (fun _ _ _ h => h) (Mod.refl _ _) rfl (v := .int .i64 (((kl - 1 : Nat) : Int))) (fun _ _ => r_sub (k := .i64) (m := ((kl : Int))) (n := 1) (c := (((kl - 1 : Nat) : Int))) (by kernel_rfl) (by kernel_rfl) ((IntWalk.i64_in _ (by omega)).trans (by omega))) ?_
    refine hvq (i := 8) (fuel := 9) rfl (fun _ _ _ h => h) (Mod.refl _ _) rfl (v := .pointer (some ⟨g, (kl - 1) * 10, none⟩)) (fun _ _ => r_ixaddr' (A := some ⟨g, 0, none⟩) (b := g) (o := 0) (n := nn) (c := c) (sz := 10) (j := (((kl - 1 : Nat) : Int))) (m := (kl - 1) * 10) (by kernel_rfl) rfl (by kernel_rfl) Ty.un22 Ty.sz49 (by omega) (by omega) (by omega)) ?_
    refine hvq (i := 10) (fuel := 8) rfl (fun _ _ _ h => h) (Mod.refl _ _) rfl (v := .slice (some ⟨g, 0, none⟩) nn c) (fun _ _ => r_move (by kernel_rfl)) ?_
    refine hvq (i := 11) (fuel := 7) rfl (fun _ _ _ h => h) (Mod.refl _ _) rfl (v := .int .i64 ((kl : Int))) (fun _ _ => r_move (by kernel_rfl)) ?_
    refine hvq (i := 12) (fuel := 6) rfl (fun _ _ _ h => h) (Mod.refl _ _) rfl (v := .pointer (some ⟨g, kl * 10, none⟩)) (fun _ _ => r_ixaddr' (A := some ⟨g, 0, none⟩) (b := g) (o := 0) (n := nn) (c := c) (sz := 10) (j := ((kl : Int))) (m := kl * 10) (by kernel_rfl) rfl (by kernel_rfl) Ty.un22 Ty.sz49 (by omega) (by omega) (by omega)) ?_
    refine h2 (i := 9) (j := 13) (fuel := 5) (by kernel_rfl) rfl rfl ?_ ?_
    ·
     have h28 := (ORow.up hF4_1 u24)
     obtain ⟨x29, hx29⟩ : ∃ x, I3[kl - 1]? = some x := ⟨_, List.getElem?_eq_getElem (by omega)⟩
     obtain ⟨cu30, dA30, dn30, dc30, hb30, he30, hD30⟩ := ORow.elem h28 (map_get' hx29)
     refine sv rfl (v := opV (f x29) (.slice dA30 dn30 dc30)) (r_loads (k := (kl - 1) * 10) (vs := (opC (f x29) (.slice dA30 dn30 dc30))) (by kernel_rfl) Ty.ag49 Ty.sz49 hb30 (el_sub0 he30 rfl)) ?_
     refine hx (Y := [g]) (Mod.refl _ _) (fun y hy => .inl hy) ?_
     obtain ⟨x31, hx31⟩ : ∃ x, I3[kl]? = some x := ⟨_, List.getElem?_eq_getElem (by omega)⟩
     obtain ⟨cu32, dA32, dn32, dc32, hb32, he32, hD32⟩ := ORow.elem h28 (map_get' hx31)
     refine h1 (i := 13) (fuel := 4) (by kernel_rfl) rfl (sv rfl (v := opV (f x31) (.slice dA32 dn32 dc32)) (r_loads (k := kl * 10) (vs := (opC (f x31) (.slice dA32 dn32 dc32))) (by kernel_rfl) Ty.ag49 Ty.sz49 hb32 (el_sub0 he32 rfl)) ?_)
     refine hx (Y := [g]) (Mod.refl _ _) (fun y hy => .inl hy) ?_
     refine hvq (i := 14) (fuel := 3) rfl (fun _ _ _ h => h) (Mod.refl _ _) rfl (v := .pointer (some ⟨g, kl * 10, none⟩)) (fun _ _ => r_ixaddr' (A := some ⟨g, 0, none⟩) (b := g) (o := 0) (n := nn) (c := c) (sz := 10) (j := ((kl : Int))) (m := kl * 10) (by kernel_rfl) rfl (by kernel_rfl) Ty.un22 Ty.sz49 (by omega) (by omega) (by omega)) ?_
     obtain ⟨cu33, hb33, hk33, hp33⟩ := ORow.put (i := kl) h28 (by simp; omega) hD30 (by decide) hBb
     refine h1 (i := 15) (fuel := 2) (by kernel_rfl) rfl (ss rfl (k := kl * 10) (v := opV (f x29) (.slice dA30 dn30 dc30)) (vs := (opC (f x29) (.slice dA30 dn30 dc30))) (cs' := _) (by kernel_rfl) (by kernel_rfl) rfl Ty.sz49 hb33 rfl hk33 rfl ?_)
     intro w34 h35 c36
     have hr33 := hp33 _ h35 c36
     rw [map_set'] at hr33
     have M37 := Mod.trans M25 (Mod.of_chg c36 (by simp))
     have M38 := Mod.trans M26 (Mod.of_chg c36 (by simp))
     have M39 := Mod.trans M27 (Mod.of_chg c36 (by simp))
     obtain ⟨_, _, _, cg40, hg40, _⟩ := ORow.blk hr33
     refine hx (Y := [g]) (Mod.of_chg c36 (by simp)) (fun y hy => .inl hy) ?_
     refine hvq (i := 16) (fuel := 1) rfl (fun _ _ _ h => h) (Mod.refl _ _) rfl (v := .pointer (some ⟨g, (kl - 1) * 10, none⟩)) (fun _ _ => r_ixaddr' (A := some ⟨g, 0, none⟩) (b := g) (o := 0) (n := nn) (c := c) (sz := 10) (j := (((kl - 1 : Nat) : Int))) (m := (kl - 1) * 10) (by kernel_rfl) rfl (by kernel_rfl) Ty.un22 Ty.sz49 (by omega) (by omega) (by omega)) ?_
     have h42 := (Dat.chg hD32 c36 ⟨hBg, NotU8.of hb33 (by decide)⟩)
     obtain ⟨cu41, hb41, hk41, hp41⟩ := ORow.put (i := kl - 1) hr33 (by simp; omega) h42 (by decide) hBb
     refine h1 (i := 17) (fuel := 0) (by kernel_rfl) rfl (ss rfl (k := (kl - 1) * 10) (v := opV (f x31) (.slice dA32 dn32 dc32)) (vs := (opC (f x31) (.slice dA32 dn32 dc32))) (cs' := _) (by kernel_rfl) (by kernel_rfl) rfl Ty.sz49 hb41 rfl hk41 rfl ?_)
     intro w43 h44 c45
     have hr41 := hp41 _ h44 c45
     rw [map_set'] at hr41
     have M46 := Mod.trans M37 (Mod.of_chg c45 (by simp))
     have M47 := Mod.trans M38 (Mod.of_chg c45 (by simp))
     have M48 := Mod.trans M39 (Mod.of_chg c45 (by simp))
     obtain ⟨_, _, _, cg49, hg49, _⟩ := ORow.blk hr41
     refine hx (Y := [g]) (Mod.of_chg c45 (by simp)) (fun y hy => .inl hy) ?_
     refine hend (by kernel_rfl) ?_
     refine inb_n (then_n (rg_lit ?_))
     refine wmv (v := .int .i64 ((kl : Int))) ?_
     refine wl (sv rfl (v := .int .i64 (((kl - 1 : Nat) : Int))) (r_sub (k := .i64) (m := ((kl : Int))) (n := 1) (c := (((kl - 1 : Nat) : Int))) (by kernel_rfl) (by kernel_rfl) ((IntWalk.i64_in _ (by omega)).trans (by omega))) ?_)
     refine was (v := .int .i64 (((kl - 1 : Nat) : Int))) ?_
     refine wnil (then_n ?_)
     refine ⟨(kl - 1) + 1, ?_, ((I3.set kl x29).set (kl - 1) x31), (kl - 1), .int .i64 ((kl : Int)), .int .i64 ((il : Int)), .bool b19, .int .i64 ((kl : Int)), .int .i64 (((kl - 1 : Nat) : Int)), .slice (some ⟨g, 0, none⟩) nn c, .int .i64 ((kl : Int)), .slice (some ⟨g, 0, none⟩) nn c, .int .i64 ((kl : Int)), .int .i64 (((kl - 1 : Nat) : Int)), .slice (some ⟨g, 0, none⟩) nn c, .int .i64 ((kl : Int)), .int .i64 (((kl - 1 : Nat) : Int)), .pointer (some ⟨g, (kl - 1) * 10, none⟩), opV (f x29) (.slice dA30 dn30 dc30), .slice (some ⟨g, 0, none⟩) nn c, .int .i64 ((kl : Int)), .pointer (some ⟨g, kl * 10, none⟩), opV (f x31) (.slice dA32 dn32 dc32), .pointer (some ⟨g, kl * 10, none⟩), .pointer (some ⟨g, (kl - 1) * 10, none⟩), rfl, (by kernel_rfl), M48, (Mv.down hF4_0 (by omega) hx31 hx29), hr41⟩
     · omega
    ·
     have h28 := (ORow.up hF4_1 u24)
     obtain ⟨x29, hx29⟩ : ∃ x, I3[kl]? = some x := ⟨_, List.getElem?_eq_getElem (by omega)⟩
     obtain ⟨cu30, dA30, dn30, dc30, hb30, he30, hD30⟩ := ORow.elem h28 (map_get' hx29)
     refine sv rfl (v := opV (f x29) (.slice dA30 dn30 dc30)) (r_loads (k := kl * 10) (vs := (opC (f x29) (.slice dA30 dn30 dc30))) (by kernel_rfl) Ty.ag49 Ty.sz49 hb30 (el_sub0 he30 rfl)) ?_
     refine hx (Y := [g]) (Mod.refl _ _) (fun y hy => .inl hy) ?_
     obtain ⟨x31, hx31⟩ : ∃ x, I3[kl - 1]? = some x := ⟨_, List.getElem?_eq_getElem (by omega)⟩
     obtain ⟨cu32, dA32, dn32, dc32, hb32, he32, hD32⟩ := ORow.elem h28 (map_get' hx31)
     refine h1 (i := 9) (fuel := 4) (by kernel_rfl) rfl (sv rfl (v := opV (f x31) (.slice dA32 dn32 dc32)) (r_loads (k := (kl - 1) * 10) (vs := (opC (f x31) (.slice dA32 dn32 dc32))) (by kernel_rfl) Ty.ag49 Ty.sz49 hb32 (el_sub0 he32 rfl)) ?_)
     refine hx (Y := [g]) (Mod.refl _ _) (fun y hy => .inl hy) ?_
     refine hvq (i := 14) (fuel := 3) rfl (fun _ _ _ h => h) (Mod.refl _ _) rfl (v := .pointer (some ⟨g, kl * 10, none⟩)) (fun _ _ => r_ixaddr' (A := some ⟨g, 0, none⟩) (b := g) (o := 0) (n := nn) (c := c) (sz := 10) (j := ((kl : Int))) (m := kl * 10) (by kernel_rfl) rfl (by kernel_rfl) Ty.un22 Ty.sz49 (by omega) (by omega) (by omega)) ?_
     obtain ⟨cu33, hb33, hk33, hp33⟩ := ORow.put (i := kl) h28 (by simp; omega) hD32 (by decide) hBb
     refine h1 (i := 15) (fuel := 2) (by kernel_rfl) rfl (ss rfl (k := kl * 10) (v := opV (f x31) (.slice dA32 dn32 dc32)) (vs := (opC (f x31) (.slice dA32 dn32 dc32))) (cs' := _) (by kernel_rfl) (by kernel_rfl) rfl Ty.sz49 hb33 rfl hk33 rfl ?_)
     intro w34 h35 c36
     have hr33 := hp33 _ h35 c36
     rw [map_set'] at hr33
     have M37 := Mod.trans M25 (Mod.of_chg c36 (by simp))
     have M38 := Mod.trans M26 (Mod.of_chg c36 (by simp))
     have M39 := Mod.trans M27 (Mod.of_chg c36 (by simp))
     obtain ⟨_, _, _, cg40, hg40, _⟩ := ORow.blk hr33
     refine hx (Y := [g]) (Mod.of_chg c36 (by simp)) (fun y hy => .inl hy) ?_
     refine hvq (i := 16) (fuel := 1) rfl (fun _ _ _ h => h) (Mod.refl _ _) rfl (v := .pointer (some ⟨g, (kl - 1) * 10, none⟩)) (fun _ _ => r_ixaddr' (A := some ⟨g, 0, none⟩) (b := g) (o := 0) (n := nn) (c := c) (sz := 10) (j := (((kl - 1 : Nat) : Int))) (m := (kl - 1) * 10) (by kernel_rfl) rfl (by kernel_rfl) Ty.un22 Ty.sz49 (by omega) (by omega) (by omega)) ?_
     have h42 := (Dat.chg hD30 c36 ⟨hBg, NotU8.of hb33 (by decide)⟩)
     obtain ⟨cu41, hb41, hk41, hp41⟩ := ORow.put (i := kl - 1) hr33 (by simp; omega) h42 (by decide) hBb
     refine h1 (i := 17) (fuel := 0) (by kernel_rfl) rfl (ss rfl (k := (kl - 1) * 10) (v := opV (f x29) (.slice dA30 dn30 dc30)) (vs := (opC (f x29) (.slice dA30 dn30 dc30))) (cs' := _) (by kernel_rfl) (by kernel_rfl) rfl Ty.sz49 hb41 rfl hk41 rfl ?_)
     intro w43 h44 c45
     have hr41 := hp41 _ h44 c45
     rw [map_set'] at hr41
     have M46 := Mod.trans M37 (Mod.of_chg c45 (by simp))
     have M47 := Mod.trans M38 (Mod.of_chg c45 (by simp))
     have M48 := Mod.trans M39 (Mod.of_chg c45 (by simp))
     obtain ⟨_, _, _, cg49, hg49, _⟩ := ORow.blk hr41
     refine hx (Y := [g]) (Mod.of_chg c45 (by simp)) (fun y hy => .inl hy) ?_
     refine hend (by kernel_rfl) ?_
     refine inb_n (then_n (rg_lit ?_))
     refine wmv (v := .int .i64 ((kl : Int))) ?_
     refine wl (sv rfl (v := .int .i64 (((kl - 1 : Nat) : Int))) (r_sub (k := .i64) (m := ((kl : Int))) (n := 1) (c := (((kl - 1 : Nat) : Int))) (by kernel_rfl) (by kernel_rfl) ((IntWalk.i64_in _ (by omega)).trans (by omega))) ?_)
     refine was (v := .int .i64 (((kl - 1 : Nat) : Int))) ?_
     refine wnil (then_n ?_)
     refine ⟨(kl - 1) + 1, ?_, ((I3.set kl x31).set (kl - 1) x29), (kl - 1), .int .i64 ((kl : Int)), .int .i64 ((il : Int)), .bool b19, .int .i64 ((kl : Int)), .int .i64 (((kl - 1 : Nat) : Int)), .slice (some ⟨g, 0, none⟩) nn c, .int .i64 ((kl : Int)), .slice (some ⟨g, 0, none⟩) nn c, .int .i64 ((kl : Int)), .int .i64 (((kl - 1 : Nat) : Int)), .slice (some ⟨g, 0, none⟩) nn c, .int .i64 ((kl : Int)), .int .i64 (((kl - 1 : Nat) : Int)), .pointer (some ⟨g, (kl - 1) * 10, none⟩), opV (f x31) (.slice dA32 dn32 dc32), .slice (some ⟨g, 0, none⟩) nn c, .int .i64 ((kl : Int)), .pointer (some ⟨g, kl * 10, none⟩), opV (f x29) (.slice dA30 dn30 dc30), .pointer (some ⟨g, kl * 10, none⟩), .pointer (some ⟨g, (kl - 1) * 10, none⟩), rfl, (by kernel_rfl), M48, (Mv.down hF4_0 (by omega) hx29 hx31), hr41⟩
     · omega
   have p13 := of_decide_eq_true (k11.trans v12)
   have q14 : il < jl := by omega
   have q15 : il < jl := by omega
   refine wp_cond_true (ebool (b := b10) (by kernel_rfl) v12) ?_
   refine wp_skip (then_n (wp_block (wp_seq (rg_lit ?_))))
   refine wmv (v := .int .i64 ((il : Int))) ?_
   refine wmv (v := .int .i64 ((jl : Int))) ?_
   refine wl (sv rfl (v := .int .i64 (((il + jl : Nat) : Int))) (r_add (k := .i64) (m := ((il : Int))) (n := ((jl : Int))) (c := (((il + jl : Nat) : Int))) (by kernel_rfl) (by kernel_rfl) ((IntWalk.i64_in _ (by omega)).trans (by omega))) ?_)
   refine wl (sv rfl (v := .int .u64 (((il + jl : Nat) : Int))) (r_toUn (m := (il + jl)) (by kernel_rfl) (by omega)) ?_)
   refine wl (sv rfl (v := .int .u64 ((((il + jl) / 2 : Nat) : Int))) (r_halfn (m := (il + jl)) (by kernel_rfl) (by kernel_rfl)) ?_)
   refine wl (sv rfl (v := .int .i64 ((((il + jl) / 2 : Nat) : Int))) (r_toIn (m := ((il + jl) / 2)) (by kernel_rfl) (by omega)) ?_)
   refine was (v := .int .i64 ((((il + jl) / 2 : Nat) : Int))) ?_
   refine wnil (then_n (wp_seq ?_))
   refine rg_tail 9 (by kernel_rfl) (by kernel_rfl) rfl rfl ?_
   refine qmv (v := .func (.func 115) #[] #[]) ?_
   refine qmv (v := .slice (some ⟨g, 0, none⟩) nn c) ?_
   refine qmv (v := .int .i64 ((m : Int))) ?_
   refine qv rfl (v := .pointer (some ⟨g, m * 10, none⟩)) (fun _ _ => r_ixaddr' (A := some ⟨g, 0, none⟩) (b := g) (o := 0) (n := nn) (c := c) (sz := 10) (j := ((m : Int))) (m := m * 10) (by kernel_rfl) rfl (by kernel_rfl) Ty.un22 Ty.sz49 (by omega) (by omega) (by omega)) ?_
   have h16 := (ORow.up h (Mod.up hM3))
   obtain ⟨x17, hx17⟩ : ∃ x, (pre ++ (A ++ (Bb ++ post)))[m]? = some x := ⟨_, List.getElem?_eq_getElem (by omega)⟩
   obtain ⟨cu18, dA18, dn18, dc18, hb18, he18, hD18⟩ := ORow.elem h16 (map_get' hx17)
   refine qv rfl (v := opV (f x17) (.slice dA18 dn18 dc18)) (fun _ uz => r_loads (k := m * 10) (vs := (opC (f x17) (.slice dA18 dn18 dc18))) (by kernel_rfl) Ty.ag49 Ty.sz49 (up_ob uz hb18) (el_sub0 he18 rfl)) ?_
   refine qmv (v := .slice (some ⟨g, 0, none⟩) nn c) ?_
   refine qmv (v := .int .i64 ((((il + jl) / 2 : Nat) : Int))) ?_
   refine qv rfl (v := .pointer (some ⟨g, ((il + jl) / 2) * 10, none⟩)) (fun _ _ => r_ixaddr' (A := some ⟨g, 0, none⟩) (b := g) (o := 0) (n := nn) (c := c) (sz := 10) (j := ((((il + jl) / 2 : Nat) : Int))) (m := ((il + jl) / 2) * 10) (by kernel_rfl) rfl (by kernel_rfl) Ty.un22 Ty.sz49 (by omega) (by omega) (by omega)) ?_
   obtain ⟨x19, hx19⟩ : ∃ x, (pre ++ (A ++ (Bb ++ post)))[(il + jl) / 2]? = some x := ⟨_, List.getElem?_eq_getElem (by omega)⟩
   obtain ⟨cu20, dA20, dn20, dc20, hb20, he20, hD20⟩ := ORow.elem h16 (map_get' hx19)
   refine qv rfl (v := opV (f x19) (.slice dA20 dn20 dc20)) (fun _ uz => r_loads (k := ((il + jl) / 2) * 10) (vs := (opC (f x19) (.slice dA20 dn20 dc20))) (by kernel_rfl) Ty.ag49 Ty.sz49 (up_ob uz hb20) (el_sub0 he20 rfl)) ?_
   refine qnil ?_
   intro w21 u22
   have M23 := Mod.trans M9 (Mod.of_up u22)
   have M24 := Mod.trans hM3 (Mod.of_up u22)
   refine wl (sc rfl (r_callv (caps := []) (all := [opV (f x17) (.slice dA18 dn18 dc18), opV (f x19) (.slice dA20 dn20 dc20)]) En.f115 (by kernel_rfl) (by kernel_rfl)) (opcompare_at (f x17) (f x19) dA18 dA20 dn18 dc18 dn20 dc20) ?_)
   rintro e w25 ⟨rfl, u26⟩
   refine ⟨.int .i64 ((cmpS (f x17).at_ (f x19).at_)), rfl, ?_⟩
   have M27 := Mod.trans M23 (Mod.of_up u26)
   have M28 := Mod.trans M24 (Mod.of_up u26)
   refine wl (sb rfl (r_lt (k := .i64) (m := ((cmpS (f x17).at_ (f x19).at_))) (n := 0) (by kernel_rfl) (by kernel_rfl)) ?_)
   intro b29 k30
   refine wl (sv rfl (v := .bool (!b29)) (r_not (b := b29) (by kernel_rfl)) ?_)
   refine wnil (then_n ?_)
   refine bcase b29 (fun v31 => ?_) (fun v31 => ?_)
   ·
    have p32 := of_decide_eq_false (k30.trans v31)
    refine wp_cond_true (ebool (b := !b29) (by kernel_rfl) (bneg v31)) ?_
    refine rg_lit ?_
    refine wmv (v := .int .i64 ((((il + jl) / 2 : Nat) : Int))) ?_
    refine wl (sv rfl (v := .int .i64 ((((il + jl) / 2 + 1 : Nat) : Int))) (r_add (k := .i64) (m := ((((il + jl) / 2 : Nat) : Int))) (n := 1) (c := ((((il + jl) / 2 + 1 : Nat) : Int))) (by kernel_rfl) (by kernel_rfl) ((IntWalk.i64_in _ (by omega)).trans (by omega))) ?_)
    refine was (v := .int .i64 ((((il + jl) / 2 + 1 : Nat) : Int))) ?_
    refine wnil (inb_n (then_n ?_))
    refine ⟨jl - ((il + jl) / 2 + 1), ?_, ((il + jl) / 2 + 1), jl, .int .i64 ((((il + jl) / 2 : Nat) : Int)), .int .i64 ((il : Int)), .int .i64 ((jl : Int)), .bool b10, .int .i64 ((il : Int)), .int .i64 ((jl : Int)), .int .i64 (((il + jl : Nat) : Int)), .int .u64 (((il + jl : Nat) : Int)), .int .u64 ((((il + jl) / 2 : Nat) : Int)), .int .i64 ((((il + jl) / 2 : Nat) : Int)), .func (.func 115) #[] #[], .slice (some ⟨g, 0, none⟩) nn c, .int .i64 ((m : Int)), .pointer (some ⟨g, m * 10, none⟩), opV (f x17) (.slice dA18 dn18 dc18), .slice (some ⟨g, 0, none⟩) nn c, .int .i64 ((((il + jl) / 2 : Nat) : Int)), .pointer (some ⟨g, ((il + jl) / 2) * 10, none⟩), opV (f x19) (.slice dA20 dn20 dc20), .int .i64 ((cmpS (f x17).at_ (f x19).at_)), .bool b29, .bool (!b29), .int .i64 ((((il + jl) / 2 : Nat) : Int)), .int .i64 ((((il + jl) / 2 + 1 : Nat) : Int)), z106, rfl, (by kernel_rfl), M28, (F2.yes hF3_0 (by omega) (by omega) hx19 (by rw [same_el hy0 hx17]; exact cmpS_no p32))⟩
    · omega
   have p32 := of_decide_eq_true (k30.trans v31)
   refine wp_cond_false (ebool (b := !b29) (by kernel_rfl) (bneg v31)) ?_
   refine rg_lit ?_
   refine wmv (v := .int .i64 ((((il + jl) / 2 : Nat) : Int))) ?_
   refine was (v := .int .i64 ((((il + jl) / 2 : Nat) : Int))) ?_
   refine wnil (inb_n (then_n ?_))
   refine ⟨((il + jl) / 2) - il, ?_, il, ((il + jl) / 2), .int .i64 ((((il + jl) / 2 : Nat) : Int)), .int .i64 ((il : Int)), .int .i64 ((jl : Int)), .bool b10, .int .i64 ((il : Int)), .int .i64 ((jl : Int)), .int .i64 (((il + jl : Nat) : Int)), .int .u64 (((il + jl : Nat) : Int)), .int .u64 ((((il + jl) / 2 : Nat) : Int)), .int .i64 ((((il + jl) / 2 : Nat) : Int)), .func (.func 115) #[] #[], .slice (some ⟨g, 0, none⟩) nn c, .int .i64 ((m : Int)), .pointer (some ⟨g, m * 10, none⟩), opV (f x17) (.slice dA18 dn18 dc18), .slice (some ⟨g, 0, none⟩) nn c, .int .i64 ((((il + jl) / 2 : Nat) : Int)), .pointer (some ⟨g, ((il + jl) / 2) * 10, none⟩), opV (f x19) (.slice dA20 dn20 dc20), .int .i64 ((cmpS (f x17).at_ (f x19).at_)), .bool b29, .bool (!b29), z104, z105, .int .i64 ((((il + jl) / 2 : Nat) : Int)), rfl, (by kernel_rfl), M28, (F2.no hF3_0 (by omega) (by omega) hx19 (by rw [same_el hy0 hx17]; exact cmpS_yes p32))⟩
   · omega
  have p4 := of_decide_eq_true (k2.trans v3)
  refine wp_cond_true (ebool (b := b1) (by kernel_rfl) v3) ?_
  refine wp_seq (rg_lit ?_)
  refine wmv (v := .int .i64 ((m : Int))) ?_
  refine was (v := .int .i64 ((m : Int))) ?_
  refine wnil (then_n (wp_seq (rg_lit ?_)))
  refine wmv (v := .int .i64 ((ib : Int))) ?_
  refine was (v := .int .i64 ((ib : Int))) ?_
  refine wnil (then_n (wp_seq (wp_block ?_)))
  obtain ⟨x0, hA1⟩ : ∃ x, A = [x] := List.length_eq_one_iff.1 (by omega)
  have hx0 : (pre ++ (A ++ (Bb ++ post)))[ia]? = some x0 := by rw [hA1, ← ha]; simp
  refine lp (fun n a r5 => ∃ (ii : Nat) (jj : Nat) (z12 z31 z32 z33 z34 z35 z36 z37 z38 z39 z40 z41 z42 z43 z44 z45 z46 z47 z48 z49 z50 z51 z52 z53 : Value), (n = jj - ii) ∧ (a = ⟨#[.slice (some ⟨g, 0, none⟩) nn c, .int .i64 ((ia : Int)), .int .i64 ((m : Int)), .int .i64 ((ib : Int)), .func (.func 115) #[] #[], undef, undef, undef, undef, undef, .int .i64 ((ii : Int)), .int .i64 ((jj : Int)), z12, undef, undef, undef, undef, undef, undef, undef, undef, undef, undef, undef, undef, .int .i64 ((m : Int)), .int .i64 ((ia : Int)), .int .i64 (((m - ia : Nat) : Int)), .bool b1, .int .i64 ((m : Int)), .int .i64 ((ib : Int)), z31, z32, z33, z34, z35, z36, z37, z38, z39, z40, z41, z42, z43, z44, z45, z46, z47, z48, z49, z50, z51, z52, z53, undef, undef, undef, undef, undef, undef, undef, undef, undef, undef, undef, undef, undef, undef, undef, undef, undef, undef, undef, undef, undef, undef, undef, undef, undef, undef, undef, undef, undef, undef, undef, undef, undef, undef, undef, undef, undef, undef, undef, undef, undef, undef, undef, undef, undef, undef, undef, undef, undef, undef, undef, undef, undef, undef, undef, undef, undef, undef, undef, undef, undef, undef, undef, undef, undef, undef, undef, undef, undef, undef, undef, undef, undef, undef, undef, undef, undef, undef, undef, undef, undef, undef, undef, undef, undef, undef, undef, undef, undef, undef, undef, undef, undef, undef, undef, undef, undef, undef, undef, undef, undef, undef, undef, undef, undef, undef, undef, undef, undef, undef, undef, undef, undef, undef, undef, undef, undef, undef, undef, undef, undef, undef, undef, undef, undef, undef, undef, undef, undef, undef, undef, undef, undef, undef, undef, undef, undef, undef, undef, undef, undef, undef, undef, undef, undef, undef, undef, undef, undef, undef, undef, undef, undef, undef, undef, undef, undef, undef, undef, undef, undef, undef, undef, undef, undef, undef], []⟩) ∧ (Mod [] w r5) ∧ (F1 f (pre ++ (A ++ (Bb ++ post))) x0 m ib ii jj)) ⟨_, m, ib, undef, undef, undef, undef, undef, undef, undef, undef, undef, undef, undef, undef, undef, undef, undef, undef, undef, undef, undef, undef, undef, undef, undef, undef, rfl, (by kernel_rfl), Mod.refl _ _, (F1.first _ _ _ _ _ (by omega))⟩ ?_
  rintro _ _ r5 ⟨ii, jj, z12, z31, z32, z33, z34, z35, z36, z37, z38, z39, z40, z41, z42, z43, z44, z45, z46, z47, z48, z49, z50, z51, z52, z53, rfl, rfl, hM5, hF5_0⟩
  have M5 := Mod.thin (Mod.refl [] w) hM5 (by simp)
  have hz1 := hF5_0.1
  have hz2 := hF5_0.2.1
  have hz3 := hF5_0.2.2.1
  refine wp_seq (wp_seq (rg_lit ?_))
  refine wmv (v := .int .i64 ((ii : Int))) ?_
  refine wmv (v := .int .i64 ((jj : Int))) ?_
  refine wl (sb rfl (r_lt (k := .i64) (m := ((ii : Int))) (n := ((jj : Int))) (by kernel_rfl) (by kernel_rfl)) ?_)
  intro b6 k7
  refine wnil (then_n ?_)
  refine bcase b6 (fun v8 => ?_) (fun v8 => ?_)
  ·
   have p9 := of_decide_eq_false (k7.trans v8)
   refine wp_cond_false (ebool (b := b6) (by kernel_rfl) v8) ?_
   refine wp_exit (then_x (by nofun) (then_x (by nofun) (inb_hit (then_n (wp_seq (wp_seq (rg_lit ?_)))))))
   refine wmv (v := .int .i64 ((ia : Int))) ?_
   refine was (v := .int .i64 ((ia : Int))) ?_
   refine wnil (then_n (wp_block ?_))
   have h10 := md_ob M5 nin0 hg
   have h11 := (ORow.up h (Mod.up hM5))
   have hq1 : F1 f (pre ++ (x0 :: (Bb ++ post))) x0 m ib ii ii := by have h0 := hF5_0; rw [show jj = ii by omega, hA1] at h0; exact h0
   obtain ⟨Ba, Bc, hBB, hBl, hMg⟩ := F1.fin hq1 (by omega) (by omega) hBs (by rw [← hA1]; exact hAB)
   have hIe : (pre ++ (A ++ (Bb ++ post))) = pre ++ (x0 :: (Ba ++ (Bc ++ post))) := by rw [hA1, hBB]; simp
   refine lp (fun n a r6 => ∃ (I2 : List Nat) (kk : Nat) (z55 z56 z57 z58 z59 z60 z61 z62 z63 z64 z65 z66 z67 z68 z69 z70 z71 z72 z73 z74 z75 z76 : Value), (n = ib - kk) ∧ (a = ⟨#[.slice (some ⟨g, 0, none⟩) nn c, .int .i64 ((ia : Int)), .int .i64 ((m : Int)), .int .i64 ((ib : Int)), .func (.func 115) #[] #[], undef, undef, undef, undef, undef, .int .i64 ((ii : Int)), .int .i64 ((jj : Int)), z12, .int .i64 ((kk : Int)), undef, undef, undef, undef, undef, undef, undef, undef, undef, undef, undef, .int .i64 ((m : Int)), .int .i64 ((ia : Int)), .int .i64 (((m - ia : Nat) : Int)), .bool b1, .int .i64 ((m : Int)), .int .i64 ((ib : Int)), .int .i64 ((ii : Int)), .int .i64 ((jj : Int)), .bool b6, z34, z35, z36, z37, z38, z39, z40, z41, z42, z43, z44, z45, z46, z47, z48, z49, z50, z51, z52, z53, .int .i64 ((ia : Int)), z55, z56, z57, z58, z59, z60, z61, z62, z63, z64, z65, z66, z67, z68, z69, z70, z71, z72, z73, z74, z75, z76, undef, undef, undef, undef, undef, undef, undef, undef, undef, undef, undef, undef, undef, undef, undef, undef, undef, undef, undef, undef, undef, undef, undef, undef, undef, undef, undef, undef, undef, undef, undef, undef, undef, undef, undef, undef, undef, undef, undef, undef, undef, undef, undef, undef, undef, undef, undef, undef, undef, undef, undef, undef, undef, undef, undef, undef, undef, undef, undef, undef, undef, undef, undef, undef, undef, undef, undef, undef, undef, undef, undef, undef, undef, undef, undef, undef, undef, undef, undef, undef, undef, undef, undef, undef, undef, undef, undef, undef, undef, undef, undef, undef, undef, undef, undef, undef, undef, undef, undef, undef, undef, undef, undef, undef, undef, undef, undef, undef, undef, undef, undef, undef, undef, undef, undef, undef, undef, undef, undef, undef, undef, undef, undef, undef, undef, undef, undef, undef, undef, undef, undef, undef, undef, undef, undef, undef, undef, undef, undef, undef, undef, undef, undef], []⟩) ∧ (Mod [g] r5 r6) ∧ (Mv pre Ba (Bc ++ post) x0 I2 kk) ∧ (ORow 49 B base r6 (.slice (some ⟨g, 0, none⟩) nn c) (I2.map f))) ⟨_, (pre ++ (A ++ (Bb ++ post))), ia, undef, undef, undef, undef, undef, undef, undef, undef, undef, undef, undef, undef, undef, undef, undef, undef, undef, undef, undef, undef, undef, undef, rfl, (by kernel_rfl), Mod.refl _ _, (by rw [hIe, ← ha]; exact Mv.left _ _ _ _), h11⟩ ?_
   rintro _ _ r6 ⟨I2, kk, z55, z56, z57, z58, z59, z60, z61, z62, z63, z64, z65, z66, z67, z68, z69, z70, z71, z72, z73, z74, z75, z76, rfl, rfl, hM6, hF6_0, hF6_1⟩
   have M12 := Mod.trans (Mod.of_mod (Y := [g]) M5 (by simp)) (Mod.of_mod (Y := [g]) hM6 (by simp))
   have M13 := Mod.trans (Mod.of_mod (Y := [g]) hM5 (by simp)) (Mod.of_mod (Y := [g]) hM6 (by simp))
   obtain ⟨hlM, hlm, hln⟩ := Mv.len hF6_0
   have hB2 : Ba.length + Bc.length = Bb.length := by rw [hBB]; simp
   simp only [List.length_append] at hlM
   obtain ⟨_, _, _, cg14, hg14, _⟩ := ORow.blk hF6_1
   refine wp_seq (wp_seq (rg_lit ?_))
   refine wmv (v := .int .i64 ((kk : Int))) ?_
   refine wmv (v := .int .i64 ((ii : Int))) ?_
   refine wl (sv rfl (v := .int .i64 (((ii - 1 : Nat) : Int))) (r_sub (k := .i64) (m := ((ii : Int))) (n := 1) (c := (((ii - 1 : Nat) : Int))) (by kernel_rfl) (by kernel_rfl) ((IntWalk.i64_in _ (by omega)).trans (by omega))) ?_)
   refine wl (sb rfl (r_lt (k := .i64) (m := ((kk : Int))) (n := (((ii - 1 : Nat) : Int))) (by kernel_rfl) (by kernel_rfl)) ?_)
   intro b15 k16
   refine wnil (then_n ?_)
   refine bcase b15 (fun v17 => ?_) (fun v17 => ?_)
   ·
    have p18 := of_decide_eq_false (k16.trans v17)
    refine wp_cond_false (ebool (b := b15) (by kernel_rfl) v17) ?_
    refine wp_exit (then_x (by nofun) (then_x (by nofun) (inb_hit (then_n (wp_ret (then_x (by nofun) ?_))))))
    refine bodyPost_ret (v := .tuple #[]) (res0 rfl ) (by kernel_rfl) ?_
    exact ⟨Ba ++ x0 :: Bc, rfl, ORow.to hF6_1 (by rw [Mv.atRight hF6_0 (by omega)]; simp), by rw [hA1]; exact hMg, (Mod.chg M12)⟩
   have p18 := of_decide_eq_true (k16.trans v17)
   refine wp_cond_true (ebool (b := b15) (by kernel_rfl) v17) ?_
   refine wp_skip (then_n (wp_seq (wp_block ?_)))
   refine rg_held [g] (n := 18) (by kernel_rfl) rfl ?_
   intro w19 u20
   have M21 := Mod.trans M12 (Mod.of_up u20)
   have M22 := Mod.trans M13 (Mod.of_up u20)
   have M23 := Mod.trans hM6 (Mod.of_up u20)
   refine hvq (i := 0) (fuel := 17) rfl (fun _ _ _ h => h) (Mod.refl _ _) rfl (v := .slice (some ⟨g, 0, none⟩) nn c) (fun _ _ => r_move (by kernel_rfl)) ?_
   refine hvq (i := 1) (fuel := 16) rfl (fun _ _ _ h => h) (Mod.refl _ _) rfl (v := .int .i64 ((kk : Int))) (fun _ _ => r_move (by kernel_rfl)) ?_
   refine hvq (i := 2) (fuel := 15) rfl (fun _ _ _ h => h) (Mod.refl _ _) rfl (v := .slice (some ⟨g, 0, none⟩) nn c) (fun _ _ => r_move (by kernel_rfl)) ?_
   refine hvq (i := 3) (fuel := 14) rfl (fun _ _ _ h => h) (Mod.refl _ _) rfl (v := .int .i64 ((kk : Int))) (fun _ _ => r_move (by kernel_rfl)) ?_
   refine hvq (i := 4) (fuel := 13) rfl (fun _ _ _ h => h) (Mod.refl _ _) rfl (v := .int .i64 (((kk + 1 : Nat) : Int))) (fun _ _ => r_add (k := .i64) (m := ((kk : Int))) (n := 1) (c := (((kk + 1 : Nat) : Int))) (by kernel_rfl) (by kernel_rfl) ((IntWalk.i64_in _ (by omega)).trans (by omega))) ?_
   refine hvq (i := 5) (fuel := 12) rfl (fun _ _ _ h => h) (Mod.refl _ _) rfl (v := .slice (some ⟨g, 0, none⟩) nn c) (fun _ _ => r_move (by kernel_rfl)) ?_
   refine hvq (i := 6) (fuel := 11) rfl (fun _ _ _ h => h) (Mod.refl _ _) rfl (v := .int .i64 ((kk : Int))) (fun _ _ => r_move (by kernel_rfl)) ?_
   refine hvq (i := 7) (fuel := 10) rfl (fun _ _ _ h => h) (Mod.refl _ _) rfl (v := .int .i64 (((kk + 1 : Nat) : Int))) (fun _ _ => r_add (k := .i64) (m := ((kk : Int))) (n := 1) (c := (((kk + 1 : Nat) : Int))) (by kernel_rfl) (by kernel_rfl) ((IntWalk.i64_in _ (by omega)).trans (by omega))) ?_
   refine hvq (i := 8) (fuel := 9) rfl (fun _ _ _ h => h) (Mod.refl _ _) rfl (v := .pointer (some ⟨g, (kk + 1) * 10, none⟩)) (fun _ _ => r_ixaddr' (A := some ⟨g, 0, none⟩) (b := g) (o := 0) (n := nn) (c := c) (sz := 10) (j := (((kk + 1 : Nat) : Int))) (m := (kk + 1) * 10) (by kernel_rfl) rfl (by kernel_rfl) Ty.un22 Ty.sz49 (by omega) (by omega) (by omega)) ?_
   refine hvq (i := 10) (fuel := 8) rfl (fun _ _ _ h => h) (Mod.refl _ _) rfl (v := .slice (some ⟨g, 0, none⟩) nn c) (fun _ _ => r_move (by kernel_rfl)) ?_
   refine hvq (i := 11) (fuel := 7) rfl (fun _ _ _ h => h) (Mod.refl _ _) rfl (v := .int .i64 ((kk : Int))) (fun _ _ => r_move (by kernel_rfl)) ?_
   refine hvq (i := 12) (fuel := 6) rfl (fun _ _ _ h => h) (Mod.refl _ _) rfl (v := .pointer (some ⟨g, kk * 10, none⟩)) (fun _ _ => r_ixaddr' (A := some ⟨g, 0, none⟩) (b := g) (o := 0) (n := nn) (c := c) (sz := 10) (j := ((kk : Int))) (m := kk * 10) (by kernel_rfl) rfl (by kernel_rfl) Ty.un22 Ty.sz49 (by omega) (by omega) (by omega)) ?_
   refine h2 (i := 9) (j := 13) (fuel := 5) (by kernel_rfl) rfl rfl ?_ ?_
   ·
    have h24 := (ORow.up hF6_1 u20)
    obtain ⟨x25, hx25⟩ : ∃ x, I2[kk + 1]? = some x := ⟨_, List.getElem?_eq_getElem (by omega)⟩
    obtain ⟨cu26, dA26, dn26, dc26, hb26, he26, hD26⟩ := ORow.elem h24 (map_get' hx25)
    refine sv rfl (v := opV (f x25) (.slice dA26 dn26 dc26)) (r_loads (k := (kk + 1) * 10) (vs := (opC (f x25) (.slice dA26 dn26 dc26))) (by kernel_rfl) Ty.ag49 Ty.sz49 hb26 (el_sub0 he26 rfl)) ?_
    refine hx (Y := [g]) (Mod.refl _ _) (fun y hy => .inl hy) ?_
    obtain ⟨x27, hx27⟩ : ∃ x, I2[kk]? = some x := ⟨_, List.getElem?_eq_getElem (by omega)⟩
    obtain ⟨cu28, dA28, dn28, dc28, hb28, he28, hD28⟩ := ORow.elem h24 (map_get' hx27)
    refine h1 (i := 13) (fuel := 4) (by kernel_rfl) rfl (sv rfl (v := opV (f x27) (.slice dA28 dn28 dc28)) (r_loads (k := kk * 10) (vs := (opC (f x27) (.slice dA28 dn28 dc28))) (by kernel_rfl) Ty.ag49 Ty.sz49 hb28 (el_sub0 he28 rfl)) ?_)
    refine hx (Y := [g]) (Mod.refl _ _) (fun y hy => .inl hy) ?_
    refine hvq (i := 14) (fuel := 3) rfl (fun _ _ _ h => h) (Mod.refl _ _) rfl (v := .pointer (some ⟨g, kk * 10, none⟩)) (fun _ _ => r_ixaddr' (A := some ⟨g, 0, none⟩) (b := g) (o := 0) (n := nn) (c := c) (sz := 10) (j := ((kk : Int))) (m := kk * 10) (by kernel_rfl) rfl (by kernel_rfl) Ty.un22 Ty.sz49 (by omega) (by omega) (by omega)) ?_
    obtain ⟨cu29, hb29, hk29, hp29⟩ := ORow.put (i := kk) h24 (by simp; omega) hD26 (by decide) hBb
    refine h1 (i := 15) (fuel := 2) (by kernel_rfl) rfl (ss rfl (k := kk * 10) (v := opV (f x25) (.slice dA26 dn26 dc26)) (vs := (opC (f x25) (.slice dA26 dn26 dc26))) (cs' := _) (by kernel_rfl) (by kernel_rfl) rfl Ty.sz49 hb29 rfl hk29 rfl ?_)
    intro w30 h31 c32
    have hr29 := hp29 _ h31 c32
    rw [map_set'] at hr29
    have M33 := Mod.trans M21 (Mod.of_chg c32 (by simp))
    have M34 := Mod.trans M22 (Mod.of_chg c32 (by simp))
    have M35 := Mod.trans M23 (Mod.of_chg c32 (by simp))
    obtain ⟨_, _, _, cg36, hg36, _⟩ := ORow.blk hr29
    refine hx (Y := [g]) (Mod.of_chg c32 (by simp)) (fun y hy => .inl hy) ?_
    refine hvq (i := 16) (fuel := 1) rfl (fun _ _ _ h => h) (Mod.refl _ _) rfl (v := .pointer (some ⟨g, (kk + 1) * 10, none⟩)) (fun _ _ => r_ixaddr' (A := some ⟨g, 0, none⟩) (b := g) (o := 0) (n := nn) (c := c) (sz := 10) (j := (((kk + 1 : Nat) : Int))) (m := (kk + 1) * 10) (by kernel_rfl) rfl (by kernel_rfl) Ty.un22 Ty.sz49 (by omega) (by omega) (by omega)) ?_
    have h38 := (Dat.chg hD28 c32 ⟨hBg, NotU8.of hb29 (by decide)⟩)
    obtain ⟨cu37, hb37, hk37, hp37⟩ := ORow.put (i := kk + 1) hr29 (by simp; omega) h38 (by decide) hBb
    refine h1 (i := 17) (fuel := 0) (by kernel_rfl) rfl (ss rfl (k := (kk + 1) * 10) (v := opV (f x27) (.slice dA28 dn28 dc28)) (vs := (opC (f x27) (.slice dA28 dn28 dc28))) (cs' := _) (by kernel_rfl) (by kernel_rfl) rfl Ty.sz49 hb37 rfl hk37 rfl ?_)
    intro w39 h40 c41
    have hr37 := hp37 _ h40 c41
    rw [map_set'] at hr37
    have M42 := Mod.trans M33 (Mod.of_chg c41 (by simp))
    have M43 := Mod.trans M34 (Mod.of_chg c41 (by simp))
    have M44 := Mod.trans M35 (Mod.of_chg c41 (by simp))
    obtain ⟨_, _, _, cg45, hg45, _⟩ := ORow.blk hr37
    refine hx (Y := [g]) (Mod.of_chg c41 (by simp)) (fun y hy => .inl hy) ?_
    refine hend (by kernel_rfl) ?_
    refine inb_n (then_n (rg_lit ?_))
    refine wmv (v := .int .i64 ((kk : Int))) ?_
    refine wl (sv rfl (v := .int .i64 (((kk + 1 : Nat) : Int))) (r_add (k := .i64) (m := ((kk : Int))) (n := 1) (c := (((kk + 1 : Nat) : Int))) (by kernel_rfl) (by kernel_rfl) ((IntWalk.i64_in _ (by omega)).trans (by omega))) ?_)
    refine was (v := .int .i64 (((kk + 1 : Nat) : Int))) ?_
    refine wnil (then_n ?_)
    refine ⟨ib - (kk + 1), ?_, ((I2.set kk x25).set (kk + 1) x27), (kk + 1), .int .i64 ((kk : Int)), .int .i64 ((ii : Int)), .int .i64 (((ii - 1 : Nat) : Int)), .bool b15, .int .i64 ((kk : Int)), .int .i64 (((kk + 1 : Nat) : Int)), .slice (some ⟨g, 0, none⟩) nn c, .int .i64 ((kk : Int)), .slice (some ⟨g, 0, none⟩) nn c, .int .i64 ((kk : Int)), .int .i64 (((kk + 1 : Nat) : Int)), .slice (some ⟨g, 0, none⟩) nn c, .int .i64 ((kk : Int)), .int .i64 (((kk + 1 : Nat) : Int)), .pointer (some ⟨g, (kk + 1) * 10, none⟩), opV (f x25) (.slice dA26 dn26 dc26), .slice (some ⟨g, 0, none⟩) nn c, .int .i64 ((kk : Int)), .pointer (some ⟨g, kk * 10, none⟩), opV (f x27) (.slice dA28 dn28 dc28), .pointer (some ⟨g, kk * 10, none⟩), .pointer (some ⟨g, (kk + 1) * 10, none⟩), rfl, (by kernel_rfl), M44, (Mv.up hF6_0 (by omega) hx27 hx25), hr37⟩
    · omega
   ·
    have h24 := (ORow.up hF6_1 u20)
    obtain ⟨x25, hx25⟩ : ∃ x, I2[kk]? = some x := ⟨_, List.getElem?_eq_getElem (by omega)⟩
    obtain ⟨cu26, dA26, dn26, dc26, hb26, he26, hD26⟩ := ORow.elem h24 (map_get' hx25)
    refine sv rfl (v := opV (f x25) (.slice dA26 dn26 dc26)) (r_loads (k := kk * 10) (vs := (opC (f x25) (.slice dA26 dn26 dc26))) (by kernel_rfl) Ty.ag49 Ty.sz49 hb26 (el_sub0 he26 rfl)) ?_
    refine hx (Y := [g]) (Mod.refl _ _) (fun y hy => .inl hy) ?_
    obtain ⟨x27, hx27⟩ : ∃ x, I2[kk + 1]? = some x := ⟨_, List.getElem?_eq_getElem (by omega)⟩
    obtain ⟨cu28, dA28, dn28, dc28, hb28, he28, hD28⟩ := ORow.elem h24 (map_get' hx27)
    refine h1 (i := 9) (fuel := 4) (by kernel_rfl) rfl (sv rfl (v := opV (f x27) (.slice dA28 dn28 dc28)) (r_loads (k := (kk + 1) * 10) (vs := (opC (f x27) (.slice dA28 dn28 dc28))) (by kernel_rfl) Ty.ag49 Ty.sz49 hb28 (el_sub0 he28 rfl)) ?_)
    refine hx (Y := [g]) (Mod.refl _ _) (fun y hy => .inl hy) ?_
    refine hvq (i := 14) (fuel := 3) rfl (fun _ _ _ h => h) (Mod.refl _ _) rfl (v := .pointer (some ⟨g, kk * 10, none⟩)) (fun _ _ => r_ixaddr' (A := some ⟨g, 0, none⟩) (b := g) (o := 0) (n := nn) (c := c) (sz := 10) (j := ((kk : Int))) (m := kk * 10) (by kernel_rfl) rfl (by kernel_rfl) Ty.un22 Ty.sz49 (by omega) (by omega) (by omega)) ?_
    obtain ⟨cu29, hb29, hk29, hp29⟩ := ORow.put (i := kk) h24 (by simp; omega) hD28 (by decide) hBb
    refine h1 (i := 15) (fuel := 2) (by kernel_rfl) rfl (ss rfl (k := kk * 10) (v := opV (f x27) (.slice dA28 dn28 dc28)) (vs := (opC (f x27) (.slice dA28 dn28 dc28))) (cs' := _) (by kernel_rfl) (by kernel_rfl) rfl Ty.sz49 hb29 rfl hk29 rfl ?_)
    intro w30 h31 c32
    have hr29 := hp29 _ h31 c32
    rw [map_set'] at hr29
    have M33 := Mod.trans M21 (Mod.of_chg c32 (by simp))
    have M34 := Mod.trans M22 (Mod.of_chg c32 (by simp))
    have M35 := Mod.trans M23 (Mod.of_chg c32 (by simp))
    obtain ⟨_, _, _, cg36, hg36, _⟩ := ORow.blk hr29
    refine hx (Y := [g]) (Mod.of_chg c32 (by simp)) (fun y hy => .inl hy) ?_
    refine hvq (i := 16) (fuel := 1) rfl (fun _ _ _ h => h) (Mod.refl _ _) rfl (v := .pointer (some ⟨g, (kk + 1) * 10, none⟩)) (fun _ _ => r_ixaddr' (A := some ⟨g, 0, none⟩) (b := g) (o := 0) (n := nn) (c := c) (sz := 10) (j := (((kk + 1 : Nat) : Int))) (m := (kk + 1) * 10) (by kernel_rfl) rfl (by kernel_rfl) Ty.un22 Ty.sz49 (by omega) (by omega) (by omega)) ?_
    have h38 := (Dat.chg hD26 c32 ⟨hBg, NotU8.of hb29 (by decide)⟩)
    obtain ⟨cu37, hb37, hk37, hp37⟩ := ORow.put (i := kk + 1) hr29 (by simp; omega) h38 (by decide) hBb
    refine h1 (i := 17) (fuel := 0) (by kernel_rfl) rfl (ss rfl (k := (kk + 1) * 10) (v := opV (f x25) (.slice dA26 dn26 dc26)) (vs := (opC (f x25) (.slice dA26 dn26 dc26))) (cs' := _) (by kernel_rfl) (by kernel_rfl) rfl Ty.sz49 hb37 rfl hk37 rfl ?_)
    intro w39 h40 c41
    have hr37 := hp37 _ h40 c41
    rw [map_set'] at hr37
    have M42 := Mod.trans M33 (Mod.of_chg c41 (by simp))
    have M43 := Mod.trans M34 (Mod.of_chg c41 (by simp))
    have M44 := Mod.trans M35 (Mod.of_chg c41 (by simp))
    obtain ⟨_, _, _, cg45, hg45, _⟩ := ORow.blk hr37
    refine hx (Y := [g]) (Mod.of_chg c41 (by simp)) (fun y hy => .inl hy) ?_
    refine hend (by kernel_rfl) ?_
    refine inb_n (then_n (rg_lit ?_))
    refine wmv (v := .int .i64 ((kk : Int))) ?_
    refine wl (sv rfl (v := .int .i64 (((kk + 1 : Nat) : Int))) (r_add (k := .i64) (m := ((kk : Int))) (n := 1) (c := (((kk + 1 : Nat) : Int))) (by kernel_rfl) (by kernel_rfl) ((IntWalk.i64_in _ (by omega)).trans (by omega))) ?_)
    refine was (v := .int .i64 (((kk + 1 : Nat) : Int))) ?_
    refine wnil (then_n ?_)
    refine ⟨ib - (kk + 1), ?_, ((I2.set kk x27).set (kk + 1) x25), (kk + 1), .int .i64 ((kk : Int)), .int .i64 ((ii : Int)), .int .i64 (((ii - 1 : Nat) : Int)), .bool b15, .int .i64 ((kk : Int)), .int .i64 (((kk + 1 : Nat) : Int)), .slice (some ⟨g, 0, none⟩) nn c, .int .i64 ((kk : Int)), .slice (some ⟨g, 0, none⟩) nn c, .int .i64 ((kk : Int)), .int .i64 (((kk + 1 : Nat) : Int)), .slice (some ⟨g, 0, none⟩) nn c, .int .i64 ((kk : Int)), .int .i64 (((kk + 1 : Nat) : Int)), .pointer (some ⟨g, (kk + 1) * 10, none⟩), opV (f x27) (.slice dA28 dn28 dc28), .slice (some ⟨g, 0, none⟩) nn c, .int .i64 ((kk : Int)), .pointer (some ⟨g, kk * 10, none⟩), opV (f x25) (.slice dA26 dn26 dc26), .pointer (some ⟨g, kk * 10, none⟩), .pointer (some ⟨g, (kk + 1) * 10, none⟩), rfl, (by kernel_rfl), M44, (Mv.up hF6_0 (by omega) hx25 hx27), hr37⟩
    · omega
  have p9 := of_decide_eq_true (k7.trans v8)
  have q10 : ii < jj := by omega
  have q11 : ii < jj := by omega
  refine wp_cond_true (ebool (b := b6) (by kernel_rfl) v8) ?_
  refine wp_skip (then_n (wp_block (wp_seq (rg_lit ?_))))
  refine wmv (v := .int .i64 ((ii : Int))) ?_
  refine wmv (v := .int .i64 ((jj : Int))) ?_
  refine wl (sv rfl (v := .int .i64 (((ii + jj : Nat) : Int))) (r_add (k := .i64) (m := ((ii : Int))) (n := ((jj : Int))) (c := (((ii + jj : Nat) : Int))) (by kernel_rfl) (by kernel_rfl) ((IntWalk.i64_in _ (by omega)).trans (by omega))) ?_)
  refine wl (sv rfl (v := .int .u64 (((ii + jj : Nat) : Int))) (r_toUn (m := (ii + jj)) (by kernel_rfl) (by omega)) ?_)
  refine wl (sv rfl (v := .int .u64 ((((ii + jj) / 2 : Nat) : Int))) (r_halfn (m := (ii + jj)) (by kernel_rfl) (by kernel_rfl)) ?_)
  refine wl (sv rfl (v := .int .i64 ((((ii + jj) / 2 : Nat) : Int))) (r_toIn (m := ((ii + jj) / 2)) (by kernel_rfl) (by omega)) ?_)
  refine was (v := .int .i64 ((((ii + jj) / 2 : Nat) : Int))) ?_
  refine wnil (then_n (wp_seq ?_))
  refine rg_tail 9 (by kernel_rfl) (by kernel_rfl) rfl rfl ?_
  refine qmv (v := .func (.func 115) #[] #[]) ?_
  refine qmv (v := .slice (some ⟨g, 0, none⟩) nn c) ?_
  refine qmv (v := .int .i64 ((((ii + jj) / 2 : Nat) : Int))) ?_
  refine qv rfl (v := .pointer (some ⟨g, ((ii + jj) / 2) * 10, none⟩)) (fun _ _ => r_ixaddr' (A := some ⟨g, 0, none⟩) (b := g) (o := 0) (n := nn) (c := c) (sz := 10) (j := ((((ii + jj) / 2 : Nat) : Int))) (m := ((ii + jj) / 2) * 10) (by kernel_rfl) rfl (by kernel_rfl) Ty.un22 Ty.sz49 (by omega) (by omega) (by omega)) ?_
  have h12 := (ORow.up h (Mod.up hM5))
  obtain ⟨x13, hx13⟩ : ∃ x, (pre ++ (A ++ (Bb ++ post)))[(ii + jj) / 2]? = some x := ⟨_, List.getElem?_eq_getElem (by omega)⟩
  obtain ⟨cu14, dA14, dn14, dc14, hb14, he14, hD14⟩ := ORow.elem h12 (map_get' hx13)
  refine qv rfl (v := opV (f x13) (.slice dA14 dn14 dc14)) (fun _ uz => r_loads (k := ((ii + jj) / 2) * 10) (vs := (opC (f x13) (.slice dA14 dn14 dc14))) (by kernel_rfl) Ty.ag49 Ty.sz49 (up_ob uz hb14) (el_sub0 he14 rfl)) ?_
  refine qmv (v := .slice (some ⟨g, 0, none⟩) nn c) ?_
  refine qmv (v := .int .i64 ((ia : Int))) ?_
  refine qv rfl (v := .pointer (some ⟨g, ia * 10, none⟩)) (fun _ _ => r_ixaddr' (A := some ⟨g, 0, none⟩) (b := g) (o := 0) (n := nn) (c := c) (sz := 10) (j := ((ia : Int))) (m := ia * 10) (by kernel_rfl) rfl (by kernel_rfl) Ty.un22 Ty.sz49 (by omega) (by omega) (by omega)) ?_
  obtain ⟨x15, hx15⟩ : ∃ x, (pre ++ (A ++ (Bb ++ post)))[ia]? = some x := ⟨_, List.getElem?_eq_getElem (by omega)⟩
  obtain ⟨cu16, dA16, dn16, dc16, hb16, he16, hD16⟩ := ORow.elem h12 (map_get' hx15)
  refine qv rfl (v := opV (f x15) (.slice dA16 dn16 dc16)) (fun _ uz => r_loads (k := ia * 10) (vs := (opC (f x15) (.slice dA16 dn16 dc16))) (by kernel_rfl) Ty.ag49 Ty.sz49 (up_ob uz hb16) (el_sub0 he16 rfl)) ?_
  refine qnil ?_
  intro w17 u18
  have M19 := Mod.trans M5 (Mod.of_up u18)
  have M20 := Mod.trans hM5 (Mod.of_up u18)
  refine wl (sc rfl (r_callv (caps := []) (all := [opV (f x13) (.slice dA14 dn14 dc14), opV (f x15) (.slice dA16 dn16 dc16)]) En.f115 (by kernel_rfl) (by kernel_rfl)) (opcompare_at (f x13) (f x15) dA14 dA16 dn14 dc14 dn16 dc16) ?_)
  rintro e w21 ⟨rfl, u22⟩
  refine ⟨.int .i64 ((cmpS (f x13).at_ (f x15).at_)), rfl, ?_⟩
  have M23 := Mod.trans M19 (Mod.of_up u22)
  have M24 := Mod.trans M20 (Mod.of_up u22)
  refine wl (sb rfl (r_lt (k := .i64) (m := ((cmpS (f x13).at_ (f x15).at_))) (n := 0) (by kernel_rfl) (by kernel_rfl)) ?_)
  intro b25 k26
  refine wnil (then_n ?_)
  refine bcase b25 (fun v27 => ?_) (fun v27 => ?_)
  ·
   have p28 := of_decide_eq_false (k26.trans v27)
   refine wp_cond_false (ebool (b := b25) (by kernel_rfl) v27) ?_
   refine rg_lit ?_
   refine wmv (v := .int .i64 ((((ii + jj) / 2 : Nat) : Int))) ?_
   refine was (v := .int .i64 ((((ii + jj) / 2 : Nat) : Int))) ?_
   refine wnil (inb_n (then_n ?_))
   refine ⟨((ii + jj) / 2) - ii, ?_, ii, ((ii + jj) / 2), .int .i64 ((((ii + jj) / 2 : Nat) : Int)), .int .i64 ((ii : Int)), .int .i64 ((jj : Int)), .bool b6, .int .i64 ((ii : Int)), .int .i64 ((jj : Int)), .int .i64 (((ii + jj : Nat) : Int)), .int .u64 (((ii + jj : Nat) : Int)), .int .u64 ((((ii + jj) / 2 : Nat) : Int)), .int .i64 ((((ii + jj) / 2 : Nat) : Int)), .func (.func 115) #[] #[], .slice (some ⟨g, 0, none⟩) nn c, .int .i64 ((((ii + jj) / 2 : Nat) : Int)), .pointer (some ⟨g, ((ii + jj) / 2) * 10, none⟩), opV (f x13) (.slice dA14 dn14 dc14), .slice (some ⟨g, 0, none⟩) nn c, .int .i64 ((ia : Int)), .pointer (some ⟨g, ia * 10, none⟩), opV (f x15) (.slice dA16 dn16 dc16), .int .i64 ((cmpS (f x13).at_ (f x15).at_)), .bool b25, z51, z52, .int .i64 ((((ii + jj) / 2 : Nat) : Int)), rfl, (by kernel_rfl), M24, (F1.no hF5_0 (by omega) (by omega) hx13 (by rw [same_el hx0 hx15]; exact cmpS_no p28))⟩
   · omega
  have p28 := of_decide_eq_true (k26.trans v27)
  refine wp_cond_true (ebool (b := b25) (by kernel_rfl) v27) ?_
  refine rg_lit ?_
  refine wmv (v := .int .i64 ((((ii + jj) / 2 : Nat) : Int))) ?_
  refine wl (sv rfl (v := .int .i64 ((((ii + jj) / 2 + 1 : Nat) : Int))) (r_add (k := .i64) (m := ((((ii + jj) / 2 : Nat) : Int))) (n := 1) (c := ((((ii + jj) / 2 + 1 : Nat) : Int))) (by kernel_rfl) (by kernel_rfl) ((IntWalk.i64_in _ (by omega)).trans (by omega))) ?_)
  refine was (v := .int .i64 ((((ii + jj) / 2 + 1 : Nat) : Int))) ?_
  refine wnil (inb_n (then_n ?_))
  refine ⟨jj - ((ii + jj) / 2 + 1), ?_, ((ii + jj) / 2 + 1), jj, .int .i64 ((((ii + jj) / 2 : Nat) : Int)), .int .i64 ((ii : Int)), .int .i64 ((jj : Int)), .bool b6, .int .i64 ((ii : Int)), .int .i64 ((jj : Int)), .int .i64 (((ii + jj : Nat) : Int)), .int .u64 (((ii + jj : Nat) : Int)), .int .u64 ((((ii + jj) / 2 : Nat) : Int)), .int .i64 ((((ii + jj) / 2 : Nat) : Int)), .func (.func 115) #[] #[], .slice (some ⟨g, 0, none⟩) nn c, .int .i64 ((((ii + jj) / 2 : Nat) : Int)), .pointer (some ⟨g, ((ii + jj) / 2) * 10, none⟩), opV (f x13) (.slice dA14 dn14 dc14), .slice (some ⟨g, 0, none⟩) nn c, .int .i64 ((ia : Int)), .pointer (some ⟨g, ia * 10, none⟩), opV (f x15) (.slice dA16 dn16 dc16), .int .i64 ((cmpS (f x13).at_ (f x15).at_)), .bool b25, .int .i64 ((((ii + jj) / 2 : Nat) : Int)), .int .i64 ((((ii + jj) / 2 + 1 : Nat) : Int)), z53, rfl, (by kernel_rfl), M24, (F1.yes hF5_0 (by omega) (by omega) hx13 (by rw [same_el hx0 hx15]; exact cmpS_yes p28))⟩
  · omega
theorem sym_all (N : Nat) : SymOK N := by
  induction N with
  | zero => intro B base w g nn c f pre A Bb post ia m ib hN _ _ _ _ _ _ hA0 _ _ _ _; omega
  | succ N ih => exact sym_step ih
end Go.Proofs.YtefhfoioeoijlaaGreatDoor

/- GL -/
import Derived.Test.YtefhfoioeoijlaaGreatDoorUah
import Derived.Test.YtefhfoioeoijlaaGreatDoorUak
set_option linter.unusedVariables false
set_option linter.unusedSimpArgs false
namespace Go.Proofs.YtefhfoioeoijlaaGreatDoor
open Go Go.RowKit Go.Sort
def SymOK (N : Nat) : Prop := ∀ {B base : Nat} {w : World} {g nn c : Nat} {f : Nat → OpD} {pre A Bb post : List Nat} {ia m ib : Nat}, A.length + Bb.length ≤ N → ORow 49 B base w (.slice (some ⟨g, 0, none⟩) nn c) ((pre ++ (A ++ (Bb ++ post))).map f) → B ≤ base → nn ≤ 1000000 → pre.length = ia → ia + A.length = m → m + Bb.length = ib → 0 < A.length → 0 < Bb.length → A.Pairwise (lx f) → Bb.Pairwise (lx f) → Ahead (· < ·) A Bb →
    Calls Tryz.prog 201 #[.slice (some ⟨g, 0, none⟩) nn c, .int .i64 ia, .int .i64 m, .int .i64 ib, .func (.func 115) #[] #[]] w fun e w' => ∃ D, e = .returned (.tuple #[]) ∧ ORow 49 B base w' (.slice (some ⟨g, 0, none⟩) nn c) ((pre ++ (D ++ post)).map f) ∧ Merged (lx f) A Bb D ∧ Chg w w' g
theorem wp_cutA {P : Program} {c : Code} {a : Act} {w : World} {next : Act → World → Prop} {Q : Exit → Act → World → Prop} (R : Act → World → Prop) (h1 : c.wp P (Exit.then R Q) a w) (h2 : ∀ a' w', R a' w' → next a' w') : c.wp P (Exit.then next Q) a w := by
  refine wp_mono h1 ?_
  intro e a' w' h
  cases e <;> first | exact h2 _ _ h | exact h
theorem same_el {I : List Nat} {ia x y : Nat} (h : I[ia]? = some x) (k : I[ia]? = some y) : x = y := Option.some.inj (h.symm.trans k)
set_option maxRecDepth 20000 in
set_option maxHeartbeats 2000000 in
theorem sym_step {N : Nat} (ih : SymOK N) : SymOK (N + 1) := by
  intro B base w g nn c f pre A Bb post ia m ib hN h hBb hn ha hm hb hA0 hB0 hAs hBs hAB
  obtain ⟨hnL, hnc, hcm, cu0, hg, hcs0⟩ := ORow.blk h
  have hBg := ORow.ge h hBb
  have hn0 : nn = pre.length + (A.length + (Bb.length + post.length)) := by simpa using hnL
  have hl0 : (pre ++ (A ++ (Bb ++ post))).length = nn := by simp; omega
  go_enter Tryz.func201, Tryz.ntmps201
  refine wp_seq (wp_seq (rg_lit (wmv (v := I_ m) (wmv (v := I_ ia) (wlv (v := N_ (m - ia)) (sbN m ia) (wl (sb rfl (eqI ((m - ia : Nat) : Int) 1) fun _ k2 => wnil (then_n ?_))))))))
  refine bcd k2 (fun v3 p4 => ?_) (fun v3 p4 => ?_)
  ·
   refine wp_cond_false (ebk v3) (wp_skip (then_n (wp_seq (wp_seq (rg_lit (wmv (v := I_ ib) (wmv (v := I_ m) (wlv (v := N_ (ib - m)) (sbN ib m) (wl (sb rfl (eqI ((ib - m : Nat) : Int) 1) fun _ k6 => wnil (then_n ?_)))))))))))
   refine bcd k6 (fun v7 p8 => ?_) (fun v7 p8 => ?_)
   ·
    refine wp_cond_false (ebk v7) (wp_skip (then_n (wp_seq (rg_lit (wmv (v := I_ ia) (wmv (v := I_ ib) (wlv (v := N_ (ia + ib)) (adN ia ib) (wlv (v := .int .u64 ((ia + ib : Nat) : Int)) (r_toUn (m := (ia + ib)) (by kernel_rfl) (by omega)) (wlv (v := .int .u64 (((ia + ib) / 2 : Nat) : Int)) (r_halfn (m := (ia + ib)) (by kernel_rfl) (by kernel_rfl)) (wlv (v := N_ ((ia + ib) / 2)) (r_toIn (m := ((ia + ib) / 2)) (by kernel_rfl) (by omega)) (was (v := N_ ((ia + ib) / 2)) ?_)))))))))))
    refine wnil (then_n (wp_seq (rg_lit (wmv (v := N_ ((ia + ib) / 2)) (wmv (v := I_ m) (wlv (v := N_ ((ia + ib) / 2 + m)) (adN (((ia + ib) / 2 : Nat) : Int) m) (was (v := N_ ((ia + ib) / 2 + m)) (wnil (then_n (wp_seq (rg_lit ?_)))))))))))
    iterate 2 refine was (v := I_ 0) ?_
    refine wnil (then_n (wp_seq (wp_seq (rg_lit (wmv (v := I_ m) (wmv (v := N_ ((ia + ib) / 2)) (wl (sb rfl (r_gt (k := .i64) (m := (m : Int)) (n := (((ia + ib) / 2 : Nat) : Int)) (by kernel_rfl) (by kernel_rfl)) fun _ k10 => wnil (then_n ?_)))))))))
    refine wp_cutA (R := fun a wq => ∃ (s0 : Nat) (r0 : Nat), (HasFr a 220 [(0, sl g 0 nn c), (1, I_ ia), (2, I_ m), (3, I_ ib), (4, .func (.func 115) #[] #[]), (18, N_ ((ia + ib) / 2)), (19, N_ ((ia + ib) / 2 + m)), (20, I_ s0), (21, I_ r0)] []) ∧ (w = wq) ∧ ((ia + ib) / 2 < m ∧ s0 = (ia + ib) / 2 + m - ib ∧ r0 = (ia + ib) / 2 ∨ m ≤ (ia + ib) / 2 ∧ s0 = ia ∧ r0 = m)) ?_ ?_
    ·
     refine bcd k10 (fun v11 p12 => ?_) (fun v11 p12 => ?_)
     ·
      refine wp_cond_false (ebk v11) (wp_seq (rg_lit (wmv (v := I_ ia) (was (v := I_ ia) (wnil (then_n (rg_lit (wmv (v := I_ m) (was (v := I_ m) (wnil (then_n ?_)))))))))))
      exact ⟨ia, m, hmk, rfl, (by omega)⟩
     refine wp_cond_true (ebk v11) (wp_seq (rg_lit (wmv (v := N_ ((ia + ib) / 2 + m)) (wmv (v := I_ ib) (wlv (v := N_ ((ia + ib) / 2 + m - ib)) (sbN (((ia + ib) / 2 + m : Nat) : Int) ib) (was (v := N_ ((ia + ib) / 2 + m - ib)) (wnil (then_n (rg_lit (wmv (v := N_ ((ia + ib) / 2)) (was (v := N_ ((ia + ib) / 2)) ?_)))))))))))
     refine wnil (then_n ?_)
     exact ⟨((ia + ib) / 2 + m - ib), ((ia + ib) / 2), hmk, rfl, (by omega)⟩
    rintro _ _ ⟨s0, r0, h12, rfl, _⟩
    obtain ⟨_, rfl⟩ := h12
    refine wp_seq (rg_lit (wmv (v := N_ ((ia + ib) / 2 + m)) (wlv (v := N_ ((ia + ib) / 2 + m - 1)) (sbN (((ia + ib) / 2 + m : Nat) : Int) 1) (was (v := N_ ((ia + ib) / 2 + m - 1)) (wnil (then_n (wp_seq (wp_block ?_))))))))
    refine lp (fun n a r1 => ∃ (sa : Nat) (ra : Nat), (n = ra - sa) ∧ (HasFr a 220 [(0, sl g 0 nn c), (1, I_ ia), (2, I_ m), (3, I_ ib), (4, .func (.func 115) #[] #[]), (18, N_ ((ia + ib) / 2)), (19, N_ ((ia + ib) / 2 + m)), (20, I_ sa), (21, I_ ra), (22, N_ ((ia + ib) / 2 + m - 1))] []) ∧ (Mod [] w r1) ∧ (SymS f (pre ++ (A ++ (Bb ++ post))) ((ia + ib) / 2 + m) s0 r0 sa ra)) ⟨_, s0, r0, rfl, hmk, Mod.refl _ _, (SymS.first _ _ _ _ _ (by omega))⟩ ?_
    rintro _ _ r1 ⟨sa, ra, rfl, h13, hM1, hF1_0⟩
    obtain ⟨_, rfl⟩ := h13
    have M14 := Mod.thin (Mod.refl [] w) hM1 (by simp)
    have hz1 := hF1_0.1
    have hz2 := hF1_0.2.1
    have hz3 := hF1_0.2.2.1
    refine wp_seq (wp_seq (rg_lit (wmv (v := I_ sa) (wmv (v := I_ ra) (wl (sb rfl (ltI sa ra) fun _ k16 => wnil (then_n ?_)))))))
    refine bcd k16 (fun v17 p18 => ?_) (fun v17 p18 => ?_)
    ·
     refine wp_cond_false (ebk v17) (wp_exit (then_x (by nofun) (then_x (by nofun) (inb_hit (then_n (wp_seq (rg_lit (wmv (v := N_ ((ia + ib) / 2 + m)) (wmv (v := I_ sa) (wlv (v := N_ ((ia + ib) / 2 + m - sa)) (sbN (((ia + ib) / 2 + m : Nat) : Int) sa) (was (v := N_ ((ia + ib) / 2 + m - sa)) (wnil (then_n (wp_seq (wp_seq (rg_lit (wmv (v := I_ sa) (wmv (v := I_ m) ?_))))))))))))))))))
     refine wl (sb rfl (ltI sa m) fun b19 k20 => wmv (v := B_ b19) ?_)
     refine bcd k20 (fun v21 p22 => ?_) (fun v21 p22 => ?_)
     ·
      iterate 3 refine wls rfl v21 ?_
      refine wlv (v := B_ false) (pkF (ebk v21)) (wnil (then_n ?_))
      have hq23 : SymS f (pre ++ (A ++ (Bb ++ post))) ((ia + ib) / 2 + m) s0 r0 sa sa := by have h0 := hF1_0; rw [show ra = sa by omega] at h0; exact h0
      have hT23 := SymS.fin hq23 rfl ha hm hb rfl rfl (by omega) hAs hBs hAB
      obtain ⟨ht1, ht2, ht3, ht4, ht5⟩ := Sym1.len hT23
      refine wp_cutA (R := fun a wq => ∃ (I4 : List Nat), (HasFr a 220 [(0, sl g 0 nn c), (1, I_ ia), (2, I_ m), (3, I_ ib), (4, .func (.func 115) #[] #[]), (18, N_ ((ia + ib) / 2)), (19, N_ ((ia + ib) / 2 + m)), (20, I_ sa), (21, I_ ra), (22, N_ ((ia + ib) / 2 + m - 1)), (24, N_ ((ia + ib) / 2 + m - sa))] []) ∧ (Mod [g] r1 wq) ∧ (ORow 49 B base wq (sl g 0 nn c) (I4.map f)) ∧ (Sym2 f pre A Bb post I4 sa ((ia + ib) / 2) ((ia + ib) / 2 + m - sa))) ?_ ?_
      ·
       refine wp_cond_false (by kernel_rfl) (wp_skip (then_n ?_))
       have hT25 := Sym1.skip (mid := (ia + ib) / 2) hT23 (by omega) (by omega)
       exact ⟨(pre ++ (A ++ (Bb ++ post))), hmk, (Mod.refl _ _), (ORow.up h (Mod.up hM1)), hT25⟩
      rintro _ w24 ⟨I4, h28, h25, h26, h27⟩
      obtain ⟨_, rfl⟩ := h28
      have M29 := Mod.trans (Mod.of_mod (Y := [g]) M14 (by simp)) (Mod.of_mod (Y := [g]) h25 (by simp))
      have M30 := Mod.trans (Mod.of_mod (Y := [g]) hM1 (by simp)) (Mod.of_mod (Y := [g]) h25 (by simp))
      obtain ⟨_, _, _, _, _, _⟩ := ORow.blk h26
      refine wp_seq (wp_seq (rg_lit (wmv (v := I_ ia) (wmv (v := I_ sa) (wl (sb rfl (ltI ia sa) fun b32 k33 => wmv (v := B_ b32) ?_))))))
      refine bcd k33 (fun v34 p35 => ?_) (fun v34 p35 => ?_)
      ·
       iterate 3 refine wls rfl v34 ?_
       refine wlv (v := B_ false) (pkF (ebk v34)) (wnil (then_n ?_))
       refine wp_cutA (R := fun a wq => ∃ (I5 : List Nat), (HasFr a 220 [(0, sl g 0 nn c), (1, I_ ia), (2, I_ m), (3, I_ ib), (4, .func (.func 115) #[] #[]), (18, N_ ((ia + ib) / 2)), (19, N_ ((ia + ib) / 2 + m)), (20, I_ sa), (21, I_ ra), (22, N_ ((ia + ib) / 2 + m - 1)), (24, N_ ((ia + ib) / 2 + m - sa))] []) ∧ (Mod [g] w24 wq) ∧ (ORow 49 B base wq (sl g 0 nn c) (I5.map f)) ∧ (Sym3 f pre A Bb post I5 ((ia + ib) / 2) ((ia + ib) / 2 + m - sa))) ?_ ?_
       ·
        refine wp_cond_false (by kernel_rfl) (wp_skip (then_n ?_))
        have hT36 := Sym2.skip h27 (by omega) hAs hBs
        exact ⟨I4, hmk, (Mod.refl _ _), h26, hT36⟩
       rintro _ w36 ⟨I5, h40, h37, h38, h39⟩
       obtain ⟨_, rfl⟩ := h40
       have M41 := Mod.trans M29 (Mod.of_mod h37 (by simp))
       obtain ⟨_, _, _, _, _, _⟩ := ORow.blk h38
       refine wp_seq (rg_lit (wmv (v := N_ ((ia + ib) / 2)) (wmv (v := N_ ((ia + ib) / 2 + m - sa)) (wl (sb rfl (ltI (((ia + ib) / 2 : Nat) : Int) (((ia + ib) / 2 + m - sa : Nat) : Int)) fun b44 k45 => wmv (v := B_ b44) ?_)))))
       refine bcd k45 (fun v46 p47 => ?_) (fun v46 p47 => ?_)
       ·
        iterate 3 refine wls rfl v46 ?_
        refine wlv (v := B_ false) (pkF (ebk v46)) (wnil (then_n (wp_cond_false (by kernel_rfl) (wp_skip ?_))))
        refine bodyPost_end (v := .tuple #[]) (res0 rfl ) (by kernel_rfl) ?_
        obtain ⟨D, hD, hM⟩ := Sym3.skip h39 (by omega) hAs hBs
        exact ⟨D, rfl, ORow.to h38 (by rw [hD]), hM, (Mod.chg M41)⟩
       refine wlw rfl v46 (v := N_ ((ia + ib) / 2 + m - sa)) (mv) (wlw rfl v46 (v := I_ ib) (mv) (wl (sb (wt (b := b44) rfl (by kernel_rfl) v46) (ltI (((ia + ib) / 2 + m - sa : Nat) : Int) ib) fun b48 k49 => wlv (v := B_ b48) (pkT (ebk v46)) (wnil (then_n ?_)))))
       refine bcd k49 (fun v50 p51 => ?_) (fun v50 p51 => ?_)
       ·
        refine wp_cond_false (ebk v50) (wp_skip ?_)
        refine bodyPost_end (v := .tuple #[]) (res0 rfl ) (by kernel_rfl) ?_
        obtain ⟨D, hD, hM⟩ := Sym3.skip h39 (by omega) hAs hBs
        exact ⟨D, rfl, ORow.to h38 (by rw [hD]), hM, (Mod.chg M41)⟩
       refine wp_cond_true (ebk v50) (rg_lit (wmv (v := sl g 0 nn c) (wmv (v := N_ ((ia + ib) / 2)) (wmv (v := N_ ((ia + ib) / 2 + m - sa)) (wmv (v := I_ ib) (wmv (v := .func (.func 115) #[] #[]) ?_))))))
       obtain ⟨_, _, _, hI52, hp52, _, _, hsX52, hsY52, hXY52, hN52⟩ := Sym3.half h39 hAs hBs hAB
       have ho52 := ORow.to h38 (congrArg (List.map f) hI52)
       refine wl (sca [sl g 0 nn c, N_ ((ia + ib) / 2), N_ ((ia + ib) / 2 + m - sa), I_ ib, .func (.func 115) #[] #[]] En.f201 (ih (by omega) ho52 hBb hn hp52 (by omega) (by omega) (by omega) (by omega) hsX52 hsY52 hXY52) ?_)
       rintro e _ ⟨_, rfl, h55, m56, c57⟩
       refine ⟨_, rfl, ?_⟩
       obtain ⟨_, _, _, _, _, _⟩ := ORow.blk h55
       have hT52 := hN52 _ m56
       refine wnil ?_
       refine bodyPost_end (v := .tuple #[]) (res0 rfl ) (by kernel_rfl) ?_
       obtain ⟨D, hD, hM⟩ := hT52
       exact ⟨D, rfl, ORow.to h55 (by rw [hD]), hM, (Mod.chg (mtx M41 c57))⟩
      refine wlw rfl v34 (v := I_ sa) (mv) (wlw rfl v34 (v := N_ ((ia + ib) / 2)) (mv) (wl (sb (wt (b := b32) rfl (by kernel_rfl) v34) (ltI sa (((ia + ib) / 2 : Nat) : Int)) fun b38 k39 => wlv (v := B_ b38) (pkT (ebk v34)) (wnil (then_n ?_)))))
      refine wp_cutA (R := fun a wq => ∃ (I5 : List Nat), (HasFr a 220 [(0, sl g 0 nn c), (1, I_ ia), (2, I_ m), (3, I_ ib), (4, .func (.func 115) #[] #[]), (18, N_ ((ia + ib) / 2)), (19, N_ ((ia + ib) / 2 + m)), (20, I_ sa), (21, I_ ra), (22, N_ ((ia + ib) / 2 + m - 1)), (24, N_ ((ia + ib) / 2 + m - sa))] []) ∧ (Mod [g] w24 wq) ∧ (ORow 49 B base wq (sl g 0 nn c) (I5.map f)) ∧ (Sym3 f pre A Bb post I5 ((ia + ib) / 2) ((ia + ib) / 2 + m - sa))) ?_ ?_
      ·
       refine bcd k39 (fun v40 p41 => ?_) (fun v40 p41 => ?_)
       ·
        refine wp_cond_false (ebk v40) (wp_skip (then_n ?_))
        have hT42 := Sym2.skip h27 (by omega) hAs hBs
        exact ⟨I4, hmk, (Mod.refl _ _), h26, hT42⟩
       refine wp_cond_true (ebk v40) (rg_lit (wmv (v := sl g 0 nn c) (wmv (v := I_ ia) (wmv (v := I_ sa) (wmv (v := N_ ((ia + ib) / 2)) (wmv (v := .func (.func 115) #[] #[]) ?_))))))
       obtain ⟨_, _, q42, hI42, _, _, hsX42, hsY42, hXY42, hN42⟩ := Sym2.half h27 hAs hBs hAB
       have ho42 := ORow.to h26 (congrArg (List.map f) hI42)
       refine wl (sca [sl g 0 nn c, I_ ia, I_ sa, N_ ((ia + ib) / 2), .func (.func 115) #[] #[]] En.f201 (ih (by omega) ho42 hBb hn ha (by omega) (by omega) (by omega) (by omega) hsX42 hsY42 hXY42) ?_)
       rintro e _ ⟨D44, rfl, h45, m46, c47⟩
       refine ⟨_, rfl, ?_⟩
       obtain ⟨_, _, _, _, _, _⟩ := ORow.blk h45
       have hT42 := hN42 _ m46
       refine wnil (then_n ?_)
       exact ⟨(pre ++ (D44 ++ q42)), hmk, (Mod.of_chg c47 (by simp)), h45, hT42⟩
      rintro _ w40 ⟨I5, h44, h41, h42, h43⟩
      obtain ⟨_, rfl⟩ := h44
      have M45 := Mod.trans M29 (Mod.of_mod h41 (by simp))
      have M46 := Mod.trans M30 (Mod.of_mod h41 (by simp))
      obtain ⟨_, _, _, cg47, hg47, _⟩ := ORow.blk h42
      refine wp_seq (rg_lit (wmv (v := N_ ((ia + ib) / 2)) (wmv (v := N_ ((ia + ib) / 2 + m - sa)) (wl (sb rfl (ltI (((ia + ib) / 2 : Nat) : Int) (((ia + ib) / 2 + m - sa : Nat) : Int)) fun b48 k49 => wmv (v := B_ b48) ?_)))))
      refine bcd k49 (fun v50 p51 => ?_) (fun v50 p51 => ?_)
      ·
       iterate 3 refine wls rfl v50 ?_
       refine wlv (v := B_ false) (pkF (ebk v50)) (wnil (then_n (wp_cond_false (by kernel_rfl) (wp_skip ?_))))
       refine bodyPost_end (v := .tuple #[]) (res0 rfl ) (by kernel_rfl) ?_
       obtain ⟨D, hD, hM⟩ := Sym3.skip h43 (by omega) hAs hBs
       exact ⟨D, rfl, ORow.to h42 (by rw [hD]), hM, (Mod.chg M45)⟩
      refine wlw rfl v50 (v := N_ ((ia + ib) / 2 + m - sa)) (mv) (wlw rfl v50 (v := I_ ib) (mv) (wl (sb (wt (b := b48) rfl (by kernel_rfl) v50) (ltI (((ia + ib) / 2 + m - sa : Nat) : Int) ib) fun b52 k53 => wlv (v := B_ b52) (pkT (ebk v50)) (wnil (then_n ?_)))))
      refine bcd k53 (fun v54 p55 => ?_) (fun v54 p55 => ?_)
      ·
       refine wp_cond_false (ebk v54) (wp_skip ?_)
       refine bodyPost_end (v := .tuple #[]) (res0 rfl ) (by kernel_rfl) ?_
       obtain ⟨D, hD, hM⟩ := Sym3.skip h43 (by omega) hAs hBs
       exact ⟨D, rfl, ORow.to h42 (by rw [hD]), hM, (Mod.chg M45)⟩
      refine wp_cond_true (ebk v54) (rg_lit (wmv (v := sl g 0 nn c) (wmv (v := N_ ((ia + ib) / 2)) (wmv (v := N_ ((ia + ib) / 2 + m - sa)) (wmv (v := I_ ib) (wmv (v := .func (.func 115) #[] #[]) ?_))))))
      obtain ⟨p56, X56, Y56, hI56, hp56, hX56, hY56, hsX56, hsY56, hXY56, hN56⟩ := Sym3.half h43 hAs hBs hAB
      have ho56 := ORow.to h42 (congrArg (List.map f) hI56)
      refine wl (sca [sl g 0 nn c, N_ ((ia + ib) / 2), N_ ((ia + ib) / 2 + m - sa), I_ ib, .func (.func 115) #[] #[]] En.f201 (ih (by omega) ho56 hBb hn hp56 (by omega) (by omega) (by omega) (by omega) hsX56 hsY56 hXY56) ?_)
      rintro e w57 ⟨D58, rfl, h59, m60, c61⟩
      refine ⟨_, rfl, ?_⟩
      obtain ⟨_, _, _, cg64, hg64, _⟩ := ORow.blk h59
      have hT56 := hN56 _ m60
      refine wnil ?_
      refine bodyPost_end (v := .tuple #[]) (res0 rfl ) (by kernel_rfl) ?_
      obtain ⟨D, hD, hM⟩ := hT56
      exact ⟨D, rfl, ORow.to h59 (by rw [hD]), hM, (Mod.chg (mtx M45 c61))⟩
     refine wlw rfl v21 (v := I_ m) (mv) (wlw rfl v21 (v := N_ ((ia + ib) / 2 + m - sa)) (mv) (wl (sb (wt (b := b19) rfl (by kernel_rfl) v21) (ltI m (((ia + ib) / 2 + m - sa : Nat) : Int)) fun b25 k26 => wlv (v := B_ b25) (pkT (ebk v21)) (wnil (then_n ?_)))))
     have hq27 : SymS f (pre ++ (A ++ (Bb ++ post))) ((ia + ib) / 2 + m) s0 r0 sa sa := by have h0 := hF1_0; rw [show ra = sa by omega] at h0; exact h0
     have hT27 := SymS.fin hq27 rfl ha hm hb rfl rfl (by omega) hAs hBs hAB
     obtain ⟨ht1, ht2, ht3, ht4, ht5⟩ := Sym1.len hT27
     refine wp_cutA (R := fun a wq => ∃ (I4 : List Nat), (HasFr a 220 [(0, sl g 0 nn c), (1, I_ ia), (2, I_ m), (3, I_ ib), (4, .func (.func 115) #[] #[]), (18, N_ ((ia + ib) / 2)), (19, N_ ((ia + ib) / 2 + m)), (20, I_ sa), (21, I_ ra), (22, N_ ((ia + ib) / 2 + m - 1)), (24, N_ ((ia + ib) / 2 + m - sa))] []) ∧ (Mod [g] r1 wq) ∧ (ORow 49 B base wq (sl g 0 nn c) (I4.map f)) ∧ (Sym2 f pre A Bb post I4 sa ((ia + ib) / 2) ((ia + ib) / 2 + m - sa))) ?_ ?_
     ·
      refine bcd k26 (fun v28 p29 => ?_) (fun v28 p29 => ?_)
      ·
       refine wp_cond_false (ebk v28) (wp_skip (then_n ?_))
       have hT31 := Sym1.skip (mid := (ia + ib) / 2) hT27 (by omega) (by omega)
       exact ⟨(pre ++ (A ++ (Bb ++ post))), hmk, (Mod.refl _ _), (ORow.up h (Mod.up hM1)), hT31⟩
      refine wp_cond_true (ebk v28) (rg_lit (wmv (v := sl g 0 nn c) (wmv (v := I_ sa) (wmv (v := I_ m) (wmv (v := N_ ((ia + ib) / 2 + m - sa)) (wmv (v := .func (.func 115) #[] #[]) ?_))))))
      obtain ⟨p30, X30, Y30, q30, hI30, hp30, _, _, hT30⟩ := Sym1.turn (mid := (ia + ib) / 2) hT27 (by omega)
      have ho30 := ORow.to (ORow.up h (Mod.up hM1)) (congrArg (List.map f) hI30)
      refine wl (sca [sl g 0 nn c, I_ sa, I_ m, N_ ((ia + ib) / 2 + m - sa), .func (.func 115) #[] #[]] En.f230 (rotate_at ho30 hBb hn hp30 (by omega) (by omega) (by omega) (by omega)) ?_)
      rintro e _ ⟨rfl, h34, c35⟩
      refine ⟨_, rfl, ?_⟩
      obtain ⟨_, _, _, cg38, hg38, _⟩ := ORow.blk h34
      refine wnil (then_n ?_)
      exact ⟨(p30 ++ (Y30 ++ (X30 ++ q30))), hmk, (Mod.of_chg c35 (by simp)), h34, hT30⟩
     rintro _ w28 ⟨I4, h32, h29, h30, h31⟩
     obtain ⟨_, rfl⟩ := h32
     have M33 := Mod.trans (Mod.of_mod (Y := [g]) M14 (by simp)) (Mod.of_mod (Y := [g]) h29 (by simp))
     have M34 := Mod.trans (Mod.of_mod (Y := [g]) hM1 (by simp)) (Mod.of_mod (Y := [g]) h29 (by simp))
     obtain ⟨_, _, _, _, _, _⟩ := ORow.blk h30
     refine wp_seq (wp_seq (rg_lit (wmv (v := I_ ia) (wmv (v := I_ sa) (wl (sb rfl (ltI ia sa) fun b36 k37 => wmv (v := B_ b36) ?_))))))
     refine bcd k37 (fun v38 p39 => ?_) (fun v38 p39 => ?_)
     ·
      iterate 3 refine wls rfl v38 ?_
      refine wlv (v := B_ false) (pkF (ebk v38)) (wnil (then_n ?_))
      refine wp_cutA (R := fun a wq => ∃ (I5 : List Nat), (HasFr a 220 [(0, sl g 0 nn c), (1, I_ ia), (2, I_ m), (3, I_ ib), (4, .func (.func 115) #[] #[]), (18, N_ ((ia + ib) / 2)), (19, N_ ((ia + ib) / 2 + m)), (20, I_ sa), (21, I_ ra), (22, N_ ((ia + ib) / 2 + m - 1)), (24, N_ ((ia + ib) / 2 + m - sa))] []) ∧ (Mod [g] w28 wq) ∧ (ORow 49 B base wq (sl g 0 nn c) (I5.map f)) ∧ (Sym3 f pre A Bb post I5 ((ia + ib) / 2) ((ia + ib) / 2 + m - sa))) ?_ ?_
      ·
       refine wp_cond_false (by kernel_rfl) (wp_skip (then_n ?_))
       have hT40 := Sym2.skip h31 (by omega) hAs hBs
       exact ⟨I4, hmk, (Mod.refl _ _), h30, hT40⟩
      rintro _ w40 ⟨I5, h44, h41, h42, h43⟩
      obtain ⟨_, rfl⟩ := h44
      have M45 := Mod.trans M33 (Mod.of_mod h41 (by simp))
      have M46 := Mod.trans M34 (Mod.of_mod h41 (by simp))
      obtain ⟨_, _, _, cg47, hg47, _⟩ := ORow.blk h42
      refine wp_seq (rg_lit (wmv (v := N_ ((ia + ib) / 2)) (wmv (v := N_ ((ia + ib) / 2 + m - sa)) (wl (sb rfl (ltI (((ia + ib) / 2 : Nat) : Int) (((ia + ib) / 2 + m - sa : Nat) : Int)) fun b48 k49 => wmv (v := B_ b48) ?_)))))
      refine bcd k49 (fun v50 p51 => ?_) (fun v50 p51 => ?_)
      ·
       iterate 3 refine wls rfl v50 ?_
       refine wlv (v := B_ false) (pkF (ebk v50)) (wnil (then_n (wp_cond_false (by kernel_rfl) (wp_skip ?_))))
       refine bodyPost_end (v := .tuple #[]) (res0 rfl ) (by kernel_rfl) ?_
       obtain ⟨D, hD, hM⟩ := Sym3.skip h43 (by omega) hAs hBs
       exact ⟨D, rfl, ORow.to h42 (by rw [hD]), hM, (Mod.chg M45)⟩
      refine wlw rfl v50 (v := N_ ((ia + ib) / 2 + m - sa)) (mv) (wlw rfl v50 (v := I_ ib) (mv) (wl (sb (wt (b := b48) rfl (by kernel_rfl) v50) (ltI (((ia + ib) / 2 + m - sa : Nat) : Int) ib) fun b52 k53 => wlv (v := B_ b52) (pkT (ebk v50)) (wnil (then_n ?_)))))
      refine bcd k53 (fun v54 p55 => ?_) (fun v54 p55 => ?_)
      ·
       refine wp_cond_false (ebk v54) (wp_skip ?_)
       refine bodyPost_end (v := .tuple #[]) (res0 rfl ) (by kernel_rfl) ?_
       obtain ⟨D, hD, hM⟩ := Sym3.skip h43 (by omega) hAs hBs
       exact ⟨D, rfl, ORow.to h42 (by rw [hD]), hM, (Mod.chg M45)⟩
      refine wp_cond_true (ebk v54) (rg_lit (wmv (v := sl g 0 nn c) (wmv (v := N_ ((ia + ib) / 2)) (wmv (v := N_ ((ia + ib) / 2 + m - sa)) (wmv (v := I_ ib) (wmv (v := .func (.func 115) #[] #[]) ?_))))))
      obtain ⟨p56, X56, Y56, hI56, hp56, hX56, hY56, hsX56, hsY56, hXY56, hN56⟩ := Sym3.half h43 hAs hBs hAB
      have ho56 := ORow.to h42 (congrArg (List.map f) hI56)
      refine wl (sca [sl g 0 nn c, N_ ((ia + ib) / 2), N_ ((ia + ib) / 2 + m - sa), I_ ib, .func (.func 115) #[] #[]] En.f201 (ih (by omega) ho56 hBb hn hp56 (by omega) (by omega) (by omega) (by omega) hsX56 hsY56 hXY56) ?_)
      rintro e w57 ⟨D58, rfl, h59, m60, c61⟩
      refine ⟨_, rfl, ?_⟩
      obtain ⟨_, _, _, cg64, hg64, _⟩ := ORow.blk h59
      have hT56 := hN56 _ m60
      refine wnil ?_
      refine bodyPost_end (v := .tuple #[]) (res0 rfl ) (by kernel_rfl) ?_
      obtain ⟨D, hD, hM⟩ := hT56
      exact ⟨D, rfl, ORow.to h59 (by rw [hD]), hM, (Mod.chg (mtx M45 c61))⟩
     refine wlw rfl v38 (v := I_ sa) (mv) (wlw rfl v38 (v := N_ ((ia + ib) / 2)) (mv) (wl (sb (wt (b := b36) rfl (by kernel_rfl) v38) (ltI sa (((ia + ib) / 2 : Nat) : Int)) fun b42 k43 => wlv (v := B_ b42) (pkT (ebk v38)) (wnil (then_n ?_)))))
     refine wp_cutA (R := fun a wq => ∃ (I5 : List Nat), (HasFr a 220 [(0, sl g 0 nn c), (1, I_ ia), (2, I_ m), (3, I_ ib), (4, .func (.func 115) #[] #[]), (18, N_ ((ia + ib) / 2)), (19, N_ ((ia + ib) / 2 + m)), (20, I_ sa), (21, I_ ra), (22, N_ ((ia + ib) / 2 + m - 1)), (24, N_ ((ia + ib) / 2 + m - sa))] []) ∧ (Mod [g] w28 wq) ∧ (ORow 49 B base wq (sl g 0 nn c) (I5.map f)) ∧ (Sym3 f pre A Bb post I5 ((ia + ib) / 2) ((ia + ib) / 2 + m - sa))) ?_ ?_
     ·
      refine bcd k43 (fun v44 p45 => ?_) (fun v44 p45 => ?_)
      ·
       refine wp_cond_false (ebk v44) (wp_skip (then_n ?_))
       have hT46 := Sym2.skip h31 (by omega) hAs hBs
       exact ⟨I4, hmk, (Mod.refl _ _), h30, hT46⟩
      refine wp_cond_true (ebk v44) (rg_lit (wmv (v := sl g 0 nn c) (wmv (v := I_ ia) (wmv (v := I_ sa) (wmv (v := N_ ((ia + ib) / 2)) (wmv (v := .func (.func 115) #[] #[]) ?_))))))
      obtain ⟨_, _, q46, hI46, _, _, hsX46, hsY46, hXY46, hN46⟩ := Sym2.half h31 hAs hBs hAB
      have ho46 := ORow.to h30 (congrArg (List.map f) hI46)
      refine wl (sca [sl g 0 nn c, I_ ia, I_ sa, N_ ((ia + ib) / 2), .func (.func 115) #[] #[]] En.f201 (ih (by omega) ho46 hBb hn ha (by omega) (by omega) (by omega) (by omega) hsX46 hsY46 hXY46) ?_)
      rintro e _ ⟨D48, rfl, h49, m50, c51⟩
      refine ⟨_, rfl, ?_⟩
      obtain ⟨_, _, _, _, _, _⟩ := ORow.blk h49
      have hT46 := hN46 _ m50
      refine wnil (then_n ?_)
      exact ⟨(pre ++ (D48 ++ q46)), hmk, (Mod.of_chg c51 (by simp)), h49, hT46⟩
     rintro _ _ ⟨I5, h48, h45, h46, h47⟩
     obtain ⟨_, rfl⟩ := h48
     have M49 := Mod.trans M33 (Mod.of_mod h45 (by simp))
     have M50 := Mod.trans M34 (Mod.of_mod h45 (by simp))
     obtain ⟨_, _, _, cg51, hg51, _⟩ := ORow.blk h46
     refine wp_seq (rg_lit (wmv (v := N_ ((ia + ib) / 2)) (wmv (v := N_ ((ia + ib) / 2 + m - sa)) (wl (sb rfl (ltI (((ia + ib) / 2 : Nat) : Int) (((ia + ib) / 2 + m - sa : Nat) : Int)) fun b52 k53 => wmv (v := B_ b52) ?_)))))
     refine bcd k53 (fun v54 p55 => ?_) (fun v54 p55 => ?_)
     ·
      iterate 3 refine wls rfl v54 ?_
      refine wlv (v := B_ false) (pkF (ebk v54)) (wnil (then_n (wp_cond_false (by kernel_rfl) (wp_skip ?_))))
      refine bodyPost_end (v := .tuple #[]) (res0 rfl ) (by kernel_rfl) ?_
      obtain ⟨D, hD, hM⟩ := Sym3.skip h47 (by omega) hAs hBs
      exact ⟨D, rfl, ORow.to h46 (by rw [hD]), hM, (Mod.chg M49)⟩
     refine wlw rfl v54 (v := N_ ((ia + ib) / 2 + m - sa)) (mv) (wlw rfl v54 (v := I_ ib) (mv) (wl (sb (wt (b := b52) rfl (by kernel_rfl) v54) (ltI (((ia + ib) / 2 + m - sa : Nat) : Int) ib) fun b56 k57 => wlv (v := B_ b56) (pkT (ebk v54)) (wnil (then_n ?_)))))
     refine bcd k57 (fun v58 p59 => ?_) (fun v58 p59 => ?_)
     ·
      refine wp_cond_false (ebk v58) (wp_skip ?_)
      refine bodyPost_end (v := .tuple #[]) (res0 rfl ) (by kernel_rfl) ?_
      obtain ⟨D, hD, hM⟩ := Sym3.skip h47 (by omega) hAs hBs
      exact ⟨D, rfl, ORow.to h46 (by rw [hD]), hM, (Mod.chg M49)⟩
     refine wp_cond_true (ebk v58) (rg_lit (wmv (v := sl g 0 nn c) (wmv (v := N_ ((ia + ib) / 2)) (wmv (v := N_ ((ia + ib) / 2 + m - sa)) (wmv (v := I_ ib) (wmv (v := .func (.func 115) #[] #[]) ?_))))))
     obtain ⟨_, _, _, hI60, hp60, _, _, hsX60, hsY60, hXY60, hN60⟩ := Sym3.half h47 hAs hBs hAB
     have ho60 := ORow.to h46 (congrArg (List.map f) hI60)
     refine wl (sca [sl g 0 nn c, N_ ((ia + ib) / 2), N_ ((ia + ib) / 2 + m - sa), I_ ib, .func (.func 115) #[] #[]] En.f201 (ih (by omega) ho60 hBb hn hp60 (by omega) (by omega) (by omega) (by omega) hsX60 hsY60 hXY60) ?_)
     rintro e _ ⟨_, rfl, h63, m64, c65⟩
     refine ⟨_, rfl, ?_⟩
     obtain ⟨_, _, _, _, _, _⟩ := ORow.blk h63
     have hT60 := hN60 _ m64
     refine wnil ?_
     refine bodyPost_end (v := .tuple #[]) (res0 rfl ) (by kernel_rfl) ?_
     obtain ⟨D, hD, hM⟩ := hT60
     exact ⟨D, rfl, ORow.to h63 (by rw [hD]), hM, (Mod.chg (mtx M49 c65))⟩
    refine wp_cond_true (ebk v17) (wp_skip (then_n (wp_block (wp_seq (rg_lit (wmv (v := I_ sa) (wmv (v := I_ ra) (wlv (v := N_ (sa + ra)) (adN sa ra) (wlv (v := .int .u64 ((sa + ra : Nat) : Int)) (r_toUn (m := (sa + ra)) (by kernel_rfl) (by omega)) (wlv (v := .int .u64 (((sa + ra) / 2 : Nat) : Int)) (r_halfn (m := (sa + ra)) (by kernel_rfl) (by kernel_rfl)) (wlv (v := N_ ((sa + ra) / 2)) (r_toIn (m := ((sa + ra) / 2)) (by kernel_rfl) (by omega)) (was (v := N_ ((sa + ra) / 2)) ?_))))))))))))
    refine wnil (then_n (wp_seq ?_))
    refine rg_tail 11 (by kernel_rfl) (by kernel_rfl) rfl rfl ?_
    refine qmv (v := .func (.func 115) #[] #[]) (qmv (v := sl g 0 nn c) (qmv (v := N_ ((ia + ib) / 2 + m - 1)) (qmv (v := N_ ((sa + ra) / 2)) (qv rfl (v := N_ ((ia + ib) / 2 + m - 1 - ((sa + ra) / 2))) (fun _ _ => sbN (((ia + ib) / 2 + m - 1 : Nat) : Int) (((sa + ra) / 2 : Nat) : Int)) (qv rfl (v := pt g (((ia + ib) / 2 + m - 1 - ((sa + ra) / 2)) * 10)) (fun _ _ => ixa (A := some ⟨g, 0, none⟩) nn c 10 (((ia + ib) / 2 + m - 1 - ((sa + ra) / 2) : Nat) : Int) rfl Ty.un22 Ty.sz49) ?_)))))
    have h21 := (ORow.up h (Mod.up hM1))
    obtain ⟨x22, hx22⟩ : ∃ x, (pre ++ (A ++ (Bb ++ post)))[(ia + ib) / 2 + m - 1 - ((sa + ra) / 2)]? = some x := ⟨_, List.getElem?_eq_getElem (by omega)⟩
    obtain ⟨_, dA23, dn23, dc23, hb23, he23, _⟩ := ORow.elem h21 (map_get' hx22)
    refine qv rfl (v := opV (f x22) (.slice dA23 dn23 dc23)) (fun _ uz => r_loads (k := ((ia + ib) / 2 + m - 1 - ((sa + ra) / 2)) * 10) (vs := (opC (f x22) (.slice dA23 dn23 dc23))) (by kernel_rfl) Ty.ag49 Ty.sz49 (up_ob uz hb23) (el_sub0 he23 rfl)) (qmv (v := sl g 0 nn c) (qmv (v := N_ ((sa + ra) / 2)) (qv rfl (v := pt g (((sa + ra) / 2) * 10)) (fun _ _ => ixa (A := some ⟨g, 0, none⟩) nn c 10 (((sa + ra) / 2 : Nat) : Int) rfl Ty.un22 Ty.sz49) ?_)))
    obtain ⟨x24, hx24⟩ : ∃ x, (pre ++ (A ++ (Bb ++ post)))[(sa + ra) / 2]? = some x := ⟨_, List.getElem?_eq_getElem (by omega)⟩
    obtain ⟨_, dA25, dn25, dc25, hb25, he25, _⟩ := ORow.elem h21 (map_get' hx24)
    refine qv rfl (v := opV (f x24) (.slice dA25 dn25 dc25)) (fun _ uz => r_loads (k := ((sa + ra) / 2) * 10) (vs := (opC (f x24) (.slice dA25 dn25 dc25))) (by kernel_rfl) Ty.ag49 Ty.sz49 (up_ob uz hb25) (el_sub0 he25 rfl)) ?_
    refine qnil fun w26 u27 => ?_
    refine wl (sca [opV (f x22) (.slice dA23 dn23 dc23), opV (f x24) (.slice dA25 dn25 dc25)] En.f115 (opcompare_at (f x22) (f x24) dA23 dA25 dn23 dc23 dn25 dc25) ?_)
    rintro e _ ⟨rfl, u31⟩
    refine ⟨_, rfl, ?_⟩
    have M33 := mtu (mtu hM1 u27) u31
    refine wl (sb rfl (ltI (cmpS (f x22).at_ (f x24).at_) 0) fun b34 k35 => wlv (v := B_ (!b34)) (r_not (b := b34) (by kernel_rfl)) (wnil (then_n ?_)))
    refine bcd k35 (fun v36 p37 => ?_) (fun v36 p37 => ?_)
    ·
     refine wp_cond_true (ebk (bneg v36)) (rg_lit (wmv (v := N_ ((sa + ra) / 2)) (wlv (v := N_ ((sa + ra) / 2 + 1)) (adN (((sa + ra) / 2 : Nat) : Int) 1) (was (v := N_ ((sa + ra) / 2 + 1)) (wnil (inb_n (then_n ?_)))))))
     refine ⟨ra - ((sa + ra) / 2 + 1), ?_, ((sa + ra) / 2 + 1), ra, rfl, hmk, M33, (SymS.yes hF1_0 (by omega) (by omega) hx24 hx22 (cmpS_no p37))⟩
     · omega
    refine wp_cond_false (ebk (bneg v36)) (rg_lit (wmv (v := N_ ((sa + ra) / 2)) (was (v := N_ ((sa + ra) / 2)) (wnil (inb_n (then_n ?_))))))
    refine ⟨((sa + ra) / 2) - sa, ?_, sa, ((sa + ra) / 2), rfl, hmk, M33, (SymS.no hF1_0 (by omega) (by omega) hx24 hx22 (cmpS_yes p37))⟩
    · omega
   refine wp_cond_true (ebk v7) (wp_seq (rg_lit (wmv (v := I_ ia) (was (v := I_ ia) (wnil (then_n (wp_seq (rg_lit (wmv (v := I_ m) (was (v := I_ m) (wnil (then_n (wp_seq (wp_block ?_))))))))))))))
   obtain ⟨y0, hB1⟩ : ∃ x, Bb = [x] := List.length_eq_one_iff.1 (by omega)
   have hy0 : (pre ++ (A ++ (Bb ++ post)))[m]? = some y0 := by rw [hB1, ← List.append_assoc, List.getElem?_append_right (by simp; omega)]; simp [show m - (pre.length + A.length) = 0 by omega]
   refine lp (fun n a r2 => ∃ (il : Nat) (jl : Nat), (n = jl - il) ∧ (HasFr a 220 [(0, sl g 0 nn c), (1, I_ ia), (2, I_ m), (3, I_ ib), (4, .func (.func 115) #[] #[]), (14, I_ il), (15, I_ jl)] []) ∧ (Mod [] w r2) ∧ (F2 f (pre ++ (A ++ (Bb ++ post))) y0 ia m il jl)) ⟨_, ia, m, rfl, hmk, Mod.refl _ _, (F2.first _ _ _ _ _ (by omega))⟩ ?_
   rintro _ _ r2 ⟨il, jl, rfl, h9, hM2, hF2_0⟩
   obtain ⟨_, rfl⟩ := h9
   have M10 := Mod.thin (Mod.refl [] w) hM2 (by simp)
   have hz1 := hF2_0.1
   have hz2 := hF2_0.2.1
   have hz3 := hF2_0.2.2.1
   refine wp_seq (wp_seq (rg_lit (wmv (v := I_ il) (wmv (v := I_ jl) (wl (sb rfl (ltI il jl) fun _ k12 => wnil (then_n ?_)))))))
   refine bcd k12 (fun v13 p14 => ?_) (fun v13 p14 => ?_)
   ·
    refine wp_cond_false (ebk v13) (wp_exit (then_x (by nofun) (then_x (by nofun) (inb_hit (then_n (wp_seq (wp_seq (rg_lit (wmv (v := I_ m) (was (v := I_ m) (wnil (then_n (wp_block ?_)))))))))))))
    have hq1 : F2 f (pre ++ (A ++ (y0 :: post))) y0 ia m il il := by have h0 := hF2_0; rw [show jl = il by omega, hB1] at h0; exact h0
    obtain ⟨Aa, Ab, hAA, hAl, hMg⟩ := F2.fin hq1 ha (by omega) hAs (by rw [← hB1]; exact hAB)
    have hIe : (pre ++ (A ++ (Bb ++ post))) = (pre ++ Aa) ++ (Ab ++ (y0 :: post)) := by rw [hB1, hAA]; simp
    have hA2 : Aa.length + Ab.length = A.length := by rw [hAA]; simp
    have hpl : (pre ++ Aa).length = il := by simp; omega
    refine lp (fun n a r3 => ∃ (I3 : List Nat) (kl : Nat), (n = kl + 1) ∧ (HasFr a 220 [(0, sl g 0 nn c), (1, I_ ia), (2, I_ m), (3, I_ ib), (4, .func (.func 115) #[] #[]), (14, I_ il), (15, I_ jl), (17, I_ kl)] []) ∧ (Mod [g] r2 r3) ∧ (Mv (pre ++ Aa) Ab post y0 I3 kl) ∧ (ORow 49 B base r3 (sl g 0 nn c) (I3.map f))) ⟨_, (pre ++ (A ++ (Bb ++ post))), m, rfl, hmk, Mod.refl _ _, (by rw [hIe]; exact Mv.right _ _ _ _ _ (by omega)), (ORow.up h (Mod.up hM2))⟩ ?_
    rintro _ _ r3 ⟨I3, kl, rfl, h17, hM3, hF3_0, hF3_1⟩
    obtain ⟨_, rfl⟩ := h17
    have M18 := Mod.trans (Mod.of_mod (Y := [g]) M10 (by simp)) (Mod.of_mod (Y := [g]) hM3 (by simp))
    have M19 := Mod.trans (Mod.of_mod (Y := [g]) hM2 (by simp)) (Mod.of_mod (Y := [g]) hM3 (by simp))
    obtain ⟨hlM, hlm, hln⟩ := Mv.len hF3_0
    obtain ⟨_, _, _, _, _, _⟩ := ORow.blk hF3_1
    refine wp_seq (wp_seq (rg_lit (wmv (v := I_ kl) (wmv (v := I_ il) (wl (sb rfl (r_gt (k := .i64) (m := (kl : Int)) (n := (il : Int)) (by kernel_rfl) (by kernel_rfl)) fun _ k22 => wnil (then_n ?_)))))))
    refine bcd k22 (fun v23 p24 => ?_) (fun v23 p24 => ?_)
    ·
     refine wp_cond_false (ebk v23) (wp_exit (then_x (by nofun) (then_x (by nofun) (inb_hit (then_n (wp_ret (then_x (by nofun) ?_)))))))
     refine bodyPost_ret (v := .tuple #[]) (res0 rfl ) (by kernel_rfl) ?_
     exact ⟨Aa ++ y0 :: Ab, rfl, ORow.to hF3_1 (by rw [Mv.atLeft hF3_0 (by omega)]; simp), by rw [hB1]; exact hMg, (Mod.chg M18)⟩
    refine wp_cond_true (ebk v23) (wp_skip (then_n (wp_seq (wp_block ?_))))
    refine rg_held [g] (n := 18) (by kernel_rfl) rfl ?_
    intro w25 u26
    have M29 := mtu hM3 u26
    refine hqm 0 17 rfl (v := sl g 0 nn c) (hqm 1 16 rfl (v := I_ kl) (hqm 2 15 rfl (v := sl g 0 nn c) (hqm 3 14 rfl (v := I_ kl) (hqk 4 13 rfl rfl (v := N_ (kl - 1)) (fun _ _ => sbN kl 1) (hqm 5 12 rfl (v := sl g 0 nn c) (hqm 6 11 rfl (v := I_ kl) (hqk 7 10 rfl rfl (v := N_ (kl - 1)) (fun _ _ => sbN kl 1) (hqk 8 9 rfl rfl (v := pt g ((kl - 1) * 10)) (fun _ _ => ixa (A := some ⟨g, 0, none⟩) nn c 10 ((kl - 1 : Nat) : Int) rfl Ty.un22 Ty.sz49) ?_))))))))
    refine hqm 10 8 rfl (v := sl g 0 nn c) (hqm 11 7 rfl (v := I_ kl) (hqk 12 6 rfl rfl (v := pt g (kl * 10)) (fun _ _ => ixa (A := some ⟨g, 0, none⟩) nn c 10 kl rfl Ty.un22 Ty.sz49) ?_))
    refine h2a 9 13 5 rfl rfl ?_ ?_
    ·
     have h30 := (ORow.up hF3_1 u26)
     obtain ⟨x31, hx31⟩ : ∃ x, I3[kl - 1]? = some x := ⟨_, List.getElem?_eq_getElem (by omega)⟩
     obtain ⟨cu32, dA32, dn32, dc32, hb32, he32, hD32⟩ := ORow.elem h30 (map_get' hx31)
     refine sv rfl (v := opV (f x31) (.slice dA32 dn32 dc32)) (r_loads (k := (kl - 1) * 10) (vs := (opC (f x31) (.slice dA32 dn32 dc32))) (by kernel_rfl) Ty.ag49 Ty.sz49 hb32 (el_sub0 he32 rfl)) ?_
     refine hx (Y := [g]) (Mod.refl _ _) (fun y hy => .inl hy) ?_
     obtain ⟨x33, hx33⟩ : ∃ x, I3[kl]? = some x := ⟨_, List.getElem?_eq_getElem (by omega)⟩
     obtain ⟨cu34, dA34, dn34, dc34, hb34, he34, hD34⟩ := ORow.elem h30 (map_get' hx33)
     refine h1a 13 4 rfl (sv rfl (v := opV (f x33) (.slice dA34 dn34 dc34)) (r_loads (k := kl * 10) (vs := (opC (f x33) (.slice dA34 dn34 dc34))) (by kernel_rfl) Ty.ag49 Ty.sz49 hb34 (el_sub0 he34 rfl)) ?_)
     refine hx (Y := [g]) (Mod.refl _ _) (fun y hy => .inl hy) ?_
     refine hqk 14 3 rfl rfl (v := pt g (kl * 10)) (fun _ _ => ixa (A := some ⟨g, 0, none⟩) nn c 10 kl rfl Ty.un22 Ty.sz49) ?_
     obtain ⟨cu35, hb35, hk35, hp35⟩ := ORow.put (i := kl) h30 (by simp; omega) hD32 (by decide) hBb
     refine h1a 15 2 rfl (ss rfl (k := kl * 10) (v := opV (f x31) (.slice dA32 dn32 dc32)) (vs := (opC (f x31) (.slice dA32 dn32 dc32))) (cs' := _) (by kernel_rfl) (by kernel_rfl) rfl Ty.sz49 hb35 rfl hk35 rfl fun w36 h37 c38 => ?_)
     have hr35 := hp35 _ h37 c38
     rw [map_set'] at hr35
     obtain ⟨_, _, _, cg42, hg42, _⟩ := ORow.blk hr35
     refine hxc c38 (hqk 16 1 rfl rfl (v := pt g ((kl - 1) * 10)) (fun _ _ => ixa (A := some ⟨g, 0, none⟩) nn c 10 ((kl - 1 : Nat) : Int) rfl Ty.un22 Ty.sz49) ?_)
     have h44 := (Dat.chg hD34 c38 ⟨hBg, NotU8.of hb35 (by decide)⟩)
     obtain ⟨cu43, hb43, hk43, hp43⟩ := ORow.put (i := kl - 1) hr35 (by simp; omega) h44 (by decide) hBb
     refine h1a 17 0 rfl (ss rfl (k := (kl - 1) * 10) (v := opV (f x33) (.slice dA34 dn34 dc34)) (vs := (opC (f x33) (.slice dA34 dn34 dc34))) (cs' := _) (by kernel_rfl) (by kernel_rfl) rfl Ty.sz49 hb43 rfl hk43 rfl fun w45 h46 c47 => ?_)
     have hr43 := hp43 _ h46 c47
     rw [map_set'] at hr43
     obtain ⟨_, _, _, cg51, hg51, _⟩ := ORow.blk hr43
     refine hxc c47 ?_
     refine hend (by kernel_rfl) ?_
     refine inb_n (then_n (rg_lit (wmv (v := I_ kl) (wlv (v := N_ (kl - 1)) (sbN kl 1) (was (v := N_ (kl - 1)) (wnil (then_n ?_)))))))
     refine ⟨(kl - 1) + 1, ?_, ((I3.set kl x31).set (kl - 1) x33), (kl - 1), rfl, hmk, (mtx (mtx M29 c38) c47), (Mv.down hF3_0 (by omega) hx33 hx31), hr43⟩
     · omega
    ·
     have h30 := (ORow.up hF3_1 u26)
     obtain ⟨x31, hx31⟩ : ∃ x, I3[kl]? = some x := ⟨_, List.getElem?_eq_getElem (by omega)⟩
     obtain ⟨cu32, dA32, dn32, dc32, hb32, he32, hD32⟩ := ORow.elem h30 (map_get' hx31)
     refine sv rfl (v := opV (f x31) (.slice dA32 dn32 dc32)) (r_loads (k := kl * 10) (vs := (opC (f x31) (.slice dA32 dn32 dc32))) (by kernel_rfl) Ty.ag49 Ty.sz49 hb32 (el_sub0 he32 rfl)) ?_
     refine hx (Y := [g]) (Mod.refl _ _) (fun y hy => .inl hy) ?_
     obtain ⟨x33, hx33⟩ : ∃ x, I3[kl - 1]? = some x := ⟨_, List.getElem?_eq_getElem (by omega)⟩
     obtain ⟨cu34, dA34, dn34, dc34, hb34, he34, hD34⟩ := ORow.elem h30 (map_get' hx33)
     refine h1a 9 4 rfl (sv rfl (v := opV (f x33) (.slice dA34 dn34 dc34)) (r_loads (k := (kl - 1) * 10) (vs := (opC (f x33) (.slice dA34 dn34 dc34))) (by kernel_rfl) Ty.ag49 Ty.sz49 hb34 (el_sub0 he34 rfl)) ?_)
     refine hx (Y := [g]) (Mod.refl _ _) (fun y hy => .inl hy) ?_
     refine hqk 14 3 rfl rfl (v := pt g (kl * 10)) (fun _ _ => ixa (A := some ⟨g, 0, none⟩) nn c 10 kl rfl Ty.un22 Ty.sz49) ?_
     obtain ⟨cu35, hb35, hk35, hp35⟩ := ORow.put (i := kl) h30 (by simp; omega) hD34 (by decide) hBb
     refine h1a 15 2 rfl (ss rfl (k := kl * 10) (v := opV (f x33) (.slice dA34 dn34 dc34)) (vs := (opC (f x33) (.slice dA34 dn34 dc34))) (cs' := _) (by kernel_rfl) (by kernel_rfl) rfl Ty.sz49 hb35 rfl hk35 rfl fun w36 h37 c38 => ?_)
     have hr35 := hp35 _ h37 c38
     rw [map_set'] at hr35
     obtain ⟨_, _, _, cg42, hg42, _⟩ := ORow.blk hr35
     refine hxc c38 (hqk 16 1 rfl rfl (v := pt g ((kl - 1) * 10)) (fun _ _ => ixa (A := some ⟨g, 0, none⟩) nn c 10 ((kl - 1 : Nat) : Int) rfl Ty.un22 Ty.sz49) ?_)
     have h44 := (Dat.chg hD32 c38 ⟨hBg, NotU8.of hb35 (by decide)⟩)
     obtain ⟨cu43, hb43, hk43, hp43⟩ := ORow.put (i := kl - 1) hr35 (by simp; omega) h44 (by decide) hBb
     refine h1a 17 0 rfl (ss rfl (k := (kl - 1) * 10) (v := opV (f x31) (.slice dA32 dn32 dc32)) (vs := (opC (f x31) (.slice dA32 dn32 dc32))) (cs' := _) (by kernel_rfl) (by kernel_rfl) rfl Ty.sz49 hb43 rfl hk43 rfl fun w45 h46 c47 => ?_)
     have hr43 := hp43 _ h46 c47
     rw [map_set'] at hr43
     obtain ⟨_, _, _, cg51, hg51, _⟩ := ORow.blk hr43
     refine hxc c47 ?_
     refine hend (by kernel_rfl) ?_
     refine inb_n (then_n (rg_lit (wmv (v := I_ kl) (wlv (v := N_ (kl - 1)) (sbN kl 1) (was (v := N_ (kl - 1)) (wnil (then_n ?_)))))))
     refine ⟨(kl - 1) + 1, ?_, ((I3.set kl x33).set (kl - 1) x31), (kl - 1), rfl, hmk, (mtx (mtx M29 c38) c47), (Mv.down hF3_0 (by omega) hx31 hx33), hr43⟩
     · omega
   refine wp_cond_true (ebk v13) (wp_skip (then_n (wp_block (wp_seq (rg_lit (wmv (v := I_ il) (wmv (v := I_ jl) (wlv (v := N_ (il + jl)) (adN il jl) (wlv (v := .int .u64 ((il + jl : Nat) : Int)) (r_toUn (m := (il + jl)) (by kernel_rfl) (by omega)) (wlv (v := .int .u64 (((il + jl) / 2 : Nat) : Int)) (r_halfn (m := (il + jl)) (by kernel_rfl) (by kernel_rfl)) (wlv (v := N_ ((il + jl) / 2)) (r_toIn (m := ((il + jl) / 2)) (by kernel_rfl) (by omega)) (was (v := N_ ((il + jl) / 2)) ?_))))))))))))
   refine wnil (then_n (wp_seq ?_))
   refine rg_tail 9 (by kernel_rfl) (by kernel_rfl) rfl rfl ?_
   refine qmv (v := .func (.func 115) #[] #[]) (qmv (v := sl g 0 nn c) (qmv (v := I_ m) (qv rfl (v := pt g (m * 10)) (fun _ _ => ixa (A := some ⟨g, 0, none⟩) nn c 10 m rfl Ty.un22 Ty.sz49) ?_)))
   have h17 := (ORow.up h (Mod.up hM2))
   obtain ⟨x18, hx18⟩ : ∃ x, (pre ++ (A ++ (Bb ++ post)))[m]? = some x := ⟨_, List.getElem?_eq_getElem (by omega)⟩
   obtain ⟨_, dA19, dn19, dc19, hb19, he19, _⟩ := ORow.elem h17 (map_get' hx18)
   refine qv rfl (v := opV (f x18) (.slice dA19 dn19 dc19)) (fun _ uz => r_loads (k := m * 10) (vs := (opC (f x18) (.slice dA19 dn19 dc19))) (by kernel_rfl) Ty.ag49 Ty.sz49 (up_ob uz hb19) (el_sub0 he19 rfl)) (qmv (v := sl g 0 nn c) (qmv (v := N_ ((il + jl) / 2)) (qv rfl (v := pt g (((il + jl) / 2) * 10)) (fun _ _ => ixa (A := some ⟨g, 0, none⟩) nn c 10 (((il + jl) / 2 : Nat) : Int) rfl Ty.un22 Ty.sz49) ?_)))
   obtain ⟨x20, hx20⟩ : ∃ x, (pre ++ (A ++ (Bb ++ post)))[(il + jl) / 2]? = some x := ⟨_, List.getElem?_eq_getElem (by omega)⟩
   obtain ⟨_, dA21, dn21, dc21, hb21, he21, _⟩ := ORow.elem h17 (map_get' hx20)
   refine qv rfl (v := opV (f x20) (.slice dA21 dn21 dc21)) (fun _ uz => r_loads (k := ((il + jl) / 2) * 10) (vs := (opC (f x20) (.slice dA21 dn21 dc21))) (by kernel_rfl) Ty.ag49 Ty.sz49 (up_ob uz hb21) (el_sub0 he21 rfl)) ?_
   refine qnil fun w22 u23 => ?_
   refine wl (sca [opV (f x18) (.slice dA19 dn19 dc19), opV (f x20) (.slice dA21 dn21 dc21)] En.f115 (opcompare_at (f x18) (f x20) dA19 dA21 dn19 dc19 dn21 dc21) ?_)
   rintro e w26 ⟨rfl, u27⟩
   refine ⟨_, rfl, ?_⟩
   have M29 := mtu (mtu hM2 u23) u27
   refine wl (sb rfl (ltI (cmpS (f x18).at_ (f x20).at_) 0) fun b30 k31 => wlv (v := B_ (!b30)) (r_not (b := b30) (by kernel_rfl)) (wnil (then_n ?_)))
   refine bcd k31 (fun v32 p33 => ?_) (fun v32 p33 => ?_)
   ·
    refine wp_cond_true (ebk (bneg v32)) (rg_lit (wmv (v := N_ ((il + jl) / 2)) (wlv (v := N_ ((il + jl) / 2 + 1)) (adN (((il + jl) / 2 : Nat) : Int) 1) (was (v := N_ ((il + jl) / 2 + 1)) (wnil (inb_n (then_n ?_)))))))
    refine ⟨jl - ((il + jl) / 2 + 1), ?_, ((il + jl) / 2 + 1), jl, rfl, hmk, M29, (F2.yes hF2_0 (by omega) (by omega) hx20 (by rw [same_el hy0 hx18]; exact cmpS_no p33))⟩
    · omega
   refine wp_cond_false (ebk (bneg v32)) (rg_lit (wmv (v := N_ ((il + jl) / 2)) (was (v := N_ ((il + jl) / 2)) (wnil (inb_n (then_n ?_))))))
   refine ⟨((il + jl) / 2) - il, ?_, il, ((il + jl) / 2), rfl, hmk, M29, (F2.no hF2_0 (by omega) (by omega) hx20 (by rw [same_el hy0 hx18]; exact cmpS_yes p33))⟩
   · omega
  refine wp_cond_true (ebk v3) (wp_seq (rg_lit (wmv (v := I_ m) (was (v := I_ m) (wnil (then_n (wp_seq (rg_lit (wmv (v := I_ ib) (was (v := I_ ib) (wnil (then_n (wp_seq (wp_block ?_))))))))))))))
  obtain ⟨x0, hA1⟩ : ∃ x, A = [x] := List.length_eq_one_iff.1 (by omega)
  have hx0 : (pre ++ (A ++ (Bb ++ post)))[ia]? = some x0 := by rw [hA1, ← ha]; simp
  refine lp (fun n a r4 => ∃ (ii : Nat) (jj : Nat), (n = jj - ii) ∧ (HasFr a 220 [(0, sl g 0 nn c), (1, I_ ia), (2, I_ m), (3, I_ ib), (4, .func (.func 115) #[] #[]), (10, I_ ii), (11, I_ jj)] []) ∧ (Mod [] w r4) ∧ (F1 f (pre ++ (A ++ (Bb ++ post))) x0 m ib ii jj)) ⟨_, m, ib, rfl, hmk, Mod.refl _ _, (F1.first _ _ _ _ _ (by omega))⟩ ?_
  rintro _ _ r4 ⟨ii, jj, rfl, h5, hM4, hF4_0⟩
  obtain ⟨_, rfl⟩ := h5
  have M6 := Mod.thin (Mod.refl [] w) hM4 (by simp)
  have hz1 := hF4_0.1
  have hz2 := hF4_0.2.1
  have hz3 := hF4_0.2.2.1
  refine wp_seq (wp_seq (rg_lit (wmv (v := I_ ii) (wmv (v := I_ jj) (wl (sb rfl (ltI ii jj) fun _ k8 => wnil (then_n ?_)))))))
  refine bcd k8 (fun v9 p10 => ?_) (fun v9 p10 => ?_)
  ·
   refine wp_cond_false (ebk v9) (wp_exit (then_x (by nofun) (then_x (by nofun) (inb_hit (then_n (wp_seq (wp_seq (rg_lit (wmv (v := I_ ia) (was (v := I_ ia) (wnil (then_n (wp_block ?_)))))))))))))
   have hq1 : F1 f (pre ++ (x0 :: (Bb ++ post))) x0 m ib ii ii := by have h0 := hF4_0; rw [show jj = ii by omega, hA1] at h0; exact h0
   obtain ⟨Ba, Bc, hBB, hBl, hMg⟩ := F1.fin hq1 (by omega) (by omega) hBs (by rw [← hA1]; exact hAB)
   have hIe : (pre ++ (A ++ (Bb ++ post))) = pre ++ (x0 :: (Ba ++ (Bc ++ post))) := by rw [hA1, hBB]; simp
   refine lp (fun n a r5 => ∃ (I2 : List Nat) (kk : Nat), (n = ib - kk) ∧ (HasFr a 220 [(0, sl g 0 nn c), (1, I_ ia), (2, I_ m), (3, I_ ib), (4, .func (.func 115) #[] #[]), (10, I_ ii), (11, I_ jj), (13, I_ kk)] []) ∧ (Mod [g] r4 r5) ∧ (Mv pre Ba (Bc ++ post) x0 I2 kk) ∧ (ORow 49 B base r5 (sl g 0 nn c) (I2.map f))) ⟨_, (pre ++ (A ++ (Bb ++ post))), ia, rfl, hmk, Mod.refl _ _, (by rw [hIe, ← ha]; exact Mv.left _ _ _ _), (ORow.up h (Mod.up hM4))⟩ ?_
   rintro _ _ r5 ⟨I2, kk, rfl, h13, hM5, hF5_0, hF5_1⟩
   obtain ⟨_, rfl⟩ := h13
   have M14 := Mod.trans (Mod.of_mod (Y := [g]) M6 (by simp)) (Mod.of_mod (Y := [g]) hM5 (by simp))
   have M15 := Mod.trans (Mod.of_mod (Y := [g]) hM4 (by simp)) (Mod.of_mod (Y := [g]) hM5 (by simp))
   obtain ⟨hlM, hlm, hln⟩ := Mv.len hF5_0
   have hB2 : Ba.length + Bc.length = Bb.length := by rw [hBB]; simp
   simp only [List.length_append] at hlM
   obtain ⟨_, _, _, _, _, _⟩ := ORow.blk hF5_1
   refine wp_seq (wp_seq (rg_lit (wmv (v := I_ kk) (wmv (v := I_ ii) (wlv (v := N_ (ii - 1)) (sbN ii 1) (wl (sb rfl (ltI kk ((ii - 1 : Nat) : Int)) fun _ k18 => wnil (then_n ?_))))))))
   refine bcd k18 (fun v19 p20 => ?_) (fun v19 p20 => ?_)
   ·
    refine wp_cond_false (ebk v19) (wp_exit (then_x (by nofun) (then_x (by nofun) (inb_hit (then_n (wp_ret (then_x (by nofun) ?_)))))))
    refine bodyPost_ret (v := .tuple #[]) (res0 rfl ) (by kernel_rfl) ?_
    exact ⟨Ba ++ x0 :: Bc, rfl, ORow.to hF5_1 (by rw [Mv.atRight hF5_0 (by omega)]; simp), by rw [hA1]; exact hMg, (Mod.chg M14)⟩
   refine wp_cond_true (ebk v19) (wp_skip (then_n (wp_seq (wp_block ?_))))
   refine rg_held [g] (n := 18) (by kernel_rfl) rfl ?_
   intro w21 u22
   have M25 := mtu hM5 u22
   refine hqm 0 17 rfl (v := sl g 0 nn c) (hqm 1 16 rfl (v := I_ kk) (hqm 2 15 rfl (v := sl g 0 nn c) (hqm 3 14 rfl (v := I_ kk) (hqk 4 13 rfl rfl (v := N_ (kk + 1)) (fun _ _ => adN kk 1) (hqm 5 12 rfl (v := sl g 0 nn c) (hqm 6 11 rfl (v := I_ kk) (hqk 7 10 rfl rfl (v := N_ (kk + 1)) (fun _ _ => adN kk 1) (hqk 8 9 rfl rfl (v := pt g ((kk + 1) * 10)) (fun _ _ => ixa (A := some ⟨g, 0, none⟩) nn c 10 ((kk + 1 : Nat) : Int) rfl Ty.un22 Ty.sz49) ?_))))))))
   refine hqm 10 8 rfl (v := sl g 0 nn c) (hqm 11 7 rfl (v := I_ kk) (hqk 12 6 rfl rfl (v := pt g (kk * 10)) (fun _ _ => ixa (A := some ⟨g, 0, none⟩) nn c 10 kk rfl Ty.un22 Ty.sz49) ?_))
   refine h2a 9 13 5 rfl rfl ?_ ?_
   ·
    have h26 := (ORow.up hF5_1 u22)
    obtain ⟨x27, hx27⟩ : ∃ x, I2[kk + 1]? = some x := ⟨_, List.getElem?_eq_getElem (by omega)⟩
    obtain ⟨cu28, dA28, dn28, dc28, hb28, he28, hD28⟩ := ORow.elem h26 (map_get' hx27)
    refine sv rfl (v := opV (f x27) (.slice dA28 dn28 dc28)) (r_loads (k := (kk + 1) * 10) (vs := (opC (f x27) (.slice dA28 dn28 dc28))) (by kernel_rfl) Ty.ag49 Ty.sz49 hb28 (el_sub0 he28 rfl)) ?_
    refine hx (Y := [g]) (Mod.refl _ _) (fun y hy => .inl hy) ?_
    obtain ⟨x29, hx29⟩ : ∃ x, I2[kk]? = some x := ⟨_, List.getElem?_eq_getElem (by omega)⟩
    obtain ⟨cu30, dA30, dn30, dc30, hb30, he30, hD30⟩ := ORow.elem h26 (map_get' hx29)
    refine h1a 13 4 rfl (sv rfl (v := opV (f x29) (.slice dA30 dn30 dc30)) (r_loads (k := kk * 10) (vs := (opC (f x29) (.slice dA30 dn30 dc30))) (by kernel_rfl) Ty.ag49 Ty.sz49 hb30 (el_sub0 he30 rfl)) ?_)
    refine hx (Y := [g]) (Mod.refl _ _) (fun y hy => .inl hy) ?_
    refine hqk 14 3 rfl rfl (v := pt g (kk * 10)) (fun _ _ => ixa (A := some ⟨g, 0, none⟩) nn c 10 kk rfl Ty.un22 Ty.sz49) ?_
    obtain ⟨cu31, hb31, hk31, hp31⟩ := ORow.put (i := kk) h26 (by simp; omega) hD28 (by decide) hBb
    refine h1a 15 2 rfl (ss rfl (k := kk * 10) (v := opV (f x27) (.slice dA28 dn28 dc28)) (vs := (opC (f x27) (.slice dA28 dn28 dc28))) (cs' := _) (by kernel_rfl) (by kernel_rfl) rfl Ty.sz49 hb31 rfl hk31 rfl fun w32 h33 c34 => ?_)
    have hr31 := hp31 _ h33 c34
    rw [map_set'] at hr31
    obtain ⟨_, _, _, cg38, hg38, _⟩ := ORow.blk hr31
    refine hxc c34 (hqk 16 1 rfl rfl (v := pt g ((kk + 1) * 10)) (fun _ _ => ixa (A := some ⟨g, 0, none⟩) nn c 10 ((kk + 1 : Nat) : Int) rfl Ty.un22 Ty.sz49) ?_)
    have h40 := (Dat.chg hD30 c34 ⟨hBg, NotU8.of hb31 (by decide)⟩)
    obtain ⟨cu39, hb39, hk39, hp39⟩ := ORow.put (i := kk + 1) hr31 (by simp; omega) h40 (by decide) hBb
    refine h1a 17 0 rfl (ss rfl (k := (kk + 1) * 10) (v := opV (f x29) (.slice dA30 dn30 dc30)) (vs := (opC (f x29) (.slice dA30 dn30 dc30))) (cs' := _) (by kernel_rfl) (by kernel_rfl) rfl Ty.sz49 hb39 rfl hk39 rfl fun w41 h42 c43 => ?_)
    have hr39 := hp39 _ h42 c43
    rw [map_set'] at hr39
    obtain ⟨_, _, _, cg47, hg47, _⟩ := ORow.blk hr39
    refine hxc c43 ?_
    refine hend (by kernel_rfl) ?_
    refine inb_n (then_n (rg_lit (wmv (v := I_ kk) (wlv (v := N_ (kk + 1)) (adN kk 1) (was (v := N_ (kk + 1)) (wnil (then_n ?_)))))))
    refine ⟨ib - (kk + 1), ?_, ((I2.set kk x27).set (kk + 1) x29), (kk + 1), rfl, hmk, (mtx (mtx M25 c34) c43), (Mv.up hF5_0 (by omega) hx29 hx27), hr39⟩
    · omega
   ·
    have h26 := (ORow.up hF5_1 u22)
    obtain ⟨x27, hx27⟩ : ∃ x, I2[kk]? = some x := ⟨_, List.getElem?_eq_getElem (by omega)⟩
    obtain ⟨cu28, dA28, dn28, dc28, hb28, he28, hD28⟩ := ORow.elem h26 (map_get' hx27)
    refine sv rfl (v := opV (f x27) (.slice dA28 dn28 dc28)) (r_loads (k := kk * 10) (vs := (opC (f x27) (.slice dA28 dn28 dc28))) (by kernel_rfl) Ty.ag49 Ty.sz49 hb28 (el_sub0 he28 rfl)) ?_
    refine hx (Y := [g]) (Mod.refl _ _) (fun y hy => .inl hy) ?_
    obtain ⟨x29, hx29⟩ : ∃ x, I2[kk + 1]? = some x := ⟨_, List.getElem?_eq_getElem (by omega)⟩
    obtain ⟨cu30, dA30, dn30, dc30, hb30, he30, hD30⟩ := ORow.elem h26 (map_get' hx29)
    refine h1a 9 4 rfl (sv rfl (v := opV (f x29) (.slice dA30 dn30 dc30)) (r_loads (k := (kk + 1) * 10) (vs := (opC (f x29) (.slice dA30 dn30 dc30))) (by kernel_rfl) Ty.ag49 Ty.sz49 hb30 (el_sub0 he30 rfl)) ?_)
    refine hx (Y := [g]) (Mod.refl _ _) (fun y hy => .inl hy) ?_
    refine hqk 14 3 rfl rfl (v := pt g (kk * 10)) (fun _ _ => ixa (A := some ⟨g, 0, none⟩) nn c 10 kk rfl Ty.un22 Ty.sz49) ?_
    obtain ⟨cu31, hb31, hk31, hp31⟩ := ORow.put (i := kk) h26 (by simp; omega) hD30 (by decide) hBb
    refine h1a 15 2 rfl (ss rfl (k := kk * 10) (v := opV (f x29) (.slice dA30 dn30 dc30)) (vs := (opC (f x29) (.slice dA30 dn30 dc30))) (cs' := _) (by kernel_rfl) (by kernel_rfl) rfl Ty.sz49 hb31 rfl hk31 rfl fun w32 h33 c34 => ?_)
    have hr31 := hp31 _ h33 c34
    rw [map_set'] at hr31
    obtain ⟨_, _, _, cg38, hg38, _⟩ := ORow.blk hr31
    refine hxc c34 (hqk 16 1 rfl rfl (v := pt g ((kk + 1) * 10)) (fun _ _ => ixa (A := some ⟨g, 0, none⟩) nn c 10 ((kk + 1 : Nat) : Int) rfl Ty.un22 Ty.sz49) ?_)
    have h40 := (Dat.chg hD28 c34 ⟨hBg, NotU8.of hb31 (by decide)⟩)
    obtain ⟨cu39, hb39, hk39, hp39⟩ := ORow.put (i := kk + 1) hr31 (by simp; omega) h40 (by decide) hBb
    refine h1a 17 0 rfl (ss rfl (k := (kk + 1) * 10) (v := opV (f x27) (.slice dA28 dn28 dc28)) (vs := (opC (f x27) (.slice dA28 dn28 dc28))) (cs' := _) (by kernel_rfl) (by kernel_rfl) rfl Ty.sz49 hb39 rfl hk39 rfl fun w41 h42 c43 => ?_)
    have hr39 := hp39 _ h42 c43
    rw [map_set'] at hr39
    obtain ⟨_, _, _, cg47, hg47, _⟩ := ORow.blk hr39
    refine hxc c43 ?_
    refine hend (by kernel_rfl) ?_
    refine inb_n (then_n (rg_lit (wmv (v := I_ kk) (wlv (v := N_ (kk + 1)) (adN kk 1) (was (v := N_ (kk + 1)) (wnil (then_n ?_)))))))
    refine ⟨ib - (kk + 1), ?_, ((I2.set kk x29).set (kk + 1) x27), (kk + 1), rfl, hmk, (mtx (mtx M25 c34) c43), (Mv.up hF5_0 (by omega) hx27 hx29), hr39⟩
    · omega
  refine wp_cond_true (ebk v9) (wp_skip (then_n (wp_block (wp_seq (rg_lit (wmv (v := I_ ii) (wmv (v := I_ jj) (wlv (v := N_ (ii + jj)) (adN ii jj) (wlv (v := .int .u64 ((ii + jj : Nat) : Int)) (r_toUn (m := (ii + jj)) (by kernel_rfl) (by omega)) (wlv (v := .int .u64 (((ii + jj) / 2 : Nat) : Int)) (r_halfn (m := (ii + jj)) (by kernel_rfl) (by kernel_rfl)) (wlv (v := N_ ((ii + jj) / 2)) (r_toIn (m := ((ii + jj) / 2)) (by kernel_rfl) (by omega)) (was (v := N_ ((ii + jj) / 2)) ?_))))))))))))
  refine wnil (then_n (wp_seq ?_))
  refine rg_tail 9 (by kernel_rfl) (by kernel_rfl) rfl rfl ?_
  refine qmv (v := .func (.func 115) #[] #[]) (qmv (v := sl g 0 nn c) (qmv (v := N_ ((ii + jj) / 2)) (qv rfl (v := pt g (((ii + jj) / 2) * 10)) (fun _ _ => ixa (A := some ⟨g, 0, none⟩) nn c 10 (((ii + jj) / 2 : Nat) : Int) rfl Ty.un22 Ty.sz49) ?_)))
  have h13 := (ORow.up h (Mod.up hM4))
  obtain ⟨x14, hx14⟩ : ∃ x, (pre ++ (A ++ (Bb ++ post)))[(ii + jj) / 2]? = some x := ⟨_, List.getElem?_eq_getElem (by omega)⟩
  obtain ⟨_, dA15, dn15, dc15, hb15, he15, _⟩ := ORow.elem h13 (map_get' hx14)
  refine qv rfl (v := opV (f x14) (.slice dA15 dn15 dc15)) (fun _ uz => r_loads (k := ((ii + jj) / 2) * 10) (vs := (opC (f x14) (.slice dA15 dn15 dc15))) (by kernel_rfl) Ty.ag49 Ty.sz49 (up_ob uz hb15) (el_sub0 he15 rfl)) (qmv (v := sl g 0 nn c) (qmv (v := I_ ia) (qv rfl (v := pt g (ia * 10)) (fun _ _ => ixa (A := some ⟨g, 0, none⟩) nn c 10 ia rfl Ty.un22 Ty.sz49) ?_)))
  obtain ⟨x16, hx16⟩ : ∃ x, (pre ++ (A ++ (Bb ++ post)))[ia]? = some x := ⟨_, List.getElem?_eq_getElem (by omega)⟩
  obtain ⟨_, dA17, dn17, dc17, hb17, he17, _⟩ := ORow.elem h13 (map_get' hx16)
  refine qv rfl (v := opV (f x16) (.slice dA17 dn17 dc17)) (fun _ uz => r_loads (k := ia * 10) (vs := (opC (f x16) (.slice dA17 dn17 dc17))) (by kernel_rfl) Ty.ag49 Ty.sz49 (up_ob uz hb17) (el_sub0 he17 rfl)) ?_
  refine qnil fun _ u19 => ?_
  refine wl (sca [opV (f x14) (.slice dA15 dn15 dc15), opV (f x16) (.slice dA17 dn17 dc17)] En.f115 (opcompare_at (f x14) (f x16) dA15 dA17 dn15 dc15 dn17 dc17) ?_)
  rintro e w22 ⟨rfl, u23⟩
  refine ⟨_, rfl, ?_⟩
  have M25 := mtu (mtu hM4 u19) u23
  refine wl (sb rfl (ltI (cmpS (f x14).at_ (f x16).at_) 0) fun _ k27 => wnil (then_n ?_))
  refine bcd k27 (fun v28 p29 => ?_) (fun v28 p29 => ?_)
  ·
   refine wp_cond_false (ebk v28) (rg_lit (wmv (v := N_ ((ii + jj) / 2)) (was (v := N_ ((ii + jj) / 2)) (wnil (inb_n (then_n ?_))))))
   refine ⟨((ii + jj) / 2) - ii, ?_, ii, ((ii + jj) / 2), rfl, hmk, M25, (F1.no hF4_0 (by omega) (by omega) hx14 (by rw [same_el hx0 hx16]; exact cmpS_no p29))⟩
   · omega
  refine wp_cond_true (ebk v28) (rg_lit (wmv (v := N_ ((ii + jj) / 2)) (wlv (v := N_ ((ii + jj) / 2 + 1)) (adN (((ii + jj) / 2 : Nat) : Int) 1) (was (v := N_ ((ii + jj) / 2 + 1)) (wnil (inb_n (then_n ?_)))))))
  refine ⟨jj - ((ii + jj) / 2 + 1), ?_, ((ii + jj) / 2 + 1), jj, rfl, hmk, M25, (F1.yes hF4_0 (by omega) (by omega) hx14 (by rw [same_el hx0 hx16]; exact cmpS_yes p29))⟩
  · omega
theorem sym_all (N : Nat) : SymOK N := by
  induction N with
  | zero => intro B base w g nn c f pre A Bb post ia m ib hN _ _ _ _ _ _ hA0 _ _ _ _; omega
  | succ N ih => exact sym_step ih
end Go.Proofs.YtefhfoioeoijlaaGreatDoor

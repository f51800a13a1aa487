/- GK -/
import Derived.Test.YtefhfoioeoijlaaGreatDoorWag
import Derived.Test.YtefhfoioeoijlaaGreatDoorWah
set_option linter.unusedVariables false
set_option linter.unusedSimpArgs false
namespace Go.Proofs.YtefhfoioeoijlaaGreatDoor
open Go Go.RowKit Go.Sort
set_option maxHeartbeats 2000000 in
theorem swapRange_at {B base : Nat} {w : World} {g nn c : Nat} {f : Nat → OpD} {pre X mid Y post : List Nat} (h : ORow 49 B base w (.slice (some ⟨g, 0, none⟩) nn c) ((pre ++ (X ++ (mid ++ (Y ++ post)))).map f)) (hBb : B ≤ base) (hn : nn ≤ 1000000) {ia ib q : Nat} (ha : pre.length = ia) (hb : ia + X.length + mid.length = ib) (hq : Y.length = q) (hXY : X.length = Y.length) :
    Calls Tryz.prog 251 #[.slice (some ⟨g, 0, none⟩) nn c, .int .i64 ia, .int .i64 ib, .int .i64 q, .func (.func 115) #[] #[]] w fun e w' => e = .returned (.tuple #[]) ∧ ORow 49 B base w' (.slice (some ⟨g, 0, none⟩) nn c) ((pre ++ (Y ++ (mid ++ (X ++ post)))).map f) ∧ Chg w w' g := by
  obtain ⟨hnL, hnc, hcm, cu0, hg, hcs0⟩ := ORow.blk h
  have hBg := ORow.ge h hBb
  have hn0 : nn = pre.length + (X.length + (mid.length + (Y.length + post.length))) := by simpa using hnL
  go_enter Tryz.func251, Tryz.ntmps251
  refine wp_seq (rg_lit ?_)
  refine was (v := .int .i64 0) ?_
  refine wnil (then_n (wp_block ?_))
  refine lp (fun n a r1 => ∃ (I1 : List Nat) (kk : Nat) (z11 z12 z13 z14 z15 z16 z17 z18 z19 z20 z21 z22 z23 z24 z25 z26 z27 z28 z29 z30 z31 z32 z33 z34 z35 z36 z37 : Value), (n = q - kk) ∧ (a = ⟨#[.slice (some ⟨g, 0, none⟩) nn c, .int .i64 (ia : Int), .int .i64 (ib : Int), .int .i64 (q : Int), .func (.func 115) #[] #[], undef, undef, undef, undef, undef, .int .i64 (kk : Int), z11, z12, z13, z14, z15, z16, z17, z18, z19, z20, z21, z22, z23, z24, z25, z26, z27, z28, z29, z30, z31, z32, z33, z34, z35, z36, z37], []⟩) ∧ (Mod [g] w r1) ∧ (SwI pre X mid Y post I1 kk) ∧ (kk ≤ q) ∧ (ORow 49 B base r1 (.slice (some ⟨g, 0, none⟩) nn c) (I1.map f))) ⟨_, (pre ++ (X ++ (mid ++ (Y ++ post)))), 0, undef, undef, undef, undef, undef, undef, undef, undef, undef, undef, undef, undef, undef, undef, undef, undef, undef, undef, undef, undef, undef, undef, undef, undef, undef, undef, undef, rfl, (by kernel_rfl), Mod.refl _ _, (SwI.first _ _ _ _ _), (Nat.zero_le _), h⟩ ?_
  rintro _ _ r1 ⟨I1, kk, z11, z12, z13, z14, z15, z16, z17, z18, z19, z20, z21, z22, z23, z24, z25, z26, z27, z28, z29, z30, z31, z32, z33, z34, z35, z36, z37, rfl, rfl, hM1, hF1_0, hF1_1, hF1_2⟩
  have M1 := Mod.trans (Mod.of_mod (Y := [g]) (Mod.refl [] w) (by simp)) (Mod.of_mod (Y := [g]) hM1 (by simp))
  have hlI := SwI.len hF1_0
  obtain ⟨_, _, _, cg2, hg2, _⟩ := ORow.blk hF1_2
  refine wp_seq (wp_seq (rg_lit ?_))
  refine wmv (v := .int .i64 (kk : Int)) ?_
  refine wmv (v := .int .i64 (q : Int)) ?_
  refine wl (sb rfl (r_lt (k := .i64) (m := (kk : Int)) (n := (q : Int)) (by kernel_rfl) (by kernel_rfl)) ?_)
  intro b3 k4
  refine wnil (then_n ?_)
  refine bcase b3 (fun v5 => ?_) (fun v5 => ?_)
  ·
   have p6 := of_decide_eq_false (k4.trans v5)
   refine wp_cond_false (ebool (b := b3) (by kernel_rfl) v5) ?_
   refine wp_exit (then_x (by nofun) (then_x (by nofun) (inb_hit ?_)))
   refine bodyPost_end (v := .tuple #[]) (res0 rfl ) (by kernel_rfl) ?_
   exact ⟨rfl, ORow.to hF1_2 (by rw [SwI.fin hF1_0 hXY (by omega)]), (Mod.chg M1)⟩
  have p6 := of_decide_eq_true (k4.trans v5)
  have q7 : kk < q := by omega
  have q8 : kk < q := by omega
  refine wp_cond_true (ebool (b := b3) (by kernel_rfl) v5) ?_
  refine wp_skip (then_n (wp_seq (wp_block ?_)))
  refine rg_held [g] (n := 24) (by kernel_rfl) rfl ?_
  intro w9 u10
  have M11 := Mod.trans M1 (Mod.of_up u10)
  have M12 := Mod.trans hM1 (Mod.of_up u10)
  refine hvq (i := 0) (fuel := 23) rfl (fun _ _ _ h => h) (Mod.refl _ _) rfl (v := .slice (some ⟨g, 0, none⟩) nn c) (fun _ _ => r_move (by kernel_rfl)) ?_
  refine hvq (i := 1) (fuel := 22) rfl (fun _ _ _ h => h) (Mod.refl _ _) rfl (v := .int .i64 (ia : Int)) (fun _ _ => r_move (by kernel_rfl)) ?_
  refine hvq (i := 2) (fuel := 21) rfl (fun _ _ _ h => h) (Mod.refl _ _) rfl (v := .int .i64 (kk : Int)) (fun _ _ => r_move (by kernel_rfl)) ?_
  refine hvq (i := 3) (fuel := 20) rfl (fun _ _ _ h => h) (Mod.refl _ _) rfl (v := .int .i64 ((ia + kk : Nat) : Int)) (fun _ _ => r_add (k := .i64) (m := (ia : Int)) (n := (kk : Int)) (c := ((ia + kk : Nat) : Int)) (by kernel_rfl) (by kernel_rfl) ((IntWalk.i64_in _ (by omega)).trans (by omega))) ?_
  refine hvq (i := 4) (fuel := 19) rfl (fun _ _ _ h => h) (Mod.refl _ _) rfl (v := .slice (some ⟨g, 0, none⟩) nn c) (fun _ _ => r_move (by kernel_rfl)) ?_
  refine hvq (i := 5) (fuel := 18) rfl (fun _ _ _ h => h) (Mod.refl _ _) rfl (v := .int .i64 (ib : Int)) (fun _ _ => r_move (by kernel_rfl)) ?_
  refine hvq (i := 6) (fuel := 17) rfl (fun _ _ _ h => h) (Mod.refl _ _) rfl (v := .int .i64 (kk : Int)) (fun _ _ => r_move (by kernel_rfl)) ?_
  refine hvq (i := 7) (fuel := 16) rfl (fun _ _ _ h => h) (Mod.refl _ _) rfl (v := .int .i64 ((ib + kk : Nat) : Int)) (fun _ _ => r_add (k := .i64) (m := (ib : Int)) (n := (kk : Int)) (c := ((ib + kk : Nat) : Int)) (by kernel_rfl) (by kernel_rfl) ((IntWalk.i64_in _ (by omega)).trans (by omega))) ?_
  refine hvq (i := 8) (fuel := 15) rfl (fun _ _ _ h => h) (Mod.refl _ _) rfl (v := .slice (some ⟨g, 0, none⟩) nn c) (fun _ _ => r_move (by kernel_rfl)) ?_
  refine hvq (i := 9) (fuel := 14) rfl (fun _ _ _ h => h) (Mod.refl _ _) rfl (v := .int .i64 (ib : Int)) (fun _ _ => r_move (by kernel_rfl)) ?_
  refine hvq (i := 10) (fuel := 13) rfl (fun _ _ _ h => h) (Mod.refl _ _) rfl (v := .int .i64 (kk : Int)) (fun _ _ => r_move (by kernel_rfl)) ?_
  refine hvq (i := 11) (fuel := 12) rfl (fun _ _ _ h => h) (Mod.refl _ _) rfl (v := .int .i64 ((ib + kk : Nat) : Int)) (fun _ _ => r_add (k := .i64) (m := (ib : Int)) (n := (kk : Int)) (c := ((ib + kk : Nat) : Int)) (by kernel_rfl) (by kernel_rfl) ((IntWalk.i64_in _ (by omega)).trans (by omega))) ?_
  refine hvq (i := 12) (fuel := 11) rfl (fun _ _ _ h => h) (Mod.refl _ _) rfl (v := .pointer (some ⟨g, (ib + kk) * 10, none⟩)) (fun _ _ => r_ixaddr' (A := some ⟨g, 0, none⟩) (b := g) (o := 0) (n := nn) (c := c) (sz := 10) (j := ((ib + kk : Nat) : Int)) (m := (ib + kk) * 10) (by kernel_rfl) rfl (by kernel_rfl) Ty.un22 Ty.sz49 (by omega) (by omega) (by omega)) ?_
  refine hvq (i := 14) (fuel := 10) rfl (fun _ _ _ h => h) (Mod.refl _ _) rfl (v := .slice (some ⟨g, 0, none⟩) nn c) (fun _ _ => r_move (by kernel_rfl)) ?_
  refine hvq (i := 15) (fuel := 9) rfl (fun _ _ _ h => h) (Mod.refl _ _) rfl (v := .int .i64 (ia : Int)) (fun _ _ => r_move (by kernel_rfl)) ?_
  refine hvq (i := 16) (fuel := 8) rfl (fun _ _ _ h => h) (Mod.refl _ _) rfl (v := .int .i64 (kk : Int)) (fun _ _ => r_move (by kernel_rfl)) ?_
  refine hvq (i := 17) (fuel := 7) rfl (fun _ _ _ h => h) (Mod.refl _ _) rfl (v := .int .i64 ((ia + kk : Nat) : Int)) (fun _ _ => r_add (k := .i64) (m := (ia : Int)) (n := (kk : Int)) (c := ((ia + kk : Nat) : Int)) (by kernel_rfl) (by kernel_rfl) ((IntWalk.i64_in _ (by omega)).trans (by omega))) ?_
  refine hvq (i := 18) (fuel := 6) rfl (fun _ _ _ h => h) (Mod.refl _ _) rfl (v := .pointer (some ⟨g, (ia + kk) * 10, none⟩)) (fun _ _ => r_ixaddr' (A := some ⟨g, 0, none⟩) (b := g) (o := 0) (n := nn) (c := c) (sz := 10) (j := ((ia + kk : Nat) : Int)) (m := (ia + kk) * 10) (by kernel_rfl) rfl (by kernel_rfl) Ty.un22 Ty.sz49 (by omega) (by omega) (by omega)) ?_
  refine h2 (i := 13) (j := 19) (fuel := 5) (by kernel_rfl) rfl rfl ?_ ?_
  ·
   have h13 := (ORow.up hF1_2 u10)
   obtain ⟨x14, hx14⟩ : ∃ x, I1[ib + kk]? = some x := ⟨_, List.getElem?_eq_getElem (by omega)⟩
   obtain ⟨cu15, dA15, dn15, dc15, hb15, he15, hD15⟩ := ORow.elem h13 (map_get' hx14)
   refine sv rfl (v := opV (f x14) (.slice dA15 dn15 dc15)) (r_loads (k := (ib + kk) * 10) (vs := (opC (f x14) (.slice dA15 dn15 dc15))) (by kernel_rfl) Ty.ag49 Ty.sz49 hb15 (el_sub0 he15 rfl)) ?_
   refine hx (Y := [g]) (Mod.refl _ _) (fun y hy => .inl hy) ?_
   obtain ⟨x16, hx16⟩ : ∃ x, I1[ia + kk]? = some x := ⟨_, List.getElem?_eq_getElem (by omega)⟩
   obtain ⟨cu17, dA17, dn17, dc17, hb17, he17, hD17⟩ := ORow.elem h13 (map_get' hx16)
   refine h1 (i := 19) (fuel := 4) (by kernel_rfl) rfl (sv rfl (v := opV (f x16) (.slice dA17 dn17 dc17)) (r_loads (k := (ia + kk) * 10) (vs := (opC (f x16) (.slice dA17 dn17 dc17))) (by kernel_rfl) Ty.ag49 Ty.sz49 hb17 (el_sub0 he17 rfl)) ?_)
   refine hx (Y := [g]) (Mod.refl _ _) (fun y hy => .inl hy) ?_
   refine hvq (i := 20) (fuel := 3) rfl (fun _ _ _ h => h) (Mod.refl _ _) rfl (v := .pointer (some ⟨g, (ia + kk) * 10, none⟩)) (fun _ _ => r_ixaddr' (A := some ⟨g, 0, none⟩) (b := g) (o := 0) (n := nn) (c := c) (sz := 10) (j := ((ia + kk : Nat) : Int)) (m := (ia + kk) * 10) (by kernel_rfl) rfl (by kernel_rfl) Ty.un22 Ty.sz49 (by omega) (by omega) (by omega)) ?_
   obtain ⟨cu18, hb18, hk18, hp18⟩ := ORow.put (i := ia + kk) h13 (by simp; omega) hD15 (by decide) hBb
   refine h1 (i := 21) (fuel := 2) (by kernel_rfl) rfl (ss rfl (k := (ia + kk) * 10) (v := opV (f x14) (.slice dA15 dn15 dc15)) (vs := (opC (f x14) (.slice dA15 dn15 dc15))) (cs' := _) (by kernel_rfl) (by kernel_rfl) rfl Ty.sz49 hb18 rfl hk18 rfl ?_)
   intro w19 h20 c21
   have hr18 := hp18 _ h20 c21
   rw [map_set'] at hr18
   have M22 := Mod.trans M11 (Mod.of_chg c21 (by simp))
   have M23 := Mod.trans M12 (Mod.of_chg c21 (by simp))
   obtain ⟨_, _, _, cg24, hg24, _⟩ := ORow.blk hr18
   refine hx (Y := [g]) (Mod.of_chg c21 (by simp)) (fun y hy => .inl hy) ?_
   refine hvq (i := 22) (fuel := 1) rfl (fun _ _ _ h => h) (Mod.refl _ _) rfl (v := .pointer (some ⟨g, (ib + kk) * 10, none⟩)) (fun _ _ => r_ixaddr' (A := some ⟨g, 0, none⟩) (b := g) (o := 0) (n := nn) (c := c) (sz := 10) (j := ((ib + kk : Nat) : Int)) (m := (ib + kk) * 10) (by kernel_rfl) rfl (by kernel_rfl) Ty.un22 Ty.sz49 (by omega) (by omega) (by omega)) ?_
   have h26 := (Dat.chg hD17 c21 ⟨hBg, NotU8.of hb18 (by decide)⟩)
   obtain ⟨cu25, hb25, hk25, hp25⟩ := ORow.put (i := ib + kk) hr18 (by simp; omega) h26 (by decide) hBb
   refine h1 (i := 23) (fuel := 0) (by kernel_rfl) rfl (ss rfl (k := (ib + kk) * 10) (v := opV (f x16) (.slice dA17 dn17 dc17)) (vs := (opC (f x16) (.slice dA17 dn17 dc17))) (cs' := _) (by kernel_rfl) (by kernel_rfl) rfl Ty.sz49 hb25 rfl hk25 rfl ?_)
   intro w27 h28 c29
   have hr25 := hp25 _ h28 c29
   rw [map_set'] at hr25
   have M30 := Mod.trans M22 (Mod.of_chg c29 (by simp))
   have M31 := Mod.trans M23 (Mod.of_chg c29 (by simp))
   obtain ⟨_, _, _, cg32, hg32, _⟩ := ORow.blk hr25
   refine hx (Y := [g]) (Mod.of_chg c29 (by simp)) (fun y hy => .inl hy) ?_
   refine hend (by kernel_rfl) ?_
   refine inb_n (then_n (rg_lit ?_))
   refine wmv (v := .int .i64 (kk : Int)) ?_
   refine wl (sv rfl (v := .int .i64 ((kk + 1 : Nat) : Int)) (r_add (k := .i64) (m := (kk : Int)) (n := 1) (c := ((kk + 1 : Nat) : Int)) (by kernel_rfl) (by kernel_rfl) ((IntWalk.i64_in _ (by omega)).trans (by omega))) ?_)
   refine was (v := .int .i64 ((kk + 1 : Nat) : Int)) ?_
   refine wnil (then_n ?_)
   refine ⟨q - (kk + 1), ?_, ((I1.set (ia + kk) x14).set (ib + kk) x16), (kk + 1), .int .i64 (kk : Int), .int .i64 (q : Int), .bool b3, .int .i64 (kk : Int), .int .i64 ((kk + 1 : Nat) : Int), .slice (some ⟨g, 0, none⟩) nn c, .int .i64 (ia : Int), .int .i64 (kk : Int), .int .i64 ((ia + kk : Nat) : Int), .slice (some ⟨g, 0, none⟩) nn c, .int .i64 (ib : Int), .int .i64 (kk : Int), .int .i64 ((ib + kk : Nat) : Int), .slice (some ⟨g, 0, none⟩) nn c, .int .i64 (ib : Int), .int .i64 (kk : Int), .int .i64 ((ib + kk : Nat) : Int), .pointer (some ⟨g, (ib + kk) * 10, none⟩), opV (f x14) (.slice dA15 dn15 dc15), .slice (some ⟨g, 0, none⟩) nn c, .int .i64 (ia : Int), .int .i64 (kk : Int), .int .i64 ((ia + kk : Nat) : Int), .pointer (some ⟨g, (ia + kk) * 10, none⟩), opV (f x16) (.slice dA17 dn17 dc17), .pointer (some ⟨g, (ia + kk) * 10, none⟩), .pointer (some ⟨g, (ib + kk) * 10, none⟩), rfl, (by kernel_rfl), M31, (SwI.step hF1_0 hXY (by omega) ha hb hx16 hx14), (by omega), hr25⟩
   · omega
  ·
   have h13 := (ORow.up hF1_2 u10)
   obtain ⟨x14, hx14⟩ : ∃ x, I1[ia + kk]? = some x := ⟨_, List.getElem?_eq_getElem (by omega)⟩
   obtain ⟨cu15, dA15, dn15, dc15, hb15, he15, hD15⟩ := ORow.elem h13 (map_get' hx14)
   refine sv rfl (v := opV (f x14) (.slice dA15 dn15 dc15)) (r_loads (k := (ia + kk) * 10) (vs := (opC (f x14) (.slice dA15 dn15 dc15))) (by kernel_rfl) Ty.ag49 Ty.sz49 hb15 (el_sub0 he15 rfl)) ?_
   refine hx (Y := [g]) (Mod.refl _ _) (fun y hy => .inl hy) ?_
   obtain ⟨x16, hx16⟩ : ∃ x, I1[ib + kk]? = some x := ⟨_, List.getElem?_eq_getElem (by omega)⟩
   obtain ⟨cu17, dA17, dn17, dc17, hb17, he17, hD17⟩ := ORow.elem h13 (map_get' hx16)
   refine h1 (i := 13) (fuel := 4) (by kernel_rfl) rfl (sv rfl (v := opV (f x16) (.slice dA17 dn17 dc17)) (r_loads (k := (ib + kk) * 10) (vs := (opC (f x16) (.slice dA17 dn17 dc17))) (by kernel_rfl) Ty.ag49 Ty.sz49 hb17 (el_sub0 he17 rfl)) ?_)
   refine hx (Y := [g]) (Mod.refl _ _) (fun y hy => .inl hy) ?_
   refine hvq (i := 20) (fuel := 3) rfl (fun _ _ _ h => h) (Mod.refl _ _) rfl (v := .pointer (some ⟨g, (ia + kk) * 10, none⟩)) (fun _ _ => r_ixaddr' (A := some ⟨g, 0, none⟩) (b := g) (o := 0) (n := nn) (c := c) (sz := 10) (j := ((ia + kk : Nat) : Int)) (m := (ia + kk) * 10) (by kernel_rfl) rfl (by kernel_rfl) Ty.un22 Ty.sz49 (by omega) (by omega) (by omega)) ?_
   obtain ⟨cu18, hb18, hk18, hp18⟩ := ORow.put (i := ia + kk) h13 (by simp; omega) hD17 (by decide) hBb
   refine h1 (i := 21) (fuel := 2) (by kernel_rfl) rfl (ss rfl (k := (ia + kk) * 10) (v := opV (f x16) (.slice dA17 dn17 dc17)) (vs := (opC (f x16) (.slice dA17 dn17 dc17))) (cs' := _) (by kernel_rfl) (by kernel_rfl) rfl Ty.sz49 hb18 rfl hk18 rfl ?_)
   intro w19 h20 c21
   have hr18 := hp18 _ h20 c21
   rw [map_set'] at hr18
   have M22 := Mod.trans M11 (Mod.of_chg c21 (by simp))
   have M23 := Mod.trans M12 (Mod.of_chg c21 (by simp))
   obtain ⟨_, _, _, cg24, hg24, _⟩ := ORow.blk hr18
   refine hx (Y := [g]) (Mod.of_chg c21 (by simp)) (fun y hy => .inl hy) ?_
   refine hvq (i := 22) (fuel := 1) rfl (fun _ _ _ h => h) (Mod.refl _ _) rfl (v := .pointer (some ⟨g, (ib + kk) * 10, none⟩)) (fun _ _ => r_ixaddr' (A := some ⟨g, 0, none⟩) (b := g) (o := 0) (n := nn) (c := c) (sz := 10) (j := ((ib + kk : Nat) : Int)) (m := (ib + kk) * 10) (by kernel_rfl) rfl (by kernel_rfl) Ty.un22 Ty.sz49 (by omega) (by omega) (by omega)) ?_
   have h26 := (Dat.chg hD15 c21 ⟨hBg, NotU8.of hb18 (by decide)⟩)
   obtain ⟨cu25, hb25, hk25, hp25⟩ := ORow.put (i := ib + kk) hr18 (by simp; omega) h26 (by decide) hBb
   refine h1 (i := 23) (fuel := 0) (by kernel_rfl) rfl (ss rfl (k := (ib + kk) * 10) (v := opV (f x14) (.slice dA15 dn15 dc15)) (vs := (opC (f x14) (.slice dA15 dn15 dc15))) (cs' := _) (by kernel_rfl) (by kernel_rfl) rfl Ty.sz49 hb25 rfl hk25 rfl ?_)
   intro w27 h28 c29
   have hr25 := hp25 _ h28 c29
   rw [map_set'] at hr25
   have M30 := Mod.trans M22 (Mod.of_chg c29 (by simp))
   have M31 := Mod.trans M23 (Mod.of_chg c29 (by simp))
   obtain ⟨_, _, _, cg32, hg32, _⟩ := ORow.blk hr25
   refine hx (Y := [g]) (Mod.of_chg c29 (by simp)) (fun y hy => .inl hy) ?_
   refine hend (by kernel_rfl) ?_
   refine inb_n (then_n (rg_lit ?_))
   refine wmv (v := .int .i64 (kk : Int)) ?_
   refine wl (sv rfl (v := .int .i64 ((kk + 1 : Nat) : Int)) (r_add (k := .i64) (m := (kk : Int)) (n := 1) (c := ((kk + 1 : Nat) : Int)) (by kernel_rfl) (by kernel_rfl) ((IntWalk.i64_in _ (by omega)).trans (by omega))) ?_)
   refine was (v := .int .i64 ((kk + 1 : Nat) : Int)) ?_
   refine wnil (then_n ?_)
   refine ⟨q - (kk + 1), ?_, ((I1.set (ia + kk) x16).set (ib + kk) x14), (kk + 1), .int .i64 (kk : Int), .int .i64 (q : Int), .bool b3, .int .i64 (kk : Int), .int .i64 ((kk + 1 : Nat) : Int), .slice (some ⟨g, 0, none⟩) nn c, .int .i64 (ia : Int), .int .i64 (kk : Int), .int .i64 ((ia + kk : Nat) : Int), .slice (some ⟨g, 0, none⟩) nn c, .int .i64 (ib : Int), .int .i64 (kk : Int), .int .i64 ((ib + kk : Nat) : Int), .slice (some ⟨g, 0, none⟩) nn c, .int .i64 (ib : Int), .int .i64 (kk : Int), .int .i64 ((ib + kk : Nat) : Int), .pointer (some ⟨g, (ib + kk) * 10, none⟩), opV (f x16) (.slice dA17 dn17 dc17), .slice (some ⟨g, 0, none⟩) nn c, .int .i64 (ia : Int), .int .i64 (kk : Int), .int .i64 ((ia + kk : Nat) : Int), .pointer (some ⟨g, (ia + kk) * 10, none⟩), opV (f x14) (.slice dA15 dn15 dc15), .pointer (some ⟨g, (ia + kk) * 10, none⟩), .pointer (some ⟨g, (ib + kk) * 10, none⟩), rfl, (by kernel_rfl), M31, (SwI.step hF1_0 hXY (by omega) ha hb hx14 hx16), (by omega), hr25⟩
   · omega
set_option maxHeartbeats 2000000 in
theorem insertion_at {B base : Nat} {w : World} {g nn c : Nat} {f : Nat → OpD} {pre X post : List Nat} (h : ORow 49 B base w (.slice (some ⟨g, 0, none⟩) nn c) ((pre ++ (X ++ post)).map f)) (hBb : B ≤ base) (hn : nn ≤ 1000000) {ia ib : Nat} (ha : pre.length = ia) (hb : ia + X.length = ib) (hX0 : X.Pairwise (· < ·)) :
    Calls Tryz.prog 200 #[.slice (some ⟨g, 0, none⟩) nn c, .int .i64 ia, .int .i64 ib, .func (.func 115) #[] #[]] w fun e w' => ∃ C, e = .returned (.tuple #[]) ∧ ORow 49 B base w' (.slice (some ⟨g, 0, none⟩) nn c) ((pre ++ (C ++ post)).map f) ∧ C.Pairwise (lx f) ∧ C.Perm X ∧ Chg w w' g := by
  obtain ⟨hnL, hnc, hcm, cu0, hg, hcs0⟩ := ORow.blk h
  have hBg := ORow.ge h hBb
  have hn0 : nn = pre.length + (X.length + post.length) := by simpa using hnL
  go_enter Tryz.func200, Tryz.ntmps200
  refine wp_seq (rg_lit ?_)
  refine wmv (v := .int .i64 (ia : Int)) ?_
  refine wl (sv rfl (v := .int .i64 ((ia + 1 : Nat) : Int)) (r_add (k := .i64) (m := (ia : Int)) (n := 1) (c := ((ia + 1 : Nat) : Int)) (by kernel_rfl) (by kernel_rfl) ((IntWalk.i64_in _ (by omega)).trans (by omega))) ?_)
  refine was (v := .int .i64 ((ia + 1 : Nat) : Int)) ?_
  refine wnil (then_n (wp_block ?_))
  refine lp (fun n a r1 => ∃ (I1 : List Nat) (ii : Nat) (z9 z12 z13 z14 z15 z16 z17 z18 z19 z20 z21 z22 z23 z24 z25 z26 z27 z28 z29 z30 z31 z32 z33 z34 z35 z36 z37 z38 z39 z40 z41 z42 z43 z44 z45 z46 z47 z48 z49 z50 z51 z52 : Value), (n = ib - ii) ∧ (a = ⟨#[.slice (some ⟨g, 0, none⟩) nn c, .int .i64 (ia : Int), .int .i64 (ib : Int), .func (.func 115) #[] #[], undef, undef, undef, undef, .int .i64 (ii : Int), z9, .int .i64 (ia : Int), .int .i64 ((ia + 1 : Nat) : Int), z12, z13, z14, z15, z16, z17, z18, z19, z20, z21, z22, z23, z24, z25, z26, z27, z28, z29, z30, z31, z32, z33, z34, z35, z36, z37, z38, z39, z40, z41, z42, z43, z44, z45, z46, z47, z48, z49, z50, z51, z52], []⟩) ∧ (Mod [g] w r1) ∧ (InsO f pre X post I1 ii) ∧ (ii ≤ nn + 1) ∧ (ORow 49 B base r1 (.slice (some ⟨g, 0, none⟩) nn c) (I1.map f))) ⟨_, (pre ++ (X ++ post)), (ia + 1), undef, undef, undef, undef, undef, undef, undef, undef, undef, undef, undef, undef, undef, undef, undef, undef, undef, undef, undef, undef, undef, undef, undef, undef, undef, undef, undef, undef, undef, undef, undef, undef, undef, undef, undef, undef, undef, undef, undef, undef, undef, undef, rfl, (by kernel_rfl), Mod.refl _ _, (by rw [← ha]; exact InsO.first _ _ _), (by omega), h⟩ ?_
  rintro _ _ r1 ⟨I1, ii, z9, z12, z13, z14, z15, z16, z17, z18, z19, z20, z21, z22, z23, z24, z25, z26, z27, z28, z29, z30, z31, z32, z33, z34, z35, z36, z37, z38, z39, z40, z41, z42, z43, z44, z45, z46, z47, z48, z49, z50, z51, z52, rfl, rfl, hM1, hF1_0, hF1_1, hF1_2⟩
  have M1 := Mod.trans (Mod.of_mod (Y := [g]) (Mod.refl [] w) (by simp)) (Mod.of_mod (Y := [g]) hM1 (by simp))
  obtain ⟨_, _, _, cg2, hg2, _⟩ := ORow.blk hF1_2
  refine wp_seq (wp_seq (rg_lit ?_))
  refine wmv (v := .int .i64 (ii : Int)) ?_
  refine wmv (v := .int .i64 (ib : Int)) ?_
  refine wl (sb rfl (r_lt (k := .i64) (m := (ii : Int)) (n := (ib : Int)) (by kernel_rfl) (by kernel_rfl)) ?_)
  intro b3 k4
  refine wnil (then_n ?_)
  refine bcase b3 (fun v5 => ?_) (fun v5 => ?_)
  ·
   have p6 := of_decide_eq_false (k4.trans v5)
   refine wp_cond_false (ebool (b := b3) (by kernel_rfl) v5) ?_
   refine wp_exit (then_x (by nofun) (then_x (by nofun) (inb_hit ?_)))
   refine bodyPost_end (v := .tuple #[]) (res0 rfl ) (by kernel_rfl) ?_
   obtain ⟨C, hC1, hC2, hC3⟩ := InsO.fin hF1_0 (by omega)
   exact ⟨C, rfl, ORow.to hF1_2 (by rw [hC1]), hC2, hC3, (Mod.chg M1)⟩
  have p6 := of_decide_eq_true (k4.trans v5)
  have q7 : ii < ib := by omega
  have q8 : ii < ib := by omega
  refine wp_cond_true (ebool (b := b3) (by kernel_rfl) v5) ?_
  refine wp_skip (then_n (wp_seq (wp_block (wp_seq (rg_lit ?_)))))
  refine wmv (v := .int .i64 (ii : Int)) ?_
  refine was (v := .int .i64 (ii : Int)) ?_
  refine wnil (then_n (wp_block ?_))
  refine lp (fun n a r2 => ∃ (I2 : List Nat) (jj : Nat) (z18 z19 z20 z21 z22 z23 z24 z25 z26 z27 z28 z29 z30 z31 z32 z33 z34 z35 z36 z37 z38 z39 z40 z41 z42 z43 z44 z45 z46 z47 z48 z49 z50 z51 z52 : Value), (n = jj + 1) ∧ (a = ⟨#[.slice (some ⟨g, 0, none⟩) nn c, .int .i64 (ia : Int), .int .i64 (ib : Int), .func (.func 115) #[] #[], undef, undef, undef, undef, .int .i64 (ii : Int), .int .i64 (jj : Int), .int .i64 (ia : Int), .int .i64 ((ia + 1 : Nat) : Int), .int .i64 (ii : Int), .int .i64 (ib : Int), .bool b3, z15, z16, .int .i64 (ii : Int), z18, z19, z20, z21, z22, z23, z24, z25, z26, z27, z28, z29, z30, z31, z32, z33, z34, z35, z36, z37, z38, z39, z40, z41, z42, z43, z44, z45, z46, z47, z48, z49, z50, z51, z52], []⟩) ∧ (Mod [g] r1 r2) ∧ (InsI f pre X post I2 ii jj) ∧ (ORow 49 B base r2 (.slice (some ⟨g, 0, none⟩) nn c) (I2.map f))) ⟨_, I1, ii, z18, z19, z20, z21, z22, z23, z24, z25, z26, z27, z28, z29, z30, z31, z32, z33, z34, z35, z36, z37, z38, z39, z40, z41, z42, z43, z44, z45, z46, z47, z48, z49, z50, z51, z52, rfl, (by kernel_rfl), Mod.refl _ _, (InsO.toI hF1_0 (by omega)), hF1_2⟩ ?_
  rintro _ _ r2 ⟨I2, jj, z18, z19, z20, z21, z22, z23, z24, z25, z26, z27, z28, z29, z30, z31, z32, z33, z34, z35, z36, z37, z38, z39, z40, z41, z42, z43, z44, z45, z46, z47, z48, z49, z50, z51, z52, rfl, rfl, hM2, hF2_0, hF2_1⟩
  have M9 := Mod.trans M1 (Mod.of_mod hM2 (by simp))
  have M10 := Mod.trans hM1 (Mod.of_mod hM2 (by simp))
  obtain ⟨hlI, hlj, hli⟩ := InsI.len hF2_0
  obtain ⟨_, _, _, cg11, hg11, _⟩ := ORow.blk hF2_1
  refine wp_seq (wp_seq ?_)
  refine rg_tail 14 (by kernel_rfl) (by kernel_rfl) rfl rfl ?_
  refine qmv (v := .int .i64 (jj : Int)) ?_
  refine qmv (v := .int .i64 (ia : Int)) ?_
  refine qb rfl (fun _ _ => r_gt (k := .i64) (m := (jj : Int)) (n := (ia : Int)) (by kernel_rfl) (by kernel_rfl)) ?_
  intro b12 k13
  refine qmv (v := .bool b12) ?_
  refine bcase b12 (fun v14 => ?_) (fun v14 => ?_)
  ·
   have p15 := of_decide_eq_false (k13.trans v14)
   refine qp (wf (b := b12) rfl (by kernel_rfl) v14) ?_
   refine qp (wf (b := b12) rfl (by kernel_rfl) v14) ?_
   refine qp (wf (b := b12) rfl (by kernel_rfl) v14) ?_
   refine qp (wf (b := b12) rfl (by kernel_rfl) v14) ?_
   refine qp (wf (b := b12) rfl (by kernel_rfl) v14) ?_
   refine qp (wf (b := b12) rfl (by kernel_rfl) v14) ?_
   refine qp (wf (b := b12) rfl (by kernel_rfl) v14) ?_
   refine qp (wf (b := b12) rfl (by kernel_rfl) v14) ?_
   refine qp (wf (b := b12) rfl (by kernel_rfl) v14) ?_
   refine qp (wf (b := b12) rfl (by kernel_rfl) v14) ?_
   refine qnil ?_
   intro w16 u17
   have M18 := Mod.trans M9 (Mod.of_up u17)
   have M19 := Mod.trans M10 (Mod.of_up u17)
   have M20 := Mod.trans hM2 (Mod.of_up u17)
   refine wl (sp (wf (b := b12) rfl (by kernel_rfl) v14) ?_)
   refine wl (sp (wf (b := b12) rfl (by kernel_rfl) v14) ?_)
   refine wl (sv rfl (v := .bool false) (r_pkF (ebool (b := b12) (by kernel_rfl) v14) (by kernel_rfl)) ?_)
   refine wnil (then_n ?_)
   refine wp_cond_false (by kernel_rfl) ?_
   refine wp_exit (then_x (by nofun) (then_x (by nofun) (inb_hit (inb_n (then_n (rg_lit ?_))))))
   refine wmv (v := .int .i64 (ii : Int)) ?_
   refine wl (sv rfl (v := .int .i64 ((ii + 1 : Nat) : Int)) (r_add (k := .i64) (m := (ii : Int)) (n := 1) (c := ((ii + 1 : Nat) : Int)) (by kernel_rfl) (by kernel_rfl) ((IntWalk.i64_in _ (by omega)).trans (by omega))) ?_)
   refine was (v := .int .i64 ((ii + 1 : Nat) : Int)) ?_
   refine wnil (then_n ?_)
   have h21 := (ORow.up hF2_1 u17)
   refine ⟨ib - (ii + 1), ?_, I2, (ii + 1), .int .i64 (jj : Int), .int .i64 (ii : Int), .int .i64 (ib : Int), .bool b3, .int .i64 (ii : Int), .int .i64 ((ii + 1 : Nat) : Int), .int .i64 (ii : Int), .int .i64 (jj : Int), .int .i64 (ia : Int), .bool b12, .bool b12, undef, undef, undef, undef, undef, undef, undef, undef, undef, undef, undef, undef, .bool false, z35, z36, z37, z38, z39, z40, z41, z42, z43, z44, z45, z46, z47, z48, z49, z50, z51, z52, rfl, (by kernel_rfl), M19, (InsI.done hF2_0 hX0 (.inl (by omega))), (by omega), h21⟩
   · omega
  have p15 := of_decide_eq_true (k13.trans v14)
  refine qv (wt (b := b12) rfl (by kernel_rfl) v14) (v := .func (.func 115) #[] #[]) (fun _ _ => r_move (by kernel_rfl)) ?_
  refine qv (wt (b := b12) rfl (by kernel_rfl) v14) (v := .slice (some ⟨g, 0, none⟩) nn c) (fun _ _ => r_move (by kernel_rfl)) ?_
  refine qv (wt (b := b12) rfl (by kernel_rfl) v14) (v := .int .i64 (jj : Int)) (fun _ _ => r_move (by kernel_rfl)) ?_
  refine qv (wt (b := b12) rfl (by kernel_rfl) v14) (v := .pointer (some ⟨g, jj * 10, none⟩)) (fun _ _ => r_ixaddr' (A := some ⟨g, 0, none⟩) (b := g) (o := 0) (n := nn) (c := c) (sz := 10) (j := (jj : Int)) (m := jj * 10) (by kernel_rfl) rfl (by kernel_rfl) Ty.un22 Ty.sz49 (by omega) (by omega) (by omega)) ?_
  obtain ⟨x16, hx16⟩ : ∃ x, I2[jj]? = some x := ⟨_, List.getElem?_eq_getElem (by omega)⟩
  obtain ⟨cu17, dA17, dn17, dc17, hb17, he17, hD17⟩ := ORow.elem hF2_1 (map_get' hx16)
  refine qv (wt (b := b12) rfl (by kernel_rfl) v14) (v := opV (f x16) (.slice dA17 dn17 dc17)) (fun _ uz => r_loads (k := jj * 10) (vs := (opC (f x16) (.slice dA17 dn17 dc17))) (by kernel_rfl) Ty.ag49 Ty.sz49 (up_ob uz hb17) (el_sub0 he17 rfl)) ?_
  refine qv (wt (b := b12) rfl (by kernel_rfl) v14) (v := .slice (some ⟨g, 0, none⟩) nn c) (fun _ _ => r_move (by kernel_rfl)) ?_
  refine qv (wt (b := b12) rfl (by kernel_rfl) v14) (v := .int .i64 (jj : Int)) (fun _ _ => r_move (by kernel_rfl)) ?_
  refine qv (wt (b := b12) rfl (by kernel_rfl) v14) (v := .int .i64 ((jj - 1 : Nat) : Int)) (fun _ _ => r_sub (k := .i64) (m := (jj : Int)) (n := 1) (c := ((jj - 1 : Nat) : Int)) (by kernel_rfl) (by kernel_rfl) ((IntWalk.i64_in _ (by omega)).trans (by omega))) ?_
  refine qv (wt (b := b12) rfl (by kernel_rfl) v14) (v := .pointer (some ⟨g, (jj - 1) * 10, none⟩)) (fun _ _ => r_ixaddr' (A := some ⟨g, 0, none⟩) (b := g) (o := 0) (n := nn) (c := c) (sz := 10) (j := ((jj - 1 : Nat) : Int)) (m := (jj - 1) * 10) (by kernel_rfl) rfl (by kernel_rfl) Ty.un22 Ty.sz49 (by omega) (by omega) (by omega)) ?_
  obtain ⟨x18, hx18⟩ : ∃ x, I2[jj - 1]? = some x := ⟨_, List.getElem?_eq_getElem (by omega)⟩
  obtain ⟨cu19, dA19, dn19, dc19, hb19, he19, hD19⟩ := ORow.elem hF2_1 (map_get' hx18)
  refine qv (wt (b := b12) rfl (by kernel_rfl) v14) (v := opV (f x18) (.slice dA19 dn19 dc19)) (fun _ uz => r_loads (k := (jj - 1) * 10) (vs := (opC (f x18) (.slice dA19 dn19 dc19))) (by kernel_rfl) Ty.ag49 Ty.sz49 (up_ob uz hb19) (el_sub0 he19 rfl)) ?_
  refine qnil ?_
  intro w20 u21
  have M22 := Mod.trans M9 (Mod.of_up u21)
  have M23 := Mod.trans M10 (Mod.of_up u21)
  have M24 := Mod.trans hM2 (Mod.of_up u21)
  refine wl (sc (wt (b := b12) rfl (by kernel_rfl) v14) (r_callv (caps := []) (all := [opV (f x16) (.slice dA17 dn17 dc17), opV (f x18) (.slice dA19 dn19 dc19)]) En.f115 (by kernel_rfl) (by kernel_rfl)) (opcompare_at (f x16) (f x18) dA17 dA19 dn17 dc17 dn19 dc19) ?_)
  rintro e w25 ⟨rfl, u26⟩
  refine ⟨.int .i64 (cmpS (f x16).at_ (f x18).at_), rfl, ?_⟩
  have M27 := Mod.trans M22 (Mod.of_up u26)
  have M28 := Mod.trans M23 (Mod.of_up u26)
  have M29 := Mod.trans M24 (Mod.of_up u26)
  refine wl (sb (wt (b := b12) rfl (by kernel_rfl) v14) (r_lt (k := .i64) (m := (cmpS (f x16).at_ (f x18).at_)) (n := 0) (by kernel_rfl) (by kernel_rfl)) ?_)
  intro b30 k31
  refine wl (sv rfl (v := .bool b30) (r_pkT (ebool (b := b12) (by kernel_rfl) v14) (by kernel_rfl)) ?_)
  refine wnil (then_n ?_)
  refine bcase b30 (fun v32 => ?_) (fun v32 => ?_)
  ·
   have p33 := of_decide_eq_false (k31.trans v32)
   refine wp_cond_false (ebool (b := b30) (by kernel_rfl) v32) ?_
   refine wp_exit (then_x (by nofun) (then_x (by nofun) (inb_hit (inb_n (then_n (rg_lit ?_))))))
   refine wmv (v := .int .i64 (ii : Int)) ?_
   refine wl (sv rfl (v := .int .i64 ((ii + 1 : Nat) : Int)) (r_add (k := .i64) (m := (ii : Int)) (n := 1) (c := ((ii + 1 : Nat) : Int)) (by kernel_rfl) (by kernel_rfl) ((IntWalk.i64_in _ (by omega)).trans (by omega))) ?_)
   refine was (v := .int .i64 ((ii + 1 : Nat) : Int)) ?_
   refine wnil (then_n ?_)
   have h34 := (ORow.up hF2_1 (up_up u21 u26))
   refine ⟨ib - (ii + 1), ?_, I2, (ii + 1), .int .i64 (jj : Int), .int .i64 (ii : Int), .int .i64 (ib : Int), .bool b3, .int .i64 (ii : Int), .int .i64 ((ii + 1 : Nat) : Int), .int .i64 (ii : Int), .int .i64 (jj : Int), .int .i64 (ia : Int), .bool b12, .bool b12, .func (.func 115) #[] #[], .slice (some ⟨g, 0, none⟩) nn c, .int .i64 (jj : Int), .pointer (some ⟨g, jj * 10, none⟩), opV (f x16) (.slice dA17 dn17 dc17), .slice (some ⟨g, 0, none⟩) nn c, .int .i64 (jj : Int), .int .i64 ((jj - 1 : Nat) : Int), .pointer (some ⟨g, (jj - 1) * 10, none⟩), opV (f x18) (.slice dA19 dn19 dc19), .int .i64 (cmpS (f x16).at_ (f x18).at_), .bool b30, .bool b30, z35, z36, z37, z38, z39, z40, z41, z42, z43, z44, z45, z46, z47, z48, z49, z50, z51, z52, rfl, (by kernel_rfl), M28, (InsI.done hF2_0 hX0 (.inr ⟨_, _, hx16, hx18, cmpS_no p33⟩)), (by omega), h34⟩
   · omega
  have p33 := of_decide_eq_true (k31.trans v32)
  refine wp_cond_true (ebool (b := b30) (by kernel_rfl) v32) ?_
  refine wp_skip (then_n (wp_seq (wp_block ?_)))
  refine rg_held [g] (n := 18) (by kernel_rfl) rfl ?_
  intro w34 u35
  have M36 := Mod.trans M27 (Mod.of_up u35)
  have M37 := Mod.trans M28 (Mod.of_up u35)
  have M38 := Mod.trans M29 (Mod.of_up u35)
  refine hvq (i := 0) (fuel := 17) rfl (fun _ _ _ h => h) (Mod.refl _ _) rfl (v := .slice (some ⟨g, 0, none⟩) nn c) (fun _ _ => r_move (by kernel_rfl)) ?_
  refine hvq (i := 1) (fuel := 16) rfl (fun _ _ _ h => h) (Mod.refl _ _) rfl (v := .int .i64 (jj : Int)) (fun _ _ => r_move (by kernel_rfl)) ?_
  refine hvq (i := 2) (fuel := 15) rfl (fun _ _ _ h => h) (Mod.refl _ _) rfl (v := .slice (some ⟨g, 0, none⟩) nn c) (fun _ _ => r_move (by kernel_rfl)) ?_
  refine hvq (i := 3) (fuel := 14) rfl (fun _ _ _ h => h) (Mod.refl _ _) rfl (v := .int .i64 (jj : Int)) (fun _ _ => r_move (by kernel_rfl)) ?_
  refine hvq (i := 4) (fuel := 13) rfl (fun _ _ _ h => h) (Mod.refl _ _) rfl (v := .int .i64 ((jj - 1 : Nat) : Int)) (fun _ _ => r_sub (k := .i64) (m := (jj : Int)) (n := 1) (c := ((jj - 1 : Nat) : Int)) (by kernel_rfl) (by kernel_rfl) ((IntWalk.i64_in _ (by omega)).trans (by omega))) ?_
  refine hvq (i := 5) (fuel := 12) rfl (fun _ _ _ h => h) (Mod.refl _ _) rfl (v := .slice (some ⟨g, 0, none⟩) nn c) (fun _ _ => r_move (by kernel_rfl)) ?_
  refine hvq (i := 6) (fuel := 11) rfl (fun _ _ _ h => h) (Mod.refl _ _) rfl (v := .int .i64 (jj : Int)) (fun _ _ => r_move (by kernel_rfl)) ?_
  refine hvq (i := 7) (fuel := 10) rfl (fun _ _ _ h => h) (Mod.refl _ _) rfl (v := .int .i64 ((jj - 1 : Nat) : Int)) (fun _ _ => r_sub (k := .i64) (m := (jj : Int)) (n := 1) (c := ((jj - 1 : Nat) : Int)) (by kernel_rfl) (by kernel_rfl) ((IntWalk.i64_in _ (by omega)).trans (by omega))) ?_
  refine hvq (i := 8) (fuel := 9) rfl (fun _ _ _ h => h) (Mod.refl _ _) rfl (v := .pointer (some ⟨g, (jj - 1) * 10, none⟩)) (fun _ _ => r_ixaddr' (A := some ⟨g, 0, none⟩) (b := g) (o := 0) (n := nn) (c := c) (sz := 10) (j := ((jj - 1 : Nat) : Int)) (m := (jj - 1) * 10) (by kernel_rfl) rfl (by kernel_rfl) Ty.un22 Ty.sz49 (by omega) (by omega) (by omega)) ?_
  refine hvq (i := 10) (fuel := 8) rfl (fun _ _ _ h => h) (Mod.refl _ _) rfl (v := .slice (some ⟨g, 0, none⟩) nn c) (fun _ _ => r_move (by kernel_rfl)) ?_
  refine hvq (i := 11) (fuel := 7) rfl (fun _ _ _ h => h) (Mod.refl _ _) rfl (v := .int .i64 (jj : Int)) (fun _ _ => r_move (by kernel_rfl)) ?_
  refine hvq (i := 12) (fuel := 6) rfl (fun _ _ _ h => h) (Mod.refl _ _) rfl (v := .pointer (some ⟨g, jj * 10, none⟩)) (fun _ _ => r_ixaddr' (A := some ⟨g, 0, none⟩) (b := g) (o := 0) (n := nn) (c := c) (sz := 10) (j := (jj : Int)) (m := jj * 10) (by kernel_rfl) rfl (by kernel_rfl) Ty.un22 Ty.sz49 (by omega) (by omega) (by omega)) ?_
  refine h2 (i := 9) (j := 13) (fuel := 5) (by kernel_rfl) rfl rfl ?_ ?_
  ·
   have h39 := (ORow.up hF2_1 (up_up (up_up u21 u26) u35))
   obtain ⟨cu40, dA40, dn40, dc40, hb40, he40, hD40⟩ := ORow.elem h39 (map_get' hx18)
   refine sv rfl (v := opV (f x18) (.slice dA40 dn40 dc40)) (r_loads (k := (jj - 1) * 10) (vs := (opC (f x18) (.slice dA40 dn40 dc40))) (by kernel_rfl) Ty.ag49 Ty.sz49 hb40 (el_sub0 he40 rfl)) ?_
   refine hx (Y := [g]) (Mod.refl _ _) (fun y hy => .inl hy) ?_
   obtain ⟨cu41, dA41, dn41, dc41, hb41, he41, hD41⟩ := ORow.elem h39 (map_get' hx16)
   refine h1 (i := 13) (fuel := 4) (by kernel_rfl) rfl (sv rfl (v := opV (f x16) (.slice dA41 dn41 dc41)) (r_loads (k := jj * 10) (vs := (opC (f x16) (.slice dA41 dn41 dc41))) (by kernel_rfl) Ty.ag49 Ty.sz49 hb41 (el_sub0 he41 rfl)) ?_)
   refine hx (Y := [g]) (Mod.refl _ _) (fun y hy => .inl hy) ?_
   refine hvq (i := 14) (fuel := 3) rfl (fun _ _ _ h => h) (Mod.refl _ _) rfl (v := .pointer (some ⟨g, jj * 10, none⟩)) (fun _ _ => r_ixaddr' (A := some ⟨g, 0, none⟩) (b := g) (o := 0) (n := nn) (c := c) (sz := 10) (j := (jj : Int)) (m := jj * 10) (by kernel_rfl) rfl (by kernel_rfl) Ty.un22 Ty.sz49 (by omega) (by omega) (by omega)) ?_
   obtain ⟨cu42, hb42, hk42, hp42⟩ := ORow.put (i := jj) h39 (by simp; omega) hD40 (by decide) hBb
   refine h1 (i := 15) (fuel := 2) (by kernel_rfl) rfl (ss rfl (k := jj * 10) (v := opV (f x18) (.slice dA40 dn40 dc40)) (vs := (opC (f x18) (.slice dA40 dn40 dc40))) (cs' := _) (by kernel_rfl) (by kernel_rfl) rfl Ty.sz49 hb42 rfl hk42 rfl ?_)
   intro w43 h44 c45
   have hr42 := hp42 _ h44 c45
   rw [map_set'] at hr42
   have M46 := Mod.trans M36 (Mod.of_chg c45 (by simp))
   have M47 := Mod.trans M37 (Mod.of_chg c45 (by simp))
   have M48 := Mod.trans M38 (Mod.of_chg c45 (by simp))
   obtain ⟨_, _, _, cg49, hg49, _⟩ := ORow.blk hr42
   refine hx (Y := [g]) (Mod.of_chg c45 (by simp)) (fun y hy => .inl hy) ?_
   refine hvq (i := 16) (fuel := 1) rfl (fun _ _ _ h => h) (Mod.refl _ _) rfl (v := .pointer (some ⟨g, (jj - 1) * 10, none⟩)) (fun _ _ => r_ixaddr' (A := some ⟨g, 0, none⟩) (b := g) (o := 0) (n := nn) (c := c) (sz := 10) (j := ((jj - 1 : Nat) : Int)) (m := (jj - 1) * 10) (by kernel_rfl) rfl (by kernel_rfl) Ty.un22 Ty.sz49 (by omega) (by omega) (by omega)) ?_
   have h51 := (Dat.chg hD41 c45 ⟨hBg, NotU8.of hb42 (by decide)⟩)
   obtain ⟨cu50, hb50, hk50, hp50⟩ := ORow.put (i := jj - 1) hr42 (by simp; omega) h51 (by decide) hBb
   refine h1 (i := 17) (fuel := 0) (by kernel_rfl) rfl (ss rfl (k := (jj - 1) * 10) (v := opV (f x16) (.slice dA41 dn41 dc41)) (vs := (opC (f x16) (.slice dA41 dn41 dc41))) (cs' := _) (by kernel_rfl) (by kernel_rfl) rfl Ty.sz49 hb50 rfl hk50 rfl ?_)
   intro w52 h53 c54
   have hr50 := hp50 _ h53 c54
   rw [map_set'] at hr50
   have M55 := Mod.trans M46 (Mod.of_chg c54 (by simp))
   have M56 := Mod.trans M47 (Mod.of_chg c54 (by simp))
   have M57 := Mod.trans M48 (Mod.of_chg c54 (by simp))
   obtain ⟨_, _, _, cg58, hg58, _⟩ := ORow.blk hr50
   refine hx (Y := [g]) (Mod.of_chg c54 (by simp)) (fun y hy => .inl hy) ?_
   refine hend (by kernel_rfl) ?_
   refine inb_n (then_n (rg_lit ?_))
   refine wmv (v := .int .i64 (jj : Int)) ?_
   refine wl (sv rfl (v := .int .i64 ((jj - 1 : Nat) : Int)) (r_sub (k := .i64) (m := (jj : Int)) (n := 1) (c := ((jj - 1 : Nat) : Int)) (by kernel_rfl) (by kernel_rfl) ((IntWalk.i64_in _ (by omega)).trans (by omega))) ?_)
   refine was (v := .int .i64 ((jj - 1 : Nat) : Int)) ?_
   refine wnil (then_n ?_)
   refine ⟨(jj - 1) + 1, ?_, ((I2.set jj x18).set (jj - 1) x16), (jj - 1), .int .i64 (jj : Int), .int .i64 (ia : Int), .bool b12, .bool b12, .func (.func 115) #[] #[], .slice (some ⟨g, 0, none⟩) nn c, .int .i64 (jj : Int), .pointer (some ⟨g, jj * 10, none⟩), opV (f x16) (.slice dA17 dn17 dc17), .slice (some ⟨g, 0, none⟩) nn c, .int .i64 (jj : Int), .int .i64 ((jj - 1 : Nat) : Int), .pointer (some ⟨g, (jj - 1) * 10, none⟩), opV (f x18) (.slice dA19 dn19 dc19), .int .i64 (cmpS (f x16).at_ (f x18).at_), .bool b30, .bool b30, .int .i64 (jj : Int), .int .i64 ((jj - 1 : Nat) : Int), .slice (some ⟨g, 0, none⟩) nn c, .int .i64 (jj : Int), .slice (some ⟨g, 0, none⟩) nn c, .int .i64 (jj : Int), .int .i64 ((jj - 1 : Nat) : Int), .slice (some ⟨g, 0, none⟩) nn c, .int .i64 (jj : Int), .int .i64 ((jj - 1 : Nat) : Int), .pointer (some ⟨g, (jj - 1) * 10, none⟩), opV (f x18) (.slice dA40 dn40 dc40), .slice (some ⟨g, 0, none⟩) nn c, .int .i64 (jj : Int), .pointer (some ⟨g, jj * 10, none⟩), opV (f x16) (.slice dA41 dn41 dc41), .pointer (some ⟨g, jj * 10, none⟩), .pointer (some ⟨g, (jj - 1) * 10, none⟩), rfl, (by kernel_rfl), M57, (InsI.swap hF2_0 (by omega) hx16 hx18 (cmpS_yes p33)), hr50⟩
   · omega
  ·
   have h39 := (ORow.up hF2_1 (up_up (up_up u21 u26) u35))
   obtain ⟨cu40, dA40, dn40, dc40, hb40, he40, hD40⟩ := ORow.elem h39 (map_get' hx16)
   refine sv rfl (v := opV (f x16) (.slice dA40 dn40 dc40)) (r_loads (k := jj * 10) (vs := (opC (f x16) (.slice dA40 dn40 dc40))) (by kernel_rfl) Ty.ag49 Ty.sz49 hb40 (el_sub0 he40 rfl)) ?_
   refine hx (Y := [g]) (Mod.refl _ _) (fun y hy => .inl hy) ?_
   obtain ⟨cu41, dA41, dn41, dc41, hb41, he41, hD41⟩ := ORow.elem h39 (map_get' hx18)
   refine h1 (i := 9) (fuel := 4) (by kernel_rfl) rfl (sv rfl (v := opV (f x18) (.slice dA41 dn41 dc41)) (r_loads (k := (jj - 1) * 10) (vs := (opC (f x18) (.slice dA41 dn41 dc41))) (by kernel_rfl) Ty.ag49 Ty.sz49 hb41 (el_sub0 he41 rfl)) ?_)
   refine hx (Y := [g]) (Mod.refl _ _) (fun y hy => .inl hy) ?_
   refine hvq (i := 14) (fuel := 3) rfl (fun _ _ _ h => h) (Mod.refl _ _) rfl (v := .pointer (some ⟨g, jj * 10, none⟩)) (fun _ _ => r_ixaddr' (A := some ⟨g, 0, none⟩) (b := g) (o := 0) (n := nn) (c := c) (sz := 10) (j := (jj : Int)) (m := jj * 10) (by kernel_rfl) rfl (by kernel_rfl) Ty.un22 Ty.sz49 (by omega) (by omega) (by omega)) ?_
   obtain ⟨cu42, hb42, hk42, hp42⟩ := ORow.put (i := jj) h39 (by simp; omega) hD41 (by decide) hBb
   refine h1 (i := 15) (fuel := 2) (by kernel_rfl) rfl (ss rfl (k := jj * 10) (v := opV (f x18) (.slice dA41 dn41 dc41)) (vs := (opC (f x18) (.slice dA41 dn41 dc41))) (cs' := _) (by kernel_rfl) (by kernel_rfl) rfl Ty.sz49 hb42 rfl hk42 rfl ?_)
   intro w43 h44 c45
   have hr42 := hp42 _ h44 c45
   rw [map_set'] at hr42
   have M46 := Mod.trans M36 (Mod.of_chg c45 (by simp))
   have M47 := Mod.trans M37 (Mod.of_chg c45 (by simp))
   have M48 := Mod.trans M38 (Mod.of_chg c45 (by simp))
   obtain ⟨_, _, _, cg49, hg49, _⟩ := ORow.blk hr42
   refine hx (Y := [g]) (Mod.of_chg c45 (by simp)) (fun y hy => .inl hy) ?_
   refine hvq (i := 16) (fuel := 1) rfl (fun _ _ _ h => h) (Mod.refl _ _) rfl (v := .pointer (some ⟨g, (jj - 1) * 10, none⟩)) (fun _ _ => r_ixaddr' (A := some ⟨g, 0, none⟩) (b := g) (o := 0) (n := nn) (c := c) (sz := 10) (j := ((jj - 1 : Nat) : Int)) (m := (jj - 1) * 10) (by kernel_rfl) rfl (by kernel_rfl) Ty.un22 Ty.sz49 (by omega) (by omega) (by omega)) ?_
   have h51 := (Dat.chg hD40 c45 ⟨hBg, NotU8.of hb42 (by decide)⟩)
   obtain ⟨cu50, hb50, hk50, hp50⟩ := ORow.put (i := jj - 1) hr42 (by simp; omega) h51 (by decide) hBb
   refine h1 (i := 17) (fuel := 0) (by kernel_rfl) rfl (ss rfl (k := (jj - 1) * 10) (v := opV (f x16) (.slice dA40 dn40 dc40)) (vs := (opC (f x16) (.slice dA40 dn40 dc40))) (cs' := _) (by kernel_rfl) (by kernel_rfl) rfl Ty.sz49 hb50 rfl hk50 rfl ?_)
   intro w52 h53 c54
   have hr50 := hp50 _ h53 c54
   rw [map_set'] at hr50
   have M55 := Mod.trans M46 (Mod.of_chg c54 (by simp))
   have M56 := Mod.trans M47 (Mod.of_chg c54 (by simp))
   have M57 := Mod.trans M48 (Mod.of_chg c54 (by simp))
   obtain ⟨_, _, _, cg58, hg58, _⟩ := ORow.blk hr50
   refine hx (Y := [g]) (Mod.of_chg c54 (by simp)) (fun y hy => .inl hy) ?_
   refine hend (by kernel_rfl) ?_
   refine inb_n (then_n (rg_lit ?_))
   refine wmv (v := .int .i64 (jj : Int)) ?_
   refine wl (sv rfl (v := .int .i64 ((jj - 1 : Nat) : Int)) (r_sub (k := .i64) (m := (jj : Int)) (n := 1) (c := ((jj - 1 : Nat) : Int)) (by kernel_rfl) (by kernel_rfl) ((IntWalk.i64_in _ (by omega)).trans (by omega))) ?_)
   refine was (v := .int .i64 ((jj - 1 : Nat) : Int)) ?_
   refine wnil (then_n ?_)
   refine ⟨(jj - 1) + 1, ?_, ((I2.set jj x18).set (jj - 1) x16), (jj - 1), .int .i64 (jj : Int), .int .i64 (ia : Int), .bool b12, .bool b12, .func (.func 115) #[] #[], .slice (some ⟨g, 0, none⟩) nn c, .int .i64 (jj : Int), .pointer (some ⟨g, jj * 10, none⟩), opV (f x16) (.slice dA17 dn17 dc17), .slice (some ⟨g, 0, none⟩) nn c, .int .i64 (jj : Int), .int .i64 ((jj - 1 : Nat) : Int), .pointer (some ⟨g, (jj - 1) * 10, none⟩), opV (f x18) (.slice dA19 dn19 dc19), .int .i64 (cmpS (f x16).at_ (f x18).at_), .bool b30, .bool b30, .int .i64 (jj : Int), .int .i64 ((jj - 1 : Nat) : Int), .slice (some ⟨g, 0, none⟩) nn c, .int .i64 (jj : Int), .slice (some ⟨g, 0, none⟩) nn c, .int .i64 (jj : Int), .int .i64 ((jj - 1 : Nat) : Int), .slice (some ⟨g, 0, none⟩) nn c, .int .i64 (jj : Int), .int .i64 ((jj - 1 : Nat) : Int), .pointer (some ⟨g, (jj - 1) * 10, none⟩), opV (f x18) (.slice dA41 dn41 dc41), .slice (some ⟨g, 0, none⟩) nn c, .int .i64 (jj : Int), .pointer (some ⟨g, jj * 10, none⟩), opV (f x16) (.slice dA40 dn40 dc40), .pointer (some ⟨g, jj * 10, none⟩), .pointer (some ⟨g, (jj - 1) * 10, none⟩), rfl, (by kernel_rfl), M57, (InsI.swap hF2_0 (by omega) hx16 hx18 (cmpS_yes p33)), hr50⟩
   · omega
set_option maxHeartbeats 2000000 in
theorem rotate_at {B base : Nat} {w : World} {g nn c : Nat} {f : Nat → OpD} {pre A Bb post : List Nat} (h : ORow 49 B base w (.slice (some ⟨g, 0, none⟩) nn c) ((pre ++ (A ++ (Bb ++ post))).map f)) (hBb : B ≤ base) (hn : nn ≤ 1000000) {ia m ib : Nat} (ha : pre.length = ia) (hm : ia + A.length = m) (hb : m + Bb.length = ib) (hA0 : 0 < A.length) (hB0 : 0 < Bb.length) :
    Calls Tryz.prog 230 #[.slice (some ⟨g, 0, none⟩) nn c, .int .i64 ia, .int .i64 m, .int .i64 ib, .func (.func 115) #[] #[]] w fun e w' => e = .returned (.tuple #[]) ∧ ORow 49 B base w' (.slice (some ⟨g, 0, none⟩) nn c) ((pre ++ (Bb ++ (A ++ post))).map f) ∧ Chg w w' g := by
  obtain ⟨hnL, hnc, hcm, cu0, hg, hcs0⟩ := ORow.blk h
  have hBg := ORow.ge h hBb
  have hn0 : nn = pre.length + (A.length + (Bb.length + post.length)) := by simpa using hnL
  go_enter Tryz.func230, Tryz.ntmps230
  refine wp_seq (rg_lit ?_)
  refine wmv (v := .int .i64 (m : Int)) ?_
  refine wmv (v := .int .i64 (ia : Int)) ?_
  refine wl (sv rfl (v := .int .i64 ((m - ia : Nat) : Int)) (r_sub (k := .i64) (m := (m : Int)) (n := (ia : Int)) (c := ((m - ia : Nat) : Int)) (by kernel_rfl) (by kernel_rfl) ((IntWalk.i64_in _ (by omega)).trans (by omega))) ?_)
  refine was (v := .int .i64 ((m - ia : Nat) : Int)) ?_
  refine wnil (then_n (wp_seq (rg_lit ?_)))
  refine wmv (v := .int .i64 (ib : Int)) ?_
  refine wmv (v := .int .i64 (m : Int)) ?_
  refine wl (sv rfl (v := .int .i64 ((ib - m : Nat) : Int)) (r_sub (k := .i64) (m := (ib : Int)) (n := (m : Int)) (c := ((ib - m : Nat) : Int)) (by kernel_rfl) (by kernel_rfl) ((IntWalk.i64_in _ (by omega)).trans (by omega))) ?_)
  refine was (v := .int .i64 ((ib - m : Nat) : Int)) ?_
  refine wnil (then_n (wp_seq (wp_block ?_)))
  refine lp (fun n a r1 => ∃ (I1 : List Nat) (ii : Nat) (jj : Nat) (z18 z19 z20 z21 z22 z23 z24 z25 z26 z27 z28 z29 z30 z31 z32 z33 z34 z35 z36 z37 z38 z39 z40 z41 z42 z43 z44 z45 z46 z47 z48 z49 : Value), (n = ii + jj) ∧ (a = ⟨#[.slice (some ⟨g, 0, none⟩) nn c, .int .i64 (ia : Int), .int .i64 (m : Int), .int .i64 (ib : Int), .func (.func 115) #[] #[], undef, undef, undef, undef, undef, .int .i64 (ii : Int), .int .i64 (jj : Int), .int .i64 (m : Int), .int .i64 (ia : Int), .int .i64 ((m - ia : Nat) : Int), .int .i64 (ib : Int), .int .i64 (m : Int), .int .i64 ((ib - m : Nat) : Int), z18, z19, z20, z21, z22, z23, z24, z25, z26, z27, z28, z29, z30, z31, z32, z33, z34, z35, z36, z37, z38, z39, z40, z41, z42, z43, z44, z45, z46, z47, z48, z49, undef, undef, undef, undef, undef, undef, undef, undef], []⟩) ∧ (Mod [g] w r1) ∧ (RotI pre A Bb post I1 ii jj) ∧ (0 < ii) ∧ (0 < jj) ∧ (ORow 49 B base r1 (.slice (some ⟨g, 0, none⟩) nn c) (I1.map f))) ⟨_, (pre ++ (A ++ (Bb ++ post))), (m - ia), (ib - m), undef, undef, undef, undef, undef, undef, undef, undef, undef, undef, undef, undef, undef, undef, undef, undef, undef, undef, undef, undef, undef, undef, undef, undef, undef, undef, undef, undef, undef, undef, undef, undef, rfl, (by kernel_rfl), Mod.refl _ _, (by rw [show m - ia = A.length by omega, show ib - m = Bb.length by omega]; exact RotI.first _ _ _ _), (by omega), (by omega), h⟩ ?_
  rintro _ _ r1 ⟨I1, ii, jj, z18, z19, z20, z21, z22, z23, z24, z25, z26, z27, z28, z29, z30, z31, z32, z33, z34, z35, z36, z37, z38, z39, z40, z41, z42, z43, z44, z45, z46, z47, z48, z49, rfl, rfl, hM1, hF1_0, hF1_1, hF1_2, hF1_3⟩
  have M1 := Mod.trans (Mod.of_mod (Y := [g]) (Mod.refl [] w) (by simp)) (Mod.of_mod (Y := [g]) hM1 (by simp))
  obtain ⟨hlI, hli, hlj⟩ := RotI.len hF1_0
  obtain ⟨_, _, _, cg2, hg2, _⟩ := ORow.blk hF1_3
  refine wp_seq (wp_seq (rg_lit ?_))
  refine wmv (v := .int .i64 (ii : Int)) ?_
  refine wmv (v := .int .i64 (jj : Int)) ?_
  refine wl (sb rfl (r_ne (k := .i64) (m := (ii : Int)) (n := (jj : Int)) (by kernel_rfl) (by kernel_rfl)) ?_)
  intro b3 k4
  refine wnil (then_n ?_)
  refine bcase b3 (fun v5 => ?_) (fun v5 => ?_)
  ·
   have p6 := of_decide_eq_false (k4.trans v5)
   refine wp_cond_false (ebool (b := b3) (by kernel_rfl) v5) ?_
   refine wp_exit (then_x (by nofun) (then_x (by nofun) (inb_hit (then_n (rg_lit ?_)))))
   refine wmv (v := .slice (some ⟨g, 0, none⟩) nn c) ?_
   refine wmv (v := .int .i64 (m : Int)) ?_
   refine wmv (v := .int .i64 (ii : Int)) ?_
   refine wl (sv rfl (v := .int .i64 ((m - ii : Nat) : Int)) (r_sub (k := .i64) (m := (m : Int)) (n := (ii : Int)) (c := ((m - ii : Nat) : Int)) (by kernel_rfl) (by kernel_rfl) ((IntWalk.i64_in _ (by omega)).trans (by omega))) ?_)
   refine wmv (v := .int .i64 (m : Int)) ?_
   refine wmv (v := .int .i64 (ii : Int)) ?_
   refine wmv (v := .func (.func 115) #[] #[]) ?_
   have hq7 : RotI pre A Bb post I1 ii ii := by have h0 := hF1_0; rw [show jj = ii by omega] at h0; exact h0
   obtain ⟨p7, X7, Y7, q7, hI7, hXY7, hY7, hp7, hb7, hR7⟩ := RotI.eq hq7
   obtain ⟨M7, hM7⟩ : ∃ M : List Nat, M = [] := ⟨_, rfl⟩
   rw [← hM7] at hI7 hR7
   have hm7 : M7.length = 0 := by rw [hM7]; rfl
   have ho7 := ORow.to hF1_3 (congrArg (List.map f) hI7)
   refine wl (sc rfl (r_callv (caps := []) (all := [.slice (some ⟨g, 0, none⟩) nn c, .int .i64 ((m - ii : Nat) : Int), .int .i64 (m : Int), .int .i64 (ii : Int), .func (.func 115) #[] #[]]) En.f251 (by kernel_rfl) (by kernel_rfl)) (swapRange_at ho7 hBb hn (by omega) (by omega) (by omega) hXY7) ?_)
   rintro e w8 ⟨rfl, h9, c10⟩
   refine ⟨.tuple #[], rfl, ?_⟩
   have M11 := Mod.trans M1 (Mod.of_chg c10 (by simp))
   have M12 := Mod.trans hM1 (Mod.of_chg c10 (by simp))
   obtain ⟨_, _, _, cg13, hg13, _⟩ := ORow.blk h9
   refine wnil ?_
   refine bodyPost_end (v := .tuple #[]) (res0 rfl ) (by kernel_rfl) ?_
   exact ⟨rfl, ORow.to h9 (by rw [hR7]), (Mod.chg M11)⟩
  have p6 := of_decide_eq_true (k4.trans v5)
  refine wp_cond_true (ebool (b := b3) (by kernel_rfl) v5) ?_
  refine wp_skip (then_n (wp_block (wp_seq (rg_lit ?_))))
  refine wmv (v := .int .i64 (ii : Int)) ?_
  refine wmv (v := .int .i64 (jj : Int)) ?_
  refine wl (sb rfl (r_gt (k := .i64) (m := (ii : Int)) (n := (jj : Int)) (by kernel_rfl) (by kernel_rfl)) ?_)
  intro b7 k8
  refine wnil (then_n ?_)
  refine bcase b7 (fun v9 => ?_) (fun v9 => ?_)
  ·
   have p10 := of_decide_eq_false (k8.trans v9)
   refine wp_cond_false (ebool (b := b7) (by kernel_rfl) v9) ?_
   refine wp_seq (rg_lit ?_)
   refine wmv (v := .slice (some ⟨g, 0, none⟩) nn c) ?_
   refine wmv (v := .int .i64 (m : Int)) ?_
   refine wmv (v := .int .i64 (ii : Int)) ?_
   refine wl (sv rfl (v := .int .i64 ((m - ii : Nat) : Int)) (r_sub (k := .i64) (m := (m : Int)) (n := (ii : Int)) (c := ((m - ii : Nat) : Int)) (by kernel_rfl) (by kernel_rfl) ((IntWalk.i64_in _ (by omega)).trans (by omega))) ?_)
   refine wmv (v := .int .i64 (m : Int)) ?_
   refine wmv (v := .int .i64 (jj : Int)) ?_
   refine wl (sv rfl (v := .int .i64 ((m + jj : Nat) : Int)) (r_add (k := .i64) (m := (m : Int)) (n := (jj : Int)) (c := ((m + jj : Nat) : Int)) (by kernel_rfl) (by kernel_rfl) ((IntWalk.i64_in _ (by omega)).trans (by omega))) ?_)
   refine wmv (v := .int .i64 (ii : Int)) ?_
   refine wl (sv rfl (v := .int .i64 ((m + jj - ii : Nat) : Int)) (r_sub (k := .i64) (m := ((m + jj : Nat) : Int)) (n := (ii : Int)) (c := ((m + jj - ii : Nat) : Int)) (by kernel_rfl) (by kernel_rfl) ((IntWalk.i64_in _ (by omega)).trans (by omega))) ?_)
   refine wmv (v := .int .i64 (ii : Int)) ?_
   refine wmv (v := .func (.func 115) #[] #[]) ?_
   obtain ⟨p11, X11, M11, Y11, q11, hI11, hXY11, hY11, hp11, hb11, hR11⟩ := RotI.lt hF1_0 (by omega)
   have ho11 := ORow.to hF1_3 (congrArg (List.map f) hI11)
   refine wl (sc rfl (r_callv (caps := []) (all := [.slice (some ⟨g, 0, none⟩) nn c, .int .i64 ((m - ii : Nat) : Int), .int .i64 ((m + jj - ii : Nat) : Int), .int .i64 (ii : Int), .func (.func 115) #[] #[]]) En.f251 (by kernel_rfl) (by kernel_rfl)) (swapRange_at ho11 hBb hn (by omega) (by omega) (by omega) hXY11) ?_)
   rintro e w12 ⟨rfl, h13, c14⟩
   refine ⟨.tuple #[], rfl, ?_⟩
   have M15 := Mod.trans M1 (Mod.of_chg c14 (by simp))
   have M16 := Mod.trans hM1 (Mod.of_chg c14 (by simp))
   obtain ⟨_, _, _, cg17, hg17, _⟩ := ORow.blk h13
   refine wnil (then_n (rg_lit ?_))
   refine wmv (v := .int .i64 (jj : Int)) ?_
   refine wmv (v := .int .i64 (ii : Int)) ?_
   refine wl (sv rfl (v := .int .i64 ((jj - ii : Nat) : Int)) (r_sub (k := .i64) (m := (jj : Int)) (n := (ii : Int)) (c := ((jj - ii : Nat) : Int)) (by kernel_rfl) (by kernel_rfl) ((IntWalk.i64_in _ (by omega)).trans (by omega))) ?_)
   refine was (v := .int .i64 ((jj - ii : Nat) : Int)) ?_
   refine wnil (inb_n (then_n ?_))
   refine ⟨ii + (jj - ii), ?_, (p11 ++ (Y11 ++ (M11 ++ (X11 ++ q11)))), ii, (jj - ii), .int .i64 (ii : Int), .int .i64 (jj : Int), .bool b3, .int .i64 (ii : Int), .int .i64 (jj : Int), .bool b7, z24, z25, z26, z27, z28, z29, z30, z31, z32, z33, z34, .slice (some ⟨g, 0, none⟩) nn c, .int .i64 (m : Int), .int .i64 (ii : Int), .int .i64 ((m - ii : Nat) : Int), .int .i64 (m : Int), .int .i64 (jj : Int), .int .i64 ((m + jj : Nat) : Int), .int .i64 (ii : Int), .int .i64 ((m + jj - ii : Nat) : Int), .int .i64 (ii : Int), .func (.func 115) #[] #[], undef, .int .i64 (jj : Int), .int .i64 (ii : Int), .int .i64 ((jj - ii : Nat) : Int), rfl, (by kernel_rfl), M16, hR11, (by omega), (by omega), h13⟩
   · omega
  have p10 := of_decide_eq_true (k8.trans v9)
  refine wp_cond_true (ebool (b := b7) (by kernel_rfl) v9) ?_
  refine wp_seq (rg_lit ?_)
  refine wmv (v := .slice (some ⟨g, 0, none⟩) nn c) ?_
  refine wmv (v := .int .i64 (m : Int)) ?_
  refine wmv (v := .int .i64 (ii : Int)) ?_
  refine wl (sv rfl (v := .int .i64 ((m - ii : Nat) : Int)) (r_sub (k := .i64) (m := (m : Int)) (n := (ii : Int)) (c := ((m - ii : Nat) : Int)) (by kernel_rfl) (by kernel_rfl) ((IntWalk.i64_in _ (by omega)).trans (by omega))) ?_)
  refine wmv (v := .int .i64 (m : Int)) ?_
  refine wmv (v := .int .i64 (jj : Int)) ?_
  refine wmv (v := .func (.func 115) #[] #[]) ?_
  obtain ⟨p11, X11, M11, Y11, q11, hI11, hXY11, hY11, hp11, hb11, hR11⟩ := RotI.gt hF1_0 (by omega)
  have ho11 := ORow.to hF1_3 (congrArg (List.map f) hI11)
  refine wl (sc rfl (r_callv (caps := []) (all := [.slice (some ⟨g, 0, none⟩) nn c, .int .i64 ((m - ii : Nat) : Int), .int .i64 (m : Int), .int .i64 (jj : Int), .func (.func 115) #[] #[]]) En.f251 (by kernel_rfl) (by kernel_rfl)) (swapRange_at ho11 hBb hn (by omega) (by omega) (by omega) hXY11) ?_)
  rintro e w12 ⟨rfl, h13, c14⟩
  refine ⟨.tuple #[], rfl, ?_⟩
  have M15 := Mod.trans M1 (Mod.of_chg c14 (by simp))
  have M16 := Mod.trans hM1 (Mod.of_chg c14 (by simp))
  obtain ⟨_, _, _, cg17, hg17, _⟩ := ORow.blk h13
  refine wnil (then_n (rg_lit ?_))
  refine wmv (v := .int .i64 (ii : Int)) ?_
  refine wmv (v := .int .i64 (jj : Int)) ?_
  refine wl (sv rfl (v := .int .i64 ((ii - jj : Nat) : Int)) (r_sub (k := .i64) (m := (ii : Int)) (n := (jj : Int)) (c := ((ii - jj : Nat) : Int)) (by kernel_rfl) (by kernel_rfl) ((IntWalk.i64_in _ (by omega)).trans (by omega))) ?_)
  refine was (v := .int .i64 ((ii - jj : Nat) : Int)) ?_
  refine wnil (inb_n (then_n ?_))
  refine ⟨(ii - jj) + jj, ?_, (p11 ++ (Y11 ++ (M11 ++ (X11 ++ q11)))), (ii - jj), jj, .int .i64 (ii : Int), .int .i64 (jj : Int), .bool b3, .int .i64 (ii : Int), .int .i64 (jj : Int), .bool b7, .slice (some ⟨g, 0, none⟩) nn c, .int .i64 (m : Int), .int .i64 (ii : Int), .int .i64 ((m - ii : Nat) : Int), .int .i64 (m : Int), .int .i64 (jj : Int), .func (.func 115) #[] #[], undef, .int .i64 (ii : Int), .int .i64 (jj : Int), .int .i64 ((ii - jj : Nat) : Int), z35, z36, z37, z38, z39, z40, z41, z42, z43, z44, z45, z46, z47, z48, z49, rfl, (by kernel_rfl), M16, hR11, (by omega), (by omega), h13⟩
  · omega
end Go.Proofs.YtefhfoioeoijlaaGreatDoor

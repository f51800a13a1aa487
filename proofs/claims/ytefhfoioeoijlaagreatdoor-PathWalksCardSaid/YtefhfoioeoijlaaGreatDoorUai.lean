/- GKE -/
import Derived.Test.YtefhfoioeoijlaaGreatDoorUag
import Derived.Test.YtefhfoioeoijlaaGreatDoorUah
set_option linter.unusedVariables false
set_option linter.unusedSimpArgs false
namespace Go.Proofs.YtefhfoioeoijlaaGreatDoor
open Go Go.RowKit Go.Sort
set_option maxHeartbeats 2000000 in
theorem swapRange_atE {B base : Nat} {w : World} {g nn c : Nat} {f : Nat → EntD} {pre X mid Y post : List Nat} (h : ERow 35 B base w (.slice (some ⟨g, 0, none⟩) nn c) ((pre ++ (X ++ (mid ++ (Y ++ post)))).map f)) (hBb : B ≤ base) (hn : nn ≤ 1000000) {NN : Nat} (hNN : ∀ i, (f i).name.data.toList.length ≤ NN) {ia ib q : Nat} (ha : pre.length = ia) (hb : ia + X.length + mid.length = ib) (hq : Y.length = q) (hXY : X.length = Y.length) :
    Calls Tryz.prog 231 #[.slice (some ⟨g, 0, none⟩) nn c, .int .i64 ia, .int .i64 ib, .int .i64 q, .func (.func 60) #[] #[]] w fun e w' => e = .returned (.tuple #[]) ∧ ERow 35 B base w' (.slice (some ⟨g, 0, none⟩) nn c) ((pre ++ (Y ++ (mid ++ (X ++ post)))).map f) ∧ Chg w w' g := by
  obtain ⟨hnL, hnc, hcm, cu0, hg, hcs0⟩ := ERow.blk h
  have hBg := ERow.ge h hBb
  have hn0 : nn = pre.length + (X.length + (mid.length + (Y.length + post.length))) := by simpa using hnL
  go_enter Tryz.func231, Tryz.ntmps231
  refine wp_seq (rg_lit (was (v := I_ 0) (wnil (then_n (wp_block ?_)))))
  refine lp (fun n a r1 => ∃ (I1 : List Nat) (kk : Nat), (n = q - kk) ∧ (HasFr a 38 [(0, sl g 0 nn c), (1, I_ ia), (2, I_ ib), (3, I_ q), (10, I_ kk)] []) ∧ (Mod [g] w r1) ∧ (SwI pre X mid Y post I1 kk) ∧ (kk ≤ q) ∧ (ERow 35 B base r1 (sl g 0 nn c) (I1.map f))) ⟨_, (pre ++ (X ++ (mid ++ (Y ++ post)))), 0, rfl, hmk, Mod.refl _ _, (SwI.first _ _ _ _ _), (Nat.zero_le _), h⟩ ?_
  rintro _ _ r1 ⟨I1, kk, rfl, h1, hM1, hF1_0, _, hF1_2⟩
  obtain ⟨_, rfl⟩ := h1
  have M2 := Mod.trans (Mod.of_mod (Y := [g]) (Mod.refl [] w) (by simp)) (Mod.of_mod (Y := [g]) hM1 (by simp))
  have hlI := SwI.len hF1_0
  obtain ⟨_, _, _, _, _, _⟩ := ERow.blk hF1_2
  refine wp_seq (wp_seq (rg_lit (wmv (v := I_ kk) (wmv (v := I_ q) (wl (sb rfl (ltI kk q) fun _ k5 => wnil (then_n ?_)))))))
  refine bcd k5 (fun v6 p7 => ?_) (fun v6 p7 => ?_)
  ·
   refine wp_cond_false (ebk v6) (wp_exit (then_x (by nofun) (then_x (by nofun) (inb_hit ?_))))
   refine bodyPost_end (v := .tuple #[]) (res0 rfl ) (by kernel_rfl) ?_
   exact ⟨rfl, ERow.to hF1_2 (by rw [SwI.fin hF1_0 hXY (by omega)]), (Mod.chg M2)⟩
  refine wp_cond_true (ebk v6) (wp_skip (then_n (wp_seq (wp_block ?_))))
  refine rg_held [g] (n := 24) (by kernel_rfl) rfl ?_
  intro w10 u11
  have M13 := mtu hM1 u11
  refine hqm 0 23 rfl (v := sl g 0 nn c) (hqm 1 22 rfl (v := I_ ia) (hqm 2 21 rfl (v := I_ kk) (hqk 3 20 rfl rfl (v := N_ (ia + kk)) (fun _ _ => adN ia kk) (hqm 4 19 rfl (v := sl g 0 nn c) (hqm 5 18 rfl (v := I_ ib) (hqm 6 17 rfl (v := I_ kk) (hqk 7 16 rfl rfl (v := N_ (ib + kk)) (fun _ _ => adN ib kk) (hqm 8 15 rfl (v := sl g 0 nn c) ?_))))))))
  refine hqm 9 14 rfl (v := I_ ib) (hqm 10 13 rfl (v := I_ kk) (hqk 11 12 rfl rfl (v := N_ (ib + kk)) (fun _ _ => adN ib kk) (hqk 12 11 rfl rfl (v := pt g ((ib + kk) * 5)) (fun _ _ => ixa (A := some ⟨g, 0, none⟩) nn c 5 ((ib + kk : Nat) : Int) rfl Ty.un29 Ty.sz35) (hqm 14 10 rfl (v := sl g 0 nn c) (hqm 15 9 rfl (v := I_ ia) (hqm 16 8 rfl (v := I_ kk) (hqk 17 7 rfl rfl (v := N_ (ia + kk)) (fun _ _ => adN ia kk) (hqk 18 6 rfl rfl (v := pt g ((ia + kk) * 5)) (fun _ _ => ixa (A := some ⟨g, 0, none⟩) nn c 5 ((ia + kk : Nat) : Int) rfl Ty.un29 Ty.sz35) ?_))))))))
  refine h2a 13 19 5 rfl rfl ?_ ?_
  ·
   have h14 := (ERow.up hF1_2 u11)
   obtain ⟨x15, hx15⟩ : ∃ x, I1[ib + kk]? = some x := ⟨_, List.getElem?_eq_getElem (by omega)⟩
   obtain ⟨cu16, hb16, he16⟩ := ERow.elem h14 (map_gete hx15)
   refine sv rfl (v := .agg #[S_ ((f x15).name), I_ ((f x15).node.t), I_ ((f x15).node.w), B_ ((f x15).dir), I_ ((f x15).size)]) (r_loads (k := (ib + kk) * 5) (vs := [S_ ((f x15).name), I_ ((f x15).node.t), I_ ((f x15).node.w), B_ ((f x15).dir), I_ ((f x15).size)]) (by kernel_rfl) Ty.ag35 Ty.sz35 hb16 (el_sub0 he16 rfl)) ?_
   refine hx (Y := [g]) (Mod.refl _ _) (fun y hy => .inl hy) ?_
   obtain ⟨x17, hx17⟩ : ∃ x, I1[ia + kk]? = some x := ⟨_, List.getElem?_eq_getElem (by omega)⟩
   obtain ⟨cu18, hb18, he18⟩ := ERow.elem h14 (map_gete hx17)
   refine h1a 19 4 rfl (sv rfl (v := .agg #[S_ ((f x17).name), I_ ((f x17).node.t), I_ ((f x17).node.w), B_ ((f x17).dir), I_ ((f x17).size)]) (r_loads (k := (ia + kk) * 5) (vs := [S_ ((f x17).name), I_ ((f x17).node.t), I_ ((f x17).node.w), B_ ((f x17).dir), I_ ((f x17).size)]) (by kernel_rfl) Ty.ag35 Ty.sz35 hb18 (el_sub0 he18 rfl)) ?_)
   refine hx (Y := [g]) (Mod.refl _ _) (fun y hy => .inl hy) ?_
   refine hqk 20 3 rfl rfl (v := pt g ((ia + kk) * 5)) (fun _ _ => ixa (A := some ⟨g, 0, none⟩) nn c 5 ((ia + kk : Nat) : Int) rfl Ty.un29 Ty.sz35) ?_
   obtain ⟨cu19, hb19, hk19, hp19⟩ := ERow.put (i := ia + kk) h14 (by simp; omega)
   refine h1a 21 2 rfl (ss rfl (k := (ia + kk) * 5) (v := .agg #[S_ ((f x15).name), I_ ((f x15).node.t), I_ ((f x15).node.w), B_ ((f x15).dir), I_ ((f x15).size)]) (vs := [S_ ((f x15).name), I_ ((f x15).node.t), I_ ((f x15).node.w), B_ ((f x15).dir), I_ ((f x15).size)]) (cs' := _) (by kernel_rfl) (by kernel_rfl) rfl Ty.sz35 hb19 rfl hk19 rfl fun w20 h21 c22 => ?_)
   have hr19 := hp19 _ h21 c22
   rw [map_sete] at hr19
   obtain ⟨_, _, _, cg25, hg25, _⟩ := ERow.blk hr19
   refine hxc c22 (hqk 22 1 rfl rfl (v := pt g ((ib + kk) * 5)) (fun _ _ => ixa (A := some ⟨g, 0, none⟩) nn c 5 ((ib + kk : Nat) : Int) rfl Ty.un29 Ty.sz35) ?_)
   obtain ⟨cu26, hb26, hk26, hp26⟩ := ERow.put (i := ib + kk) hr19 (by simp; omega)
   refine h1a 23 0 rfl (ss rfl (k := (ib + kk) * 5) (v := .agg #[S_ ((f x17).name), I_ ((f x17).node.t), I_ ((f x17).node.w), B_ ((f x17).dir), I_ ((f x17).size)]) (vs := [S_ ((f x17).name), I_ ((f x17).node.t), I_ ((f x17).node.w), B_ ((f x17).dir), I_ ((f x17).size)]) (cs' := _) (by kernel_rfl) (by kernel_rfl) rfl Ty.sz35 hb26 rfl hk26 rfl fun w27 h28 c29 => ?_)
   have hr26 := hp26 _ h28 c29
   rw [map_sete] at hr26
   obtain ⟨_, _, _, cg32, hg32, _⟩ := ERow.blk hr26
   refine hxc c29 ?_
   refine hend (by kernel_rfl) ?_
   refine inb_n (then_n (rg_lit (wmv (v := I_ kk) (wlv (v := N_ (kk + 1)) (adN kk 1) (was (v := N_ (kk + 1)) (wnil (then_n ?_)))))))
   refine ⟨q - (kk + 1), ?_, ((I1.set (ia + kk) x15).set (ib + kk) x17), (kk + 1), rfl, hmk, (mtx (mtx M13 c22) c29), (SwI.step hF1_0 hXY (by omega) ha hb hx17 hx15), (by omega), hr26⟩
   · omega
  ·
   have h14 := (ERow.up hF1_2 u11)
   obtain ⟨x15, hx15⟩ : ∃ x, I1[ia + kk]? = some x := ⟨_, List.getElem?_eq_getElem (by omega)⟩
   obtain ⟨cu16, hb16, he16⟩ := ERow.elem h14 (map_gete hx15)
   refine sv rfl (v := .agg #[S_ ((f x15).name), I_ ((f x15).node.t), I_ ((f x15).node.w), B_ ((f x15).dir), I_ ((f x15).size)]) (r_loads (k := (ia + kk) * 5) (vs := [S_ ((f x15).name), I_ ((f x15).node.t), I_ ((f x15).node.w), B_ ((f x15).dir), I_ ((f x15).size)]) (by kernel_rfl) Ty.ag35 Ty.sz35 hb16 (el_sub0 he16 rfl)) ?_
   refine hx (Y := [g]) (Mod.refl _ _) (fun y hy => .inl hy) ?_
   obtain ⟨x17, hx17⟩ : ∃ x, I1[ib + kk]? = some x := ⟨_, List.getElem?_eq_getElem (by omega)⟩
   obtain ⟨cu18, hb18, he18⟩ := ERow.elem h14 (map_gete hx17)
   refine h1a 13 4 rfl (sv rfl (v := .agg #[S_ ((f x17).name), I_ ((f x17).node.t), I_ ((f x17).node.w), B_ ((f x17).dir), I_ ((f x17).size)]) (r_loads (k := (ib + kk) * 5) (vs := [S_ ((f x17).name), I_ ((f x17).node.t), I_ ((f x17).node.w), B_ ((f x17).dir), I_ ((f x17).size)]) (by kernel_rfl) Ty.ag35 Ty.sz35 hb18 (el_sub0 he18 rfl)) ?_)
   refine hx (Y := [g]) (Mod.refl _ _) (fun y hy => .inl hy) ?_
   refine hqk 20 3 rfl rfl (v := pt g ((ia + kk) * 5)) (fun _ _ => ixa (A := some ⟨g, 0, none⟩) nn c 5 ((ia + kk : Nat) : Int) rfl Ty.un29 Ty.sz35) ?_
   obtain ⟨cu19, hb19, hk19, hp19⟩ := ERow.put (i := ia + kk) h14 (by simp; omega)
   refine h1a 21 2 rfl (ss rfl (k := (ia + kk) * 5) (v := .agg #[S_ ((f x17).name), I_ ((f x17).node.t), I_ ((f x17).node.w), B_ ((f x17).dir), I_ ((f x17).size)]) (vs := [S_ ((f x17).name), I_ ((f x17).node.t), I_ ((f x17).node.w), B_ ((f x17).dir), I_ ((f x17).size)]) (cs' := _) (by kernel_rfl) (by kernel_rfl) rfl Ty.sz35 hb19 rfl hk19 rfl fun w20 h21 c22 => ?_)
   have hr19 := hp19 _ h21 c22
   rw [map_sete] at hr19
   obtain ⟨_, _, _, cg25, hg25, _⟩ := ERow.blk hr19
   refine hxc c22 (hqk 22 1 rfl rfl (v := pt g ((ib + kk) * 5)) (fun _ _ => ixa (A := some ⟨g, 0, none⟩) nn c 5 ((ib + kk : Nat) : Int) rfl Ty.un29 Ty.sz35) ?_)
   obtain ⟨cu26, hb26, hk26, hp26⟩ := ERow.put (i := ib + kk) hr19 (by simp; omega)
   refine h1a 23 0 rfl (ss rfl (k := (ib + kk) * 5) (v := .agg #[S_ ((f x15).name), I_ ((f x15).node.t), I_ ((f x15).node.w), B_ ((f x15).dir), I_ ((f x15).size)]) (vs := [S_ ((f x15).name), I_ ((f x15).node.t), I_ ((f x15).node.w), B_ ((f x15).dir), I_ ((f x15).size)]) (cs' := _) (by kernel_rfl) (by kernel_rfl) rfl Ty.sz35 hb26 rfl hk26 rfl fun w27 h28 c29 => ?_)
   have hr26 := hp26 _ h28 c29
   rw [map_sete] at hr26
   obtain ⟨_, _, _, cg32, hg32, _⟩ := ERow.blk hr26
   refine hxc c29 ?_
   refine hend (by kernel_rfl) ?_
   refine inb_n (then_n (rg_lit (wmv (v := I_ kk) (wlv (v := N_ (kk + 1)) (adN kk 1) (was (v := N_ (kk + 1)) (wnil (then_n ?_)))))))
   refine ⟨q - (kk + 1), ?_, ((I1.set (ia + kk) x17).set (ib + kk) x15), (kk + 1), rfl, hmk, (mtx (mtx M13 c22) c29), (SwI.step hF1_0 hXY (by omega) ha hb hx15 hx17), (by omega), hr26⟩
   · omega
set_option maxHeartbeats 2000000 in
theorem insertion_atE {B base : Nat} {w : World} {g nn c : Nat} {f : Nat → EntD} {pre X post : List Nat} (h : ERow 35 B base w (.slice (some ⟨g, 0, none⟩) nn c) ((pre ++ (X ++ post)).map f)) (hBb : B ≤ base) (hn : nn ≤ 1000000) {NN : Nat} (hNN : ∀ i, (f i).name.data.toList.length ≤ NN) {ia ib : Nat} (ha : pre.length = ia) (hb : ia + X.length = ib) (hX0 : X.Pairwise (· < ·)) :
    Calls Tryz.prog 162 #[.slice (some ⟨g, 0, none⟩) nn c, .int .i64 ia, .int .i64 ib, .func (.func 60) #[] #[]] w fun e w' => ∃ C, e = .returned (.tuple #[]) ∧ ERow 35 B base w' (.slice (some ⟨g, 0, none⟩) nn c) ((pre ++ (C ++ post)).map f) ∧ C.Pairwise (lx (ky NN f)) ∧ C.Perm X ∧ Chg w w' g := by
  obtain ⟨hnL, hnc, hcm, cu0, hg, hcs0⟩ := ERow.blk h
  have hBg := ERow.ge h hBb
  have hn0 : nn = pre.length + (X.length + post.length) := by simpa using hnL
  go_enter Tryz.func162, Tryz.ntmps162
  refine wp_seq (rg_lit (wmv (v := I_ ia) (wlv (v := N_ (ia + 1)) (adN ia 1) (was (v := N_ (ia + 1)) (wnil (then_n (wp_block ?_)))))))
  refine lp (fun n a r1 => ∃ (I1 : List Nat) (ii : Nat), (n = ib - ii) ∧ (HasFr a 53 [(0, sl g 0 nn c), (1, I_ ia), (2, I_ ib), (3, .func (.func 60) #[] #[]), (8, I_ ii)] []) ∧ (Mod [g] w r1) ∧ (InsO (ky NN f) pre X post I1 ii) ∧ (ii ≤ nn + 1) ∧ (ERow 35 B base r1 (sl g 0 nn c) (I1.map f))) ⟨_, (pre ++ (X ++ post)), (ia + 1), rfl, hmk, Mod.refl _ _, (by rw [← ha]; exact InsO.first _ _ _), (by omega), h⟩ ?_
  rintro _ _ r1 ⟨I1, ii, rfl, h1, hM1, hF1_0, _, hF1_2⟩
  obtain ⟨_, rfl⟩ := h1
  have M2 := Mod.trans (Mod.of_mod (Y := [g]) (Mod.refl [] w) (by simp)) (Mod.of_mod (Y := [g]) hM1 (by simp))
  obtain ⟨_, _, _, _, _, _⟩ := ERow.blk hF1_2
  refine wp_seq (wp_seq (rg_lit (wmv (v := I_ ii) (wmv (v := I_ ib) (wl (sb rfl (ltI ii ib) fun _ k5 => wnil (then_n ?_)))))))
  refine bcd k5 (fun v6 p7 => ?_) (fun v6 p7 => ?_)
  ·
   refine wp_cond_false (ebk v6) (wp_exit (then_x (by nofun) (then_x (by nofun) (inb_hit ?_))))
   refine bodyPost_end (v := .tuple #[]) (res0 rfl ) (by kernel_rfl) ?_
   obtain ⟨C, hC1, hC2, hC3⟩ := InsO.fin hF1_0 (by omega)
   exact ⟨C, rfl, ERow.to hF1_2 (by rw [hC1]), hC2, hC3, (Mod.chg M2)⟩
  refine wp_cond_true (ebk v6) (wp_skip (then_n (wp_seq (wp_block (wp_seq (rg_lit (wmv (v := I_ ii) (was (v := I_ ii) (wnil (then_n (wp_block ?_)))))))))))
  refine lp (fun n a r2 => ∃ (I2 : List Nat) (jj : Nat), (n = jj + 1) ∧ (HasFr a 53 [(0, sl g 0 nn c), (1, I_ ia), (2, I_ ib), (3, .func (.func 60) #[] #[]), (8, I_ ii), (9, I_ jj)] []) ∧ (Mod [g] r1 r2) ∧ (InsI (ky NN f) pre X post I2 ii jj) ∧ (ERow 35 B base r2 (sl g 0 nn c) (I2.map f))) ⟨_, I1, ii, rfl, hmk, Mod.refl _ _, (InsO.toI hF1_0 (by omega)), hF1_2⟩ ?_
  rintro _ _ r2 ⟨I2, jj, rfl, h10, hM2, hF2_0, hF2_1⟩
  obtain ⟨_, rfl⟩ := h10
  have M11 := Mod.trans M2 (Mod.of_mod hM2 (by simp))
  have M12 := Mod.trans hM1 (Mod.of_mod hM2 (by simp))
  obtain ⟨hlI, hlj, hli⟩ := InsI.len hF2_0
  obtain ⟨_, _, _, _, _, _⟩ := ERow.blk hF2_1
  refine wp_seq (wp_seq ?_)
  refine rg_tail 14 (by kernel_rfl) (by kernel_rfl) rfl rfl ?_
  refine qmv (v := I_ jj) (qmv (v := I_ ia) ?_)
  refine qb rfl (fun _ _ => r_gt (k := .i64) (m := (jj : Int)) (n := (ia : Int)) (by kernel_rfl) (by kernel_rfl)) fun b14 k15 => ?_
  refine qmv (v := B_ b14) ?_
  refine bcd k15 (fun v16 p17 => ?_) (fun v16 p17 => ?_)
  ·
   iterate 10 refine qls rfl v16 ?_
   refine qnil fun _ u19 => ?_
   iterate 2 refine wls rfl v16 ?_
   refine wlv (v := B_ false) (pkF (ebk v16)) (wnil (then_n (wp_cond_false (by kernel_rfl) (wp_exit (then_x (by nofun) (then_x (by nofun) (inb_hit (inb_n (then_n (rg_lit (wmv (v := I_ ii) (wlv (v := N_ (ii + 1)) (adN ii 1) (was (v := N_ (ii + 1)) (wnil (then_n ?_)))))))))))))))
   refine ⟨ib - (ii + 1), ?_, I2, (ii + 1), rfl, hmk, (mtu M12 u19), (InsI.done hF2_0 hX0 (.inl (by omega))), (by omega), (ERow.up hF2_1 u19)⟩
   · omega
  refine qv (wt (b := b14) rfl (by kernel_rfl) v16) (v := .func (.func 60) #[] #[]) (fun _ _ => mv) (qv (wt (b := b14) rfl (by kernel_rfl) v16) (v := sl g 0 nn c) (fun _ _ => mv) (qv (wt (b := b14) rfl (by kernel_rfl) v16) (v := I_ jj) (fun _ _ => mv) (qv (wt (b := b14) rfl (by kernel_rfl) v16) (v := pt g (jj * 5)) (fun _ _ => ixa (A := some ⟨g, 0, none⟩) nn c 5 jj rfl Ty.un29 Ty.sz35) ?_)))
  obtain ⟨x18, hx18⟩ : ∃ x, I2[jj]? = some x := ⟨_, List.getElem?_eq_getElem (by omega)⟩
  obtain ⟨_, hb19, he19⟩ := ERow.elem hF2_1 (map_gete hx18)
  refine qv (wt (b := b14) rfl (by kernel_rfl) v16) (v := .agg #[S_ ((f x18).name), I_ ((f x18).node.t), I_ ((f x18).node.w), B_ ((f x18).dir), I_ ((f x18).size)]) (fun _ uz => r_loads (k := jj * 5) (vs := [S_ ((f x18).name), I_ ((f x18).node.t), I_ ((f x18).node.w), B_ ((f x18).dir), I_ ((f x18).size)]) (by kernel_rfl) Ty.ag35 Ty.sz35 (up_ob uz hb19) (el_sub0 he19 rfl)) (qv (wt (b := b14) rfl (by kernel_rfl) v16) (v := sl g 0 nn c) (fun _ _ => mv) (qv (wt (b := b14) rfl (by kernel_rfl) v16) (v := I_ jj) (fun _ _ => mv) (qv (wt (b := b14) rfl (by kernel_rfl) v16) (v := N_ (jj - 1)) (fun _ _ => sbN jj 1) (qv (wt (b := b14) rfl (by kernel_rfl) v16) (v := pt g ((jj - 1) * 5)) (fun _ _ => ixa (A := some ⟨g, 0, none⟩) nn c 5 ((jj - 1 : Nat) : Int) rfl Ty.un29 Ty.sz35) ?_))))
  obtain ⟨x20, hx20⟩ : ∃ x, I2[jj - 1]? = some x := ⟨_, List.getElem?_eq_getElem (by omega)⟩
  obtain ⟨_, hb21, he21⟩ := ERow.elem hF2_1 (map_gete hx20)
  refine qv (wt (b := b14) rfl (by kernel_rfl) v16) (v := .agg #[S_ ((f x20).name), I_ ((f x20).node.t), I_ ((f x20).node.w), B_ ((f x20).dir), I_ ((f x20).size)]) (fun _ uz => r_loads (k := (jj - 1) * 5) (vs := [S_ ((f x20).name), I_ ((f x20).node.t), I_ ((f x20).node.w), B_ ((f x20).dir), I_ ((f x20).size)]) (by kernel_rfl) Ty.ag35 Ty.sz35 (up_ob uz hb21) (el_sub0 he21 rfl)) ?_
  refine qnil fun _ u23 => ?_
  refine wl (sc (wt (b := b14) rfl (by kernel_rfl) v16) (r_callv (caps := []) (all := [.agg #[S_ ((f x18).name), I_ ((f x18).node.t), I_ ((f x18).node.w), B_ ((f x18).dir), I_ ((f x18).size)], .agg #[S_ ((f x20).name), I_ ((f x20).node.t), I_ ((f x20).node.w), B_ ((f x20).dir), I_ ((f x20).size)]]) En.f60 (by kernel_rfl) (by kernel_rfl)) (ecompare_at (f x18) (f x20) (hNN _) (hNN _)) ?_)
  rintro e _ ⟨rfl, u28⟩
  refine ⟨_, rfl, ?_⟩
  refine wl (sb (wt (b := b14) rfl (by kernel_rfl) v16) (ltI (cmpS (keyE NN (f x18)).at_ (keyE NN (f x20)).at_) 0) fun b32 k33 => wlv (v := B_ b32) (pkT (ebk v16)) (wnil (then_n ?_)))
  refine bcd k33 (fun v34 p35 => ?_) (fun v34 p35 => ?_)
  ·
   refine wp_cond_false (ebk v34) (wp_exit (then_x (by nofun) (then_x (by nofun) (inb_hit (inb_n (then_n (rg_lit (wmv (v := I_ ii) (wlv (v := N_ (ii + 1)) (adN ii 1) (was (v := N_ (ii + 1)) (wnil (then_n ?_))))))))))))
   refine ⟨ib - (ii + 1), ?_, I2, (ii + 1), rfl, hmk, (mtu (mtu M12 u23) u28), (InsI.done hF2_0 hX0 (.inr ⟨_, _, hx18, hx20, cmpS_no p35⟩)), (by omega), (ERow.up hF2_1 (up_up u23 u28))⟩
   · omega
  refine wp_cond_true (ebk v34) (wp_skip (then_n (wp_seq (wp_block ?_))))
  refine rg_held [g] (n := 18) (by kernel_rfl) rfl ?_
  intro w36 u37
  have M40 := mtu (mtu (mtu hM2 u23) u28) u37
  refine hqm 0 17 rfl (v := sl g 0 nn c) (hqm 1 16 rfl (v := I_ jj) (hqm 2 15 rfl (v := sl g 0 nn c) (hqm 3 14 rfl (v := I_ jj) (hqk 4 13 rfl rfl (v := N_ (jj - 1)) (fun _ _ => sbN jj 1) (hqm 5 12 rfl (v := sl g 0 nn c) (hqm 6 11 rfl (v := I_ jj) (hqk 7 10 rfl rfl (v := N_ (jj - 1)) (fun _ _ => sbN jj 1) (hqk 8 9 rfl rfl (v := pt g ((jj - 1) * 5)) (fun _ _ => ixa (A := some ⟨g, 0, none⟩) nn c 5 ((jj - 1 : Nat) : Int) rfl Ty.un29 Ty.sz35) ?_))))))))
  refine hqm 10 8 rfl (v := sl g 0 nn c) (hqm 11 7 rfl (v := I_ jj) (hqk 12 6 rfl rfl (v := pt g (jj * 5)) (fun _ _ => ixa (A := some ⟨g, 0, none⟩) nn c 5 jj rfl Ty.un29 Ty.sz35) ?_))
  refine h2a 9 13 5 rfl rfl ?_ ?_
  ·
   have h41 := (ERow.up hF2_1 (up_up (up_up u23 u28) u37))
   obtain ⟨cu42, hb42, he42⟩ := ERow.elem h41 (map_gete hx20)
   refine sv rfl (v := .agg #[S_ ((f x20).name), I_ ((f x20).node.t), I_ ((f x20).node.w), B_ ((f x20).dir), I_ ((f x20).size)]) (r_loads (k := (jj - 1) * 5) (vs := [S_ ((f x20).name), I_ ((f x20).node.t), I_ ((f x20).node.w), B_ ((f x20).dir), I_ ((f x20).size)]) (by kernel_rfl) Ty.ag35 Ty.sz35 hb42 (el_sub0 he42 rfl)) ?_
   refine hx (Y := [g]) (Mod.refl _ _) (fun y hy => .inl hy) ?_
   obtain ⟨cu43, hb43, he43⟩ := ERow.elem h41 (map_gete hx18)
   refine h1a 13 4 rfl (sv rfl (v := .agg #[S_ ((f x18).name), I_ ((f x18).node.t), I_ ((f x18).node.w), B_ ((f x18).dir), I_ ((f x18).size)]) (r_loads (k := jj * 5) (vs := [S_ ((f x18).name), I_ ((f x18).node.t), I_ ((f x18).node.w), B_ ((f x18).dir), I_ ((f x18).size)]) (by kernel_rfl) Ty.ag35 Ty.sz35 hb43 (el_sub0 he43 rfl)) ?_)
   refine hx (Y := [g]) (Mod.refl _ _) (fun y hy => .inl hy) ?_
   refine hqk 14 3 rfl rfl (v := pt g (jj * 5)) (fun _ _ => ixa (A := some ⟨g, 0, none⟩) nn c 5 jj rfl Ty.un29 Ty.sz35) ?_
   obtain ⟨cu44, hb44, hk44, hp44⟩ := ERow.put (i := jj) h41 (by simp; omega)
   refine h1a 15 2 rfl (ss rfl (k := jj * 5) (v := .agg #[S_ ((f x20).name), I_ ((f x20).node.t), I_ ((f x20).node.w), B_ ((f x20).dir), I_ ((f x20).size)]) (vs := [S_ ((f x20).name), I_ ((f x20).node.t), I_ ((f x20).node.w), B_ ((f x20).dir), I_ ((f x20).size)]) (cs' := _) (by kernel_rfl) (by kernel_rfl) rfl Ty.sz35 hb44 rfl hk44 rfl fun w45 h46 c47 => ?_)
   have hr44 := hp44 _ h46 c47
   rw [map_sete] at hr44
   obtain ⟨_, _, _, cg51, hg51, _⟩ := ERow.blk hr44
   refine hxc c47 (hqk 16 1 rfl rfl (v := pt g ((jj - 1) * 5)) (fun _ _ => ixa (A := some ⟨g, 0, none⟩) nn c 5 ((jj - 1 : Nat) : Int) rfl Ty.un29 Ty.sz35) ?_)
   obtain ⟨cu52, hb52, hk52, hp52⟩ := ERow.put (i := jj - 1) hr44 (by simp; omega)
   refine h1a 17 0 rfl (ss rfl (k := (jj - 1) * 5) (v := .agg #[S_ ((f x18).name), I_ ((f x18).node.t), I_ ((f x18).node.w), B_ ((f x18).dir), I_ ((f x18).size)]) (vs := [S_ ((f x18).name), I_ ((f x18).node.t), I_ ((f x18).node.w), B_ ((f x18).dir), I_ ((f x18).size)]) (cs' := _) (by kernel_rfl) (by kernel_rfl) rfl Ty.sz35 hb52 rfl hk52 rfl fun w53 h54 c55 => ?_)
   have hr52 := hp52 _ h54 c55
   rw [map_sete] at hr52
   obtain ⟨_, _, _, cg59, hg59, _⟩ := ERow.blk hr52
   refine hxc c55 ?_
   refine hend (by kernel_rfl) ?_
   refine inb_n (then_n (rg_lit (wmv (v := I_ jj) (wlv (v := N_ (jj - 1)) (sbN jj 1) (was (v := N_ (jj - 1)) (wnil (then_n ?_)))))))
   refine ⟨(jj - 1) + 1, ?_, ((I2.set jj x20).set (jj - 1) x18), (jj - 1), rfl, hmk, (mtx (mtx M40 c47) c55), (InsI.swap hF2_0 (by omega) hx18 hx20 (cmpS_yes p35)), hr52⟩
   · omega
  ·
   have h41 := (ERow.up hF2_1 (up_up (up_up u23 u28) u37))
   obtain ⟨cu42, hb42, he42⟩ := ERow.elem h41 (map_gete hx18)
   refine sv rfl (v := .agg #[S_ ((f x18).name), I_ ((f x18).node.t), I_ ((f x18).node.w), B_ ((f x18).dir), I_ ((f x18).size)]) (r_loads (k := jj * 5) (vs := [S_ ((f x18).name), I_ ((f x18).node.t), I_ ((f x18).node.w), B_ ((f x18).dir), I_ ((f x18).size)]) (by kernel_rfl) Ty.ag35 Ty.sz35 hb42 (el_sub0 he42 rfl)) ?_
   refine hx (Y := [g]) (Mod.refl _ _) (fun y hy => .inl hy) ?_
   obtain ⟨cu43, hb43, he43⟩ := ERow.elem h41 (map_gete hx20)
   refine h1a 9 4 rfl (sv rfl (v := .agg #[S_ ((f x20).name), I_ ((f x20).node.t), I_ ((f x20).node.w), B_ ((f x20).dir), I_ ((f x20).size)]) (r_loads (k := (jj - 1) * 5) (vs := [S_ ((f x20).name), I_ ((f x20).node.t), I_ ((f x20).node.w), B_ ((f x20).dir), I_ ((f x20).size)]) (by kernel_rfl) Ty.ag35 Ty.sz35 hb43 (el_sub0 he43 rfl)) ?_)
   refine hx (Y := [g]) (Mod.refl _ _) (fun y hy => .inl hy) ?_
   refine hqk 14 3 rfl rfl (v := pt g (jj * 5)) (fun _ _ => ixa (A := some ⟨g, 0, none⟩) nn c 5 jj rfl Ty.un29 Ty.sz35) ?_
   obtain ⟨cu44, hb44, hk44, hp44⟩ := ERow.put (i := jj) h41 (by simp; omega)
   refine h1a 15 2 rfl (ss rfl (k := jj * 5) (v := .agg #[S_ ((f x20).name), I_ ((f x20).node.t), I_ ((f x20).node.w), B_ ((f x20).dir), I_ ((f x20).size)]) (vs := [S_ ((f x20).name), I_ ((f x20).node.t), I_ ((f x20).node.w), B_ ((f x20).dir), I_ ((f x20).size)]) (cs' := _) (by kernel_rfl) (by kernel_rfl) rfl Ty.sz35 hb44 rfl hk44 rfl fun w45 h46 c47 => ?_)
   have hr44 := hp44 _ h46 c47
   rw [map_sete] at hr44
   obtain ⟨_, _, _, cg51, hg51, _⟩ := ERow.blk hr44
   refine hxc c47 (hqk 16 1 rfl rfl (v := pt g ((jj - 1) * 5)) (fun _ _ => ixa (A := some ⟨g, 0, none⟩) nn c 5 ((jj - 1 : Nat) : Int) rfl Ty.un29 Ty.sz35) ?_)
   obtain ⟨cu52, hb52, hk52, hp52⟩ := ERow.put (i := jj - 1) hr44 (by simp; omega)
   refine h1a 17 0 rfl (ss rfl (k := (jj - 1) * 5) (v := .agg #[S_ ((f x18).name), I_ ((f x18).node.t), I_ ((f x18).node.w), B_ ((f x18).dir), I_ ((f x18).size)]) (vs := [S_ ((f x18).name), I_ ((f x18).node.t), I_ ((f x18).node.w), B_ ((f x18).dir), I_ ((f x18).size)]) (cs' := _) (by kernel_rfl) (by kernel_rfl) rfl Ty.sz35 hb52 rfl hk52 rfl fun w53 h54 c55 => ?_)
   have hr52 := hp52 _ h54 c55
   rw [map_sete] at hr52
   obtain ⟨_, _, _, cg59, hg59, _⟩ := ERow.blk hr52
   refine hxc c55 ?_
   refine hend (by kernel_rfl) ?_
   refine inb_n (then_n (rg_lit (wmv (v := I_ jj) (wlv (v := N_ (jj - 1)) (sbN jj 1) (was (v := N_ (jj - 1)) (wnil (then_n ?_)))))))
   refine ⟨(jj - 1) + 1, ?_, ((I2.set jj x20).set (jj - 1) x18), (jj - 1), rfl, hmk, (mtx (mtx M40 c47) c55), (InsI.swap hF2_0 (by omega) hx18 hx20 (cmpS_yes p35)), hr52⟩
   · omega
set_option maxHeartbeats 2000000 in
theorem rotate_atE {B base : Nat} {w : World} {g nn c : Nat} {f : Nat → EntD} {pre A Bb post : List Nat} (h : ERow 35 B base w (.slice (some ⟨g, 0, none⟩) nn c) ((pre ++ (A ++ (Bb ++ post))).map f)) (hBb : B ≤ base) (hn : nn ≤ 1000000) {NN : Nat} (hNN : ∀ i, (f i).name.data.toList.length ≤ NN) {ia m ib : Nat} (ha : pre.length = ia) (hm : ia + A.length = m) (hb : m + Bb.length = ib) (hA0 : 0 < A.length) (hB0 : 0 < Bb.length) :
    Calls Tryz.prog 202 #[.slice (some ⟨g, 0, none⟩) nn c, .int .i64 ia, .int .i64 m, .int .i64 ib, .func (.func 60) #[] #[]] w fun e w' => e = .returned (.tuple #[]) ∧ ERow 35 B base w' (.slice (some ⟨g, 0, none⟩) nn c) ((pre ++ (Bb ++ (A ++ post))).map f) ∧ Chg w w' g := by
  obtain ⟨hnL, hnc, hcm, cu0, hg, hcs0⟩ := ERow.blk h
  have hBg := ERow.ge h hBb
  have hn0 : nn = pre.length + (A.length + (Bb.length + post.length)) := by simpa using hnL
  go_enter Tryz.func202, Tryz.ntmps202
  refine wp_seq (rg_lit (wmv (v := I_ m) (wmv (v := I_ ia) (wlv (v := N_ (m - ia)) (sbN m ia) (was (v := N_ (m - ia)) (wnil (then_n (wp_seq (rg_lit (wmv (v := I_ ib) (wmv (v := I_ m) (wlv (v := N_ (ib - m)) (sbN ib m) ?_))))))))))))
  refine was (v := N_ (ib - m)) (wnil (then_n (wp_seq (wp_block ?_))))
  refine lp (fun n a r1 => ∃ (I1 : List Nat) (ii : Nat) (jj : Nat), (n = ii + jj) ∧ (HasFr a 58 [(0, sl g 0 nn c), (1, I_ ia), (2, I_ m), (3, I_ ib), (4, .func (.func 60) #[] #[]), (10, I_ ii), (11, I_ jj)] []) ∧ (Mod [g] w r1) ∧ (RotI pre A Bb post I1 ii jj) ∧ (0 < ii) ∧ (0 < jj) ∧ (ERow 35 B base r1 (sl g 0 nn c) (I1.map f))) ⟨_, (pre ++ (A ++ (Bb ++ post))), (m - ia), (ib - m), rfl, hmk, Mod.refl _ _, (by rw [show m - ia = A.length by omega, show ib - m = Bb.length by omega]; exact RotI.first _ _ _ _), (by omega), (by omega), h⟩ ?_
  rintro _ _ r1 ⟨I1, ii, jj, rfl, h1, hM1, hF1_0, _, _, hF1_3⟩
  obtain ⟨Y12, rfl⟩ := h1
  have M2 := Mod.trans (Mod.of_mod (Y := [g]) (Mod.refl [] w) (by simp)) (Mod.of_mod (Y := [g]) hM1 (by simp))
  obtain ⟨hlI, hli, hlj⟩ := RotI.len hF1_0
  obtain ⟨_, _, _, _, _, _⟩ := ERow.blk hF1_3
  refine wp_seq (wp_seq (rg_lit (wmv (v := I_ ii) (wmv (v := I_ jj) (wl (sb rfl (neI ii jj) fun _ k5 => wnil (then_n ?_)))))))
  refine bcd k5 (fun v6 p7 => ?_) (fun v6 p7 => ?_)
  ·
   refine wp_cond_false (ebk v6) (wp_exit (then_x (by nofun) (then_x (by nofun) (inb_hit (then_n (rg_lit (wmv (v := sl g 0 nn c) (wmv (v := I_ m) (wmv (v := I_ ii) (wlv (v := N_ (m - ii)) (sbN m ii) (wmv (v := I_ m) (wmv (v := I_ ii) (wmv (v := .func (.func 60) #[] #[]) ?_)))))))))))))
   have hq8 : RotI pre A Bb post I1 ii ii := by have h0 := hF1_0; rw [show jj = ii by omega] at h0; exact h0
   obtain ⟨_, _, _, _, hI8, hXY8, _, _, _, hR8⟩ := RotI.eq hq8
   obtain ⟨M8, hM8⟩ : ∃ M : List Nat, M = [] := ⟨_, rfl⟩
   rw [← hM8] at hI8 hR8
   have hm8 : M8.length = 0 := by rw [hM8]; rfl
   have ho8 := ERow.to hF1_3 (congrArg (List.map f) hI8)
   refine wl (sca [sl g 0 nn c, N_ (m - ii), I_ m, I_ ii, .func (.func 60) #[] #[]] En.f231 (swapRange_atE ho8 hBb hn hNN (by omega) (by omega) (by omega) hXY8) ?_)
   rintro e _ ⟨rfl, h10, c11⟩
   refine ⟨_, rfl, ?_⟩
   obtain ⟨_, _, _, _, _, _⟩ := ERow.blk h10
   refine wnil ?_
   refine bodyPost_end (v := .tuple #[]) (res0 rfl ) (by kernel_rfl) ?_
   exact ⟨rfl, ERow.to h10 (by rw [hR8]), (Mod.chg (mtx M2 c11))⟩
  refine wp_cond_true (ebk v6) (wp_skip (then_n (wp_block (wp_seq (rg_lit (wmv (v := I_ ii) (wmv (v := I_ jj) (wl (sb rfl (r_gt (k := .i64) (m := (ii : Int)) (n := (jj : Int)) (by kernel_rfl) (by kernel_rfl)) fun _ k9 => wnil (then_n ?_))))))))))
  refine bcd k9 (fun v10 p11 => ?_) (fun v10 p11 => ?_)
  ·
   refine wp_cond_false (ebk v10) (wp_seq (rg_lit (wmv (v := sl g 0 nn c) (wmv (v := I_ m) (wmv (v := I_ ii) (wlv (v := N_ (m - ii)) (sbN m ii) (wmv (v := I_ m) (wmv (v := I_ jj) (wlv (v := N_ (m + jj)) (adN m jj) ?_)))))))))
   refine wmv (v := I_ ii) (wlv (v := N_ (m + jj - ii)) (sbN ((m + jj : Nat) : Int) ii) (wmv (v := I_ ii) (wmv (v := .func (.func 60) #[] #[]) ?_)))
   obtain ⟨p12, X12, M12, Y12, q12, hI12, hXY12, hY12, hp12, hb12, hR12⟩ := RotI.lt hF1_0 (by omega)
   have ho12 := ERow.to hF1_3 (congrArg (List.map f) hI12)
   refine wl (sca [sl g 0 nn c, N_ (m - ii), N_ (m + jj - ii), I_ ii, .func (.func 60) #[] #[]] En.f231 (swapRange_atE ho12 hBb hn hNN (by omega) (by omega) (by omega) hXY12) ?_)
   rintro e w13 ⟨rfl, h14, c15⟩
   refine ⟨_, rfl, ?_⟩
   obtain ⟨_, _, _, cg18, hg18, _⟩ := ERow.blk h14
   refine wnil (then_n (rg_lit (wmv (v := I_ jj) (wmv (v := I_ ii) (wlv (v := N_ (jj - ii)) (sbN jj ii) (was (v := N_ (jj - ii)) (wnil (inb_n (then_n ?_)))))))))
   refine ⟨ii + (jj - ii), ?_, (p12 ++ (Y12 ++ (M12 ++ (X12 ++ q12)))), ii, (jj - ii), rfl, hmk, (mtx hM1 c15), hR12, (by omega), (by omega), h14⟩
   · omega
  refine wp_cond_true (ebk v10) (wp_seq (rg_lit (wmv (v := sl g 0 nn c) (wmv (v := I_ m) (wmv (v := I_ ii) (wlv (v := N_ (m - ii)) (sbN m ii) (wmv (v := I_ m) (wmv (v := I_ jj) (wmv (v := .func (.func 60) #[] #[]) ?_)))))))))
  obtain ⟨p12, X12, M12, Y12, q12, hI12, hXY12, hY12, hp12, hb12, hR12⟩ := RotI.gt hF1_0 (by omega)
  have ho12 := ERow.to hF1_3 (congrArg (List.map f) hI12)
  refine wl (sca [sl g 0 nn c, N_ (m - ii), I_ m, I_ jj, .func (.func 60) #[] #[]] En.f231 (swapRange_atE ho12 hBb hn hNN (by omega) (by omega) (by omega) hXY12) ?_)
  rintro e w13 ⟨rfl, h14, c15⟩
  refine ⟨_, rfl, ?_⟩
  obtain ⟨_, _, _, cg18, hg18, _⟩ := ERow.blk h14
  refine wnil (then_n (rg_lit (wmv (v := I_ ii) (wmv (v := I_ jj) (wlv (v := N_ (ii - jj)) (sbN ii jj) (was (v := N_ (ii - jj)) (wnil (inb_n (then_n ?_)))))))))
  refine ⟨(ii - jj) + jj, ?_, (p12 ++ (Y12 ++ (M12 ++ (X12 ++ q12)))), (ii - jj), jj, rfl, hmk, (mtx hM1 c15), hR12, (by omega), (by omega), h14⟩
  · omega
end Go.Proofs.YtefhfoioeoijlaaGreatDoor

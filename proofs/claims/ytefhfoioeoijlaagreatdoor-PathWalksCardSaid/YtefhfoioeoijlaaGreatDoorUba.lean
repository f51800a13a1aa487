/- GR, GC -/
import Derived.Test.YtefhfoioeoijlaaGreatDoorUaf
import Derived.Test.YtefhfoioeoijlaaGreatDoorUah
import Derived.Test.YtefhfoioeoijlaaGreatDoorUap
import Derived.Test.YtefhfoioeoijlaaGreatDoorUav
set_option linter.unusedVariables false
set_option linter.unusedSimpArgs false
namespace Go.Proofs.YtefhfoioeoijlaaGreatDoor
open Go Go.RowKit Go.Sort
theorem sortO_snoc (l : List OpD) (x : OpD) : sortO (l ++ [x]) = insO (sortO l) x := by simp [sortO]
theorem sub_cells {w : World} {b k : Nat} {l : List Value} (j n : Nat) (h : ∀ i v, l[i]? = some v → w.cell? ⟨b, k + i, none⟩ = some v) : ∀ i v, ((l.drop j).take n)[i]? = some v → w.cell? ⟨b, k + j + i, none⟩ = some v := by
  intro i v hi
  rw [List.getElem?_take] at hi
  split at hi
  · rw [List.getElem?_drop] at hi
    rw [Nat.add_assoc]; exact h _ _ hi
  · cases hi
set_option maxHeartbeats 2000000 in
theorem rsort_at {B : Nat} {w : World} {lA : Option Addr} {lc : Nat} {os : List OpD} (h : OpRow B w lA os) (hB : B ≤ w.heap.size) (hn : os.length ≤ 100000) :
    Calls Tryz.prog 81 #[.slice lA os.length lc] w fun e w' => ∃ v, e = .returned v ∧ ORow 49 B w.heap.size w' v (sortO os) ∧ Up w w' := by
  obtain ⟨iO, zO, hiO, hzO, hsO, hbO, hcO⟩ := info_op
  go_enter Tryz.func81, Tryz.ntmps81
  refine wp_seq (rg_lit (was (v := .slice none 0 0) (wnil (then_n (wp_seq (rg_lit (was (v := .slice none 0 0) (wnil (then_n (wp_seq (wp_seq (rg_lit (was (v := I_ 0) (wnil (then_n (wp_block ?_))))))))))))))))
  refine lp (fun n a r1 => ∃ (kk : Nat) (oA : Option Addr) (on : Nat) (oc : Nat) (Lo : List OpD), (n = os.length - kk) ∧ (HasFr a 64 [(0, .slice lA os.length lc), (2, .slice none 0 0), (3, .slice oA on oc), (4, I_ kk)] []) ∧ (Mod [] w r1) ∧ (kk ≤ os.length) ∧ (Lo = sortO (os.take kk)) ∧ (ORow 49 B w.heap.size r1 (.slice oA on oc) Lo)) ⟨_, 0, none, 0, 0, [], rfl, hmk, Mod.refl _ _, (Nat.zero_le _), rfl, (ORow.nil _ _ _ _)⟩ ?_
  rintro _ _ r1 ⟨kk, oA, on, oc, Lo, rfl, h1, hM1, _, hF1_1, hF1_2⟩
  obtain ⟨_, rfl⟩ := h1
  have M2 := Mod.thin (Mod.refl [] w) hM1 (by simp)
  have hll := sortO_len (os.take kk)
  rw [← hF1_1] at hll
  have hlt := List.length_take_le kk os
  have hon := (ORow.addr hF1_2).1
  refine wp_seq (wp_seq (rg_lit (wmv (v := I_ kk) (wmv (v := .slice lA os.length lc) (wlv (v := I_ os.length) (ln lA os.length lc Ty.un22) (wl (sb rfl (ltI kk os.length) fun _ k4 => wnil (then_n ?_))))))))
  refine bcd k4 (fun v5 p6 => ?_) (fun v5 p6 => ?_)
  ·
   refine wp_cond_false (ebk v5) (wp_exit (then_x (by nofun) (then_x (by nofun) (inb_hit (then_n (wp_seq (rg_lit (wmv (v := .slice oA on oc) (was (v := .slice oA on oc) (wnil (then_n (wp_ret ?_))))))))))))
   refine br1 (v := .slice oA on oc) rfl ?_
   exact ⟨_, rfl, ORow.to hF1_2 (by rw [hF1_1, List.take_of_length_le (by omega)]), (Mod.up M2)⟩
  refine wp_cond_true (ebk v5) (wp_skip (then_n (wp_seq (wp_block (wp_seq (rg_lit (was (v := I_ 0) (wnil (then_n (wp_seq (wp_block ?_)))))))))))
  obtain ⟨x0, hx0⟩ : ∃ x, os[kk]? = some x := ⟨_, List.getElem?_eq_getElem (by omega)⟩
  refine lp (fun n a r2 => ∃ (jj : Nat), (n = on - jj) ∧ (HasFr a 64 [(0, .slice lA os.length lc), (2, .slice none 0 0), (3, .slice oA on oc), (4, I_ kk), (5, I_ jj)] []) ∧ (Mod [] r1 r2) ∧ (jj ≤ on) ∧ (Hid (∀ (j : Nat) (y : OpD), j < jj → Lo[j]? = some y → ltS y.at_ x0.at_ = true))) ⟨_, 0, rfl, hmk, Mod.refl _ _, (Nat.zero_le _), (fun j y hj => absurd hj (Nat.not_lt_zero _))⟩ ?_
  rintro _ _ r2 ⟨jj, rfl, h10, hM2, _, hF2_1⟩
  obtain ⟨_, rfl⟩ := h10
  have M11 := Mod.thin M2 hM2 (by simp)
  have M12 := Mod.thin hM1 hM2 (by simp)
  refine wp_seq (wp_seq ?_)
  refine rg_all (by kernel_rfl) (by kernel_rfl) ?_
  refine qmv (v := I_ jj) (qmv (v := .slice oA on oc) (qv rfl (v := I_ on) (fun _ _ => ln oA on oc Ty.un22) ?_))
  refine qb rfl (fun _ _ => ltI jj on) fun b13 k14 => ?_
  refine qmv (v := B_ b13) ?_
  refine bcd k14 (fun v15 p16 => ?_) (fun v15 p16 => ?_)
  ·
   iterate 11 refine qls rfl v15 ?_
   refine qv rfl (v := B_ false) (fun _ _ => pkF (ebk v15)) ?_
   refine qnil fun _ u18 => ?_
   refine then_n (wp_cond_false (by kernel_rfl) (wp_exit (then_x (by nofun) (then_x (by nofun) (inb_hit (then_n (wp_seq ?_)))))))
   refine rg_all (by kernel_rfl) (by kernel_rfl) ?_
   refine qmv (v := I_ jj) (qmv (v := .slice oA on oc) (qv rfl (v := I_ on) (fun _ _ => ln oA on oc Ty.un22) ?_))
   refine qb rfl (fun _ _ => eqI jj on) fun b22 k23 => ?_
   refine qmv (v := B_ b22) ?_
   refine bcd k23 (fun v24 p25 => ?_) (fun v24 p25 => ?_)
   ·
    omega
   iterate 11 refine qls rfl v24 ?_
   refine qv rfl (v := B_ true) (fun _ _ => pkT (ebk v24)) ?_
   refine qnil fun _ u27 => ?_
   refine then_n (wp_cond_true (by kernel_rfl) ?_)
   refine rg_held [] (n := 16) (by kernel_rfl) rfl ?_
   intro w31 u32
   have M33 := mtu (mtu (mtu M11 u18) u27) u32
   have M34 := mtu (mtu (mtu M12 u18) u27) u32
   have M35 := mtu (mtu (mtu hM2 u18) u27) u32
   have h36 := (OpRow.up h (Mod.up M33))
   have h37 := (ORow.up hF1_2 (Mod.up M35))
   refine hvq (i := 1) (fuel := 15) rfl (fun _ _ _ h => h) (Mod.refl [] w31) rfl (v := .slice oA on oc) (fun _ _ => mv) ?_
   refine hvq (i := 2) (fuel := 14) rfl (fun _ _ _ h => h) (Mod.refl [] w31) rfl (v := I_ jj) (fun _ _ => mv) ?_
   obtain ⟨hs38, hq38⟩ := ORow.headCut (P := Tryz.prog) (k := jj) h37 (by omega) 22 49 Ty.un22 Ty.sz49
   refine hvq (i := 3) (fuel := 13) rfl (fun _ _ _ h => h) (Mod.refl [] w31) rfl (v := .slice oA jj oc) (fun _ _ => hq38 _ _ _ _ _ _ _ _ _ (by kernel_rfl) (by kernel_rfl)) ?_
   refine hvq (i := 5) (fuel := 12) rfl (fun _ _ _ h => h) (Mod.refl [] w31) rfl (v := .slice lA os.length lc) (fun _ _ => mv) ?_
   refine hvq (i := 6) (fuel := 11) rfl (fun _ _ _ h => h) (Mod.refl [] w31) rfl (v := I_ kk) (fun _ _ => mv) ?_
   obtain ⟨g39, f39, oA39, on39, oc39, hA39, hl39, hc39, hD39, _⟩ := h36 kk x0 hx0
   refine hvq (i := 7) (fuel := 10) rfl (fun _ _ _ h => h) (Mod.refl [] w31) rfl (v := pt g39 (f39 + kk * 10)) (fun _ _ => ixa os.length lc 10 kk hA39 Ty.un22 Ty.sz49) ?_
   refine hvq (i := 8) (fuel := 9) rfl (fun _ _ _ h => h) (Mod.refl [] w31) rfl (v := opV x0 (.slice oA39 on39 oc39)) (fun _ uz => r_loadcN (vs := (opC x0 (.slice oA39 on39 oc39))) (by kernel_rfl) Ty.ag49 Ty.sz49 (fun j v hj => ((Mod.up uz).cell (p := ⟨g39, f39 + kk * 10 + j, none⟩) hl39).trans (hc39 j v hj))) ?_
   refine hvq (i := 11) (fuel := 8) rfl (fun _ _ _ h => h) (Mod.refl [] w31) rfl (v := .slice oA on oc) (fun _ _ => mv) ?_
   refine hvq (i := 12) (fuel := 7) rfl (fun _ _ _ h => h) (Mod.refl [] w31) rfl (v := I_ jj) (fun _ _ => mv) ?_
   obtain ⟨A40, hs40, hq40⟩ := ORow.tailCut (P := Tryz.prog) (k := jj) h37 (by omega) 22 49 Ty.un22 Ty.sz49
   refine hvq (i := 13) (fuel := 6) rfl (fun _ _ _ h => h) (Mod.refl [] w31) rfl (v := .slice A40 (on - jj : Nat) (oc - jj : Nat)) (fun _ _ => hq40 _ _ _ _ _ _ _ _ _ (by kernel_rfl) (by kernel_rfl)) ?_
   refine h2a 0 9 5 rfl rfl ?_ ?_
   ·
    refine litO rfl (B := B) (base := w31.heap.size) Ty.un22 Ty.sz49 (Mod.refl [] w31).size fun b41 w42 e43 h44 h45 u46 => ?_
    have g47 := gsz e43 M33
    have g48 := gsz e43 M34
    have g49 := gsz e43 M35
    have g50 := gsz e43 (Mod.refl [] w31)
    have M52 := mtu M34 u46
    have M54 := mtu (Mod.refl [] w31) u46
    refine ⟨M54, ?_⟩
    refine h2a 4 9 4 rfl rfl ?_ ?_
    ·
     refine apO rfl (by kernel_rfl) (by kernel_rfl) h45 (SubO.up hs38 (Mod.up M54)) Ty.un22 hiO hzO hsO hbO hcO (by decide) (Nat.le_trans (Nat.le_trans hB M33.size) (Nat.le_refl _)) M54.size (by simp; omega) fun _ _ _ _ _ h61 g62 c63 => ?_
     have M65 := mtn M52 c63 g48
     have M67 := mtn M54 c63 g50
     obtain ⟨_, _, _, _, _, _⟩ := ORow.blk h61
     refine ⟨M67, ?_⟩
     refine h1a 9 3 rfl (sn rfl (cs := (opC x0 (.slice oA39 on39 oc39)).toArray) (T := 49) (V := fun b => sl b 0 1 1) (r_buildSlice (n := 1) (ps := [(0, opV x0 (.slice oA39 on39 oc39))]) Ty.un22 Ty.sz49 Ty.zv49 (by decide) (by decide) (by kernel_rfl) (by kernel_rfl)) fun _ _ e71 h72 u73 => ?_)
     have g76 := gsz e71 M65
     have g78 := gsz e71 M67
     have M82 := mtu M67 u73
     refine ⟨M82, ?_⟩
     have h85 := (Dat.up hD39 (up_up (up_chgn u46 c63 (by rw [e43]; exact Nat.le_refl _)) u73))
     refine h1a 10 2 rfl (apO rfl (by kernel_rfl) (by kernel_rfl) (ORow.up h61 u73) (SubO.one (x := x0) h72 h85) Ty.un22 hiO hzO hsO hbO hcO (by decide) (Nat.le_trans (Nat.le_trans hB M33.size) (Nat.le_refl _)) M82.size (by simp; omega) fun _ _ _ _ _ h91 g92 c93 => ?_)
     have M97 := mtn M82 c93 g62
     obtain ⟨_, _, _, _, _, _⟩ := ORow.blk h91
     refine ⟨M97, ?_⟩
     refine h1a 14 1 rfl (apO rfl (by kernel_rfl) (by kernel_rfl) h91 (SubO.up hs40 (Mod.up M97)) Ty.un22 hiO hzO hsO hbO hcO (by decide) (Nat.le_trans (Nat.le_trans hB M33.size) (Nat.le_refl _)) M97.size (by simp; omega) fun b100 n101 c102 _ _ h105 _ c107 => ?_)
     have M111 := mtn M97 c107 g92
     obtain ⟨_, _, _, _, _, _⟩ := ORow.blk h105
     refine ⟨M111, ?_⟩
     refine hvq (i := 15) (fuel := 0) rfl (fun _ _ _ h => h) M111 rfl (v := sl b100 0 n101 c102) (fun _ _ => r_assign (by kernel_rfl)) ?_
     refine hend (by kernel_rfl) ?_
     refine inb_n (then_n (rg_lit (wmv (v := I_ kk) (wlv (v := N_ (kk + 1)) (adN kk 1) (was (v := N_ (kk + 1)) (wnil (then_n ?_)))))))
     refine ⟨os.length - (kk + 1), ?_, (kk + 1), (some ⟨b100, 0, none⟩), n101, c102, (Lo.take jj ++ [x0] ++ Lo.drop jj), rfl, hmk, (mtn (mtn (mtu M65 u73) c93 (Nat.le_trans M34.size g62)) c107 (Nat.le_trans M34.size g92)), (by omega), (by rw [tkO hx0, sortO_snoc, ← hF1_1]; exact (insO_at hF2_1.out (.inl (by omega))).symm), (ORow.base (ORow.to h105 (by simp)) M33.size)⟩
     · omega
    ·
     refine sn rfl (cs := (opC x0 (.slice oA39 on39 oc39)).toArray) (T := 49) (V := fun b => sl b 0 1 1) (r_buildSlice (n := 1) (ps := [(0, opV x0 (.slice oA39 on39 oc39))]) Ty.un22 Ty.sz49 Ty.zv49 (by decide) (by decide) (by kernel_rfl) (by kernel_rfl)) fun _ _ e57 h58 u59 => ?_
     have l60 := lsz e57 h44
     have g61 := gsz e57 (mtu M33 u46)
     have g62 := gsz e57 M52
     have g63 := gsz e57 (mtu M35 u46)
     have g64 := gsz e57 M54
     have M68 := mtu M54 u59
     refine ⟨M68, ?_⟩
     refine h1a 4 3 rfl (apO rfl (by kernel_rfl) (by kernel_rfl) (ORow.up h45 u59) (SubO.up hs38 (Mod.up M68)) Ty.un22 hiO hzO hsO hbO hcO (by decide) (Nat.le_trans (Nat.le_trans hB M33.size) (Nat.le_refl _)) M68.size (by simp; omega) fun _ _ _ _ _ h77 g78 c79 => ?_)
     have M83 := mtn M68 c79 g50
     obtain ⟨_, _, _, _, _, _⟩ := ORow.blk h77
     refine ⟨M83, ?_⟩
     have h86 := (Dat.up hD39 (up_chgn (up_up u46 u59) c79 (by rw [e43]; exact Nat.le_refl _)))
     refine h1a 10 2 rfl (apO rfl (by kernel_rfl) (by kernel_rfl) h77 (SubO.one (x := x0) (chg_ob c79 (Nat.ne_of_gt l60) h58) h86) Ty.un22 hiO hzO hsO hbO hcO (by decide) (Nat.le_trans (Nat.le_trans hB M33.size) (Nat.le_refl _)) M83.size (by simp; omega) fun _ _ _ _ _ h92 g93 c94 => ?_)
     have M98 := mtn M83 c94 g78
     obtain ⟨_, _, _, _, _, _⟩ := ORow.blk h92
     refine ⟨M98, ?_⟩
     refine h1a 14 1 rfl (apO rfl (by kernel_rfl) (by kernel_rfl) h92 (SubO.up hs40 (Mod.up M98)) Ty.un22 hiO hzO hsO hbO hcO (by decide) (Nat.le_trans (Nat.le_trans hB M33.size) (Nat.le_refl _)) M98.size (by simp; omega) fun b101 n102 c103 _ _ h106 _ c108 => ?_)
     have M112 := mtn M98 c108 g93
     obtain ⟨_, _, _, _, _, _⟩ := ORow.blk h106
     refine ⟨M112, ?_⟩
     refine hvq (i := 15) (fuel := 0) rfl (fun _ _ _ h => h) M112 rfl (v := sl b101 0 n102 c103) (fun _ _ => r_assign (by kernel_rfl)) ?_
     refine hend (by kernel_rfl) ?_
     refine inb_n (then_n (rg_lit (wmv (v := I_ kk) (wlv (v := N_ (kk + 1)) (adN kk 1) (was (v := N_ (kk + 1)) (wnil (then_n ?_)))))))
     refine ⟨os.length - (kk + 1), ?_, (kk + 1), (some ⟨b101, 0, none⟩), n102, c103, (Lo.take jj ++ [x0] ++ Lo.drop jj), rfl, hmk, (mtn (mtn (mtn (mtu M52 u59) c79 g48) c94 (Nat.le_trans M34.size g78)) c108 (Nat.le_trans M34.size g93)), (by omega), (by rw [tkO hx0, sortO_snoc, ← hF1_1]; exact (insO_at hF2_1.out (.inl (by omega))).symm), (ORow.base (ORow.to h106 (by simp)) M33.size)⟩
     · omega
   ·
    refine sn rfl (cs := (opC x0 (.slice oA39 on39 oc39)).toArray) (T := 49) (V := fun b => sl b 0 1 1) (r_buildSlice (n := 1) (ps := [(0, opV x0 (.slice oA39 on39 oc39))]) Ty.un22 Ty.sz49 Ty.zv49 (by decide) (by decide) (by kernel_rfl) (by kernel_rfl)) fun b41 w42 e43 h44 u45 => ?_
    have g47 := gsz e43 M34
    have g48 := gsz e43 M35
    have g49 := gsz e43 (Mod.refl [] w31)
    have M51 := mtu M34 u45
    have M53 := mtu (Mod.refl [] w31) u45
    refine ⟨M53, ?_⟩
    refine h1a 0 4 rfl (litO rfl (B := B) (base := w31.heap.size) Ty.un22 Ty.sz49 M53.size fun _ _ e56 _ h58 u59 => ?_)
    have l60 := lsz e56 h44
    have g61 := gsz e56 (mtu M33 u45)
    have g62 := gsz e56 M51
    have g63 := gsz e56 (mtu M35 u45)
    have g64 := gsz e56 M53
    have M68 := mtu M53 u59
    refine ⟨M68, ?_⟩
    refine h1a 4 3 rfl (apO rfl (by kernel_rfl) (by kernel_rfl) h58 (SubO.up hs38 (Mod.up M68)) Ty.un22 hiO hzO hsO hbO hcO (by decide) (Nat.le_trans (Nat.le_trans hB M33.size) (Nat.le_refl _)) M68.size (by simp; omega) fun _ _ _ _ _ h75 g76 c77 => ?_)
    have M81 := mtn M68 c77 g64
    obtain ⟨_, _, _, _, _, _⟩ := ORow.blk h75
    refine ⟨M81, ?_⟩
    have h84 := (Dat.up hD39 (up_chgn (up_up u45 u59) c77 (by rw [e56]; exact u45.size)))
    refine h1a 10 2 rfl (apO rfl (by kernel_rfl) (by kernel_rfl) h75 (SubO.one (x := x0) (chg_ob c77 (Nat.ne_of_lt l60) (up_ob u59 h44)) h84) Ty.un22 hiO hzO hsO hbO hcO (by decide) (Nat.le_trans (Nat.le_trans hB M33.size) (Nat.le_refl _)) M81.size (by simp; omega) fun _ _ _ _ _ h90 g91 c92 => ?_)
    have M96 := mtn M81 c92 g76
    obtain ⟨_, _, _, _, _, _⟩ := ORow.blk h90
    refine ⟨M96, ?_⟩
    refine h1a 14 1 rfl (apO rfl (by kernel_rfl) (by kernel_rfl) h90 (SubO.up hs40 (Mod.up M96)) Ty.un22 hiO hzO hsO hbO hcO (by decide) (Nat.le_trans (Nat.le_trans hB M33.size) (Nat.le_refl _)) M96.size (by simp; omega) fun b99 n100 c101 _ _ h104 _ c106 => ?_)
    have M110 := mtn M96 c106 g91
    obtain ⟨_, _, _, _, _, _⟩ := ORow.blk h104
    refine ⟨M110, ?_⟩
    refine hvq (i := 15) (fuel := 0) rfl (fun _ _ _ h => h) M110 rfl (v := sl b99 0 n100 c101) (fun _ _ => r_assign (by kernel_rfl)) ?_
    refine hend (by kernel_rfl) ?_
    refine inb_n (then_n (rg_lit (wmv (v := I_ kk) (wlv (v := N_ (kk + 1)) (adN kk 1) (was (v := N_ (kk + 1)) (wnil (then_n ?_)))))))
    refine ⟨os.length - (kk + 1), ?_, (kk + 1), (some ⟨b99, 0, none⟩), n100, c101, (Lo.take jj ++ [x0] ++ Lo.drop jj), rfl, hmk, (mtn (mtn (mtn (mtu M51 u59) c77 g62) c92 (Nat.le_trans M34.size g76)) c106 (Nat.le_trans M34.size g91)), (by omega), (by rw [tkO hx0, sortO_snoc, ← hF1_1]; exact (insO_at hF2_1.out (.inl (by omega))).symm), (ORow.base (ORow.to h104 (by simp)) M33.size)⟩
    · omega
  refine qv (wt (b := b13) rfl (by kernel_rfl) v15) (v := .slice oA on oc) (fun _ _ => mv) (qv (wt (b := b13) rfl (by kernel_rfl) v15) (v := I_ jj) (fun _ _ => mv) ?_)
  have h19 := (ORow.up hF1_2 (Mod.up hM2))
  obtain ⟨o20, ho20⟩ : ∃ x, Lo[jj]? = some x := ⟨_, List.getElem?_eq_getElem (by omega)⟩
  obtain ⟨g20, _, cu20, dA20, dn20, dc20, hA20, _, hb20, he20, _⟩ := ORow.get h19 ho20
  injection hA20 with hA20 _ _
  replace he20 : (cu20.toList.drop (0 + jj * 10)).take 10 = opC o20 (.slice dA20 dn20 dc20) := by rw [Nat.zero_add]; exact he20
  refine qv (wt (b := b13) rfl (by kernel_rfl) v15) (v := pt g20 (0 + jj * 10)) (fun _ _ => ixa on oc 10 jj hA20 Ty.un22 Ty.sz49) (qv (wt (b := b13) rfl (by kernel_rfl) v15) (v := pt g20 (0 + jj * 10 + 1)) (fun _ _ => fa (pt g20 (0 + jj * 10))) (qv (wt (b := b13) rfl (by kernel_rfl) v15) (v := .agg #[I_ o20.at_.t, I_ o20.at_.w]) (fun _ uz => r_loads (k := 0 + jj * 10 + 1) (by kernel_rfl) Ty.ag24 Ty.sz24 (up_ob uz hb20) (el_sub he20 1 rfl)) (qv (wt (b := b13) rfl (by kernel_rfl) v15) (v := .slice lA os.length lc) (fun _ _ => mv) (qv (wt (b := b13) rfl (by kernel_rfl) v15) (v := I_ kk) (fun _ _ => mv) ?_))))
  have h21 := (OpRow.up h (Mod.up M11))
  obtain ⟨g22, f22, oA22, on22, oc22, hA22, hl22, hc22, _, _⟩ := h21 kk x0 hx0
  refine qv (wt (b := b13) rfl (by kernel_rfl) v15) (v := pt g22 (f22 + kk * 10)) (fun _ _ => ixa os.length lc 10 kk hA22 Ty.un22 Ty.sz49) (qv (wt (b := b13) rfl (by kernel_rfl) v15) (v := pt g22 (f22 + kk * 10 + 1)) (fun _ _ => fa (pt g22 (f22 + kk * 10))) (qv (wt (b := b13) rfl (by kernel_rfl) v15) (v := .agg #[I_ x0.at_.t, I_ x0.at_.w]) (fun _ uz => r_loadcN (k := f22 + kk * 10 + 1) (vs := [I_ x0.at_.t, I_ x0.at_.w]) (by kernel_rfl) Ty.ag24 Ty.sz24 (sub_cells (l := (opC x0 (.slice oA22 on22 oc22))) 1 2 (fun j v hj => (uz.cell (p := ⟨g22, f22 + kk * 10 + j, none⟩) hl22).trans (hc22 j v hj)))) ?_))
  refine qc (wt (b := b13) rfl (by kernel_rfl) v15) (v := B_ (lessS ⟨o20.at_.t, o20.at_.w⟩ ⟨x0.at_.t, x0.at_.w⟩)) (fun _ _ => r_callv (caps := []) (all := [.agg #[I_ o20.at_.t, I_ o20.at_.w], .agg #[I_ x0.at_.t, I_ x0.at_.w]]) En.f139 (by kernel_rfl) (by kernel_rfl)) (fun wz uz => r04less_any ⟨o20.at_.t, o20.at_.w⟩ ⟨x0.at_.t, x0.at_.w⟩ _) ?_ ?_
  · rintro _ e _ hC ⟨rfl, hu⟩; exact ⟨rfl, up_step hC hu.below⟩
  refine qv rfl (v := B_ (lessS ⟨o20.at_.t, o20.at_.w⟩ ⟨x0.at_.t, x0.at_.w⟩)) (fun _ _ => pkT (ebk v15)) ?_
  refine qnil fun _ u24 => ?_
  have M25 := mtu M11 u24
  have M27 := mtu hM2 u24
  refine then_n ?_
  refine bcase (lessS ⟨o20.at_.t, o20.at_.w⟩ ⟨x0.at_.t, x0.at_.w⟩) (fun v28 => ?_) (fun v28 => ?_)
  ·
   refine wp_cond_false (ebk v28) (wp_exit (then_x (by nofun) (then_x (by nofun) (inb_hit (then_n (wp_seq ?_))))))
   refine rg_all (by kernel_rfl) (by kernel_rfl) ?_
   refine qmv (v := I_ jj) (qmv (v := .slice oA on oc) (qv rfl (v := I_ on) (fun _ _ => ln oA on oc Ty.un22) ?_))
   refine qb rfl (fun _ _ => eqI jj on) fun b29 k30 => ?_
   refine qmv (v := B_ b29) ?_
   refine bcd k30 (fun v31 p32 => ?_) (fun v31 p32 => ?_)
   ·
    refine qv (wt (b := b29) rfl (by kernel_rfl) v31) (v := .slice oA on oc) (fun _ _ => mv) (qv (wt (b := b29) rfl (by kernel_rfl) v31) (v := I_ jj) (fun _ _ => mv) ?_)
    have h33 := (ORow.up hF1_2 (Mod.up M27))
    obtain ⟨g34, _, cu34, dA34, dn34, dc34, hA34, _, hb34, he34, _⟩ := ORow.get h33 ho20
    injection hA34 with hA34 _ _
    replace he34 : (cu34.toList.drop (0 + jj * 10)).take 10 = opC o20 (.slice dA34 dn34 dc34) := by rw [Nat.zero_add]; exact he34
    refine qv (wt (b := b29) rfl (by kernel_rfl) v31) (v := pt g34 (0 + jj * 10)) (fun _ _ => ixa on oc 10 jj hA34 Ty.un22 Ty.sz49) (qv (wt (b := b29) rfl (by kernel_rfl) v31) (v := pt g34 (0 + jj * 10 + 1)) (fun _ _ => fa (pt g34 (0 + jj * 10))) (qv (wt (b := b29) rfl (by kernel_rfl) v31) (v := .agg #[I_ o20.at_.t, I_ o20.at_.w]) (fun _ uz => r_loads (k := 0 + jj * 10 + 1) (by kernel_rfl) Ty.ag24 Ty.sz24 (up_ob uz hb34) (el_sub he34 1 rfl)) (qv (wt (b := b29) rfl (by kernel_rfl) v31) (v := .slice lA os.length lc) (fun _ _ => mv) (qv (wt (b := b29) rfl (by kernel_rfl) v31) (v := I_ kk) (fun _ _ => mv) ?_))))
    have h35 := (OpRow.up h (Mod.up M25))
    obtain ⟨g36, f36, oA36, on36, oc36, hA36, hl36, hc36, _, _⟩ := h35 kk x0 hx0
    refine qv (wt (b := b29) rfl (by kernel_rfl) v31) (v := pt g36 (f36 + kk * 10)) (fun _ _ => ixa os.length lc 10 kk hA36 Ty.un22 Ty.sz49) (qv (wt (b := b29) rfl (by kernel_rfl) v31) (v := pt g36 (f36 + kk * 10 + 1)) (fun _ _ => fa (pt g36 (f36 + kk * 10))) (qv (wt (b := b29) rfl (by kernel_rfl) v31) (v := .agg #[I_ x0.at_.t, I_ x0.at_.w]) (fun _ uz => r_loadcN (k := f36 + kk * 10 + 1) (vs := [I_ x0.at_.t, I_ x0.at_.w]) (by kernel_rfl) Ty.ag24 Ty.sz24 (sub_cells (l := (opC x0 (.slice oA36 on36 oc36))) 1 2 (fun j v hj => (uz.cell (p := ⟨g36, f36 + kk * 10 + j, none⟩) hl36).trans (hc36 j v hj)))) ?_))
    refine qb (wt (b := b29) rfl (by kernel_rfl) v31) (fun _ _ => r_neS (a := o20.at_.t) (b := o20.at_.w) (c := x0.at_.t) (e := x0.at_.w) (by kernel_rfl) (by kernel_rfl)) fun b37 k38 => ?_
    refine qv rfl (v := B_ b37) (fun _ _ => pkF (ebk v31)) ?_
    refine qnil fun _ u40 => ?_
    have M42 := mtu (mtu M12 u24) u40
    have M43 := mtu M27 u40
    refine then_n ?_
    refine bcd k38 (fun v44 p45 => ?_) (fun v44 p45 => ?_)
    ·
     refine wp_cond_false (ebk v44) (wp_skip (inb_n (then_n (rg_lit (wmv (v := I_ kk) (wlv (v := N_ (kk + 1)) (adN kk 1) (was (v := N_ (kk + 1)) (wnil (then_n ?_)))))))))
     refine ⟨os.length - (kk + 1), ?_, (kk + 1), oA, on, oc, Lo, rfl, hmk, M42, (by omega), (by rw [tkO hx0, sortO_snoc, ← hF1_1]; exact (insO_skip hF2_1.out ho20 (Decidable.not_not.1 p45)).symm), (ORow.up hF1_2 (Mod.up M43))⟩
     · omega
    refine wp_cond_true (ebk v44) ?_
    refine rg_held [] (n := 16) (by kernel_rfl) rfl ?_
    intro w46 u47
    have M48 := mtu (mtu M25 u40) u47
    have M49 := mtu M42 u47
    have M50 := mtu M43 u47
    have h51 := (up_ob u47 (up_ob u40 (up_ob u24 hb20)))
    have h52 := (up_ob u47 (up_ob u40 hb34))
    have h53 := (OpRow.up h (Mod.up M48))
    have h54 := (ORow.up hF1_2 (Mod.up M50))
    refine hvq (i := 1) (fuel := 15) rfl (fun _ _ _ h => h) (Mod.refl [] w46) rfl (v := .slice oA on oc) (fun _ _ => mv) ?_
    refine hvq (i := 2) (fuel := 14) rfl (fun _ _ _ h => h) (Mod.refl [] w46) rfl (v := I_ jj) (fun _ _ => mv) ?_
    obtain ⟨hs57, hq57⟩ := ORow.headCut (P := Tryz.prog) (k := jj) h54 (by omega) 22 49 Ty.un22 Ty.sz49
    refine hvq (i := 3) (fuel := 13) rfl (fun _ _ _ h => h) (Mod.refl [] w46) rfl (v := .slice oA jj oc) (fun _ _ => hq57 _ _ _ _ _ _ _ _ _ (by kernel_rfl) (by kernel_rfl)) ?_
    refine hvq (i := 5) (fuel := 12) rfl (fun _ _ _ h => h) (Mod.refl [] w46) rfl (v := .slice lA os.length lc) (fun _ _ => mv) ?_
    refine hvq (i := 6) (fuel := 11) rfl (fun _ _ _ h => h) (Mod.refl [] w46) rfl (v := I_ kk) (fun _ _ => mv) ?_
    obtain ⟨g58, f58, oA58, on58, oc58, hA58, hl58, hc58, hD58, _⟩ := h53 kk x0 hx0
    refine hvq (i := 7) (fuel := 10) rfl (fun _ _ _ h => h) (Mod.refl [] w46) rfl (v := pt g58 (f58 + kk * 10)) (fun _ _ => ixa os.length lc 10 kk hA58 Ty.un22 Ty.sz49) ?_
    refine hvq (i := 8) (fuel := 9) rfl (fun _ _ _ h => h) (Mod.refl [] w46) rfl (v := opV x0 (.slice oA58 on58 oc58)) (fun _ uz => r_loadcN (vs := (opC x0 (.slice oA58 on58 oc58))) (by kernel_rfl) Ty.ag49 Ty.sz49 (fun j v hj => ((Mod.up uz).cell (p := ⟨g58, f58 + kk * 10 + j, none⟩) hl58).trans (hc58 j v hj))) ?_
    refine hvq (i := 11) (fuel := 8) rfl (fun _ _ _ h => h) (Mod.refl [] w46) rfl (v := .slice oA on oc) (fun _ _ => mv) ?_
    refine hvq (i := 12) (fuel := 7) rfl (fun _ _ _ h => h) (Mod.refl [] w46) rfl (v := I_ jj) (fun _ _ => mv) ?_
    obtain ⟨A59, hs59, hq59⟩ := ORow.tailCut (P := Tryz.prog) (k := jj) h54 (by omega) 22 49 Ty.un22 Ty.sz49
    refine hvq (i := 13) (fuel := 6) rfl (fun _ _ _ h => h) (Mod.refl [] w46) rfl (v := .slice A59 (on - jj : Nat) (oc - jj : Nat)) (fun _ _ => hq59 _ _ _ _ _ _ _ _ _ (by kernel_rfl) (by kernel_rfl)) ?_
    refine h2a 0 9 5 rfl rfl ?_ ?_
    ·
     refine litO rfl (B := B) (base := w46.heap.size) Ty.un22 Ty.sz49 (Mod.refl [] w46).size fun b60 w61 e62 h63 h64 u65 => ?_
     have l66 := lsz e62 h51
     have g68 := gsz e62 M48
     have g69 := gsz e62 M49
     have g70 := gsz e62 M50
     have g71 := gsz e62 (Mod.refl [] w46)
     have M73 := mtu M49 u65
     have M75 := mtu (Mod.refl [] w46) u65
     refine ⟨M75, ?_⟩
     refine h2a 4 9 4 rfl rfl ?_ ?_
     ·
      refine apO rfl (by kernel_rfl) (by kernel_rfl) h64 (SubO.up hs57 (Mod.up M75)) Ty.un22 hiO hzO hsO hbO hcO (by decide) (Nat.le_trans (Nat.le_trans hB M48.size) (Nat.le_refl _)) M75.size (by simp; omega) fun _ _ c79 _ _ h82 g83 c84 => ?_
      have M86 := mtn M73 c84 g69
      have M88 := mtn M75 c84 g71
      obtain ⟨_, _, _, _, _, _⟩ := ORow.blk h82
      refine ⟨M88, ?_⟩
      refine h1a 9 3 rfl (sn rfl (cs := (opC x0 (.slice oA58 on58 oc58)).toArray) (T := 49) (V := fun b => sl b 0 1 1) (r_buildSlice (n := 1) (ps := [(0, opV x0 (.slice oA58 on58 oc58))]) Ty.un22 Ty.sz49 Ty.zv49 (by decide) (by decide) (by kernel_rfl) (by kernel_rfl)) fun _ _ e92 h93 u94 => ?_)
      have g101 := gsz e92 M86
      have g103 := gsz e92 M88
      have M107 := mtu M88 u94
      refine ⟨M107, ?_⟩
      have h110 := (Dat.up hD58 (up_up (up_chgn u65 c84 (by rw [e62]; exact Nat.le_refl _)) u94))
      refine h1a 10 2 rfl (apO rfl (by kernel_rfl) (by kernel_rfl) (ORow.up h82 u94) (SubO.one (x := x0) h93 h110) Ty.un22 hiO hzO hsO hbO hcO (by decide) (Nat.le_trans (Nat.le_trans hB M48.size) (Nat.le_refl _)) M107.size (by simp; omega) fun _ _ _ _ _ h116 g117 c118 => ?_)
      have M122 := mtn M107 c118 g83
      obtain ⟨_, _, _, _, _, _⟩ := ORow.blk h116
      refine ⟨M122, ?_⟩
      refine h1a 14 1 rfl (apO rfl (by kernel_rfl) (by kernel_rfl) h116 (SubO.up hs59 (Mod.up M122)) Ty.un22 hiO hzO hsO hbO hcO (by decide) (Nat.le_trans (Nat.le_trans hB M48.size) (Nat.le_refl _)) M122.size (by simp; omega) fun b125 n126 c127 _ _ h130 _ c132 => ?_)
      have M136 := mtn M122 c132 g117
      obtain ⟨_, _, _, _, _, _⟩ := ORow.blk h130
      refine ⟨M136, ?_⟩
      refine hvq (i := 15) (fuel := 0) rfl (fun _ _ _ h => h) M136 rfl (v := sl b125 0 n126 c127) (fun _ _ => r_assign (by kernel_rfl)) ?_
      refine hend (by kernel_rfl) ?_
      refine inb_n (then_n (rg_lit (wmv (v := I_ kk) (wlv (v := N_ (kk + 1)) (adN kk 1) (was (v := N_ (kk + 1)) (wnil (then_n ?_)))))))
      refine ⟨os.length - (kk + 1), ?_, (kk + 1), (some ⟨b125, 0, none⟩), n126, c127, (Lo.take jj ++ [x0] ++ Lo.drop jj), rfl, hmk, (mtn (mtn (mtu M86 u94) c118 (Nat.le_trans M49.size g83)) c132 (Nat.le_trans M49.size g117)), (by omega), (by rw [tkO hx0, sortO_snoc, ← hF1_1]; exact (insO_at hF2_1.out (.inr ⟨_, ho20, v28, p45⟩)).symm), (ORow.base (ORow.to h130 (by simp)) M48.size)⟩
      · omega
     ·
      refine sn rfl (cs := (opC x0 (.slice oA58 on58 oc58)).toArray) (T := 49) (V := fun b => sl b 0 1 1) (r_buildSlice (n := 1) (ps := [(0, opV x0 (.slice oA58 on58 oc58))]) Ty.un22 Ty.sz49 Ty.zv49 (by decide) (by decide) (by kernel_rfl) (by kernel_rfl)) fun _ _ e78 h79 u80 => ?_
      have l82 := lsz e78 (md_ob M75 nin0 h51)
      have l84 := lsz e78 (md_ob M75 nin0 h52)
      have l85 := lsz e78 h63
      have g86 := gsz e78 (mtu M48 u65)
      have g87 := gsz e78 M73
      have g88 := gsz e78 (mtu M50 u65)
      have g89 := gsz e78 M75
      have M93 := mtu M75 u80
      refine ⟨M93, ?_⟩
      refine h1a 4 3 rfl (apO rfl (by kernel_rfl) (by kernel_rfl) (ORow.up h64 u80) (SubO.up hs57 (Mod.up M93)) Ty.un22 hiO hzO hsO hbO hcO (by decide) (Nat.le_trans (Nat.le_trans hB M48.size) (Nat.le_refl _)) M93.size (by simp; omega) fun _ _ _ _ _ h102 g103 c104 => ?_)
      have M108 := mtn M93 c104 g71
      obtain ⟨_, _, _, _, _, _⟩ := ORow.blk h102
      refine ⟨M108, ?_⟩
      have h111 := (Dat.up hD58 (up_chgn (up_up u65 u80) c104 (by rw [e62]; exact Nat.le_refl _)))
      refine h1a 10 2 rfl (apO rfl (by kernel_rfl) (by kernel_rfl) h102 (SubO.one (x := x0) (chg_ob c104 (Nat.ne_of_gt l85) h79) h111) Ty.un22 hiO hzO hsO hbO hcO (by decide) (Nat.le_trans (Nat.le_trans hB M48.size) (Nat.le_refl _)) M108.size (by simp; omega) fun _ _ _ _ _ h117 g118 c119 => ?_)
      have M123 := mtn M108 c119 g103
      obtain ⟨_, _, _, _, _, _⟩ := ORow.blk h117
      refine ⟨M123, ?_⟩
      refine h1a 14 1 rfl (apO rfl (by kernel_rfl) (by kernel_rfl) h117 (SubO.up hs59 (Mod.up M123)) Ty.un22 hiO hzO hsO hbO hcO (by decide) (Nat.le_trans (Nat.le_trans hB M48.size) (Nat.le_refl _)) M123.size (by simp; omega) fun b126 n127 c128 _ _ h131 _ c133 => ?_)
      have M137 := mtn M123 c133 g118
      obtain ⟨_, _, _, _, _, _⟩ := ORow.blk h131
      refine ⟨M137, ?_⟩
      refine hvq (i := 15) (fuel := 0) rfl (fun _ _ _ h => h) M137 rfl (v := sl b126 0 n127 c128) (fun _ _ => r_assign (by kernel_rfl)) ?_
      refine hend (by kernel_rfl) ?_
      refine inb_n (then_n (rg_lit (wmv (v := I_ kk) (wlv (v := N_ (kk + 1)) (adN kk 1) (was (v := N_ (kk + 1)) (wnil (then_n ?_)))))))
      refine ⟨os.length - (kk + 1), ?_, (kk + 1), (some ⟨b126, 0, none⟩), n127, c128, (Lo.take jj ++ [x0] ++ Lo.drop jj), rfl, hmk, (mtn (mtn (mtn (mtu M73 u80) c104 g69) c119 (Nat.le_trans M49.size g103)) c133 (Nat.le_trans M49.size g118)), (by omega), (by rw [tkO hx0, sortO_snoc, ← hF1_1]; exact (insO_at hF2_1.out (.inr ⟨_, ho20, v28, p45⟩)).symm), (ORow.base (ORow.to h131 (by simp)) M48.size)⟩
      · omega
    ·
     refine sn rfl (cs := (opC x0 (.slice oA58 on58 oc58)).toArray) (T := 49) (V := fun b => sl b 0 1 1) (r_buildSlice (n := 1) (ps := [(0, opV x0 (.slice oA58 on58 oc58))]) Ty.un22 Ty.sz49 Ty.zv49 (by decide) (by decide) (by kernel_rfl) (by kernel_rfl)) fun b60 w61 e62 h63 u64 => ?_
     have l66 := lsz e62 h52
     have g68 := gsz e62 M49
     have g69 := gsz e62 M50
     have g70 := gsz e62 (Mod.refl [] w46)
     have M72 := mtu M49 u64
     have M74 := mtu (Mod.refl [] w46) u64
     refine ⟨M74, ?_⟩
     refine h1a 0 4 rfl (litO rfl (B := B) (base := w46.heap.size) Ty.un22 Ty.sz49 M74.size fun _ _ e77 _ h79 u80 => ?_)
     have l82 := lsz e77 (md_ob M74 nin0 h51)
     have l84 := lsz e77 (md_ob M74 nin0 h52)
     have l85 := lsz e77 h63
     have g86 := gsz e77 (mtu M48 u64)
     have g87 := gsz e77 M72
     have g88 := gsz e77 (mtu M50 u64)
     have g89 := gsz e77 M74
     have M93 := mtu M74 u80
     refine ⟨M93, ?_⟩
     refine h1a 4 3 rfl (apO rfl (by kernel_rfl) (by kernel_rfl) h79 (SubO.up hs57 (Mod.up M93)) Ty.un22 hiO hzO hsO hbO hcO (by decide) (Nat.le_trans (Nat.le_trans hB M48.size) (Nat.le_refl _)) M93.size (by simp; omega) fun _ _ _ _ _ h100 g101 c102 => ?_)
     have M106 := mtn M93 c102 g89
     obtain ⟨_, _, _, _, _, _⟩ := ORow.blk h100
     refine ⟨M106, ?_⟩
     have h109 := (Dat.up hD58 (up_chgn (up_up u64 u80) c102 (by rw [e77]; exact u64.size)))
     refine h1a 10 2 rfl (apO rfl (by kernel_rfl) (by kernel_rfl) h100 (SubO.one (x := x0) (chg_ob c102 (Nat.ne_of_lt l85) (up_ob u80 h63)) h109) Ty.un22 hiO hzO hsO hbO hcO (by decide) (Nat.le_trans (Nat.le_trans hB M48.size) (Nat.le_refl _)) M106.size (by simp; omega) fun _ _ _ _ _ h115 g116 c117 => ?_)
     have M121 := mtn M106 c117 g101
     obtain ⟨_, _, _, _, _, _⟩ := ORow.blk h115
     refine ⟨M121, ?_⟩
     refine h1a 14 1 rfl (apO rfl (by kernel_rfl) (by kernel_rfl) h115 (SubO.up hs59 (Mod.up M121)) Ty.un22 hiO hzO hsO hbO hcO (by decide) (Nat.le_trans (Nat.le_trans hB M48.size) (Nat.le_refl _)) M121.size (by simp; omega) fun b124 n125 c126 _ _ h129 _ c131 => ?_)
     have M135 := mtn M121 c131 g116
     obtain ⟨_, _, _, _, _, _⟩ := ORow.blk h129
     refine ⟨M135, ?_⟩
     refine hvq (i := 15) (fuel := 0) rfl (fun _ _ _ h => h) M135 rfl (v := sl b124 0 n125 c126) (fun _ _ => r_assign (by kernel_rfl)) ?_
     refine hend (by kernel_rfl) ?_
     refine inb_n (then_n (rg_lit (wmv (v := I_ kk) (wlv (v := N_ (kk + 1)) (adN kk 1) (was (v := N_ (kk + 1)) (wnil (then_n ?_)))))))
     refine ⟨os.length - (kk + 1), ?_, (kk + 1), (some ⟨b124, 0, none⟩), n125, c126, (Lo.take jj ++ [x0] ++ Lo.drop jj), rfl, hmk, (mtn (mtn (mtn (mtu M72 u80) c102 g87) c117 (Nat.le_trans M49.size g101)) c131 (Nat.le_trans M49.size g116)), (by omega), (by rw [tkO hx0, sortO_snoc, ← hF1_1]; exact (insO_at hF2_1.out (.inr ⟨_, ho20, v28, p45⟩)).symm), (ORow.base (ORow.to h129 (by simp)) M48.size)⟩
     · omega
   omega
  refine wp_cond_true (ebk v28) (wp_skip (then_n (wp_block (rg_lit (wmv (v := I_ jj) (wlv (v := N_ (jj + 1)) (adN jj 1) (was (v := N_ (jj + 1)) (wnil (inb_n (then_n ?_))))))))))
  refine ⟨on - (jj + 1), ?_, (jj + 1), rfl, hmk, M27, (by omega), (lt_next hF2_1 ho20 v28)⟩
  · omega
end Go.Proofs.YtefhfoioeoijlaaGreatDoor
set_option linter.unusedVariables false
set_option linter.unusedSimpArgs false
namespace Go.Proofs.YtefhfoioeoijlaaGreatDoor
open Go Go.RowKit Go.Sort
set_option maxHeartbeats 2000000 in
theorem rset_at {B : Nat} {w : World} {ub : Nat} {L : List Item} (h : RIs B w ub L) (hB : B ≤ w.heap.size) (it : Item) (iA : Option Addr) (in_ ic : Nat) (hit : Dat B w (.slice iA in_ ic) it.data) (there : Bool) (hlen : (setI it there L).length ≤ 300) :
    Calls Tryz.prog 85 #[trP ub, itV it (.slice iA in_ ic), .bool there] w fun e w' => e = .returned (.tuple #[]) ∧ RIb B w.heap.size w' ub (setI it there L) ∧ Chg w w' ub := by
  obtain ⟨huub, v, hv, hl, hne, hL⟩ := h
  rw [rowI_is] at hl
  obtain ⟨lA, lc, rfl⟩ := hl.form
  obtain ⟨ii_r, iz_r, hi_r, hz_r, hs_r, hb_r, hc_r⟩ := info_ritem
  go_enter Tryz.func85, Tryz.ntmps85
  refine wp_seq (rg_lit (wl (sn rfl (cs := (itC it (.slice iA in_ ic)).toArray) (T := 127) (V := fun b => pt b 0) (r_box (v := itV it (.slice iA in_ ic)) (by kernel_rfl) rfl) fun b1 w2 _ h4 u5 => ?_)))
  have M7 := mtu (Mod.refl [] w) u5
  refine wnil (then_n (wp_seq (rg_lit (was (v := .slice none 0 0) (wnil (then_n (wp_seq (rg_lit (wmv (v := B_ there) (wlv (v := B_ (!there)) (r_not (b := there) (by kernel_rfl)) (was (v := B_ (!there)) (wnil (then_n (wp_seq (wp_seq (rg_lit (was (v := I_ 0) (wnil (then_n (wp_block ?_))))))))))))))))))))
  have h8 := md_ob M7 nin0 hv
  refine lp (fun n a r1 => ∃ (k : Nat) (inn : Bool) (oA : Option Addr) (on : Nat) (oc : Nat), (n = L.length - k) ∧ (HasFr a 70 [(0, pt ub 0), (1, itV it (.slice iA in_ ic)), (2, B_ there), (4, pt b1 0), (6, .slice oA on oc), (7, B_ inn), (8, I_ k)] []) ∧ (Mod [] w2 r1) ∧ (k ≤ L.length) ∧ (IRow 127 B w2.heap.size r1 (.slice oA on oc) (foldI it there (L.take k)).1) ∧ (Hid ((foldI it there (L.take k)).2 = inn))) ⟨_, 0, (!there), none, 0, 0, rfl, hmk, Mod.refl _ _, Nat.zero_le _, IRow.nil _ _ _ _, rfl⟩ ?_
  rintro _ _ r1 ⟨k, inn, oA, on, oc, rfl, h11, hM1, _, hF1_1, hF1_2⟩
  obtain ⟨_, rfl⟩ := h11
  have M12 := Mod.thin M7 hM1 (by simp)
  refine wp_seq (wp_seq (rg_lit (wmv (v := I_ k) (wmv (v := pt ub 0) (wlv (v := pt ub 0) (nck) (wlv (v := pt ub 0) (fa (pt ub 0)) ?_))))))
  have h13 := md_ob M12 nin0 hv
  refine wlv (v := .slice lA L.length lc) (ld 0 Ty.ag64 h13) (wlv (v := I_ L.length) (ln lA L.length lc Ty.un64) (wl (sb rfl (ltI k L.length) fun _ k15 => wnil (then_n ?_))))
  refine bcd k15 (fun v16 p17 => ?_) (fun v16 p17 => ?_)
  ·
   refine wp_cond_false (ebk v16) (wp_exit (then_x (by nofun) (then_x (by nofun) (inb_hit (then_n (wp_seq (wp_seq (rg_lit (wmv (v := B_ inn) (wlv (v := B_ (!inn)) (r_not (b := inn) (by kernel_rfl)) (wnil (then_n ?_))))))))))))
   refine bcase inn (fun v18 => ?_) (fun v18 => ?_)
   ·
    refine wp_cond_true (ebk (bneg v18)) (rg_lit (wmv (v := .slice oA on oc) (wlv (v := itV it (.slice iA in_ ic)) (lds 0 Ty.ag127 Ty.sz127 (md_ob hM1 nin0 h4)) (wl (sn rfl (cs := (itC it (.slice iA in_ ic)).toArray) (T := 127) (V := fun b => sl b 0 1 1) (r_buildSlice (n := 1) (ps := [(0, itV it (.slice iA in_ ic))]) Ty.un64 Ty.sz127 Ty.zv127 (by decide) (by decide) (by kernel_rfl) (by kernel_rfl)) fun _ w21 _ h23 u24 => ?_)))))
    have M27 := mtu M12 u24
    have h29 := (IRow.up hF1_1 u24)
    refine wl (snI rfl (L := (foldI it there (L.take k)).1) (x := it) (e := .slice iA in_ ic) (by kernel_rfl) (by kernel_rfl) h29 Ty.un64 hi_r hz_r hs_r hb_r hc_r h23 (Dat.up hit (Mod.up M27)) (by decide) (Nat.le_trans hB M7.size) (mtu hM1 u24).size (by have := foldI_len it there (L.take k); simp at this ⊢; omega) fun A31 n32 c33 w34 e35 h36 u37 => ?_)
    have M38 := Mod.trans' M27 u37 (fun k hk => Nat.le_trans M7.size (h29.own k hk).1)
    refine was (v := .slice A31 n32 c33) (wnil (then_n (rg_lit (wmv (v := pt ub 0) (wmv (v := .slice A31 n32 c33) (wlv (v := pt ub 0) (nck) (wlv (v := pt ub 0) (fa (pt ub 0)) ?_)))))))
    have h40 := md_ob M38 nin0 hv
    refine wl (ss rfl (k := 0) (v := .slice A31 n32 c33) (vs := [.slice A31 n32 c33]) (cs' := [.slice A31 n32 c33]) (by kernel_rfl) (by kernel_rfl) rfl Ty.sz64 h40 rfl (Nat.le_of_ble_eq_true rfl) rfl fun w41 h42 c43 => wnil ?_)
    refine bodyPost_end (v := .tuple #[]) (res0 rfl ) (by kernel_rfl) ?_
    have h46 := (IRow.chg' h36 c43 ⟨huub, NotU8.of h40 (by decide)⟩ (lt_ob h8))
    have hk : L.take k = L := List.take_of_length_le (by omega)
    rw [hk] at h46
    have hi := hF1_2.out
    rw [hk, v18] at hi
    have hs := setI_out hi
    rw [← hs] at h46
    exact ⟨rfl, ⟨huub, _, h42, IRow.base h46 M7.size, IRow.ne_old h46 (lt_ob h8), hlen⟩, (Mod.chg (md_old M38 c43))⟩
   refine wp_cond_false (ebk (bneg v18)) (wp_skip (then_n (rg_lit (wmv (v := pt ub 0) (wmv (v := .slice oA on oc) (wlv (v := pt ub 0) (nck) (wlv (v := pt ub 0) (fa (pt ub 0)) (wl (ss rfl (k := 0) (v := .slice oA on oc) (vs := [.slice oA on oc]) (cs' := [.slice oA on oc]) (by kernel_rfl) (by kernel_rfl) rfl Ty.sz64 h13 rfl (Nat.le_of_ble_eq_true rfl) rfl fun _ h20 c21 => wnil ?_)))))))))
   refine bodyPost_end (v := .tuple #[]) (res0 rfl ) (by kernel_rfl) ?_
   have h24 := (IRow.chg' hF1_1 c21 ⟨huub, NotU8.of h13 (by decide)⟩ (lt_ob h8))
   have hk : L.take k = L := List.take_of_length_le (by omega)
   rw [hk] at h24
   have hi := hF1_2.out
   rw [hk, v18] at hi
   have hs := setI_in hi
   rw [← hs] at h24
   exact ⟨rfl, ⟨huub, _, h20, IRow.base h24 M7.size, IRow.ne_old h24 (lt_ob h8), hlen⟩, (Mod.chg (md_old M12 c21))⟩
  have q19 : k < L.length := by omega
  refine wp_cond_true (ebk v16) (wp_skip (then_n (wp_seq (wp_block (wp_seq (wp_seq ?_))))))
  refine rg_all (by kernel_rfl) (by kernel_rfl) ?_
  refine qmv (v := B_ inn) (qv rfl (v := B_ (!inn)) (fun _ _ => r_not (b := inn) (by kernel_rfl)) (qmv (v := B_ (!inn)) ?_))
  refine bcase inn (fun v20 => ?_) (fun v20 => ?_)
  ·
   refine qv (wt (b := !inn) rfl (by kernel_rfl) (bneg v20)) (v := pt b1 0) (fun _ _ => fa (pt b1 0)) (qv (wt (b := !inn) rfl (by kernel_rfl) (bneg v20)) (v := .agg #[I_ it.node.t, I_ it.node.w]) (fun _ uz => lds 0 Ty.ag24 Ty.sz24 (up_ob uz (md_ob hM1 nin0 h4))) (qv (wt (b := !inn) rfl (by kernel_rfl) (bneg v20)) (v := pt ub 0) (fun _ _ => mv) (qv (wt (b := !inn) rfl (by kernel_rfl) (bneg v20)) (v := pt ub 0) (fun _ _ => nck) (qv (wt (b := !inn) rfl (by kernel_rfl) (bneg v20)) (v := pt ub 0) (fun _ _ => fa (pt ub 0)) (qv (wt (b := !inn) rfl (by kernel_rfl) (bneg v20)) (v := .slice lA L.length lc) (fun _ uz => ld 0 Ty.ag64 (up_ob uz h13)) (qv (wt (b := !inn) rfl (by kernel_rfl) (bneg v20)) (v := I_ k) (fun _ _ => mv) ?_))))))
   have h22 := (IRow.up hl (Mod.up M12))
   obtain ⟨y23, hy23⟩ : ∃ x, L[k]? = some x := ⟨_, List.getElem?_eq_getElem q19⟩
   obtain ⟨g23, _, cu23, dA23, dn23, dc23, hA23, _, hb23, he23, _⟩ := h22.get hy23
   injection hA23 with hA23 _ _
   replace he23 : (cu23.toList.drop (0 + k * 10)).take 10 = (itC y23 (.slice dA23 dn23 dc23)) := by rw [Nat.zero_add]; exact he23
   refine qv (wt (b := !inn) rfl (by kernel_rfl) (bneg v20)) (v := pt g23 (0 + k * 10)) (fun _ _ => ixa L.length lc 10 k hA23 Ty.un64 Ty.sz127) (qv (wt (b := !inn) rfl (by kernel_rfl) (bneg v20)) (v := pt g23 (0 + k * 10)) (fun _ _ => fa (pt g23 (0 + k * 10))) (qv (wt (b := !inn) rfl (by kernel_rfl) (bneg v20)) (v := .agg #[I_ y23.node.t, I_ y23.node.w]) (fun _ uz => r_loads (k := 0 + k * 10) (by kernel_rfl) Ty.ag24 Ty.sz24 (up_ob uz hb23) (el_sub0 he23 rfl)) ?_))
   refine qc (wt (b := !inn) rfl (by kernel_rfl) (bneg v20)) (v := B_ (lessS ⟨it.node.t, it.node.w⟩ ⟨y23.node.t, y23.node.w⟩)) (fun _ _ => r_callv (caps := []) (all := [.agg #[I_ it.node.t, I_ it.node.w], .agg #[I_ y23.node.t, I_ y23.node.w]]) En.f139 (by kernel_rfl) (by kernel_rfl)) (fun wz uz => r04less_any ⟨it.node.t, it.node.w⟩ ⟨y23.node.t, y23.node.w⟩ _) ?_ ?_
   · rintro _ e w2 hC ⟨rfl, hu⟩; exact ⟨rfl, up_step hC hu.below⟩
   refine qv rfl (v := B_ (lessS ⟨it.node.t, it.node.w⟩ ⟨y23.node.t, y23.node.w⟩)) (fun _ _ => pkT (ebk (bneg v20))) ?_
   refine qnil fun _ u25 => ?_
   have M26 := mtu M12 u25
   have M27 := mtu hM1 u25
   refine then_n ?_
   refine bcase (lessS ⟨it.node.t, it.node.w⟩ ⟨y23.node.t, y23.node.w⟩) (fun v28 => ?_) (fun v28 => ?_)
   ·
    refine wp_cond_false (ebk v28) (wp_skip (then_n (wp_seq ?_)))
    refine rg_all (by kernel_rfl) (by kernel_rfl) ?_
    refine qmv (v := pt ub 0) (qv rfl (v := pt ub 0) (fun _ _ => nck) (qv rfl (v := pt ub 0) (fun _ _ => fa (pt ub 0)) (qv rfl (v := .slice lA L.length lc) (fun _ uz => ld 0 Ty.ag64 (up_ob uz (md_ob M26 nin0 hv))) (qmv (v := I_ k) ?_))))
    have h30 := (IRow.up hl (Mod.up M26))
    obtain ⟨g31, _, cu31, dA31, dn31, dc31, hA31, _, hb31, he31, _⟩ := h30.get hy23
    injection hA31 with hA31 _ _
    replace he31 : (cu31.toList.drop (0 + k * 10)).take 10 = (itC y23 (.slice dA31 dn31 dc31)) := by rw [Nat.zero_add]; exact he31
    refine qv rfl (v := pt g31 (0 + k * 10)) (fun _ _ => ixa L.length lc 10 k hA31 Ty.un64 Ty.sz127) (qv rfl (v := pt g31 (0 + k * 10)) (fun _ _ => fa (pt g31 (0 + k * 10))) (qv rfl (v := .agg #[I_ y23.node.t, I_ y23.node.w]) (fun _ uz => r_loads (k := 0 + k * 10) (by kernel_rfl) Ty.ag24 Ty.sz24 (up_ob uz hb31) (el_sub0 he31 rfl)) (qv rfl (v := pt b1 0) (fun _ _ => fa (pt b1 0)) (qv rfl (v := .agg #[I_ it.node.t, I_ it.node.w]) (fun _ uz => lds 0 Ty.ag24 Ty.sz24 (up_ob uz (md_ob M27 nin0 h4))) ?_))))
    refine qb rfl (fun _ _ => r_neS (a := y23.node.t) (b := y23.node.w) (c := it.node.t) (e := it.node.w) (by kernel_rfl) (by kernel_rfl)) fun _ k34 => ?_
    refine qnil fun _ u36 => ?_
    have M37 := mtu M26 u36
    have M38 := mtu M27 u36
    refine then_n ?_
    refine bcd k34 (fun v39 p40 => ?_) (fun v39 p40 => ?_)
    ·
     refine wp_cond_false (ebk v39) (wp_skip (inb_n (then_n (rg_lit (wmv (v := I_ k) (wlv (v := I_ ((k : Int) + 1)) (adN k 1) (was (v := I_ ((k : Int) + 1)) (wnil (then_n ?_)))))))))
     refine ⟨L.length - (k + 1), ?_, (k + 1), inn, oA, on, oc, rfl, hmk, M38, (by omega), (by rw [fold1 hy23, step_ge' (hF1_2.out.trans v20) v28 (Decidable.not_not.1 p40)]; exact (IRow.up (IRow.up hF1_1 u25) u36)), (by show _ = _; rw [fold1 hy23, step_ge' (hF1_2.out.trans v20) v28 (Decidable.not_not.1 p40)]; exact v20.symm)⟩
     · omega
    refine wp_cond_true (ebk v39) (rg_lit (wmv (v := .slice oA on oc) (wmv (v := pt ub 0) (wlv (v := pt ub 0) (nck) (wlv (v := pt ub 0) (fa (pt ub 0)) (wlv (v := .slice lA L.length lc) (ld 0 Ty.ag64 (md_ob M37 nin0 hv)) (wmv (v := I_ k) ?_)))))))
    have h42 := (IRow.up hl (Mod.up M37))
    obtain ⟨g43, _, cu43, dA43, dn43, dc43, hA43, _, hb43, he43, hD43⟩ := h42.get hy23
    injection hA43 with hA43 _ _
    replace he43 : (cu43.toList.drop (0 + k * 10)).take 10 = (itC y23 (.slice dA43 dn43 dc43)) := by rw [Nat.zero_add]; exact he43
    refine wlv (v := pt g43 (0 + k * 10)) (ixa L.length lc 10 k hA43 Ty.un64 Ty.sz127) (wlv (v := itV y23 (.slice dA43 dn43 dc43)) (r_loads (k := 0 + k * 10) (by kernel_rfl) Ty.ag127 Ty.sz127 hb43 (el_sub0 he43 rfl)) (wl (sn rfl (cs := (itC y23 (.slice dA43 dn43 dc43)).toArray) (T := 127) (V := fun b => sl b 0 1 1) (r_buildSlice (n := 1) (ps := [(0, itV y23 (.slice dA43 dn43 dc43))]) Ty.un64 Ty.sz127 Ty.zv127 (by decide) (by decide) (by kernel_rfl) (by kernel_rfl)) fun _ _ _ h47 u48 => ?_)))
    have M52 := mtu M38 u48
    have h53 := (IRow.up (IRow.up (IRow.up hF1_1 u25) u36) u48)
    refine wl (snI rfl (L := (foldI it there (L.take k)).1) (x := y23) (e := .slice dA43 dn43 dc43) (by kernel_rfl) (by kernel_rfl) h53 Ty.un64 hi_r hz_r hs_r hb_r hc_r h47 (Dat.up hD43 u48) (by decide) (Nat.le_trans hB M7.size) M52.size (by have := foldI_len it there (L.take k); simp at this ⊢; omega) fun A55 n56 c57 w58 e59 h60 u61 => was (v := .slice A55 n56 c57) (wnil (inb_n (then_n (rg_lit (wmv (v := I_ k) (wlv (v := I_ ((k : Int) + 1)) (adN k 1) (was (v := I_ ((k : Int) + 1)) (wnil (then_n ?_))))))))))
    refine ⟨L.length - (k + 1), ?_, (k + 1), inn, A55, n56, c57, rfl, hmk, (Mod.trans' M52 u61 (fun k hk => Nat.le_trans (Nat.le_refl _) (h53.own k hk).1)), (by omega), (by rw [fold1 hy23, step_ge (hF1_2.out.trans v20) v28 (show y23.node ≠ it.node from p40)]; exact h60), (by show _ = _; rw [fold1 hy23, step_ge (hF1_2.out.trans v20) v28 (show y23.node ≠ it.node from p40)]; exact v20.symm)⟩
    · omega
   refine wp_cond_true (ebk v28) (wp_seq (rg_lit (wmv (v := .slice oA on oc) (wlv (v := itV it (.slice iA in_ ic)) (lds 0 Ty.ag127 Ty.sz127 (md_ob M27 nin0 h4)) (wl (sn rfl (cs := (itC it (.slice iA in_ ic)).toArray) (T := 127) (V := fun b => sl b 0 1 1) (r_buildSlice (n := 1) (ps := [(0, itV it (.slice iA in_ ic))]) Ty.un64 Ty.sz127 Ty.zv127 (by decide) (by decide) (by kernel_rfl) (by kernel_rfl)) fun _ w31 _ h33 u34 => ?_))))))
   have M37 := mtu M26 u34
   have M38 := mtu M27 u34
   have h39 := (IRow.up (IRow.up hF1_1 u25) u34)
   refine wl (snI rfl (L := (foldI it there (L.take k)).1) (x := it) (e := .slice iA in_ ic) (by kernel_rfl) (by kernel_rfl) h39 Ty.un64 hi_r hz_r hs_r hb_r hc_r h33 (Dat.up hit (Mod.up M37)) (by decide) (Nat.le_trans hB M7.size) M38.size (by have := foldI_len it there (L.take k); simp at this ⊢; omega) fun A41 n42 c43 w44 e45 h46 u47 => ?_)
   have M48 := Mod.trans' M37 u47 (fun k hk => Nat.le_trans M7.size (h39.own k hk).1)
   have M49 := Mod.trans' M38 u47 (fun k hk => Nat.le_trans (Nat.le_refl _) (h39.own k hk).1)
   refine was (v := .slice A41 n42 c43) (wnil (then_n (rg_lit (was (v := B_ true) (wnil (then_n (wp_seq ?_)))))))
   refine rg_all (by kernel_rfl) (by kernel_rfl) ?_
   refine qmv (v := pt ub 0) (qv rfl (v := pt ub 0) (fun _ _ => nck) (qv rfl (v := pt ub 0) (fun _ _ => fa (pt ub 0)) (qv rfl (v := .slice lA L.length lc) (fun _ uz => ld 0 Ty.ag64 (up_ob uz (md_ob M48 nin0 hv))) (qmv (v := I_ k) ?_))))
   have h51 := (IRow.up hl (Mod.up M48))
   obtain ⟨g52, _, cu52, dA52, dn52, dc52, hA52, _, hb52, he52, _⟩ := h51.get hy23
   injection hA52 with hA52 _ _
   replace he52 : (cu52.toList.drop (0 + k * 10)).take 10 = (itC y23 (.slice dA52 dn52 dc52)) := by rw [Nat.zero_add]; exact he52
   refine qv rfl (v := pt g52 (0 + k * 10)) (fun _ _ => ixa L.length lc 10 k hA52 Ty.un64 Ty.sz127) (qv rfl (v := pt g52 (0 + k * 10)) (fun _ _ => fa (pt g52 (0 + k * 10))) (qv rfl (v := .agg #[I_ y23.node.t, I_ y23.node.w]) (fun _ uz => r_loads (k := 0 + k * 10) (by kernel_rfl) Ty.ag24 Ty.sz24 (up_ob uz hb52) (el_sub0 he52 rfl)) (qv rfl (v := pt b1 0) (fun _ _ => fa (pt b1 0)) (qv rfl (v := .agg #[I_ it.node.t, I_ it.node.w]) (fun _ uz => lds 0 Ty.ag24 Ty.sz24 (up_ob uz (md_ob M49 nin0 h4))) ?_))))
   refine qb rfl (fun _ _ => r_neS (a := y23.node.t) (b := y23.node.w) (c := it.node.t) (e := it.node.w) (by kernel_rfl) (by kernel_rfl)) fun _ k55 => ?_
   refine qnil fun _ u57 => ?_
   have M58 := mtu M48 u57
   have M59 := mtu M49 u57
   refine then_n ?_
   refine bcd k55 (fun v60 p61 => ?_) (fun v60 p61 => ?_)
   ·
    refine wp_cond_false (ebk v60) (wp_skip (inb_n (then_n (rg_lit (wmv (v := I_ k) (wlv (v := I_ ((k : Int) + 1)) (adN k 1) (was (v := I_ ((k : Int) + 1)) (wnil (then_n ?_)))))))))
    refine ⟨L.length - (k + 1), ?_, (k + 1), true, A41, n42, c43, rfl, hmk, M59, (by omega), (by rw [fold1 hy23, step_lt' (hF1_2.out.trans v20) v28 (Decidable.not_not.1 p61)]; exact (IRow.up h46 u57)), (by show _ = _; rw [fold1 hy23, step_lt' (hF1_2.out.trans v20) v28 (Decidable.not_not.1 p61)])⟩
    · omega
   refine wp_cond_true (ebk v60) (rg_lit (wmv (v := .slice A41 n42 c43) (wmv (v := pt ub 0) (wlv (v := pt ub 0) (nck) (wlv (v := pt ub 0) (fa (pt ub 0)) (wlv (v := .slice lA L.length lc) (ld 0 Ty.ag64 (md_ob M58 nin0 hv)) (wmv (v := I_ k) ?_)))))))
   have h63 := (IRow.up hl (Mod.up M58))
   obtain ⟨g64, _, cu64, dA64, dn64, dc64, hA64, _, hb64, he64, hD64⟩ := h63.get hy23
   injection hA64 with hA64 _ _
   replace he64 : (cu64.toList.drop (0 + k * 10)).take 10 = (itC y23 (.slice dA64 dn64 dc64)) := by rw [Nat.zero_add]; exact he64
   refine wlv (v := pt g64 (0 + k * 10)) (ixa L.length lc 10 k hA64 Ty.un64 Ty.sz127) (wlv (v := itV y23 (.slice dA64 dn64 dc64)) (r_loads (k := 0 + k * 10) (by kernel_rfl) Ty.ag127 Ty.sz127 hb64 (el_sub0 he64 rfl)) (wl (sn rfl (cs := (itC y23 (.slice dA64 dn64 dc64)).toArray) (T := 127) (V := fun b => sl b 0 1 1) (r_buildSlice (n := 1) (ps := [(0, itV y23 (.slice dA64 dn64 dc64))]) Ty.un64 Ty.sz127 Ty.zv127 (by decide) (by decide) (by kernel_rfl) (by kernel_rfl)) fun _ _ _ h68 u69 => ?_)))
   have M73 := mtu M59 u69
   have h74 := (IRow.up (IRow.up h46 u57) u69)
   refine wl (snI rfl (L := ((foldI it there (L.take k)).1 ++ [it])) (x := y23) (e := .slice dA64 dn64 dc64) (by kernel_rfl) (by kernel_rfl) h74 Ty.un64 hi_r hz_r hs_r hb_r hc_r h68 (Dat.up hD64 u69) (by decide) (Nat.le_trans hB M7.size) M73.size (by have := foldI_len it there (L.take k); simp at this ⊢; omega) fun A76 n77 c78 w79 e80 h81 u82 => was (v := .slice A76 n77 c78) (wnil (inb_n (then_n (rg_lit (wmv (v := I_ k) (wlv (v := I_ ((k : Int) + 1)) (adN k 1) (was (v := I_ ((k : Int) + 1)) (wnil (then_n ?_))))))))))
   refine ⟨L.length - (k + 1), ?_, (k + 1), true, A76, n77, c78, rfl, hmk, (Mod.trans' M73 u82 (fun k hk => Nat.le_trans (Nat.le_refl _) (h74.own k hk).1)), (by omega), (by rw [fold1 hy23, step_lt (hF1_2.out.trans v20) v28 (show y23.node ≠ it.node from p61)]; exact h81), (by show _ = _; rw [fold1 hy23, step_lt (hF1_2.out.trans v20) v28 (show y23.node ≠ it.node from p61)])⟩
   · omega
  iterate 11 refine qls rfl (bneg v20) ?_
  refine qv rfl (v := B_ false) (fun _ _ => pkF (ebk (bneg v20))) ?_
  refine qnil fun w21 u22 => ?_
  have M23 := mtu M12 u22
  have M24 := mtu hM1 u22
  refine then_n (wp_cond_false (by kernel_rfl) (wp_skip (then_n (wp_seq ?_))))
  refine rg_all (by kernel_rfl) (by kernel_rfl) ?_
  refine qmv (v := pt ub 0) (qv rfl (v := pt ub 0) (fun _ _ => nck) (qv rfl (v := pt ub 0) (fun _ _ => fa (pt ub 0)) (qv rfl (v := .slice lA L.length lc) (fun _ uz => ld 0 Ty.ag64 (up_ob uz (md_ob M23 nin0 hv))) (qmv (v := I_ k) ?_))))
  have h26 := (IRow.up hl (Mod.up M23))
  obtain ⟨y27, hy27⟩ : ∃ x, L[k]? = some x := ⟨_, List.getElem?_eq_getElem q19⟩
  obtain ⟨g27, _, cu27, dA27, dn27, dc27, hA27, _, hb27, he27, _⟩ := h26.get hy27
  injection hA27 with hA27 _ _
  replace he27 : (cu27.toList.drop (0 + k * 10)).take 10 = (itC y27 (.slice dA27 dn27 dc27)) := by rw [Nat.zero_add]; exact he27
  refine qv rfl (v := pt g27 (0 + k * 10)) (fun _ _ => ixa L.length lc 10 k hA27 Ty.un64 Ty.sz127) (qv rfl (v := pt g27 (0 + k * 10)) (fun _ _ => fa (pt g27 (0 + k * 10))) (qv rfl (v := .agg #[I_ y27.node.t, I_ y27.node.w]) (fun _ uz => r_loads (k := 0 + k * 10) (by kernel_rfl) Ty.ag24 Ty.sz24 (up_ob uz hb27) (el_sub0 he27 rfl)) (qv rfl (v := pt b1 0) (fun _ _ => fa (pt b1 0)) (qv rfl (v := .agg #[I_ it.node.t, I_ it.node.w]) (fun _ uz => lds 0 Ty.ag24 Ty.sz24 (up_ob uz (md_ob M24 nin0 h4))) ?_))))
  refine qb rfl (fun _ _ => r_neS (a := y27.node.t) (b := y27.node.w) (c := it.node.t) (e := it.node.w) (by kernel_rfl) (by kernel_rfl)) fun _ k30 => ?_
  refine qnil fun w31 u32 => ?_
  have M33 := mtu M23 u32
  have M34 := mtu M24 u32
  refine then_n ?_
  refine bcd k30 (fun v35 p36 => ?_) (fun v35 p36 => ?_)
  ·
   refine wp_cond_false (ebk v35) (wp_skip (inb_n (then_n (rg_lit (wmv (v := I_ k) (wlv (v := I_ ((k : Int) + 1)) (adN k 1) (was (v := I_ ((k : Int) + 1)) (wnil (then_n ?_)))))))))
   refine ⟨L.length - (k + 1), ?_, (k + 1), inn, oA, on, oc, rfl, hmk, M34, (by omega), (by rw [fold1 hy27, step_in' (hF1_2.out.trans v20) (Decidable.not_not.1 p36)]; exact (IRow.up (IRow.up hF1_1 u22) u32)), (by show _ = _; rw [fold1 hy27, step_in' (hF1_2.out.trans v20) (Decidable.not_not.1 p36)]; exact v20.symm)⟩
   · omega
  refine wp_cond_true (ebk v35) (rg_lit (wmv (v := .slice oA on oc) (wmv (v := pt ub 0) (wlv (v := pt ub 0) (nck) (wlv (v := pt ub 0) (fa (pt ub 0)) (wlv (v := .slice lA L.length lc) (ld 0 Ty.ag64 (md_ob M33 nin0 hv)) (wmv (v := I_ k) ?_)))))))
  have h38 := (IRow.up hl (Mod.up M33))
  obtain ⟨g39, _, cu39, dA39, dn39, dc39, hA39, _, hb39, he39, hD39⟩ := h38.get hy27
  injection hA39 with hA39 _ _
  replace he39 : (cu39.toList.drop (0 + k * 10)).take 10 = (itC y27 (.slice dA39 dn39 dc39)) := by rw [Nat.zero_add]; exact he39
  refine wlv (v := pt g39 (0 + k * 10)) (ixa L.length lc 10 k hA39 Ty.un64 Ty.sz127) (wlv (v := itV y27 (.slice dA39 dn39 dc39)) (r_loads (k := 0 + k * 10) (by kernel_rfl) Ty.ag127 Ty.sz127 hb39 (el_sub0 he39 rfl)) (wl (sn rfl (cs := (itC y27 (.slice dA39 dn39 dc39)).toArray) (T := 127) (V := fun b => sl b 0 1 1) (r_buildSlice (n := 1) (ps := [(0, itV y27 (.slice dA39 dn39 dc39))]) Ty.un64 Ty.sz127 Ty.zv127 (by decide) (by decide) (by kernel_rfl) (by kernel_rfl)) fun _ w41 _ h43 u44 => ?_)))
  have M48 := mtu M34 u44
  have h49 := (IRow.up (IRow.up (IRow.up hF1_1 u22) u32) u44)
  refine wl (snI rfl (L := (foldI it there (L.take k)).1) (x := y27) (e := .slice dA39 dn39 dc39) (by kernel_rfl) (by kernel_rfl) h49 Ty.un64 hi_r hz_r hs_r hb_r hc_r h43 (Dat.up hD39 u44) (by decide) (Nat.le_trans hB M7.size) M48.size (by have := foldI_len it there (L.take k); simp at this ⊢; omega) fun A51 n52 c53 w54 e55 h56 u57 => was (v := .slice A51 n52 c53) (wnil (inb_n (then_n (rg_lit (wmv (v := I_ k) (wlv (v := I_ ((k : Int) + 1)) (adN k 1) (was (v := I_ ((k : Int) + 1)) (wnil (then_n ?_))))))))))
  refine ⟨L.length - (k + 1), ?_, (k + 1), inn, A51, n52, c53, rfl, hmk, (Mod.trans' M48 u57 (fun k hk => Nat.le_trans (Nat.le_refl _) (h49.own k hk).1)), (by omega), (by rw [fold1 hy27, step_in (hF1_2.out.trans v20) (show y27.node ≠ it.node from p36)]; exact h56), (by show _ = _; rw [fold1 hy27, step_in (hF1_2.out.trans v20) (show y27.node ≠ it.node from p36)]; exact v20.symm)⟩
  · omega
end Go.Proofs.YtefhfoioeoijlaaGreatDoor

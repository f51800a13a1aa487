/- GR: printed by gen.py -/
import Derived.Test.YtefhfoioeoijlaaGreatPlain
set_option linter.unusedVariables false
set_option linter.unusedSimpArgs false
namespace Go.Proofs.YtefhfoioeoijlaaGreat
open Go Go.RowKit Go.Sort
theorem sortO_snoc (l : List OpD) (x : OpD) : sortO (l ++ [x]) = insO (sortO l) x := by simp [sortO]
theorem sub_cells {w : World} {b k : Nat} {l : List Value} (j n : Nat) (h : ∀ i v, l[i]? = some v → w.cell? ⟨b, k + i, none⟩ = some v) : ∀ i v, ((l.drop j).take n)[i]? = some v → w.cell? ⟨b, k + j + i, none⟩ = some v := by
  intro i v hi
  rw [List.getElem?_take] at hi
  split at hi
  · rw [List.getElem?_drop] at hi
    rw [Nat.add_assoc]; exact h _ _ hi
  · cases hi
set_option maxHeartbeats 2000000 in
theorem rsort_at {B : Nat} {w : World} {lA : Option Addr} {lc : Nat} {os : List OpD} (h : OpRow B w lA os) (hB : B ≤ w.heap.size) (hn : os.length ≤ 100000) :
    Calls Tryz.prog 26 #[.slice lA os.length lc] w fun e w' => ∃ v, e = .returned v ∧ ORow 38 B w.heap.size w' v (sortO os) ∧ Up w w' := by
  obtain ⟨iO, zO, hiO, hzO, hsO, hbO, hcO⟩ := info_op
  go_enter Tryz.func26, Tryz.ntmps26
  refine wp_seq (rg_lit ?_)
  refine was (v := .slice none 0 0) ?_
  refine wnil (then_n (wp_seq (rg_lit ?_)))
  refine was (v := .slice none 0 0) ?_
  refine wnil (then_n (wp_seq (wp_seq (rg_lit ?_))))
  refine was (v := .int .i64 0) ?_
  refine wnil (then_n (wp_block ?_))
  refine lp (fun n a r1 => ∃ (kk : Nat) (oA : Option Addr) (on : Nat) (oc : Nat) (Lo : List OpD) (z5 z6 z7 z8 z9 z10 z11 z12 z13 z14 z15 z16 z17 z18 z19 z20 z21 z22 z23 z24 z25 z26 z27 z28 z29 z30 z31 z32 z33 z34 z35 z36 z37 z38 z39 z40 z41 z42 z43 z44 z45 z46 z47 z48 z49 z50 z51 z52 z53 z54 z55 z56 z57 z58 z59 z60 z61 z62 : Value), (n = os.length - kk) ∧ (a = ⟨#[.slice lA os.length lc, undef, .slice none 0 0, .slice oA on oc, .int .i64 ((kk : Int)), z5, z6, z7, z8, z9, z10, z11, z12, z13, z14, z15, z16, z17, z18, z19, z20, z21, z22, z23, z24, z25, z26, z27, z28, z29, z30, z31, z32, z33, z34, z35, z36, z37, z38, z39, z40, z41, z42, z43, z44, z45, z46, z47, z48, z49, z50, z51, z52, z53, z54, z55, z56, z57, z58, z59, z60, z61, z62, undef], []⟩) ∧ (Mod [] w r1) ∧ (kk ≤ os.length) ∧ (Lo = sortO (os.take kk)) ∧ (ORow 38 B w.heap.size r1 (.slice oA on oc) Lo)) ⟨_, 0, none, 0, 0, [], undef, undef, undef, undef, undef, undef, undef, undef, undef, undef, undef, undef, undef, undef, undef, undef, undef, undef, undef, undef, undef, undef, undef, undef, undef, undef, undef, undef, undef, undef, undef, undef, undef, undef, undef, undef, undef, undef, undef, undef, undef, undef, undef, undef, undef, undef, undef, undef, undef, undef, undef, undef, undef, undef, undef, undef, undef, undef, rfl, (by kernel_rfl), Mod.refl _ _, (Nat.zero_le _), rfl, (ORow.nil _ _ _ _)⟩ ?_
  rintro _ _ r1 ⟨kk, oA, on, oc, Lo, z5, z6, z7, z8, z9, z10, z11, z12, z13, z14, z15, z16, z17, z18, z19, z20, z21, z22, z23, z24, z25, z26, z27, z28, z29, z30, z31, z32, z33, z34, z35, z36, z37, z38, z39, z40, z41, z42, z43, z44, z45, z46, z47, z48, z49, z50, z51, z52, z53, z54, z55, z56, z57, z58, z59, z60, z61, z62, rfl, rfl, hM1, hF1_0, hF1_1, hF1_2⟩
  have M1 := Mod.thin (Mod.refl [] w) hM1 (by simp)
  have hll := sortO_len (os.take kk)
  rw [← hF1_1] at hll
  have hlt := List.length_take_le kk os
  have hon := (ORow.addr hF1_2).1
  refine wp_seq (wp_seq (rg_lit ?_))
  refine wmv (v := .int .i64 ((kk : Int))) ?_
  refine wmv (v := .slice lA os.length lc) ?_
  refine wl (sv rfl (v := .int .i64 ((os.length : Int))) (r_len Ty.un28 (ad := lA) (n := os.length) (c := lc) (by kernel_rfl)) ?_)
  refine wl (sb rfl (r_lt (k := .i64) (m := ((kk : Int))) (n := ((os.length : Int))) (by kernel_rfl) (by kernel_rfl)) ?_)
  intro b2 k3
  refine wnil (then_n ?_)
  refine bcase b2 (fun v4 => ?_) (fun v4 => ?_)
  ·
   have p5 := of_decide_eq_false (k3.trans v4)
   refine wp_cond_false (ebool (b := b2) (by kernel_rfl) v4) ?_
   refine wp_exit (then_x (by nofun) (then_x (by nofun) (inb_hit (then_n (wp_seq (rg_lit ?_))))))
   refine wmv (v := .slice oA on oc) ?_
   refine was (v := .slice oA on oc) ?_
   refine wnil (then_n (wp_ret ?_))
   refine bodyPost_ret (v := .slice oA on oc) (res1 rfl (rv_t (by kernel_rfl))) (by kernel_rfl) ?_
   exact ⟨_, rfl, ORow.to hF1_2 (by rw [hF1_1, List.take_of_length_le (by omega)]), (Mod.up M1)⟩
  have p5 := of_decide_eq_true (k3.trans v4)
  have q6 : kk < os.length := by omega
  have q7 : kk < os.length := by omega
  refine wp_cond_true (ebool (b := b2) (by kernel_rfl) v4) ?_
  refine wp_skip (then_n (wp_seq (wp_block (wp_seq (rg_lit ?_)))))
  refine was (v := .int .i64 0) ?_
  refine wnil (then_n (wp_seq (wp_block ?_)))
  have h8 := (OpRow.up h (Mod.up M1))
  obtain ⟨x0, hx0⟩ : ∃ x, os[kk]? = some x := ⟨_, List.getElem?_eq_getElem (by omega)⟩
  refine lp (fun n a r2 => ∃ (jj : Nat) (z12 z13 z14 z15 z16 z17 z18 z19 z20 z21 z22 z23 z24 z25 z26 z27 z28 z29 z30 : Value), (n = on - jj) ∧ (a = ⟨#[.slice lA os.length lc, undef, .slice none 0 0, .slice oA on oc, .int .i64 ((kk : Int)), .int .i64 ((jj : Int)), .int .i64 ((kk : Int)), .slice lA os.length lc, .int .i64 ((os.length : Int)), .bool b2, z10, z11, z12, z13, z14, z15, z16, z17, z18, z19, z20, z21, z22, z23, z24, z25, z26, z27, z28, z29, z30, z31, z32, z33, z34, z35, z36, z37, z38, z39, z40, z41, z42, z43, z44, z45, z46, z47, z48, z49, z50, z51, z52, z53, z54, z55, z56, z57, z58, z59, z60, z61, z62, undef], []⟩) ∧ (Mod [] r1 r2) ∧ (jj ≤ on) ∧ (Hid (∀ (j : Nat) (y : OpD), j < jj → Lo[j]? = some y → ltS y.at_ x0.at_ = true))) ⟨_, 0, z12, z13, z14, z15, z16, z17, z18, z19, z20, z21, z22, z23, z24, z25, z26, z27, z28, z29, z30, rfl, (by kernel_rfl), Mod.refl _ _, (Nat.zero_le _), (fun j y hj => absurd hj (Nat.not_lt_zero _))⟩ ?_
  rintro _ _ r2 ⟨jj, z12, z13, z14, z15, z16, z17, z18, z19, z20, z21, z22, z23, z24, z25, z26, z27, z28, z29, z30, rfl, rfl, hM2, hF2_0, hF2_1⟩
  have M9 := Mod.thin M1 hM2 (by simp)
  have M10 := Mod.thin hM1 hM2 (by simp)
  refine wp_seq (wp_seq ?_)
  refine rg_all (by kernel_rfl) (by kernel_rfl) ?_
  refine qmv (v := .int .i64 ((jj : Int))) ?_
  refine qmv (v := .slice oA on oc) ?_
  refine qv rfl (v := .int .i64 ((on : Int))) (fun _ _ => r_len Ty.un28 (ad := oA) (n := on) (c := oc) (by kernel_rfl)) ?_
  refine qb rfl (fun _ _ => r_lt (k := .i64) (m := ((jj : Int))) (n := ((on : Int))) (by kernel_rfl) (by kernel_rfl)) ?_
  intro b11 k12
  refine qmv (v := .bool b11) ?_
  refine bcase b11 (fun v13 => ?_) (fun v13 => ?_)
  ·
   have p14 := of_decide_eq_false (k12.trans v13)
   refine qp (wf (b := b11) rfl (by kernel_rfl) v13) ?_
   refine qp (wf (b := b11) rfl (by kernel_rfl) v13) ?_
   refine qp (wf (b := b11) rfl (by kernel_rfl) v13) ?_
   refine qp (wf (b := b11) rfl (by kernel_rfl) v13) ?_
   refine qp (wf (b := b11) rfl (by kernel_rfl) v13) ?_
   refine qp (wf (b := b11) rfl (by kernel_rfl) v13) ?_
   refine qp (wf (b := b11) rfl (by kernel_rfl) v13) ?_
   refine qp (wf (b := b11) rfl (by kernel_rfl) v13) ?_
   refine qp (wf (b := b11) rfl (by kernel_rfl) v13) ?_
   refine qp (wf (b := b11) rfl (by kernel_rfl) v13) ?_
   refine qp (wf (b := b11) rfl (by kernel_rfl) v13) ?_
   refine qv rfl (v := .bool false) (fun _ _ => r_pkF (ebool (b := b11) (by kernel_rfl) v13) (by kernel_rfl)) ?_
   refine qnil ?_
   intro w15 u16
   have M17 := Mod.trans M9 (Mod.of_up u16)
   have M18 := Mod.trans M10 (Mod.of_up u16)
   have M19 := Mod.trans hM2 (Mod.of_up u16)
   refine then_n ?_
   refine wp_cond_false (by kernel_rfl) ?_
   refine wp_exit (then_x (by nofun) (then_x (by nofun) (inb_hit (then_n (wp_seq ?_)))))
   refine rg_all (by kernel_rfl) (by kernel_rfl) ?_
   refine qmv (v := .int .i64 ((jj : Int))) ?_
   refine qmv (v := .slice oA on oc) ?_
   refine qv rfl (v := .int .i64 ((on : Int))) (fun _ _ => r_len Ty.un28 (ad := oA) (n := on) (c := oc) (by kernel_rfl)) ?_
   refine qb rfl (fun _ _ => r_eq (k := .i64) (m := ((jj : Int))) (n := ((on : Int))) (by kernel_rfl) (by kernel_rfl)) ?_
   intro b20 k21
   refine qmv (v := .bool b20) ?_
   refine bcase b20 (fun v22 => ?_) (fun v22 => ?_)
   ·
    have p23 := of_decide_eq_false (k21.trans v22)
    omega
   have p23 := of_decide_eq_true (k21.trans v22)
   refine qp (wf (b := b20) rfl (by kernel_rfl) v22) ?_
   refine qp (wf (b := b20) rfl (by kernel_rfl) v22) ?_
   refine qp (wf (b := b20) rfl (by kernel_rfl) v22) ?_
   refine qp (wf (b := b20) rfl (by kernel_rfl) v22) ?_
   refine qp (wf (b := b20) rfl (by kernel_rfl) v22) ?_
   refine qp (wf (b := b20) rfl (by kernel_rfl) v22) ?_
   refine qp (wf (b := b20) rfl (by kernel_rfl) v22) ?_
   refine qp (wf (b := b20) rfl (by kernel_rfl) v22) ?_
   refine qp (wf (b := b20) rfl (by kernel_rfl) v22) ?_
   refine qp (wf (b := b20) rfl (by kernel_rfl) v22) ?_
   refine qp (wf (b := b20) rfl (by kernel_rfl) v22) ?_
   refine qv rfl (v := .bool true) (fun _ _ => r_pkT (ebool (b := b20) (by kernel_rfl) v22) (by kernel_rfl)) ?_
   refine qnil ?_
   intro w24 u25
   have M26 := Mod.trans M17 (Mod.of_up u25)
   have M27 := Mod.trans M18 (Mod.of_up u25)
   have M28 := Mod.trans M19 (Mod.of_up u25)
   refine then_n ?_
   refine wp_cond_true (by kernel_rfl) ?_
   refine rg_held [] (n := 16) (by kernel_rfl) rfl ?_
   intro w29 u30
   have M31 := Mod.trans M26 (Mod.of_up u30)
   have M32 := Mod.trans M27 (Mod.of_up u30)
   have M33 := Mod.trans M28 (Mod.of_up u30)
   have h34 := (OpRow.up h (Mod.up M31))
   have h35 := (ORow.up hF1_2 (Mod.up M33))
   refine hvq (i := 1) (fuel := 15) rfl (fun _ _ _ h => h) (Mod.refl [] w29) rfl (v := .slice oA on oc) (fun _ _ => r_move (by kernel_rfl)) ?_
   refine hvq (i := 2) (fuel := 14) rfl (fun _ _ _ h => h) (Mod.refl [] w29) rfl (v := .int .i64 ((jj : Int))) (fun _ _ => r_move (by kernel_rfl)) ?_
   obtain ⟨hs36, hq36⟩ := ORow.headCut (P := Tryz.prog) (k := jj) h35 (by omega) 28 38 Ty.un28 Ty.sz38
   refine hvq (i := 3) (fuel := 13) rfl (fun _ _ _ h => h) (Mod.refl [] w29) rfl (v := .slice oA jj oc) (fun _ _ => hq36 _ _ _ _ _ _ _ _ _ (by kernel_rfl) (by kernel_rfl)) ?_
   refine hvq (i := 5) (fuel := 12) rfl (fun _ _ _ h => h) (Mod.refl [] w29) rfl (v := .slice lA os.length lc) (fun _ _ => r_move (by kernel_rfl)) ?_
   refine hvq (i := 6) (fuel := 11) rfl (fun _ _ _ h => h) (Mod.refl [] w29) rfl (v := .int .i64 ((kk : Int))) (fun _ _ => r_move (by kernel_rfl)) ?_
   obtain ⟨g37, f37, oA37, on37, oc37, hA37, hl37, hc37, hD37, hs37⟩ := h34 kk x0 hx0
   refine hvq (i := 7) (fuel := 10) rfl (fun _ _ _ h => h) (Mod.refl [] w29) rfl (v := .pointer (some ⟨g37, f37 + kk * 10, none⟩)) (fun _ _ => r_ixaddr' (A := lA) (b := g37) (o := f37) (n := os.length) (c := lc) (sz := 10) (j := (kk : Int)) (m := f37 + kk * 10) (by kernel_rfl) hA37 (by kernel_rfl) Ty.un28 Ty.sz38 (by omega) (by omega) (by simp)) ?_
   refine hvq (i := 8) (fuel := 9) rfl (fun _ _ _ h => h) (Mod.refl [] w29) rfl (v := opV x0 (.slice oA37 on37 oc37)) (fun _ uz => r_loadcN (vs := (opC x0 (.slice oA37 on37 oc37))) (by kernel_rfl) Ty.ag38 Ty.sz38 (fun j v hj => ((Mod.up uz).cell (p := ⟨g37, f37 + kk * 10 + j, none⟩) hl37).trans (hc37 j v hj))) ?_
   refine hvq (i := 11) (fuel := 8) rfl (fun _ _ _ h => h) (Mod.refl [] w29) rfl (v := .slice oA on oc) (fun _ _ => r_move (by kernel_rfl)) ?_
   refine hvq (i := 12) (fuel := 7) rfl (fun _ _ _ h => h) (Mod.refl [] w29) rfl (v := .int .i64 ((jj : Int))) (fun _ _ => r_move (by kernel_rfl)) ?_
   obtain ⟨A38, hs38, hq38⟩ := ORow.tailCut (P := Tryz.prog) (k := jj) h35 (by omega) 28 38 Ty.un28 Ty.sz38
   refine hvq (i := 13) (fuel := 6) rfl (fun _ _ _ h => h) (Mod.refl [] w29) rfl (v := .slice A38 ((on - jj : Nat)) ((oc - jj : Nat))) (fun _ _ => hq38 _ _ _ _ _ _ _ _ _ (by kernel_rfl) (by kernel_rfl)) ?_
   refine h2 (i := 0) (j := 9) (fuel := 5) (by kernel_rfl) rfl rfl ?_ ?_
   ·
    refine litO rfl (B := B) (base := w29.heap.size) Ty.un28 Ty.sz38 (Mod.refl [] w29).size ?_
    intro b39 w40 e41 h42 h43 u44
    have g45 : w.heap.size ≤ b39 := by rw [e41]; exact M31.size
    have g46 : w.heap.size ≤ b39 := by rw [e41]; exact M32.size
    have g47 : r1.heap.size ≤ b39 := by rw [e41]; exact M33.size
    have g48 : w29.heap.size ≤ b39 := by rw [e41]; exact (Mod.refl [] w29).size
    have M49 := Mod.trans M31 (Mod.of_up u44)
    have M50 := Mod.trans M32 (Mod.of_up u44)
    have M51 := Mod.trans M33 (Mod.of_up u44)
    have M52 := Mod.trans (Mod.refl [] w29) (Mod.of_up u44)
    refine ⟨M52, ?_⟩
    refine h2 (i := 4) (j := 9) (fuel := 4) (by kernel_rfl) rfl rfl ?_ ?_
    ·
     have h53 := (SubO.up hs36 (Mod.up M52))
     refine apO rfl (by kernel_rfl) (by kernel_rfl) h43 h53 Ty.un28 hiO hzO hsO hbO hcO (by decide) (Nat.le_trans (Nat.le_trans hB M31.size) (Nat.le_refl _)) M52.size (by simp; omega) ?_
     intro b54 n55 c56 w57 e58 h59 g60 c61
     have M62 := Mod.trans' M49 c61 (fun i hi => by injection hi with hi; rw [← hi]; exact g45)
     have M63 := Mod.trans' M50 c61 (fun i hi => by injection hi with hi; rw [← hi]; exact g46)
     have M64 := Mod.trans' M51 c61 (fun i hi => by injection hi with hi; rw [← hi]; exact g47)
     have M65 := Mod.trans' M52 c61 (fun i hi => by injection hi with hi; rw [← hi]; exact g48)
     obtain ⟨_, _, _, cg66, hg66, _⟩ := ORow.blk h59
     refine ⟨M65, ?_⟩
     refine h1 (i := 9) (fuel := 3) (by kernel_rfl) rfl (sn rfl (cs := (opC x0 (.slice oA37 on37 oc37)).toArray) (T := 38) (V := fun b => .slice (some ⟨b, 0, none⟩) 1 1) (r_buildSlice (n := 1) (ps := [(0, opV x0 (.slice oA37 on37 oc37))]) Ty.un28 Ty.sz38 Ty.zv38 (by decide) (by decide) (by kernel_rfl) (by kernel_rfl)) ?_)
     intro b67 w68 e69 h70 u71
     have l72 : b54 < b67 := by rw [e69]; exact lt_ob hg66
     have g73 : w.heap.size ≤ b67 := by rw [e69]; exact M62.size
     have g74 : w.heap.size ≤ b67 := by rw [e69]; exact M63.size
     have g75 : r1.heap.size ≤ b67 := by rw [e69]; exact M64.size
     have g76 : w29.heap.size ≤ b67 := by rw [e69]; exact M65.size
     have M77 := Mod.trans M62 (Mod.of_up u71)
     have M78 := Mod.trans M63 (Mod.of_up u71)
     have M79 := Mod.trans M64 (Mod.of_up u71)
     have M80 := Mod.trans M65 (Mod.of_up u71)
     refine ⟨M80, ?_⟩
     have h81 := (ORow.up h59 u71)
     have h82 := (up_ob u71 hg66)
     have h83 := (Dat.up hD37 (up_up (up_chgn u44 c61 (by rw [e41]; exact Nat.le_refl _)) u71))
     refine h1 (i := 10) (fuel := 2) (by kernel_rfl) rfl (apO rfl (by kernel_rfl) (by kernel_rfl) h81 (SubO.one (x := x0) h70 h83) Ty.un28 hiO hzO hsO hbO hcO (by decide) (Nat.le_trans (Nat.le_trans hB M31.size) (Nat.le_refl _)) M80.size (by simp; omega) ?_)
     intro b84 n85 c86 w87 e88 h89 g90 c91
     have M92 := Mod.trans' M77 c91 (fun i hi => by injection hi with hi; rw [← hi]; exact (Nat.le_trans M31.size g60))
     have M93 := Mod.trans' M78 c91 (fun i hi => by injection hi with hi; rw [← hi]; exact (Nat.le_trans M32.size g60))
     have M94 := Mod.trans' M79 c91 (fun i hi => by injection hi with hi; rw [← hi]; exact (Nat.le_trans M33.size g60))
     have M95 := Mod.trans' M80 c91 (fun i hi => by injection hi with hi; rw [← hi]; exact g60)
     obtain ⟨_, _, _, cg96, hg96, _⟩ := ORow.blk h89
     refine ⟨M95, ?_⟩
     have h97 := (SubO.up hs38 (Mod.up M95))
     refine h1 (i := 14) (fuel := 1) (by kernel_rfl) rfl (apO rfl (by kernel_rfl) (by kernel_rfl) h89 h97 Ty.un28 hiO hzO hsO hbO hcO (by decide) (Nat.le_trans (Nat.le_trans hB M31.size) (Nat.le_refl _)) M95.size (by simp; omega) ?_)
     intro b98 n99 c100 w101 e102 h103 g104 c105
     have M106 := Mod.trans' M92 c105 (fun i hi => by injection hi with hi; rw [← hi]; exact (Nat.le_trans M31.size g90))
     have M107 := Mod.trans' M93 c105 (fun i hi => by injection hi with hi; rw [← hi]; exact (Nat.le_trans M32.size g90))
     have M108 := Mod.trans' M94 c105 (fun i hi => by injection hi with hi; rw [← hi]; exact (Nat.le_trans M33.size g90))
     have M109 := Mod.trans' M95 c105 (fun i hi => by injection hi with hi; rw [← hi]; exact g90)
     obtain ⟨_, _, _, cg110, hg110, _⟩ := ORow.blk h103
     refine ⟨M109, ?_⟩
     refine hvq (i := 15) (fuel := 0) rfl (fun _ _ _ h => h) M109 rfl (v := .slice (some ⟨b98, 0, none⟩) n99 c100) (fun _ _ => r_assign (by kernel_rfl)) ?_
     refine hend (by kernel_rfl) ?_
     refine inb_n (then_n (rg_lit ?_))
     refine wmv (v := .int .i64 ((kk : Int))) ?_
     refine wl (sv rfl (v := .int .i64 (((kk + 1 : Nat) : Int))) (r_add (k := .i64) (m := ((kk : Int))) (n := 1) (c := (((kk + 1 : Nat) : Int))) (by kernel_rfl) (by kernel_rfl) ((IntWalk.i64_in _ (by omega)).trans (by omega))) ?_)
     refine was (v := .int .i64 (((kk + 1 : Nat) : Int))) ?_
     refine wnil (then_n ?_)
     refine ⟨os.length - (kk + 1), ?_, (kk + 1), (some ⟨b98, 0, none⟩), n99, c100, (Lo.take jj ++ [x0] ++ Lo.drop jj), .int .i64 ((jj : Int)), .int .i64 ((kk : Int)), .slice lA os.length lc, .int .i64 ((os.length : Int)), .bool b2, .int .i64 ((kk : Int)), .int .i64 (((kk + 1 : Nat) : Int)), .int .i64 ((jj : Int)), .slice oA on oc, .int .i64 ((on : Int)), .bool b11, .bool b11, undef, undef, undef, undef, undef, undef, undef, undef, undef, undef, undef, .bool false, z29, z30, .int .i64 ((jj : Int)), .slice oA on oc, .int .i64 ((on : Int)), .bool b20, .bool b20, undef, undef, undef, undef, undef, undef, undef, undef, undef, undef, undef, .bool true, .slice (some ⟨b39, 0, none⟩) 0 0, .slice oA on oc, .int .i64 ((jj : Int)), .slice oA jj oc, .slice (some ⟨b54, 0, none⟩) n55 c56, .slice lA os.length lc, .int .i64 ((kk : Int)), .pointer (some ⟨g37, f37 + kk * 10, none⟩), opV x0 (.slice oA37 on37 oc37), .slice (some ⟨b67, 0, none⟩) 1 1, .slice (some ⟨b84, 0, none⟩) n85 c86, .slice oA on oc, .int .i64 ((jj : Int)), .slice A38 ((on - jj : Nat)) ((oc - jj : Nat)), .slice (some ⟨b98, 0, none⟩) n99 c100, rfl, (by kernel_rfl), M107, (by omega), (by rw [tkO hx0, sortO_snoc, ← hF1_1]; exact (insO_at hF2_1.out (.inl (by omega))).symm), (ORow.base (ORow.to h103 (by simp)) M31.size)⟩
     · omega
    ·
     refine sn rfl (cs := (opC x0 (.slice oA37 on37 oc37)).toArray) (T := 38) (V := fun b => .slice (some ⟨b, 0, none⟩) 1 1) (r_buildSlice (n := 1) (ps := [(0, opV x0 (.slice oA37 on37 oc37))]) Ty.un28 Ty.sz38 Ty.zv38 (by decide) (by decide) (by kernel_rfl) (by kernel_rfl)) ?_
     intro b53 w54 e55 h56 u57
     have l58 : b39 < b53 := by rw [e55]; exact lt_ob h42
     have g59 : w.heap.size ≤ b53 := by rw [e55]; exact M49.size
     have g60 : w.heap.size ≤ b53 := by rw [e55]; exact M50.size
     have g61 : r1.heap.size ≤ b53 := by rw [e55]; exact M51.size
     have g62 : w29.heap.size ≤ b53 := by rw [e55]; exact M52.size
     have M63 := Mod.trans M49 (Mod.of_up u57)
     have M64 := Mod.trans M50 (Mod.of_up u57)
     have M65 := Mod.trans M51 (Mod.of_up u57)
     have M66 := Mod.trans M52 (Mod.of_up u57)
     refine ⟨M66, ?_⟩
     have h67 := (ORow.up h43 u57)
     have h68 := (up_ob u57 h42)
     have h69 := (SubO.up hs36 (Mod.up M66))
     refine h1 (i := 4) (fuel := 3) (by kernel_rfl) rfl (apO rfl (by kernel_rfl) (by kernel_rfl) h67 h69 Ty.un28 hiO hzO hsO hbO hcO (by decide) (Nat.le_trans (Nat.le_trans hB M31.size) (Nat.le_refl _)) M66.size (by simp; omega) ?_)
     intro b70 n71 c72 w73 e74 h75 g76 c77
     have M78 := Mod.trans' M63 c77 (fun i hi => by injection hi with hi; rw [← hi]; exact g45)
     have M79 := Mod.trans' M64 c77 (fun i hi => by injection hi with hi; rw [← hi]; exact g46)
     have M80 := Mod.trans' M65 c77 (fun i hi => by injection hi with hi; rw [← hi]; exact g47)
     have M81 := Mod.trans' M66 c77 (fun i hi => by injection hi with hi; rw [← hi]; exact g48)
     obtain ⟨_, _, _, cg82, hg82, _⟩ := ORow.blk h75
     refine ⟨M81, ?_⟩
     have h83 := (chg_ob c77 (Nat.ne_of_gt l58) h56)
     have h84 := (Dat.up hD37 (up_chgn (up_up u44 u57) c77 (by rw [e41]; exact Nat.le_refl _)))
     refine h1 (i := 10) (fuel := 2) (by kernel_rfl) rfl (apO rfl (by kernel_rfl) (by kernel_rfl) h75 (SubO.one (x := x0) h83 h84) Ty.un28 hiO hzO hsO hbO hcO (by decide) (Nat.le_trans (Nat.le_trans hB M31.size) (Nat.le_refl _)) M81.size (by simp; omega) ?_)
     intro b85 n86 c87 w88 e89 h90 g91 c92
     have M93 := Mod.trans' M78 c92 (fun i hi => by injection hi with hi; rw [← hi]; exact (Nat.le_trans M31.size g76))
     have M94 := Mod.trans' M79 c92 (fun i hi => by injection hi with hi; rw [← hi]; exact (Nat.le_trans M32.size g76))
     have M95 := Mod.trans' M80 c92 (fun i hi => by injection hi with hi; rw [← hi]; exact (Nat.le_trans M33.size g76))
     have M96 := Mod.trans' M81 c92 (fun i hi => by injection hi with hi; rw [← hi]; exact g76)
     obtain ⟨_, _, _, cg97, hg97, _⟩ := ORow.blk h90
     refine ⟨M96, ?_⟩
     have h98 := (SubO.up hs38 (Mod.up M96))
     refine h1 (i := 14) (fuel := 1) (by kernel_rfl) rfl (apO rfl (by kernel_rfl) (by kernel_rfl) h90 h98 Ty.un28 hiO hzO hsO hbO hcO (by decide) (Nat.le_trans (Nat.le_trans hB M31.size) (Nat.le_refl _)) M96.size (by simp; omega) ?_)
     intro b99 n100 c101 w102 e103 h104 g105 c106
     have M107 := Mod.trans' M93 c106 (fun i hi => by injection hi with hi; rw [← hi]; exact (Nat.le_trans M31.size g91))
     have M108 := Mod.trans' M94 c106 (fun i hi => by injection hi with hi; rw [← hi]; exact (Nat.le_trans M32.size g91))
     have M109 := Mod.trans' M95 c106 (fun i hi => by injection hi with hi; rw [← hi]; exact (Nat.le_trans M33.size g91))
     have M110 := Mod.trans' M96 c106 (fun i hi => by injection hi with hi; rw [← hi]; exact g91)
     obtain ⟨_, _, _, cg111, hg111, _⟩ := ORow.blk h104
     refine ⟨M110, ?_⟩
     refine hvq (i := 15) (fuel := 0) rfl (fun _ _ _ h => h) M110 rfl (v := .slice (some ⟨b99, 0, none⟩) n100 c101) (fun _ _ => r_assign (by kernel_rfl)) ?_
     refine hend (by kernel_rfl) ?_
     refine inb_n (then_n (rg_lit ?_))
     refine wmv (v := .int .i64 ((kk : Int))) ?_
     refine wl (sv rfl (v := .int .i64 (((kk + 1 : Nat) : Int))) (r_add (k := .i64) (m := ((kk : Int))) (n := 1) (c := (((kk + 1 : Nat) : Int))) (by kernel_rfl) (by kernel_rfl) ((IntWalk.i64_in _ (by omega)).trans (by omega))) ?_)
     refine was (v := .int .i64 (((kk + 1 : Nat) : Int))) ?_
     refine wnil (then_n ?_)
     refine ⟨os.length - (kk + 1), ?_, (kk + 1), (some ⟨b99, 0, none⟩), n100, c101, (Lo.take jj ++ [x0] ++ Lo.drop jj), .int .i64 ((jj : Int)), .int .i64 ((kk : Int)), .slice lA os.length lc, .int .i64 ((os.length : Int)), .bool b2, .int .i64 ((kk : Int)), .int .i64 (((kk + 1 : Nat) : Int)), .int .i64 ((jj : Int)), .slice oA on oc, .int .i64 ((on : Int)), .bool b11, .bool b11, undef, undef, undef, undef, undef, undef, undef, undef, undef, undef, undef, .bool false, z29, z30, .int .i64 ((jj : Int)), .slice oA on oc, .int .i64 ((on : Int)), .bool b20, .bool b20, undef, undef, undef, undef, undef, undef, undef, undef, undef, undef, undef, .bool true, .slice (some ⟨b39, 0, none⟩) 0 0, .slice oA on oc, .int .i64 ((jj : Int)), .slice oA jj oc, .slice (some ⟨b70, 0, none⟩) n71 c72, .slice lA os.length lc, .int .i64 ((kk : Int)), .pointer (some ⟨g37, f37 + kk * 10, none⟩), opV x0 (.slice oA37 on37 oc37), .slice (some ⟨b53, 0, none⟩) 1 1, .slice (some ⟨b85, 0, none⟩) n86 c87, .slice oA on oc, .int .i64 ((jj : Int)), .slice A38 ((on - jj : Nat)) ((oc - jj : Nat)), .slice (some ⟨b99, 0, none⟩) n100 c101, rfl, (by kernel_rfl), M108, (by omega), (by rw [tkO hx0, sortO_snoc, ← hF1_1]; exact (insO_at hF2_1.out (.inl (by omega))).symm), (ORow.base (ORow.to h104 (by simp)) M31.size)⟩
     · omega
   ·
    refine sn rfl (cs := (opC x0 (.slice oA37 on37 oc37)).toArray) (T := 38) (V := fun b => .slice (some ⟨b, 0, none⟩) 1 1) (r_buildSlice (n := 1) (ps := [(0, opV x0 (.slice oA37 on37 oc37))]) Ty.un28 Ty.sz38 Ty.zv38 (by decide) (by decide) (by kernel_rfl) (by kernel_rfl)) ?_
    intro b39 w40 e41 h42 u43
    have g44 : w.heap.size ≤ b39 := by rw [e41]; exact M31.size
    have g45 : w.heap.size ≤ b39 := by rw [e41]; exact M32.size
    have g46 : r1.heap.size ≤ b39 := by rw [e41]; exact M33.size
    have g47 : w29.heap.size ≤ b39 := by rw [e41]; exact (Mod.refl [] w29).size
    have M48 := Mod.trans M31 (Mod.of_up u43)
    have M49 := Mod.trans M32 (Mod.of_up u43)
    have M50 := Mod.trans M33 (Mod.of_up u43)
    have M51 := Mod.trans (Mod.refl [] w29) (Mod.of_up u43)
    refine ⟨M51, ?_⟩
    refine h1 (i := 0) (fuel := 4) (by kernel_rfl) rfl (litO rfl (B := B) (base := w29.heap.size) Ty.un28 Ty.sz38 M51.size ?_)
    intro b52 w53 e54 h55 h56 u57
    have l58 : b39 < b52 := by rw [e54]; exact lt_ob h42
    have g59 : w.heap.size ≤ b52 := by rw [e54]; exact M48.size
    have g60 : w.heap.size ≤ b52 := by rw [e54]; exact M49.size
    have g61 : r1.heap.size ≤ b52 := by rw [e54]; exact M50.size
    have g62 : w29.heap.size ≤ b52 := by rw [e54]; exact M51.size
    have M63 := Mod.trans M48 (Mod.of_up u57)
    have M64 := Mod.trans M49 (Mod.of_up u57)
    have M65 := Mod.trans M50 (Mod.of_up u57)
    have M66 := Mod.trans M51 (Mod.of_up u57)
    refine ⟨M66, ?_⟩
    have h67 := (SubO.up hs36 (Mod.up M66))
    refine h1 (i := 4) (fuel := 3) (by kernel_rfl) rfl (apO rfl (by kernel_rfl) (by kernel_rfl) h56 h67 Ty.un28 hiO hzO hsO hbO hcO (by decide) (Nat.le_trans (Nat.le_trans hB M31.size) (Nat.le_refl _)) M66.size (by simp; omega) ?_)
    intro b68 n69 c70 w71 e72 h73 g74 c75
    have M76 := Mod.trans' M63 c75 (fun i hi => by injection hi with hi; rw [← hi]; exact g59)
    have M77 := Mod.trans' M64 c75 (fun i hi => by injection hi with hi; rw [← hi]; exact g60)
    have M78 := Mod.trans' M65 c75 (fun i hi => by injection hi with hi; rw [← hi]; exact g61)
    have M79 := Mod.trans' M66 c75 (fun i hi => by injection hi with hi; rw [← hi]; exact g62)
    obtain ⟨_, _, _, cg80, hg80, _⟩ := ORow.blk h73
    refine ⟨M79, ?_⟩
    have h81 := (chg_ob c75 (Nat.ne_of_lt l58) (up_ob u57 h42))
    have h82 := (Dat.up hD37 (up_chgn (up_up u43 u57) c75 (by rw [e54]; exact u43.size)))
    refine h1 (i := 10) (fuel := 2) (by kernel_rfl) rfl (apO rfl (by kernel_rfl) (by kernel_rfl) h73 (SubO.one (x := x0) h81 h82) Ty.un28 hiO hzO hsO hbO hcO (by decide) (Nat.le_trans (Nat.le_trans hB M31.size) (Nat.le_refl _)) M79.size (by simp; omega) ?_)
    intro b83 n84 c85 w86 e87 h88 g89 c90
    have M91 := Mod.trans' M76 c90 (fun i hi => by injection hi with hi; rw [← hi]; exact (Nat.le_trans M31.size g74))
    have M92 := Mod.trans' M77 c90 (fun i hi => by injection hi with hi; rw [← hi]; exact (Nat.le_trans M32.size g74))
    have M93 := Mod.trans' M78 c90 (fun i hi => by injection hi with hi; rw [← hi]; exact (Nat.le_trans M33.size g74))
    have M94 := Mod.trans' M79 c90 (fun i hi => by injection hi with hi; rw [← hi]; exact g74)
    obtain ⟨_, _, _, cg95, hg95, _⟩ := ORow.blk h88
    refine ⟨M94, ?_⟩
    have h96 := (SubO.up hs38 (Mod.up M94))
    refine h1 (i := 14) (fuel := 1) (by kernel_rfl) rfl (apO rfl (by kernel_rfl) (by kernel_rfl) h88 h96 Ty.un28 hiO hzO hsO hbO hcO (by decide) (Nat.le_trans (Nat.le_trans hB M31.size) (Nat.le_refl _)) M94.size (by simp; omega) ?_)
    intro b97 n98 c99 w100 e101 h102 g103 c104
    have M105 := Mod.trans' M91 c104 (fun i hi => by injection hi with hi; rw [← hi]; exact (Nat.le_trans M31.size g89))
    have M106 := Mod.trans' M92 c104 (fun i hi => by injection hi with hi; rw [← hi]; exact (Nat.le_trans M32.size g89))
    have M107 := Mod.trans' M93 c104 (fun i hi => by injection hi with hi; rw [← hi]; exact (Nat.le_trans M33.size g89))
    have M108 := Mod.trans' M94 c104 (fun i hi => by injection hi with hi; rw [← hi]; exact g89)
    obtain ⟨_, _, _, cg109, hg109, _⟩ := ORow.blk h102
    refine ⟨M108, ?_⟩
    refine hvq (i := 15) (fuel := 0) rfl (fun _ _ _ h => h) M108 rfl (v := .slice (some ⟨b97, 0, none⟩) n98 c99) (fun _ _ => r_assign (by kernel_rfl)) ?_
    refine hend (by kernel_rfl) ?_
    refine inb_n (then_n (rg_lit ?_))
    refine wmv (v := .int .i64 ((kk : Int))) ?_
    refine wl (sv rfl (v := .int .i64 (((kk + 1 : Nat) : Int))) (r_add (k := .i64) (m := ((kk : Int))) (n := 1) (c := (((kk + 1 : Nat) : Int))) (by kernel_rfl) (by kernel_rfl) ((IntWalk.i64_in _ (by omega)).trans (by omega))) ?_)
    refine was (v := .int .i64 (((kk + 1 : Nat) : Int))) ?_
    refine wnil (then_n ?_)
    refine ⟨os.length - (kk + 1), ?_, (kk + 1), (some ⟨b97, 0, none⟩), n98, c99, (Lo.take jj ++ [x0] ++ Lo.drop jj), .int .i64 ((jj : Int)), .int .i64 ((kk : Int)), .slice lA os.length lc, .int .i64 ((os.length : Int)), .bool b2, .int .i64 ((kk : Int)), .int .i64 (((kk + 1 : Nat) : Int)), .int .i64 ((jj : Int)), .slice oA on oc, .int .i64 ((on : Int)), .bool b11, .bool b11, undef, undef, undef, undef, undef, undef, undef, undef, undef, undef, undef, .bool false, z29, z30, .int .i64 ((jj : Int)), .slice oA on oc, .int .i64 ((on : Int)), .bool b20, .bool b20, undef, undef, undef, undef, undef, undef, undef, undef, undef, undef, undef, .bool true, .slice (some ⟨b52, 0, none⟩) 0 0, .slice oA on oc, .int .i64 ((jj : Int)), .slice oA jj oc, .slice (some ⟨b68, 0, none⟩) n69 c70, .slice lA os.length lc, .int .i64 ((kk : Int)), .pointer (some ⟨g37, f37 + kk * 10, none⟩), opV x0 (.slice oA37 on37 oc37), .slice (some ⟨b39, 0, none⟩) 1 1, .slice (some ⟨b83, 0, none⟩) n84 c85, .slice oA on oc, .int .i64 ((jj : Int)), .slice A38 ((on - jj : Nat)) ((oc - jj : Nat)), .slice (some ⟨b97, 0, none⟩) n98 c99, rfl, (by kernel_rfl), M106, (by omega), (by rw [tkO hx0, sortO_snoc, ← hF1_1]; exact (insO_at hF2_1.out (.inl (by omega))).symm), (ORow.base (ORow.to h102 (by simp)) M31.size)⟩
    · omega
  have p14 := of_decide_eq_true (k12.trans v13)
  have q15 : jj < on := by omega
  have q16 : jj < on := by omega
  refine qv (wt (b := b11) rfl (by kernel_rfl) v13) (v := .slice oA on oc) (fun _ _ => r_move (by kernel_rfl)) ?_
  refine qv (wt (b := b11) rfl (by kernel_rfl) v13) (v := .int .i64 ((jj : Int))) (fun _ _ => r_move (by kernel_rfl)) ?_
  have h17 := (ORow.up hF1_2 (Mod.up hM2))
  obtain ⟨o18, ho18⟩ : ∃ x, Lo[jj]? = some x := ⟨_, List.getElem?_eq_getElem (by omega)⟩
  obtain ⟨g18, cp18, cu18, dA18, dn18, dc18, hA18, hg18, hb18, he18, hD18⟩ := ORow.get h17 ho18
  injection hA18 with hA18 _ _
  replace he18 : (cu18.toList.drop (0 + jj * 10)).take 10 = opC o18 (.slice dA18 dn18 dc18) := by rw [Nat.zero_add]; exact he18
  refine qv (wt (b := b11) rfl (by kernel_rfl) v13) (v := .pointer (some ⟨g18, 0 + jj * 10, none⟩)) (fun _ _ => r_ixaddr' (A := oA) (b := g18) (o := 0) (n := on) (c := oc) (sz := 10) (j := ((jj : Int))) (by kernel_rfl) hA18 (by kernel_rfl) Ty.un28 Ty.sz38 (by omega) (by omega) (by simp)) ?_
  refine qv (wt (b := b11) rfl (by kernel_rfl) v13) (v := .pointer (some ⟨g18, 0 + jj * 10 + 1, none⟩)) (fun _ _ => r_fieldAddr (u := .pointer (some ⟨g18, 0 + jj * 10, none⟩)) (by kernel_rfl) (fun _ => (by kernel_rfl))) ?_
  refine qv (wt (b := b11) rfl (by kernel_rfl) v13) (v := .agg #[.int .i64 o18.at_.t, .int .i64 o18.at_.w]) (fun _ uz => r_loads (k := 0 + jj * 10 + 1) (by kernel_rfl) Ty.ag35 Ty.sz35 (up_ob uz hb18) (el_sub he18 1 rfl)) ?_
  refine qv (wt (b := b11) rfl (by kernel_rfl) v13) (v := .slice lA os.length lc) (fun _ _ => r_move (by kernel_rfl)) ?_
  refine qv (wt (b := b11) rfl (by kernel_rfl) v13) (v := .int .i64 ((kk : Int))) (fun _ _ => r_move (by kernel_rfl)) ?_
  have h19 := (OpRow.up h (Mod.up M9))
  obtain ⟨g20, f20, oA20, on20, oc20, hA20, hl20, hc20, hD20, hs20⟩ := h19 kk x0 hx0
  refine qv (wt (b := b11) rfl (by kernel_rfl) v13) (v := .pointer (some ⟨g20, f20 + kk * 10, none⟩)) (fun _ _ => r_ixaddr' (A := lA) (b := g20) (o := f20) (n := os.length) (c := lc) (sz := 10) (j := (kk : Int)) (m := f20 + kk * 10) (by kernel_rfl) hA20 (by kernel_rfl) Ty.un28 Ty.sz38 (by omega) (by omega) (by simp)) ?_
  refine qv (wt (b := b11) rfl (by kernel_rfl) v13) (v := .pointer (some ⟨g20, f20 + kk * 10 + 1, none⟩)) (fun _ _ => r_fieldAddr (u := .pointer (some ⟨g20, f20 + kk * 10, none⟩)) (by kernel_rfl) (fun _ => (by kernel_rfl))) ?_
  refine qv (wt (b := b11) rfl (by kernel_rfl) v13) (v := .agg #[.int .i64 x0.at_.t, .int .i64 x0.at_.w]) (fun _ uz => r_loadcN (k := f20 + kk * 10 + 1) (vs := [.int .i64 x0.at_.t, .int .i64 x0.at_.w]) (by kernel_rfl) Ty.ag35 Ty.sz35 (sub_cells (l := (opC x0 (.slice oA20 on20 oc20))) 1 2 (fun j v hj => (uz.cell (p := ⟨g20, f20 + kk * 10 + j, none⟩) hl20).trans (hc20 j v hj)))) ?_
  refine qc (wt (b := b11) rfl (by kernel_rfl) v13) (v := .bool ((lessS ⟨o18.at_.t, o18.at_.w⟩ ⟨x0.at_.t, x0.at_.w⟩))) (fun _ _ => r_callv (caps := []) (all := [.agg #[.int .i64 o18.at_.t, .int .i64 o18.at_.w], .agg #[.int .i64 x0.at_.t, .int .i64 x0.at_.w]]) En.f42 (by kernel_rfl) (by kernel_rfl)) (fun wz uz => r04less_any ⟨o18.at_.t, o18.at_.w⟩ ⟨x0.at_.t, x0.at_.w⟩ _) ?_ ?_
  · rintro w1 e w2 hC ⟨rfl, hu⟩; exact ⟨rfl, up_step hC hu.below⟩
  refine qv rfl (v := .bool ((lessS ⟨o18.at_.t, o18.at_.w⟩ ⟨x0.at_.t, x0.at_.w⟩))) (fun _ _ => r_pkT (ebool (b := b11) (by kernel_rfl) v13) (by kernel_rfl)) ?_
  refine qnil ?_
  intro w21 u22
  have M23 := Mod.trans M9 (Mod.of_up u22)
  have M24 := Mod.trans M10 (Mod.of_up u22)
  have M25 := Mod.trans hM2 (Mod.of_up u22)
  refine then_n ?_
  refine bcase ((lessS ⟨o18.at_.t, o18.at_.w⟩ ⟨x0.at_.t, x0.at_.w⟩)) (fun v26 => ?_) (fun v26 => ?_)
  ·
   refine wp_cond_false (ebool (b := (lessS ⟨o18.at_.t, o18.at_.w⟩ ⟨x0.at_.t, x0.at_.w⟩)) (by kernel_rfl) v26) ?_
   refine wp_exit (then_x (by nofun) (then_x (by nofun) (inb_hit (then_n (wp_seq ?_)))))
   refine rg_all (by kernel_rfl) (by kernel_rfl) ?_
   refine qmv (v := .int .i64 ((jj : Int))) ?_
   refine qmv (v := .slice oA on oc) ?_
   refine qv rfl (v := .int .i64 ((on : Int))) (fun _ _ => r_len Ty.un28 (ad := oA) (n := on) (c := oc) (by kernel_rfl)) ?_
   refine qb rfl (fun _ _ => r_eq (k := .i64) (m := ((jj : Int))) (n := ((on : Int))) (by kernel_rfl) (by kernel_rfl)) ?_
   intro b27 k28
   refine qmv (v := .bool b27) ?_
   refine bcase b27 (fun v29 => ?_) (fun v29 => ?_)
   ·
    have p30 := of_decide_eq_false (k28.trans v29)
    refine qv (wt (b := b27) rfl (by kernel_rfl) v29) (v := .slice oA on oc) (fun _ _ => r_move (by kernel_rfl)) ?_
    refine qv (wt (b := b27) rfl (by kernel_rfl) v29) (v := .int .i64 ((jj : Int))) (fun _ _ => r_move (by kernel_rfl)) ?_
    have h31 := (ORow.up hF1_2 (Mod.up M25))
    obtain ⟨g32, cp32, cu32, dA32, dn32, dc32, hA32, hg32, hb32, he32, hD32⟩ := ORow.get h31 ho18
    injection hA32 with hA32 _ _
    replace he32 : (cu32.toList.drop (0 + jj * 10)).take 10 = opC o18 (.slice dA32 dn32 dc32) := by rw [Nat.zero_add]; exact he32
    refine qv (wt (b := b27) rfl (by kernel_rfl) v29) (v := .pointer (some ⟨g32, 0 + jj * 10, none⟩)) (fun _ _ => r_ixaddr' (A := oA) (b := g32) (o := 0) (n := on) (c := oc) (sz := 10) (j := ((jj : Int))) (by kernel_rfl) hA32 (by kernel_rfl) Ty.un28 Ty.sz38 (by omega) (by omega) (by simp)) ?_
    refine qv (wt (b := b27) rfl (by kernel_rfl) v29) (v := .pointer (some ⟨g32, 0 + jj * 10 + 1, none⟩)) (fun _ _ => r_fieldAddr (u := .pointer (some ⟨g32, 0 + jj * 10, none⟩)) (by kernel_rfl) (fun _ => (by kernel_rfl))) ?_
    refine qv (wt (b := b27) rfl (by kernel_rfl) v29) (v := .agg #[.int .i64 o18.at_.t, .int .i64 o18.at_.w]) (fun _ uz => r_loads (k := 0 + jj * 10 + 1) (by kernel_rfl) Ty.ag35 Ty.sz35 (up_ob uz hb32) (el_sub he32 1 rfl)) ?_
    refine qv (wt (b := b27) rfl (by kernel_rfl) v29) (v := .slice lA os.length lc) (fun _ _ => r_move (by kernel_rfl)) ?_
    refine qv (wt (b := b27) rfl (by kernel_rfl) v29) (v := .int .i64 ((kk : Int))) (fun _ _ => r_move (by kernel_rfl)) ?_
    have h33 := (OpRow.up h (Mod.up M23))
    obtain ⟨g34, f34, oA34, on34, oc34, hA34, hl34, hc34, hD34, hs34⟩ := h33 kk x0 hx0
    refine qv (wt (b := b27) rfl (by kernel_rfl) v29) (v := .pointer (some ⟨g34, f34 + kk * 10, none⟩)) (fun _ _ => r_ixaddr' (A := lA) (b := g34) (o := f34) (n := os.length) (c := lc) (sz := 10) (j := (kk : Int)) (m := f34 + kk * 10) (by kernel_rfl) hA34 (by kernel_rfl) Ty.un28 Ty.sz38 (by omega) (by omega) (by simp)) ?_
    refine qv (wt (b := b27) rfl (by kernel_rfl) v29) (v := .pointer (some ⟨g34, f34 + kk * 10 + 1, none⟩)) (fun _ _ => r_fieldAddr (u := .pointer (some ⟨g34, f34 + kk * 10, none⟩)) (by kernel_rfl) (fun _ => (by kernel_rfl))) ?_
    refine qv (wt (b := b27) rfl (by kernel_rfl) v29) (v := .agg #[.int .i64 x0.at_.t, .int .i64 x0.at_.w]) (fun _ uz => r_loadcN (k := f34 + kk * 10 + 1) (vs := [.int .i64 x0.at_.t, .int .i64 x0.at_.w]) (by kernel_rfl) Ty.ag35 Ty.sz35 (sub_cells (l := (opC x0 (.slice oA34 on34 oc34))) 1 2 (fun j v hj => (uz.cell (p := ⟨g34, f34 + kk * 10 + j, none⟩) hl34).trans (hc34 j v hj)))) ?_
    refine qb (wt (b := b27) rfl (by kernel_rfl) v29) (fun _ _ => r_neS (a := o18.at_.t) (b := o18.at_.w) (c := x0.at_.t) (e := x0.at_.w) (by kernel_rfl) (by kernel_rfl)) ?_
    intro b35 k36
    refine qv rfl (v := .bool b35) (fun _ _ => r_pkF (ebool (b := b27) (by kernel_rfl) v29) (by kernel_rfl)) ?_
    refine qnil ?_
    intro w37 u38
    have M39 := Mod.trans M23 (Mod.of_up u38)
    have M40 := Mod.trans M24 (Mod.of_up u38)
    have M41 := Mod.trans M25 (Mod.of_up u38)
    refine then_n ?_
    refine bcase b35 (fun v42 => ?_) (fun v42 => ?_)
    ·
     have p43 := of_decide_eq_false (k36.trans v42)
     refine wp_cond_false (ebool (b := b35) (by kernel_rfl) v42) ?_
     refine wp_skip (inb_n (then_n (rg_lit ?_)))
     refine wmv (v := .int .i64 ((kk : Int))) ?_
     refine wl (sv rfl (v := .int .i64 (((kk + 1 : Nat) : Int))) (r_add (k := .i64) (m := ((kk : Int))) (n := 1) (c := (((kk + 1 : Nat) : Int))) (by kernel_rfl) (by kernel_rfl) ((IntWalk.i64_in _ (by omega)).trans (by omega))) ?_)
     refine was (v := .int .i64 (((kk + 1 : Nat) : Int))) ?_
     refine wnil (then_n ?_)
     have h44 := (ORow.up hF1_2 (Mod.up M41))
     refine ⟨os.length - (kk + 1), ?_, (kk + 1), oA, on, oc, Lo, .int .i64 ((jj : Int)), .int .i64 ((kk : Int)), .slice lA os.length lc, .int .i64 ((os.length : Int)), .bool b2, .int .i64 ((kk : Int)), .int .i64 (((kk + 1 : Nat) : Int)), .int .i64 ((jj : Int)), .slice oA on oc, .int .i64 ((on : Int)), .bool b11, .bool b11, .slice oA on oc, .int .i64 ((jj : Int)), .pointer (some ⟨g18, 0 + jj * 10, none⟩), .pointer (some ⟨g18, 0 + jj * 10 + 1, none⟩), .agg #[.int .i64 o18.at_.t, .int .i64 o18.at_.w], .slice lA os.length lc, .int .i64 ((kk : Int)), .pointer (some ⟨g20, f20 + kk * 10, none⟩), .pointer (some ⟨g20, f20 + kk * 10 + 1, none⟩), .agg #[.int .i64 x0.at_.t, .int .i64 x0.at_.w], .bool ((lessS ⟨o18.at_.t, o18.at_.w⟩ ⟨x0.at_.t, x0.at_.w⟩)), .bool ((lessS ⟨o18.at_.t, o18.at_.w⟩ ⟨x0.at_.t, x0.at_.w⟩)), z29, z30, .int .i64 ((jj : Int)), .slice oA on oc, .int .i64 ((on : Int)), .bool b27, .bool b27, .slice oA on oc, .int .i64 ((jj : Int)), .pointer (some ⟨g32, 0 + jj * 10, none⟩), .pointer (some ⟨g32, 0 + jj * 10 + 1, none⟩), .agg #[.int .i64 o18.at_.t, .int .i64 o18.at_.w], .slice lA os.length lc, .int .i64 ((kk : Int)), .pointer (some ⟨g34, f34 + kk * 10, none⟩), .pointer (some ⟨g34, f34 + kk * 10 + 1, none⟩), .agg #[.int .i64 x0.at_.t, .int .i64 x0.at_.w], .bool b35, .bool b35, z48, z49, z50, z51, z52, z53, z54, z55, z56, z57, z58, z59, z60, z61, z62, rfl, (by kernel_rfl), M40, (by omega), (by rw [tkO hx0, sortO_snoc, ← hF1_1]; exact (insO_skip hF2_1.out ho18 (Decidable.not_not.1 p43)).symm), h44⟩
     · omega
    have p43 := of_decide_eq_true (k36.trans v42)
    refine wp_cond_true (ebool (b := b35) (by kernel_rfl) v42) ?_
    refine rg_held [] (n := 16) (by kernel_rfl) rfl ?_
    intro w44 u45
    have M46 := Mod.trans M39 (Mod.of_up u45)
    have M47 := Mod.trans M40 (Mod.of_up u45)
    have M48 := Mod.trans M41 (Mod.of_up u45)
    have h49 := (up_ob u45 (up_ob u38 (up_ob u22 hb18)))
    have h50 := (up_ob u45 (up_ob u38 hb32))
    have h51 := (OpRow.up h (Mod.up M46))
    have h52 := (ORow.up hF1_2 (Mod.up M48))
    have h53 := (Dat.up hD32 (up_up u38 u45))
    have h54 := (Dat.up hD34 (up_up u38 u45))
    refine hvq (i := 1) (fuel := 15) rfl (fun _ _ _ h => h) (Mod.refl [] w44) rfl (v := .slice oA on oc) (fun _ _ => r_move (by kernel_rfl)) ?_
    refine hvq (i := 2) (fuel := 14) rfl (fun _ _ _ h => h) (Mod.refl [] w44) rfl (v := .int .i64 ((jj : Int))) (fun _ _ => r_move (by kernel_rfl)) ?_
    obtain ⟨hs55, hq55⟩ := ORow.headCut (P := Tryz.prog) (k := jj) h52 (by omega) 28 38 Ty.un28 Ty.sz38
    refine hvq (i := 3) (fuel := 13) rfl (fun _ _ _ h => h) (Mod.refl [] w44) rfl (v := .slice oA jj oc) (fun _ _ => hq55 _ _ _ _ _ _ _ _ _ (by kernel_rfl) (by kernel_rfl)) ?_
    refine hvq (i := 5) (fuel := 12) rfl (fun _ _ _ h => h) (Mod.refl [] w44) rfl (v := .slice lA os.length lc) (fun _ _ => r_move (by kernel_rfl)) ?_
    refine hvq (i := 6) (fuel := 11) rfl (fun _ _ _ h => h) (Mod.refl [] w44) rfl (v := .int .i64 ((kk : Int))) (fun _ _ => r_move (by kernel_rfl)) ?_
    obtain ⟨g56, f56, oA56, on56, oc56, hA56, hl56, hc56, hD56, hs56⟩ := h51 kk x0 hx0
    refine hvq (i := 7) (fuel := 10) rfl (fun _ _ _ h => h) (Mod.refl [] w44) rfl (v := .pointer (some ⟨g56, f56 + kk * 10, none⟩)) (fun _ _ => r_ixaddr' (A := lA) (b := g56) (o := f56) (n := os.length) (c := lc) (sz := 10) (j := (kk : Int)) (m := f56 + kk * 10) (by kernel_rfl) hA56 (by kernel_rfl) Ty.un28 Ty.sz38 (by omega) (by omega) (by simp)) ?_
    refine hvq (i := 8) (fuel := 9) rfl (fun _ _ _ h => h) (Mod.refl [] w44) rfl (v := opV x0 (.slice oA56 on56 oc56)) (fun _ uz => r_loadcN (vs := (opC x0 (.slice oA56 on56 oc56))) (by kernel_rfl) Ty.ag38 Ty.sz38 (fun j v hj => ((Mod.up uz).cell (p := ⟨g56, f56 + kk * 10 + j, none⟩) hl56).trans (hc56 j v hj))) ?_
    refine hvq (i := 11) (fuel := 8) rfl (fun _ _ _ h => h) (Mod.refl [] w44) rfl (v := .slice oA on oc) (fun _ _ => r_move (by kernel_rfl)) ?_
    refine hvq (i := 12) (fuel := 7) rfl (fun _ _ _ h => h) (Mod.refl [] w44) rfl (v := .int .i64 ((jj : Int))) (fun _ _ => r_move (by kernel_rfl)) ?_
    obtain ⟨A57, hs57, hq57⟩ := ORow.tailCut (P := Tryz.prog) (k := jj) h52 (by omega) 28 38 Ty.un28 Ty.sz38
    refine hvq (i := 13) (fuel := 6) rfl (fun _ _ _ h => h) (Mod.refl [] w44) rfl (v := .slice A57 ((on - jj : Nat)) ((oc - jj : Nat))) (fun _ _ => hq57 _ _ _ _ _ _ _ _ _ (by kernel_rfl) (by kernel_rfl)) ?_
    refine h2 (i := 0) (j := 9) (fuel := 5) (by kernel_rfl) rfl rfl ?_ ?_
    ·
     refine litO rfl (B := B) (base := w44.heap.size) Ty.un28 Ty.sz38 (Mod.refl [] w44).size ?_
     intro b58 w59 e60 h61 h62 u63
     have l64 : g18 < b58 := by rw [e60]; exact lt_ob h49
     have l65 : g32 < b58 := by rw [e60]; exact lt_ob h50
     have g66 : w.heap.size ≤ b58 := by rw [e60]; exact M46.size
     have g67 : w.heap.size ≤ b58 := by rw [e60]; exact M47.size
     have g68 : r1.heap.size ≤ b58 := by rw [e60]; exact M48.size
     have g69 : w44.heap.size ≤ b58 := by rw [e60]; exact (Mod.refl [] w44).size
     have M70 := Mod.trans M46 (Mod.of_up u63)
     have M71 := Mod.trans M47 (Mod.of_up u63)
     have M72 := Mod.trans M48 (Mod.of_up u63)
     have M73 := Mod.trans (Mod.refl [] w44) (Mod.of_up u63)
     refine ⟨M73, ?_⟩
     refine h2 (i := 4) (j := 9) (fuel := 4) (by kernel_rfl) rfl rfl ?_ ?_
     ·
      have h74 := (SubO.up hs55 (Mod.up M73))
      refine apO rfl (by kernel_rfl) (by kernel_rfl) h62 h74 Ty.un28 hiO hzO hsO hbO hcO (by decide) (Nat.le_trans (Nat.le_trans hB M46.size) (Nat.le_refl _)) M73.size (by simp; omega) ?_
      intro b75 n76 c77 w78 e79 h80 g81 c82
      have M83 := Mod.trans' M70 c82 (fun i hi => by injection hi with hi; rw [← hi]; exact g66)
      have M84 := Mod.trans' M71 c82 (fun i hi => by injection hi with hi; rw [← hi]; exact g67)
      have M85 := Mod.trans' M72 c82 (fun i hi => by injection hi with hi; rw [← hi]; exact g68)
      have M86 := Mod.trans' M73 c82 (fun i hi => by injection hi with hi; rw [← hi]; exact g69)
      obtain ⟨_, _, _, cg87, hg87, _⟩ := ORow.blk h80
      refine ⟨M86, ?_⟩
      refine h1 (i := 9) (fuel := 3) (by kernel_rfl) rfl (sn rfl (cs := (opC x0 (.slice oA56 on56 oc56)).toArray) (T := 38) (V := fun b => .slice (some ⟨b, 0, none⟩) 1 1) (r_buildSlice (n := 1) (ps := [(0, opV x0 (.slice oA56 on56 oc56))]) Ty.un28 Ty.sz38 Ty.zv38 (by decide) (by decide) (by kernel_rfl) (by kernel_rfl)) ?_)
      intro b88 w89 e90 h91 u92
      have h93 := md_ob M86 nin0 h49
      have l94 : g18 < b88 := by rw [e90]; exact lt_ob h93
      have h95 := md_ob M86 nin0 h50
      have l96 : g32 < b88 := by rw [e90]; exact lt_ob h95
      have l97 : b75 < b88 := by rw [e90]; exact lt_ob hg87
      have g98 : w.heap.size ≤ b88 := by rw [e90]; exact M83.size
      have g99 : w.heap.size ≤ b88 := by rw [e90]; exact M84.size
      have g100 : r1.heap.size ≤ b88 := by rw [e90]; exact M85.size
      have g101 : w44.heap.size ≤ b88 := by rw [e90]; exact M86.size
      have M102 := Mod.trans M83 (Mod.of_up u92)
      have M103 := Mod.trans M84 (Mod.of_up u92)
      have M104 := Mod.trans M85 (Mod.of_up u92)
      have M105 := Mod.trans M86 (Mod.of_up u92)
      refine ⟨M105, ?_⟩
      have h106 := (ORow.up h80 u92)
      have h107 := (up_ob u92 hg87)
      have h108 := (Dat.up hD56 (up_up (up_chgn u63 c82 (by rw [e60]; exact Nat.le_refl _)) u92))
      refine h1 (i := 10) (fuel := 2) (by kernel_rfl) rfl (apO rfl (by kernel_rfl) (by kernel_rfl) h106 (SubO.one (x := x0) h91 h108) Ty.un28 hiO hzO hsO hbO hcO (by decide) (Nat.le_trans (Nat.le_trans hB M46.size) (Nat.le_refl _)) M105.size (by simp; omega) ?_)
      intro b109 n110 c111 w112 e113 h114 g115 c116
      have M117 := Mod.trans' M102 c116 (fun i hi => by injection hi with hi; rw [← hi]; exact (Nat.le_trans M46.size g81))
      have M118 := Mod.trans' M103 c116 (fun i hi => by injection hi with hi; rw [← hi]; exact (Nat.le_trans M47.size g81))
      have M119 := Mod.trans' M104 c116 (fun i hi => by injection hi with hi; rw [← hi]; exact (Nat.le_trans M48.size g81))
      have M120 := Mod.trans' M105 c116 (fun i hi => by injection hi with hi; rw [← hi]; exact g81)
      obtain ⟨_, _, _, cg121, hg121, _⟩ := ORow.blk h114
      refine ⟨M120, ?_⟩
      have h122 := (SubO.up hs57 (Mod.up M120))
      refine h1 (i := 14) (fuel := 1) (by kernel_rfl) rfl (apO rfl (by kernel_rfl) (by kernel_rfl) h114 h122 Ty.un28 hiO hzO hsO hbO hcO (by decide) (Nat.le_trans (Nat.le_trans hB M46.size) (Nat.le_refl _)) M120.size (by simp; omega) ?_)
      intro b123 n124 c125 w126 e127 h128 g129 c130
      have M131 := Mod.trans' M117 c130 (fun i hi => by injection hi with hi; rw [← hi]; exact (Nat.le_trans M46.size g115))
      have M132 := Mod.trans' M118 c130 (fun i hi => by injection hi with hi; rw [← hi]; exact (Nat.le_trans M47.size g115))
      have M133 := Mod.trans' M119 c130 (fun i hi => by injection hi with hi; rw [← hi]; exact (Nat.le_trans M48.size g115))
      have M134 := Mod.trans' M120 c130 (fun i hi => by injection hi with hi; rw [← hi]; exact g115)
      obtain ⟨_, _, _, cg135, hg135, _⟩ := ORow.blk h128
      refine ⟨M134, ?_⟩
      refine hvq (i := 15) (fuel := 0) rfl (fun _ _ _ h => h) M134 rfl (v := .slice (some ⟨b123, 0, none⟩) n124 c125) (fun _ _ => r_assign (by kernel_rfl)) ?_
      refine hend (by kernel_rfl) ?_
      refine inb_n (then_n (rg_lit ?_))
      refine wmv (v := .int .i64 ((kk : Int))) ?_
      refine wl (sv rfl (v := .int .i64 (((kk + 1 : Nat) : Int))) (r_add (k := .i64) (m := ((kk : Int))) (n := 1) (c := (((kk + 1 : Nat) : Int))) (by kernel_rfl) (by kernel_rfl) ((IntWalk.i64_in _ (by omega)).trans (by omega))) ?_)
      refine was (v := .int .i64 (((kk + 1 : Nat) : Int))) ?_
      refine wnil (then_n ?_)
      refine ⟨os.length - (kk + 1), ?_, (kk + 1), (some ⟨b123, 0, none⟩), n124, c125, (Lo.take jj ++ [x0] ++ Lo.drop jj), .int .i64 ((jj : Int)), .int .i64 ((kk : Int)), .slice lA os.length lc, .int .i64 ((os.length : Int)), .bool b2, .int .i64 ((kk : Int)), .int .i64 (((kk + 1 : Nat) : Int)), .int .i64 ((jj : Int)), .slice oA on oc, .int .i64 ((on : Int)), .bool b11, .bool b11, .slice oA on oc, .int .i64 ((jj : Int)), .pointer (some ⟨g18, 0 + jj * 10, none⟩), .pointer (some ⟨g18, 0 + jj * 10 + 1, none⟩), .agg #[.int .i64 o18.at_.t, .int .i64 o18.at_.w], .slice lA os.length lc, .int .i64 ((kk : Int)), .pointer (some ⟨g20, f20 + kk * 10, none⟩), .pointer (some ⟨g20, f20 + kk * 10 + 1, none⟩), .agg #[.int .i64 x0.at_.t, .int .i64 x0.at_.w], .bool ((lessS ⟨o18.at_.t, o18.at_.w⟩ ⟨x0.at_.t, x0.at_.w⟩)), .bool ((lessS ⟨o18.at_.t, o18.at_.w⟩ ⟨x0.at_.t, x0.at_.w⟩)), z29, z30, .int .i64 ((jj : Int)), .slice oA on oc, .int .i64 ((on : Int)), .bool b27, .bool b27, .slice oA on oc, .int .i64 ((jj : Int)), .pointer (some ⟨g32, 0 + jj * 10, none⟩), .pointer (some ⟨g32, 0 + jj * 10 + 1, none⟩), .agg #[.int .i64 o18.at_.t, .int .i64 o18.at_.w], .slice lA os.length lc, .int .i64 ((kk : Int)), .pointer (some ⟨g34, f34 + kk * 10, none⟩), .pointer (some ⟨g34, f34 + kk * 10 + 1, none⟩), .agg #[.int .i64 x0.at_.t, .int .i64 x0.at_.w], .bool b35, .bool b35, .slice (some ⟨b58, 0, none⟩) 0 0, .slice oA on oc, .int .i64 ((jj : Int)), .slice oA jj oc, .slice (some ⟨b75, 0, none⟩) n76 c77, .slice lA os.length lc, .int .i64 ((kk : Int)), .pointer (some ⟨g56, f56 + kk * 10, none⟩), opV x0 (.slice oA56 on56 oc56), .slice (some ⟨b88, 0, none⟩) 1 1, .slice (some ⟨b109, 0, none⟩) n110 c111, .slice oA on oc, .int .i64 ((jj : Int)), .slice A57 ((on - jj : Nat)) ((oc - jj : Nat)), .slice (some ⟨b123, 0, none⟩) n124 c125, rfl, (by kernel_rfl), M132, (by omega), (by rw [tkO hx0, sortO_snoc, ← hF1_1]; exact (insO_at hF2_1.out (.inr ⟨_, ho18, v26, p43⟩)).symm), (ORow.base (ORow.to h128 (by simp)) M46.size)⟩
      · omega
     ·
      refine sn rfl (cs := (opC x0 (.slice oA56 on56 oc56)).toArray) (T := 38) (V := fun b => .slice (some ⟨b, 0, none⟩) 1 1) (r_buildSlice (n := 1) (ps := [(0, opV x0 (.slice oA56 on56 oc56))]) Ty.un28 Ty.sz38 Ty.zv38 (by decide) (by decide) (by kernel_rfl) (by kernel_rfl)) ?_
      intro b74 w75 e76 h77 u78
      have h79 := md_ob M73 nin0 h49
      have l80 : g18 < b74 := by rw [e76]; exact lt_ob h79
      have h81 := md_ob M73 nin0 h50
      have l82 : g32 < b74 := by rw [e76]; exact lt_ob h81
      have l83 : b58 < b74 := by rw [e76]; exact lt_ob h61
      have g84 : w.heap.size ≤ b74 := by rw [e76]; exact M70.size
      have g85 : w.heap.size ≤ b74 := by rw [e76]; exact M71.size
      have g86 : r1.heap.size ≤ b74 := by rw [e76]; exact M72.size
      have g87 : w44.heap.size ≤ b74 := by rw [e76]; exact M73.size
      have M88 := Mod.trans M70 (Mod.of_up u78)
      have M89 := Mod.trans M71 (Mod.of_up u78)
      have M90 := Mod.trans M72 (Mod.of_up u78)
      have M91 := Mod.trans M73 (Mod.of_up u78)
      refine ⟨M91, ?_⟩
      have h92 := (ORow.up h62 u78)
      have h93 := (up_ob u78 h61)
      have h94 := (SubO.up hs55 (Mod.up M91))
      refine h1 (i := 4) (fuel := 3) (by kernel_rfl) rfl (apO rfl (by kernel_rfl) (by kernel_rfl) h92 h94 Ty.un28 hiO hzO hsO hbO hcO (by decide) (Nat.le_trans (Nat.le_trans hB M46.size) (Nat.le_refl _)) M91.size (by simp; omega) ?_)
      intro b95 n96 c97 w98 e99 h100 g101 c102
      have M103 := Mod.trans' M88 c102 (fun i hi => by injection hi with hi; rw [← hi]; exact g66)
      have M104 := Mod.trans' M89 c102 (fun i hi => by injection hi with hi; rw [← hi]; exact g67)
      have M105 := Mod.trans' M90 c102 (fun i hi => by injection hi with hi; rw [← hi]; exact g68)
      have M106 := Mod.trans' M91 c102 (fun i hi => by injection hi with hi; rw [← hi]; exact g69)
      obtain ⟨_, _, _, cg107, hg107, _⟩ := ORow.blk h100
      refine ⟨M106, ?_⟩
      have h108 := (chg_ob c102 (Nat.ne_of_gt l83) h77)
      have h109 := (Dat.up hD56 (up_chgn (up_up u63 u78) c102 (by rw [e60]; exact Nat.le_refl _)))
      refine h1 (i := 10) (fuel := 2) (by kernel_rfl) rfl (apO rfl (by kernel_rfl) (by kernel_rfl) h100 (SubO.one (x := x0) h108 h109) Ty.un28 hiO hzO hsO hbO hcO (by decide) (Nat.le_trans (Nat.le_trans hB M46.size) (Nat.le_refl _)) M106.size (by simp; omega) ?_)
      intro b110 n111 c112 w113 e114 h115 g116 c117
      have M118 := Mod.trans' M103 c117 (fun i hi => by injection hi with hi; rw [← hi]; exact (Nat.le_trans M46.size g101))
      have M119 := Mod.trans' M104 c117 (fun i hi => by injection hi with hi; rw [← hi]; exact (Nat.le_trans M47.size g101))
      have M120 := Mod.trans' M105 c117 (fun i hi => by injection hi with hi; rw [← hi]; exact (Nat.le_trans M48.size g101))
      have M121 := Mod.trans' M106 c117 (fun i hi => by injection hi with hi; rw [← hi]; exact g101)
      obtain ⟨_, _, _, cg122, hg122, _⟩ := ORow.blk h115
      refine ⟨M121, ?_⟩
      have h123 := (SubO.up hs57 (Mod.up M121))
      refine h1 (i := 14) (fuel := 1) (by kernel_rfl) rfl (apO rfl (by kernel_rfl) (by kernel_rfl) h115 h123 Ty.un28 hiO hzO hsO hbO hcO (by decide) (Nat.le_trans (Nat.le_trans hB M46.size) (Nat.le_refl _)) M121.size (by simp; omega) ?_)
      intro b124 n125 c126 w127 e128 h129 g130 c131
      have M132 := Mod.trans' M118 c131 (fun i hi => by injection hi with hi; rw [← hi]; exact (Nat.le_trans M46.size g116))
      have M133 := Mod.trans' M119 c131 (fun i hi => by injection hi with hi; rw [← hi]; exact (Nat.le_trans M47.size g116))
      have M134 := Mod.trans' M120 c131 (fun i hi => by injection hi with hi; rw [← hi]; exact (Nat.le_trans M48.size g116))
      have M135 := Mod.trans' M121 c131 (fun i hi => by injection hi with hi; rw [← hi]; exact g116)
      obtain ⟨_, _, _, cg136, hg136, _⟩ := ORow.blk h129
      refine ⟨M135, ?_⟩
      refine hvq (i := 15) (fuel := 0) rfl (fun _ _ _ h => h) M135 rfl (v := .slice (some ⟨b124, 0, none⟩) n125 c126) (fun _ _ => r_assign (by kernel_rfl)) ?_
      refine hend (by kernel_rfl) ?_
      refine inb_n (then_n (rg_lit ?_))
      refine wmv (v := .int .i64 ((kk : Int))) ?_
      refine wl (sv rfl (v := .int .i64 (((kk + 1 : Nat) : Int))) (r_add (k := .i64) (m := ((kk : Int))) (n := 1) (c := (((kk + 1 : Nat) : Int))) (by kernel_rfl) (by kernel_rfl) ((IntWalk.i64_in _ (by omega)).trans (by omega))) ?_)
      refine was (v := .int .i64 (((kk + 1 : Nat) : Int))) ?_
      refine wnil (then_n ?_)
      refine ⟨os.length - (kk + 1), ?_, (kk + 1), (some ⟨b124, 0, none⟩), n125, c126, (Lo.take jj ++ [x0] ++ Lo.drop jj), .int .i64 ((jj : Int)), .int .i64 ((kk : Int)), .slice lA os.length lc, .int .i64 ((os.length : Int)), .bool b2, .int .i64 ((kk : Int)), .int .i64 (((kk + 1 : Nat) : Int)), .int .i64 ((jj : Int)), .slice oA on oc, .int .i64 ((on : Int)), .bool b11, .bool b11, .slice oA on oc, .int .i64 ((jj : Int)), .pointer (some ⟨g18, 0 + jj * 10, none⟩), .pointer (some ⟨g18, 0 + jj * 10 + 1, none⟩), .agg #[.int .i64 o18.at_.t, .int .i64 o18.at_.w], .slice lA os.length lc, .int .i64 ((kk : Int)), .pointer (some ⟨g20, f20 + kk * 10, none⟩), .pointer (some ⟨g20, f20 + kk * 10 + 1, none⟩), .agg #[.int .i64 x0.at_.t, .int .i64 x0.at_.w], .bool ((lessS ⟨o18.at_.t, o18.at_.w⟩ ⟨x0.at_.t, x0.at_.w⟩)), .bool ((lessS ⟨o18.at_.t, o18.at_.w⟩ ⟨x0.at_.t, x0.at_.w⟩)), z29, z30, .int .i64 ((jj : Int)), .slice oA on oc, .int .i64 ((on : Int)), .bool b27, .bool b27, .slice oA on oc, .int .i64 ((jj : Int)), .pointer (some ⟨g32, 0 + jj * 10, none⟩), .pointer (some ⟨g32, 0 + jj * 10 + 1, none⟩), .agg #[.int .i64 o18.at_.t, .int .i64 o18.at_.w], .slice lA os.length lc, .int .i64 ((kk : Int)), .pointer (some ⟨g34, f34 + kk * 10, none⟩), .pointer (some ⟨g34, f34 + kk * 10 + 1, none⟩), .agg #[.int .i64 x0.at_.t, .int .i64 x0.at_.w], .bool b35, .bool b35, .slice (some ⟨b58, 0, none⟩) 0 0, .slice oA on oc, .int .i64 ((jj : Int)), .slice oA jj oc, .slice (some ⟨b95, 0, none⟩) n96 c97, .slice lA os.length lc, .int .i64 ((kk : Int)), .pointer (some ⟨g56, f56 + kk * 10, none⟩), opV x0 (.slice oA56 on56 oc56), .slice (some ⟨b74, 0, none⟩) 1 1, .slice (some ⟨b110, 0, none⟩) n111 c112, .slice oA on oc, .int .i64 ((jj : Int)), .slice A57 ((on - jj : Nat)) ((oc - jj : Nat)), .slice (some ⟨b124, 0, none⟩) n125 c126, rfl, (by kernel_rfl), M133, (by omega), (by rw [tkO hx0, sortO_snoc, ← hF1_1]; exact (insO_at hF2_1.out (.inr ⟨_, ho18, v26, p43⟩)).symm), (ORow.base (ORow.to h129 (by simp)) M46.size)⟩
      · omega
    ·
     refine sn rfl (cs := (opC x0 (.slice oA56 on56 oc56)).toArray) (T := 38) (V := fun b => .slice (some ⟨b, 0, none⟩) 1 1) (r_buildSlice (n := 1) (ps := [(0, opV x0 (.slice oA56 on56 oc56))]) Ty.un28 Ty.sz38 Ty.zv38 (by decide) (by decide) (by kernel_rfl) (by kernel_rfl)) ?_
     intro b58 w59 e60 h61 u62
     have l63 : g18 < b58 := by rw [e60]; exact lt_ob h49
     have l64 : g32 < b58 := by rw [e60]; exact lt_ob h50
     have g65 : w.heap.size ≤ b58 := by rw [e60]; exact M46.size
     have g66 : w.heap.size ≤ b58 := by rw [e60]; exact M47.size
     have g67 : r1.heap.size ≤ b58 := by rw [e60]; exact M48.size
     have g68 : w44.heap.size ≤ b58 := by rw [e60]; exact (Mod.refl [] w44).size
     have M69 := Mod.trans M46 (Mod.of_up u62)
     have M70 := Mod.trans M47 (Mod.of_up u62)
     have M71 := Mod.trans M48 (Mod.of_up u62)
     have M72 := Mod.trans (Mod.refl [] w44) (Mod.of_up u62)
     refine ⟨M72, ?_⟩
     refine h1 (i := 0) (fuel := 4) (by kernel_rfl) rfl (litO rfl (B := B) (base := w44.heap.size) Ty.un28 Ty.sz38 M72.size ?_)
     intro b73 w74 e75 h76 h77 u78
     have h79 := md_ob M72 nin0 h49
     have l80 : g18 < b73 := by rw [e75]; exact lt_ob h79
     have h81 := md_ob M72 nin0 h50
     have l82 : g32 < b73 := by rw [e75]; exact lt_ob h81
     have l83 : b58 < b73 := by rw [e75]; exact lt_ob h61
     have g84 : w.heap.size ≤ b73 := by rw [e75]; exact M69.size
     have g85 : w.heap.size ≤ b73 := by rw [e75]; exact M70.size
     have g86 : r1.heap.size ≤ b73 := by rw [e75]; exact M71.size
     have g87 : w44.heap.size ≤ b73 := by rw [e75]; exact M72.size
     have M88 := Mod.trans M69 (Mod.of_up u78)
     have M89 := Mod.trans M70 (Mod.of_up u78)
     have M90 := Mod.trans M71 (Mod.of_up u78)
     have M91 := Mod.trans M72 (Mod.of_up u78)
     refine ⟨M91, ?_⟩
     have h92 := (SubO.up hs55 (Mod.up M91))
     refine h1 (i := 4) (fuel := 3) (by kernel_rfl) rfl (apO rfl (by kernel_rfl) (by kernel_rfl) h77 h92 Ty.un28 hiO hzO hsO hbO hcO (by decide) (Nat.le_trans (Nat.le_trans hB M46.size) (Nat.le_refl _)) M91.size (by simp; omega) ?_)
     intro b93 n94 c95 w96 e97 h98 g99 c100
     have M101 := Mod.trans' M88 c100 (fun i hi => by injection hi with hi; rw [← hi]; exact g84)
     have M102 := Mod.trans' M89 c100 (fun i hi => by injection hi with hi; rw [← hi]; exact g85)
     have M103 := Mod.trans' M90 c100 (fun i hi => by injection hi with hi; rw [← hi]; exact g86)
     have M104 := Mod.trans' M91 c100 (fun i hi => by injection hi with hi; rw [← hi]; exact g87)
     obtain ⟨_, _, _, cg105, hg105, _⟩ := ORow.blk h98
     refine ⟨M104, ?_⟩
     have h106 := (chg_ob c100 (Nat.ne_of_lt l83) (up_ob u78 h61))
     have h107 := (Dat.up hD56 (up_chgn (up_up u62 u78) c100 (by rw [e75]; exact u62.size)))
     refine h1 (i := 10) (fuel := 2) (by kernel_rfl) rfl (apO rfl (by kernel_rfl) (by kernel_rfl) h98 (SubO.one (x := x0) h106 h107) Ty.un28 hiO hzO hsO hbO hcO (by decide) (Nat.le_trans (Nat.le_trans hB M46.size) (Nat.le_refl _)) M104.size (by simp; omega) ?_)
     intro b108 n109 c110 w111 e112 h113 g114 c115
     have M116 := Mod.trans' M101 c115 (fun i hi => by injection hi with hi; rw [← hi]; exact (Nat.le_trans M46.size g99))
     have M117 := Mod.trans' M102 c115 (fun i hi => by injection hi with hi; rw [← hi]; exact (Nat.le_trans M47.size g99))
     have M118 := Mod.trans' M103 c115 (fun i hi => by injection hi with hi; rw [← hi]; exact (Nat.le_trans M48.size g99))
     have M119 := Mod.trans' M104 c115 (fun i hi => by injection hi with hi; rw [← hi]; exact g99)
     obtain ⟨_, _, _, cg120, hg120, _⟩ := ORow.blk h113
     refine ⟨M119, ?_⟩
     have h121 := (SubO.up hs57 (Mod.up M119))
     refine h1 (i := 14) (fuel := 1) (by kernel_rfl) rfl (apO rfl (by kernel_rfl) (by kernel_rfl) h113 h121 Ty.un28 hiO hzO hsO hbO hcO (by decide) (Nat.le_trans (Nat.le_trans hB M46.size) (Nat.le_refl _)) M119.size (by simp; omega) ?_)
     intro b122 n123 c124 w125 e126 h127 g128 c129
     have M130 := Mod.trans' M116 c129 (fun i hi => by injection hi with hi; rw [← hi]; exact (Nat.le_trans M46.size g114))
     have M131 := Mod.trans' M117 c129 (fun i hi => by injection hi with hi; rw [← hi]; exact (Nat.le_trans M47.size g114))
     have M132 := Mod.trans' M118 c129 (fun i hi => by injection hi with hi; rw [← hi]; exact (Nat.le_trans M48.size g114))
     have M133 := Mod.trans' M119 c129 (fun i hi => by injection hi with hi; rw [← hi]; exact g114)
     obtain ⟨_, _, _, cg134, hg134, _⟩ := ORow.blk h127
     refine ⟨M133, ?_⟩
     refine hvq (i := 15) (fuel := 0) rfl (fun _ _ _ h => h) M133 rfl (v := .slice (some ⟨b122, 0, none⟩) n123 c124) (fun _ _ => r_assign (by kernel_rfl)) ?_
     refine hend (by kernel_rfl) ?_
     refine inb_n (then_n (rg_lit ?_))
     refine wmv (v := .int .i64 ((kk : Int))) ?_
     refine wl (sv rfl (v := .int .i64 (((kk + 1 : Nat) : Int))) (r_add (k := .i64) (m := ((kk : Int))) (n := 1) (c := (((kk + 1 : Nat) : Int))) (by kernel_rfl) (by kernel_rfl) ((IntWalk.i64_in _ (by omega)).trans (by omega))) ?_)
     refine was (v := .int .i64 (((kk + 1 : Nat) : Int))) ?_
     refine wnil (then_n ?_)
     refine ⟨os.length - (kk + 1), ?_, (kk + 1), (some ⟨b122, 0, none⟩), n123, c124, (Lo.take jj ++ [x0] ++ Lo.drop jj), .int .i64 ((jj : Int)), .int .i64 ((kk : Int)), .slice lA os.length lc, .int .i64 ((os.length : Int)), .bool b2, .int .i64 ((kk : Int)), .int .i64 (((kk + 1 : Nat) : Int)), .int .i64 ((jj : Int)), .slice oA on oc, .int .i64 ((on : Int)), .bool b11, .bool b11, .slice oA on oc, .int .i64 ((jj : Int)), .pointer (some ⟨g18, 0 + jj * 10, none⟩), .pointer (some ⟨g18, 0 + jj * 10 + 1, none⟩), .agg #[.int .i64 o18.at_.t, .int .i64 o18.at_.w], .slice lA os.length lc, .int .i64 ((kk : Int)), .pointer (some ⟨g20, f20 + kk * 10, none⟩), .pointer (some ⟨g20, f20 + kk * 10 + 1, none⟩), .agg #[.int .i64 x0.at_.t, .int .i64 x0.at_.w], .bool ((lessS ⟨o18.at_.t, o18.at_.w⟩ ⟨x0.at_.t, x0.at_.w⟩)), .bool ((lessS ⟨o18.at_.t, o18.at_.w⟩ ⟨x0.at_.t, x0.at_.w⟩)), z29, z30, .int .i64 ((jj : Int)), .slice oA on oc, .int .i64 ((on : Int)), .bool b27, .bool b27, .slice oA on oc, .int .i64 ((jj : Int)), .pointer (some ⟨g32, 0 + jj * 10, none⟩), .pointer (some ⟨g32, 0 + jj * 10 + 1, none⟩), .agg #[.int .i64 o18.at_.t, .int .i64 o18.at_.w], .slice lA os.length lc, .int .i64 ((kk : Int)), .pointer (some ⟨g34, f34 + kk * 10, none⟩), .pointer (some ⟨g34, f34 + kk * 10 + 1, none⟩), .agg #[.int .i64 x0.at_.t, .int .i64 x0.at_.w], .bool b35, .bool b35, .slice (some ⟨b73, 0, none⟩) 0 0, .slice oA on oc, .int .i64 ((jj : Int)), .slice oA jj oc, .slice (some ⟨b93, 0, none⟩) n94 c95, .slice lA os.length lc, .int .i64 ((kk : Int)), .pointer (some ⟨g56, f56 + kk * 10, none⟩), opV x0 (.slice oA56 on56 oc56), .slice (some ⟨b58, 0, none⟩) 1 1, .slice (some ⟨b108, 0, none⟩) n109 c110, .slice oA on oc, .int .i64 ((jj : Int)), .slice A57 ((on - jj : Nat)) ((oc - jj : Nat)), .slice (some ⟨b122, 0, none⟩) n123 c124, rfl, (by kernel_rfl), M131, (by omega), (by rw [tkO hx0, sortO_snoc, ← hF1_1]; exact (insO_at hF2_1.out (.inr ⟨_, ho18, v26, p43⟩)).symm), (ORow.base (ORow.to h127 (by simp)) M46.size)⟩
     · omega
   have p30 := of_decide_eq_true (k28.trans v29)
   omega
  refine wp_cond_true (ebool (b := (lessS ⟨o18.at_.t, o18.at_.w⟩ ⟨x0.at_.t, x0.at_.w⟩)) (by kernel_rfl) v26) ?_
  refine wp_skip (then_n (wp_block (rg_lit ?_)))
  refine wmv (v := .int .i64 ((jj : Int))) ?_
  refine wl (sv rfl (v := .int .i64 (((jj + 1 : Nat) : Int))) (r_add (k := .i64) (m := ((jj : Int))) (n := 1) (c := (((jj + 1 : Nat) : Int))) (by kernel_rfl) (by kernel_rfl) ((IntWalk.i64_in _ (by omega)).trans (by omega))) ?_)
  refine was (v := .int .i64 (((jj + 1 : Nat) : Int))) ?_
  refine wnil (inb_n (then_n ?_))
  refine ⟨on - (jj + 1), ?_, (jj + 1), .int .i64 ((jj : Int)), .slice oA on oc, .int .i64 ((on : Int)), .bool b11, .bool b11, .slice oA on oc, .int .i64 ((jj : Int)), .pointer (some ⟨g18, 0 + jj * 10, none⟩), .pointer (some ⟨g18, 0 + jj * 10 + 1, none⟩), .agg #[.int .i64 o18.at_.t, .int .i64 o18.at_.w], .slice lA os.length lc, .int .i64 ((kk : Int)), .pointer (some ⟨g20, f20 + kk * 10, none⟩), .pointer (some ⟨g20, f20 + kk * 10 + 1, none⟩), .agg #[.int .i64 x0.at_.t, .int .i64 x0.at_.w], .bool ((lessS ⟨o18.at_.t, o18.at_.w⟩ ⟨x0.at_.t, x0.at_.w⟩)), .bool ((lessS ⟨o18.at_.t, o18.at_.w⟩ ⟨x0.at_.t, x0.at_.w⟩)), .int .i64 ((jj : Int)), .int .i64 (((jj + 1 : Nat) : Int)), rfl, (by kernel_rfl), M25, (by omega), (lt_next hF2_1 ho18 v26)⟩
  · omega
end Go.Proofs.YtefhfoioeoijlaaGreat

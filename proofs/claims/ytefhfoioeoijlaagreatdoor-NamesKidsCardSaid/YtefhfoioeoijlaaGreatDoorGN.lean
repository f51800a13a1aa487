/- GN: printed by gen.py -/
import Derived.Test.YtefhfoioeoijlaaGreatDoorGM
import Derived.Test.YtefhfoioeoijlaaGreatDoorGJ
import Derived.Test.YtefhfoioeoijlaaGreatDoorArg
set_option linter.unusedVariables false
set_option linter.unusedSimpArgs false
namespace Go.Proofs.YtefhfoioeoijlaaGreatDoor
open Go Go.RowKit Go.Sort
theorem tkO {L : List OpD} {k : Nat} {x : OpD} (h : L[k]? = some x) : L.take (k + 1) = L.take k ++ [x] := by rw [List.take_add_one, h]; rfl
set_option maxHeartbeats 2000000 in
theorem opsort_at {B : Nat} {w : World} {lA : Option Addr} {lc : Nat} {os : List OpD} (h : OpRow B w lA os) (hB : B ≤ w.heap.size) (hn : os.length ≤ 1000000) :
    Calls Tryz.prog 56 #[.slice lA os.length lc] w fun e w' => ∃ v, e = .returned v ∧ ORow 49 B w.heap.size w' v (sortO os) ∧ Up w w' := by
  have hBb := hB
  obtain ⟨iO, zO, hiO, hzO, hsO, hbO, hcO⟩ := info_op
  go_enter Tryz.func56, Tryz.ntmps56
  refine wp_seq (rg_lit ?_)
  refine was (v := .slice none 0 0) ?_
  refine wnil (then_n (wp_seq (rg_lit ?_)))
  refine wmv (v := .slice lA os.length lc) ?_
  refine wl (sv rfl (v := .int .i64 ((os.length : Int))) (r_len Ty.un22 (ad := lA) (n := os.length) (c := lc) (by kernel_rfl)) ?_)
  refine wl (mkO rfl (B := B) (base := w.heap.size) (m := os.length) (by kernel_rfl) (by kernel_rfl) Ty.un22 hiO hzO hsO hbO (by omega) (Mod.refl [] w).size ?_)
  intro g w1 e2 h3 u4
  obtain ⟨_, _, _, cgh5, h5, _⟩ := ORow.blk h3
  have g6 : w.heap.size ≤ g := by rw [e2]; exact (Mod.refl [] w).size
  have M7 := Mod.trans (Mod.refl [] w) (Mod.of_up u4)
  have hBg : B ≤ g := Nat.le_trans hB g6
  refine was (v := .slice (some ⟨g, 0, none⟩) 0 os.length) ?_
  refine wnil (then_n (wp_seq (wp_seq (rg_lit ?_))))
  refine wmv (v := .slice lA os.length lc) ?_
  refine wl (sv rfl (v := .int .i64 ((os.length : Int))) (r_len Ty.un22 (ad := lA) (n := os.length) (c := lc) (by kernel_rfl)) ?_)
  refine wmv (v := .int .i64 0) ?_
  refine wnil (then_n (wp_block ?_))
  have h8 := (OpRow.up h (Mod.up M7))
  refine lp (fun n a r1 => ∃ (kk : Nat) (z5 z12 z13 z14 z15 z16 z17 z18 z19 z20 : Value), (n = os.length - kk) ∧ (a = ⟨#[.slice lA os.length lc, undef, .slice none 0 0, .slice (some ⟨g, 0, none⟩) kk os.length, undef, z5, .slice lA os.length lc, .int .i64 ((os.length : Int)), .slice (some ⟨g, 0, none⟩) 0 os.length, .slice lA os.length lc, .int .i64 ((os.length : Int)), .int .i64 ((kk : Int)), z12, z13, z14, z15, z16, z17, z18, z19, z20, undef, undef, undef, undef], []⟩) ∧ (Mod [g] w1 r1) ∧ (kk ≤ os.length) ∧ (ORow 49 B w.heap.size r1 (.slice (some ⟨g, 0, none⟩) kk os.length) (os.take kk))) ⟨_, 0, undef, undef, undef, undef, undef, undef, undef, undef, undef, undef, rfl, (by kernel_rfl), Mod.refl _ _, (Nat.zero_le _), h3⟩ ?_
  rintro _ _ r1 ⟨kk, z5, z12, z13, z14, z15, z16, z17, z18, z19, z20, rfl, rfl, hM1, hF1_0, hF1_1⟩
  have M9 := Mod.thin M7 hM1 (fun y hy => by simp only [List.mem_cons, List.not_mem_nil, or_false] at hy; subst hy; exact .inr g6)
  obtain ⟨_, _, _, cg10, hg10, _⟩ := ORow.blk hF1_1
  refine wp_seq (rg_lit ?_)
  refine wl (sb rfl (r_lt (k := .i64) (m := ((kk : Int))) (n := ((os.length : Int))) (by kernel_rfl) (by kernel_rfl)) ?_)
  intro b11 k12
  refine wnil (then_n (wp_seq ?_))
  refine bcase b11 (fun v13 => ?_) (fun v13 => ?_)
  ·
   have p14 := of_decide_eq_false (k12.trans v13)
   refine wp_cond_false (ebool (b := b11) (by kernel_rfl) v13) ?_
   refine wp_exit (then_x (by nofun) (then_x (by nofun) (inb_hit (then_n (wp_seq (rg_lit ?_))))))
   refine wmv (v := .slice (some ⟨g, 0, none⟩) kk os.length) ?_
   have ho := ORow.to hF1_1 (show os.take kk = (List.range kk).map (atO os) by rw [List.take_of_length_le (by omega), show kk = os.length by omega]; exact (range_at os).symm)
   refine wl (sc rfl (r_callv (caps := []) (all := [.slice (some ⟨g, 0, none⟩) kk os.length, .func (.func 115) #[] #[]]) En.f114 (by kernel_rfl) (by kernel_rfl)) (sortStable_at ho hBb (by omega)) ?_)
   rintro e w15 ⟨D16, rfl, h17, m18, c19⟩
   refine ⟨.tuple #[], rfl, ?_⟩
   have M20 := Mod.trans' M9 c19 (fun i hi => by injection hi with hi; rw [← hi]; exact g6)
   have M21 := Mod.trans hM1 (Mod.of_chg c19 (by simp))
   obtain ⟨_, _, _, cg22, hg22, _⟩ := ORow.blk h17
   refine wnil (then_n (wp_seq (rg_lit ?_)))
   refine wmv (v := .slice (some ⟨g, 0, none⟩) kk os.length) ?_
   refine wl (sc rfl (r_callv (caps := []) (all := [.slice (some ⟨g, 0, none⟩) kk os.length, .func (.func 117) #[] #[]]) En.f116 (by kernel_rfl) (by kernel_rfl)) (compact_at h17 hBb (by omega)) ?_)
   rintro e w23 ⟨m24, D25, rfl, h26, h27, c28⟩
   refine ⟨.slice (some ⟨g, 0, none⟩) m24 os.length, rfl, ?_⟩
   have M29 := Mod.trans' M20 c28 (fun i hi => by injection hi with hi; rw [← hi]; exact g6)
   have M30 := Mod.trans M21 (Mod.of_chg c28 (by simp))
   obtain ⟨_, _, _, cg31, hg31, _⟩ := ORow.blk h26
   refine was (v := .slice (some ⟨g, 0, none⟩) m24 os.length) ?_
   refine wnil (then_n (wp_ret ?_))
   refine bodyPost_ret (v := .slice (some ⟨g, 0, none⟩) m24 os.length) (res1 rfl (rv_t (by kernel_rfl))) (by kernel_rfl) ?_
   exact ⟨_, rfl, ORow.to h26 ((Thin.sortO h27 m18).trans (by rw [show kk = os.length by omega, range_at])), (Mod.up M29)⟩
  have p14 := of_decide_eq_true (k12.trans v13)
  have q15 : kk < os.length := by omega
  have q16 : kk < os.length := by omega
  refine wp_cond_true (ebool (b := b11) (by kernel_rfl) v13) ?_
  refine wp_skip (then_n (wp_seq (wp_block (wp_seq (rg_lit ?_)))))
  have h17 := (OpRow.up h (Mod.up M9))
  obtain ⟨o18, ho18⟩ : ∃ x, os[kk]? = some x := ⟨_, List.getElem?_eq_getElem q16⟩
  obtain ⟨g18, f18, oA18, on18, oc18, hA18, hl18, hc18, hD18, hs18⟩ := h17 kk o18 ho18
  refine wl (sv rfl (v := .pointer (some ⟨g18, f18 + kk * 10, none⟩)) (r_ixaddr' (A := lA) (b := g18) (o := f18) (n := os.length) (c := lc) (sz := 10) (j := (kk : Int)) (m := f18 + kk * 10) (by kernel_rfl) hA18 (by kernel_rfl) Ty.un22 Ty.sz49 (by omega) (by omega) (by simp)) ?_)
  refine wl (sv rfl (v := opV o18 (.slice oA18 on18 oc18)) (r_loadcN (vs := (opC o18 (.slice oA18 on18 oc18))) (by kernel_rfl) Ty.ag49 Ty.sz49 hc18) ?_)
  refine wl (sn rfl (cs := #[.int .i64 0, .int .i64 0, .int .i64 0, .int .i64 0, .int .i64 0, .int .i64 0, .int .i64 0, .bool false, .string (⟨#[]⟩), .slice none 0 0]) (T := 49) (V := fun b => .pointer (some ⟨b, 0, none⟩)) (r_alloc Ty.zv49 rfl) ?_)
  intro b19 w20 e21 h22 u23
  have l24 : g < b19 := by rw [e21]; exact lt_ob hg10
  have g25 : w.heap.size ≤ b19 := by rw [e21]; exact M9.size
  have g26 : w1.heap.size ≤ b19 := by rw [e21]; exact hM1.size
  have M27 := Mod.trans M9 (Mod.of_up u23)
  have M28 := Mod.trans hM1 (Mod.of_up u23)
  refine wl (ss rfl (k := 0) (v := opV o18 (.slice oA18 on18 oc18)) (vs := (opC o18 (.slice oA18 on18 oc18))) (cs' := (opC o18 (.slice oA18 on18 oc18))) (by kernel_rfl) (by kernel_rfl) rfl Ty.sz49 h22 rfl (Nat.le_of_ble_eq_true rfl) rfl ?_)
  intro w29 h30 c31
  have M32 := Mod.trans' M27 c31 (fun i hi => by injection hi with hi; rw [← hi]; exact g25)
  have M33 := Mod.trans' M28 c31 (fun i hi => by injection hi with hi; rw [← hi]; exact g26)
  refine wnil (then_n (rg_lit ?_))
  refine wmv (v := .slice (some ⟨g, 0, none⟩) kk os.length) ?_
  refine wl (sv rfl (v := opV o18 (.slice oA18 on18 oc18)) (r_loads (k := 0) (by kernel_rfl) Ty.ag49 Ty.sz49 h30 (by kernel_rfl)) ?_)
  have h34 := (Dat.up hD18 (up_chgn u23 c31 (by rw [e21]; exact Nat.le_refl _)))
  refine wl (sc rfl (r_callv (caps := []) (all := [opV o18 (.slice oA18 on18 oc18)]) En.f113 (by kernel_rfl) (by kernel_rfl)) (opown_at o18 oA18 on18 oc18 (Nat.le_trans hB M32.size) h34) ?_)
  rintro e w35 ⟨A36, n37, c38, rfl, h39, u40⟩
  refine ⟨opV o18 (.slice A36 n37 c38), rfl, ?_⟩
  have M41 := Mod.trans M32 (Mod.of_up u40)
  have M42 := Mod.trans M33 (Mod.of_up u40)
  refine wl (sn rfl (cs := (opC o18 (.slice A36 n37 c38)).toArray) (T := 49) (V := fun b => .slice (some ⟨b, 0, none⟩) 1 1) (r_buildSlice (n := 1) (ps := [(0, opV o18 (.slice A36 n37 c38))]) Ty.un22 Ty.sz49 Ty.zv49 (by decide) (by decide) (by kernel_rfl) (by kernel_rfl)) ?_)
  intro b43 w44 e45 h46 u47
  have h48 := (up_ob u40 (chg_ob c31 (Nat.ne_of_lt l24) (up_ob u23 hg10)))
  have l49 : g < b43 := by rw [e45]; exact lt_ob h48
  have h50 := (up_ob u40 h30)
  have l51 : b19 < b43 := by rw [e45]; exact lt_ob h50
  have g52 : w.heap.size ≤ b43 := by rw [e45]; exact M41.size
  have g53 : w1.heap.size ≤ b43 := by rw [e45]; exact M42.size
  have M54 := Mod.trans M41 (Mod.of_up u47)
  have M55 := Mod.trans M42 (Mod.of_up u47)
  have h56 := (ORow.up hF1_1 (up_up (up_up (up_chgn u23 c31 (by rw [e21]; exact Nat.le_refl _)) u40) u47))
  have h57 := (Dat.up h39 u47)
  have h61 := (up_ob u47 h48)
  refine wl (fitO rfl (x := o18) (e := .slice A36 n37 c38) (by kernel_rfl) (by kernel_rfl) h56 Ty.un22 hiO hsO h46 h57 (by decide) hBb (by omega) ?_)
  intro w58 h59 c60
  have M62 := Mod.trans' M54 c60 (fun i hi => by injection hi with hi; rw [← hi]; exact g6)
  have M63 := Mod.trans M55 (Mod.of_chg c60 (by simp))
  obtain ⟨_, _, _, cg64, hg64, _⟩ := ORow.blk h59
  refine was (v := .slice (some ⟨g, 0, none⟩) (kk + 1) os.length) ?_
  refine wnil (inb_n (then_n (rg_lit ?_)))
  refine wl (sv rfl (v := .int .i64 (((kk + 1 : Nat) : Int))) (r_add (k := .i64) (m := ((kk : Int))) (n := 1) (c := (((kk + 1 : Nat) : Int))) (by kernel_rfl) (by kernel_rfl) ((IntWalk.i64_in _ (by omega)).trans (by omega))) ?_)
  refine wmv (v := .int .i64 (((kk + 1 : Nat) : Int))) ?_
  refine wnil (then_n ?_)
  refine ⟨os.length - (kk + 1), ?_, (kk + 1), .pointer (some ⟨b19, 0, none⟩), .bool b11, .pointer (some ⟨g18, f18 + kk * 10, none⟩), opV o18 (.slice oA18 on18 oc18), .slice (some ⟨g, 0, none⟩) kk os.length, opV o18 (.slice oA18 on18 oc18), opV o18 (.slice A36 n37 c38), .slice (some ⟨b43, 0, none⟩) 1 1, .slice (some ⟨g, 0, none⟩) (kk + 1) os.length, .int .i64 (((kk + 1 : Nat) : Int)), rfl, (by kernel_rfl), M63, (by omega), (ORow.to h59 (tkO ho18).symm)⟩
  · omega
def playI (L : List Item) (o : OpD) : List Item := (doI L o).2
/-- The tree of any operations. -/
def buildI (os : List OpD) : List Item := (sortO os).foldl playI []
theorem orow_sl {P : Program} {f : FuncId} {args : Array Value} {w : World} {T : TypeId} {B base : Nat} {L : List OpD} (h : Calls P f args w fun e w' => ∃ v, e = .returned v ∧ ORow T B base w' v L ∧ Up w w') :
    Calls P f args w fun e w' => ∃ A c, e = .returned (.slice A L.length c) ∧ ORow T B base w' (.slice A L.length c) L ∧ Up w w' := by
  refine h.mono ?_
  rintro e w' ⟨v, rfl, hr, u⟩
  obtain ⟨A, c, rfl⟩ := hr.form
  exact ⟨A, c, rfl, hr, u⟩
theorem OpRow.names {B : Nat} {w : World} {A : Option Addr} {os : List OpD} (h : OpRow B w A os) : ∀ o ∈ sortO os, o.name.size ≤ 9223372036854775807 := fun o ho => by
  obtain ⟨i, hi⟩ := List.mem_iff_getElem?.1 (sortO_mem ho)
  obtain ⟨_, _, _, _, _, _, _, _, _, hs⟩ := h i o hi
  exact hs
set_option maxHeartbeats 2000000 in
theorem build_at {B : Nat} {w : World} {lA : Option Addr} {lc : Nat} {os : List OpD} (h : OpRow B w lA os) (hB : B ≤ w.heap.size) (hn : os.length ≤ 1000000) :
    Calls Tryz.prog 15 #[.slice lA os.length lc] w fun e w' => ∃ tb r, e = .returned (trP tb) ∧ TreeIs B w' tb r (buildI os) ∧ Up w w' ∧ w.heap.size ≤ tb ∧ w.heap.size ≤ r := by
  have hnm := h.names
  have hsl := sortO_len os
  go_enter Tryz.func15, Tryz.ntmps15
  refine wp_seq (rg_lit ?_)
  refine was (v := .pointer none) ?_
  refine wnil (then_n (wp_seq (rg_lit ?_)))
  refine wl (sc rfl (r_callv (caps := []) (all := []) En.f30 (by kernel_rfl) (by kernel_rfl)) (tnew_any (Nat.le_trans hB (Mod.refl [] w).size)) ?_)
  rintro e w1 ⟨tb, r, rfl, h4, u5, z6, z7⟩
  refine ⟨.pointer (some ⟨tb, 0, none⟩), rfl, ?_⟩
  have M8 := Mod.trans (Mod.refl [] w) (Mod.of_up u5)
  obtain ⟨eshr9, clhr9, xshr9, hr9, _⟩ := h4.2.2.2.1
  refine was (v := .pointer (some ⟨tb, 0, none⟩)) ?_
  refine wnil (then_n (wp_seq (wp_seq (rg_lit ?_))))
  refine wmv (v := .slice lA os.length lc) ?_
  have h10 := (OpRow.up h (Mod.up M8))
  refine wl (sc rfl (r_callv (caps := []) (all := [.slice lA os.length lc]) En.f56 (by kernel_rfl) (by kernel_rfl)) (orow_sl (opsort_at h10 (Nat.le_trans hB M8.size) hn)) ?_)
  rintro e w11 ⟨A12, c13, rfl, h14, u15⟩
  refine ⟨.slice A12 ((sortO os).length) c13, rfl, ?_⟩
  have M16 := Mod.trans M8 (Mod.of_up u15)
  refine wl (sv rfl (v := .int .i64 ((((sortO os).length) : Int))) (r_len Ty.un22 (ad := A12) (n := ((sortO os).length)) (c := c13) (by kernel_rfl)) ?_)
  refine wmv (v := .int .i64 0) ?_
  refine wnil (then_n (wp_block ?_))
  have h17 := (up_ob u15 hr9)
  have h18 := (up_ob u15 h4.1)
  have h19 := (OpRow.up h (Mod.up M16))
  have h20 := (TreeIs.up h4 u15)
  refine lp (fun n a r1 => ∃ (kk : Nat) (Lc : List Item) (z5 z11 z12 z13 z14 z15 z16 z17 : Value), (n = (sortO os).length - kk) ∧ (a = ⟨#[.slice lA os.length lc, undef, .pointer none, .pointer (some ⟨tb, 0, none⟩), undef, z5, .pointer (some ⟨tb, 0, none⟩), .slice lA os.length lc, .slice A12 ((sortO os).length) c13, .int .i64 ((((sortO os).length) : Int)), .int .i64 ((kk : Int)), z11, z12, z13, z14, z15, z16, z17, undef], []⟩) ∧ (Mod [r] w11 r1) ∧ (kk ≤ (sortO os).length) ∧ (Lc = ((sortO os).take kk).foldl playI []) ∧ (TreeIs B r1 tb r Lc)) ⟨_, 0, [], undef, undef, undef, undef, undef, undef, undef, undef, rfl, (by kernel_rfl), Mod.refl _ _, (Nat.zero_le _), rfl, h20⟩ ?_
  rintro _ _ r1 ⟨kk, Lc, z5, z11, z12, z13, z14, z15, z16, z17, rfl, rfl, hM1, hF1_0, hF1_1, hF1_2⟩
  have M21 := Mod.thin M16 hM1 (fun y hy => by simp only [List.mem_cons, List.not_mem_nil, or_false] at hy; subst hy; exact .inr (Nat.le_trans (Mod.refl [] w).size z7))
  obtain ⟨eshr22, clhr22, xshr22, hr22, _⟩ := hF1_2.2.2.2.1
  refine wp_seq (rg_lit ?_)
  refine wl (sb rfl (r_lt (k := .i64) (m := ((kk : Int))) (n := ((((sortO os).length) : Int))) (by kernel_rfl) (by kernel_rfl)) ?_)
  intro b23 k24
  refine wnil (then_n (wp_seq ?_))
  refine bcase b23 (fun v25 => ?_) (fun v25 => ?_)
  ·
   have p26 := of_decide_eq_false (k24.trans v25)
   refine wp_cond_false (ebool (b := b23) (by kernel_rfl) v25) ?_
   refine wp_exit (then_x (by nofun) (then_x (by nofun) (inb_hit (then_n (wp_seq (rg_lit ?_))))))
   refine wmv (v := .pointer (some ⟨tb, 0, none⟩)) ?_
   refine was (v := .pointer (some ⟨tb, 0, none⟩)) ?_
   refine wnil (then_n (wp_ret ?_))
   refine bodyPost_ret (v := .pointer (some ⟨tb, 0, none⟩)) (res1 rfl (rv_t (by kernel_rfl))) (by kernel_rfl) ?_
   refine ⟨tb, r, rfl, ?_, (Mod.up M21), (Nat.le_trans (Mod.refl [] w).size z6), (Nat.le_trans (Mod.refl [] w).size z7)⟩
   have h0 := hF1_2
   rw [hF1_1, List.take_of_length_le (by omega)] at h0
   exact h0
  have p26 := of_decide_eq_true (k24.trans v25)
  refine wp_cond_true (ebool (b := b23) (by kernel_rfl) v25) ?_
  refine wp_skip (then_n (wp_seq (wp_block (wp_seq (rg_lit ?_)))))
  have h27 := (ORow.chgn h14 (Mod.chg hM1) ⟨h20.2.2.1, NotU8.map h17⟩ (ORow.ne_old h14 (lt_ob hr9)))
  obtain ⟨o28, ho28⟩ : ∃ x, ((sortO os))[kk]? = some x := ⟨_, List.getElem?_eq_getElem (by omega)⟩
  obtain ⟨g28, cp28, cu28, dA28, dn28, dc28, hA28, hg28, hb28, he28, hD28⟩ := ORow.get h27 ho28
  injection hA28 with hA28 _ _
  replace he28 : (cu28.toList.drop (0 + kk * 10)).take 10 = opC o28 (.slice dA28 dn28 dc28) := by rw [Nat.zero_add]; exact he28
  refine wl (sv rfl (v := .pointer (some ⟨g28, 0 + kk * 10, none⟩)) (r_ixaddr' (A := A12) (b := g28) (o := 0) (n := ((sortO os).length)) (c := c13) (sz := 10) (j := ((kk : Int))) (by kernel_rfl) hA28 (by kernel_rfl) Ty.un22 Ty.sz49 (by omega) (by omega) (by simp)) ?_)
  refine wl (sv rfl (v := opV o28 (.slice dA28 dn28 dc28)) (r_loads (k := 0 + kk * 10) (by kernel_rfl) Ty.ag49 Ty.sz49 hb28 (el_sub0 he28 rfl)) ?_)
  refine wl (sn rfl (cs := #[.int .i64 0, .int .i64 0, .int .i64 0, .int .i64 0, .int .i64 0, .int .i64 0, .int .i64 0, .bool false, .string (⟨#[]⟩), .slice none 0 0]) (T := 49) (V := fun b => .pointer (some ⟨b, 0, none⟩)) (r_alloc Ty.zv49 rfl) ?_)
  intro b29 w30 e31 h32 u33
  have l34 : r < b29 := by rw [e31]; exact lt_ob hr22
  have l35 : tb < b29 := by rw [e31]; exact lt_ob hF1_2.1
  have l36 : g28 < b29 := by rw [e31]; exact lt_ob hb28
  have g37 : w.heap.size ≤ b29 := by rw [e31]; exact M21.size
  have g38 : w11.heap.size ≤ b29 := by rw [e31]; exact hM1.size
  have M39 := Mod.trans M21 (Mod.of_up u33)
  have M40 := Mod.trans hM1 (Mod.of_up u33)
  refine wl (ss rfl (k := 0) (v := opV o28 (.slice dA28 dn28 dc28)) (vs := (opC o28 (.slice dA28 dn28 dc28))) (cs' := (opC o28 (.slice dA28 dn28 dc28))) (by kernel_rfl) (by kernel_rfl) rfl Ty.sz49 h32 rfl (Nat.le_of_ble_eq_true rfl) rfl ?_)
  intro w41 h42 c43
  have M44 := Mod.trans' M39 c43 (fun i hi => by injection hi with hi; rw [← hi]; exact g37)
  have M45 := Mod.trans' M40 c43 (fun i hi => by injection hi with hi; rw [← hi]; exact g38)
  refine wnil (then_n (rg_lit ?_))
  refine wmv (v := .pointer (some ⟨tb, 0, none⟩)) ?_
  refine wl (sv rfl (v := opV o28 (.slice dA28 dn28 dc28)) (r_loads (k := 0) (by kernel_rfl) Ty.ag49 Ty.sz49 h42 (by kernel_rfl)) ?_)
  have h46 := (TreeIs.up hF1_2 (up_chgn u33 c43 (by rw [e31]; exact Nat.le_refl _)))
  have h47 := (Dat.up hD28 (up_chgn u33 c43 (by rw [e31]; exact Nat.le_refl _)))
  have h55 := (chg_ob c43 (Nat.ne_of_lt l34) (up_ob u33 hr22))
  have h56 := (chg_ob c43 (Nat.ne_of_lt l35) (up_ob u33 hF1_2.1))
  have h57 := (chg_ob c43 (Nat.ne_of_lt l36) (up_ob u33 hb28))
  refine wl (sc rfl (r_callv (caps := []) (all := [.pointer (some ⟨tb, 0, none⟩), opV o28 (.slice dA28 dn28 dc28)]) En.f22 (by kernel_rfl) (by kernel_rfl)) (do_x (L' := (playI Lc o28)) h46 (Nat.le_trans hB M44.size) o28 dA28 dn28 dc28 h47 (hnm _ (List.mem_of_getElem? ho28)) rfl) ?_)
  rintro e w48 ⟨A49, n50, c51, rfl, h52, h53, u54⟩
  refine ⟨.tuple #[itV (doI Lc o28).1.1 (.slice A49 n50 c51), .bool ((doI Lc o28).1.2.1), .int .i64 ((doI Lc o28).1.2.2)], rfl, ?_⟩
  have M58 := Mod.trans' M44 u54 (fun i hi => by injection hi with hi; rw [← hi]; exact (Nat.le_trans (Mod.refl [] w).size z7))
  have M59 := Mod.trans M45 (Mod.of_chg u54 (by simp))
  obtain ⟨eshr60, clhr60, xshr60, hr60, _⟩ := h53.2.2.2.1
  refine wnil (inb_n (then_n (rg_lit ?_)))
  refine wl (sv rfl (v := .int .i64 (((kk + 1 : Nat) : Int))) (r_add (k := .i64) (m := ((kk : Int))) (n := 1) (c := (((kk + 1 : Nat) : Int))) (by kernel_rfl) (by kernel_rfl) ((IntWalk.i64_in _ (by omega)).trans (by omega))) ?_)
  refine wmv (v := .int .i64 (((kk + 1 : Nat) : Int))) ?_
  refine wnil (then_n ?_)
  refine ⟨(sortO os).length - (kk + 1), ?_, (kk + 1), (playI Lc o28), .pointer (some ⟨b29, 0, none⟩), .bool b23, .pointer (some ⟨g28, 0 + kk * 10, none⟩), opV o28 (.slice dA28 dn28 dc28), .pointer (some ⟨tb, 0, none⟩), opV o28 (.slice dA28 dn28 dc28), .tuple #[itV (doI Lc o28).1.1 (.slice A49 n50 c51), .bool ((doI Lc o28).1.2.1), .int .i64 ((doI Lc o28).1.2.2)], .int .i64 (((kk + 1 : Nat) : Int)), rfl, (by kernel_rfl), M59, (by omega), (by rw [tkO ho28, List.foldl_append, ← hF1_1]; rfl), h53⟩
  · omega
end Go.Proofs.YtefhfoioeoijlaaGreatDoor

/- Copy of a log: slices.Clone at steps, the tree anew; the answers of a nil log. -/
import Derived.Test.YtefhfoioeoijlaaLogs
import Derived.Test.YtefhfoioeoijlaaGE
set_option linter.unusedVariables false
set_option linter.unusedSimpArgs false
namespace Go.Proofs.Ytefhfoioeoijlaa
open Go Go.RowKit Go.Sort
theorem EnC.f19 : ∀ args w, (callFunc 19 args).run Try.prog w = .ok (.enter 19 args) w := enters_of Try.func19 (by kernel_rfl) rfl
theorem EnC.f61 : ∀ args w, (callFunc 61 args).run Try.prog w = .ok (.enter 61 args) w := enters_of Try.func61 (by kernel_rfl) rfl
theorem EnC.f79 : ∀ args w, (callFunc 79 args).run Try.prog w = .ok (.enter 79 args) w := enters_of Try.func79 (by kernel_rfl) rfl
/-- All of a tree's items, in order. -/
theorem all_row {B : Nat} {w : World} {tb r : Nat} {L : List Item} (h : TreeIs B w tb r L) (hB : B ≤ w.heap.size) : Calls Try.prog 21 #[trP tb] w fun e w' => ∃ v, e = .returned v ∧ IRow 35 B w.heap.size w' v L ∧ Up w w' := by
  go_enter Try.func21, Try.ntmps21
  refine wp_seq (rg_lit ?_)
  refine was (v := .slice none 0 0) ?_
  refine wnil (then_n (wp_seq (rg_lit ?_)))
  refine wmv (v := .pointer (some ⟨tb, 0, none⟩)) ?_
  refine wl (sc rfl (r_callv (caps := []) (all := [.pointer (some ⟨tb, 0, none⟩), .func (.func 62) #[] #[]]) EnC.f61 (by kernel_rfl) (by kernel_rfl)) (some_all_at h hB) ?_)
  rintro e w1 ⟨v, rfl, h4, u5⟩
  obtain ⟨A2, c3, rfl⟩ := h4.form
  refine ⟨.slice A2 L.length c3, rfl, ?_⟩
  refine was (v := .slice A2 L.length c3) ?_
  refine wnil (then_n (wp_ret ?_))
  refine bodyPost_ret (v := .slice A2 L.length c3) (res1 rfl (rv_t (by kernel_rfl))) (by kernel_rfl) ?_
  exact ⟨_, rfl, h4, u5⟩
set_option maxHeartbeats 2000000 in
theorem clone_row {B base : Nat} {w : World} {A : Option Addr} {n c : Nat} {S : List StepD} (hp : PRow 101 B base w (.slice A n c) S) (hlen : S.length ≤ 100000) (hB : B ≤ w.heap.size) :
    Calls Try.prog 79 #[.slice A n c] w fun e w' => ∃ A' c', e = .returned (.slice A' S.length c') ∧ PRow 101 B w.heap.size w' (.slice A' S.length c') S ∧ Up w w' := by
  obtain ⟨hl, hnc, hcm, hA⟩ := PRow.addr hp
  obtain ⟨iP, zP, hiP, hzP, hsP, hbP, hcP⟩ := info_step
  go_enter Try.func79, Try.ntmps79
  refine wp_seq (rg_lit ?_)
  refine was (v := .slice none 0 0) ?_
  refine wnil (then_n (wp_seq (wp_seq (rg_lit ?_))))
  refine wmv (v := .slice A n c) ?_
  rcases hA with ⟨rfl, rfl⟩ | ⟨g, cur, rfl, hbg, hg, hcs⟩
  · obtain rfl : n = 0 := by omega
    have hS : S = [] := List.eq_nil_of_length_eq_zero (by omega)
    subst hS
    refine wl (sv rfl (v := .bool true) (w' := w) (by kernel_rfl) ?_)
    refine wnil (then_n (wp_cond_true (by kernel_rfl) (wp_seq (rg_lit ?_))))
    refine was (v := .slice none 0 0) ?_
    refine wnil (then_n (wp_ret (then_x (by nofun) ?_)))
    refine bodyPost_ret (v := .slice none 0 0) (res1 rfl (rv_t (by kernel_rfl))) (by kernel_rfl) ?_
    exact ⟨none, 0, rfl, PRow.nil _ _ _ _, Below.refl _ _⟩
  refine wl (sv rfl (v := .bool false) (w' := w) (by kernel_rfl) ?_)
  refine wnil (then_n (wp_cond_false (by kernel_rfl) (wp_skip (then_n (wp_seq (rg_lit ?_))))))
  obtain ⟨_, _, _, _, cur', ds, hg', _, hpr, htk⟩ := PRow.blk hp
  rw [hg] at hg'
  simp only [Option.some.injEq, Obj.cells.injEq, and_true] at hg'
  subst hg'
  refine wl (sn rfl (cs := #[]) (T := 101) (V := fun b => .slice (some ⟨b, 0, none⟩) 0 0) (by simp [execOp, Instr.buildSlice, run_underlying Ty.un97, Ty.sz101, Instr.fill, newRow, Array.range_zero']) ?_)
  intro b w1 e1 h1 u1
  have hg1 := up_ob u1 hg
  have hown : w1.ownsRow w.heap.size 101 22 (.slice (some ⟨b, 0, none⟩) 0 0) 0 [] := ⟨by simp, .inr ⟨b, 0, #[], rfl, Nat.le_of_eq e1.symm, h1, Nat.le_refl _, Nat.zero_le _, by simp, by simp⟩⟩
  have hfl := flatP_length hpr.length
  have hcl : cur.toList.length = c * 22 := by simpa using hcs
  have hFD : (cur.toList.drop 0).take (flatP S ds).length = flatP S ds := by rw [List.drop_zero, hfl, ← hl]; exact htk
  refine wmv (v := .slice (some ⟨g, 0, none⟩) n c) ?_
  obtain ⟨v', w2, r2, r3, r4, _⟩ := run_append_own (P := Try.prog) w1 w.heap.size 97 97 101 iP zP 22 208 Ty.un97 hiP hzP hsP hbP hcP (by decide) _ 0 [] hown ⟨g, 0, none⟩ n c (flatP S ds) (by rw [hfl, hl]) (cells_take hg1 hFD) (flatP_one hpr) (by unfold maxLen; omega) (by omega) u1.size
  have c2 : Chg w1 w2 b := r4
  have uu : Up w w2 := up_chgn u1 c2 (Nat.le_of_eq e1.symm)
  rw [Nat.zero_add, List.nil_append] at r3
  have hR : PRow 101 B w.heap.size w2 v' S := ⟨ds, hpr.mono fun x d hd => hd.up uu, by rw [← hl]; exact r3⟩
  obtain ⟨A', c', rfl⟩ := hR.form
  refine wl (sv rfl (v := .slice A' S.length c') (w' := w2) (by simp [execOp, resolve, invoke, builtin, Act.eval, Act.put, r2]) ?_)
  refine was (v := .slice A' S.length c') ?_
  refine wnil (then_n (wp_ret ?_))
  refine bodyPost_ret (v := .slice A' S.length c') (res1 rfl (rv_t (by kernel_rfl))) (by kernel_rfl) ?_
  exact ⟨A', c', rfl, hR, uu⟩
end Go.Proofs.Ytefhfoioeoijlaa

/-! ### the tree anew, plain -/
namespace Go.Proofs.Ytefhfoioeoijlaa
theorem putI_back' {it : Item} : ∀ {L : List Item}, (∀ x ∈ L, ltS x.node it.node = true) → putI it L = L ++ [it]
  | [], _ => rfl
  | x :: L, h => by
    have hx := h x (by simp)
    simp only [putI]
    rw [if_neg (by rw [ltS_asymm hx]; decide), if_neg (fun e => by rw [e, ltS_irrefl] at hx; cases hx), putI_back' fun y hy => h y (by simp [hy])]
    rfl
theorem take_put {L : List Item} {k : Nat} {x : Item} (hs : Srt L) (h : L[k]? = some x) : putI x (L.take k) = L.take (k + 1) := by
  rw [List.take_add_one, h]
  refine putI_back' fun y hy => ?_
  obtain ⟨j, hj⟩ := List.mem_iff_getElem?.1 hy
  rw [List.getElem?_take] at hj
  split at hj
  · obtain ⟨h1, rfl⟩ := List.getElem?_eq_some_iff.1 hj
    obtain ⟨h2, rfl⟩ := List.getElem?_eq_some_iff.1 h
    exact List.pairwise_iff_getElem.1 hs j k h1 h2 (by assumption)
  · cases hj
theorem putI_in {it x : Item} : ∀ {L : List Item}, x ∈ putI it L → x = it ∨ x ∈ L
  | [], h => by simp [putI] at h; exact .inl h
  | y :: L, h => by
    simp only [putI] at h
    split at h
    · rcases List.mem_cons.1 h with h | h
      · exact .inl h
      · exact .inr h
    · split at h
      · rcases List.mem_cons.1 h with h | h
        · exact .inl h
        · exact .inr (by simp [h])
      · rcases List.mem_cons.1 h with h | h
        · exact .inr (by simp [h])
        · rcases putI_in h with h | h
          · exact .inl h
          · exact .inr (by simp [h])
theorem play_right (p : List OpD) : ∀ {L : List Item}, Srt L → (∀ x ∈ L, stR x.node = true) → ∀ x ∈ p.foldl playI L, stR x.node = true := by
  induction p with
  | nil => exact fun _ h => h
  | cons o p ih =>
    intro L hs h
    refine ih (doI_srt hs) fun x hx => ?_
    have hx : x ∈ (doI L o).2 := hx
    unfold doI at hx
    split at hx
    · exact h x hx
    · rename_i h1
      split at hx
      · exact h x hx
      · have hx : x ∈ (if (nowI L (gotI L o.node) o).2 = true then putI (nowI L (gotI L o.node) o).1 L else L) := hx
        split at hx
        · rename_i h3
          rcases putI_in hx with rfl | hx
          · rw [nowI_node h3]
            rcases hr : stR o.node with _ | _
            · exact absurd (right_f2 o hr) h1
            · rfl
          · exact h x hx
        · exact h x hx
end Go.Proofs.Ytefhfoioeoijlaa

namespace Go.Proofs.Ytefhfoioeoijlaa
open Go Go.RowKit Go.Sort
set_option maxHeartbeats 4000000 in
theorem copy_at {B : Nat} {w : World} {la r : Nat} {p : List OpD} (h : OneR B w la r p) (hB : B ≤ w.heap.size) (hlen : p.length ≤ 140) :
    Calls Try.prog 46 #[trP la] w fun e w' => ∃ lc, e = .returned (trP lc) ∧ Two B w' la lc p p ∧ Up w w' := by
  obtain ⟨ta, va, hL⟩ := h
  obtain ⟨A, c, rfl⟩ := log_form hL
  have hL0 := hL
  obtain ⟨hla, hT, hp, hBl, hso, hnm⟩ := hL0
  have hrl := recAll_len p []
  obtain ⟨L, eL⟩ : ∃ L, L = playA p := ⟨_, rfl⟩
  rw [← eL] at hT
  have hLs : Srt L := hT.2.2.2.1.srt
  have hLl : L.length ≤ 300 := hT.2.2.2.2
  have hLr : ∀ x ∈ L, stR x.node = true := by rw [eL]; exact play_right p (by simp [Srt]) (by simp)
  go_enter Try.func46, Try.ntmps46
  refine wp_seq (rg_lit ?_)
  refine was (v := .pointer none) ?_
  refine wnil (then_n (wp_seq (wp_seq (rg_lit ?_))))
  refine wmv (v := .pointer (some ⟨la, 0, none⟩)) ?_
  refine wl (sv rfl (v := .bool false) (w' := w) (by kernel_rfl) ?_)
  refine wnil (then_n (wp_cond_false (by kernel_rfl) (wp_skip (then_n (wp_seq (rg_lit ?_))))))
  refine wmv (v := .pointer (some ⟨la, 0, none⟩)) ?_
  refine wl (sv rfl (v := .pointer (some ⟨la, 0, none⟩)) (r_nilCheck (by kernel_rfl)) ?_)
  refine wl (sv rfl (v := .pointer (some ⟨la, 0, none⟩)) (r_fieldAddr (u := .pointer (some ⟨la, 0, none⟩)) (by kernel_rfl) (fun _ => (by kernel_rfl))) ?_)
  refine wl (sv rfl (v := .slice A (recAll [] p).length c) (r_load (k := 0) (by kernel_rfl) Ty.ag97 hla (by kernel_rfl)) ?_)
  refine wl (sc rfl (r_callv (caps := []) (all := [.slice A (recAll [] p).length c]) EnC.f79 (by kernel_rfl) (by kernel_rfl)) (clone_row hp (by omega) hB) ?_)
  rintro _ w1 ⟨A1, c1, rfl, hp1, u1⟩
  refine ⟨_, rfl, ?_⟩
  refine wl (sc rfl (r_callv (caps := []) (all := []) En.f14 (by kernel_rfl) (by kernel_rfl)) (tnew_any (Nat.le_trans hB u1.size)) ?_)
  rintro _ w2 ⟨tc, rc, rfl, hT2, u2, gt, gr⟩
  refine ⟨_, rfl, ?_⟩
  refine wl (sv rfl (v := .agg #[.slice A1 (recAll [] p).length c1, .pointer (some ⟨tc, 0, none⟩)]) (r_build (ps := [(0, .slice A1 (recAll [] p).length c1), (1, .pointer (some ⟨tc, 0, none⟩))]) (cs := [.slice A1 (recAll [] p).length c1, .pointer (some ⟨tc, 0, none⟩)]) Ty.un99 Ty.zv99 Ty.pl99 (by kernel_rfl) (by kernel_rfl)) ?_)
  refine wl (sn rfl (cs := #[.slice A1 (recAll [] p).length c1, .pointer (some ⟨tc, 0, none⟩)]) (T := 99) (V := fun b => .pointer (some ⟨b, 0, none⟩)) (r_box (v := .agg #[.slice A1 (recAll [] p).length c1, .pointer (some ⟨tc, 0, none⟩)]) (by kernel_rfl) rfl) ?_)
  intro lc w3 e3 h3 u3
  refine was (v := .pointer (some ⟨lc, 0, none⟩)) ?_
  refine wnil (then_n (wp_seq (wp_seq (rg_lit ?_))))
  have u13 : Up w w3 := up_up (up_up u1 u2) u3
  have hla3 := up_ob u13 hla
  have hBw3 : B ≤ w3.heap.size := Nat.le_trans hB u13.size
  refine wmv (v := .pointer (some ⟨la, 0, none⟩)) ?_
  refine wl (sv rfl (v := .pointer (some ⟨la, 0, none⟩)) (r_nilCheck (by kernel_rfl)) ?_)
  refine wl (sv rfl (v := .pointer (some ⟨la, 1, none⟩)) (r_fieldAddr (u := .pointer (some ⟨la, 0, none⟩)) (by kernel_rfl) (fun _ => (by kernel_rfl))) ?_)
  refine wl (sv rfl (v := .pointer (some ⟨ta, 0, none⟩)) (r_load (k := 1) (by kernel_rfl) Ty.ag27 hla3 (by kernel_rfl)) ?_)
  refine wl (sc rfl (r_callv (caps := []) (all := [.pointer (some ⟨ta, 0, none⟩)]) En.f21 (by kernel_rfl) (by kernel_rfl)) (all_row (hT.up u13) hBw3) ?_)
  rintro _ w4 ⟨v4, rfl, hI4, u4⟩
  obtain ⟨A4, c4, rfl⟩ := hI4.form
  refine ⟨_, rfl, ?_⟩
  refine wl (sv rfl (v := .int .i64 (L.length : Int)) (r_len Ty.un48 (ad := A4) (n := L.length) (c := c4) (by kernel_rfl)) ?_)
  refine wmv (v := .int .i64 0) ?_
  refine wnil (then_n (wp_block ?_))
  have u14 : Up w w4 := up_up u13 u4
  have hT4 := TreeIs.up (TreeIs.up hT2 u3) u4
  obtain ⟨r_es, r_cl, r_xs, hr4, _⟩ := hT4.2.2.2.1
  have hrc : w.heap.size ≤ rc := Nat.le_trans u1.size gr
  have hlc4 := up_ob u4 h3
  have hlcr : lc ≠ rc := fun e => hT4.2.2.2.1.noCells _ _ _ (by rw [← e]; exact hlc4)
  refine lp (fun n a r1 => ∃ (k : Nat) (z5 z23 z24 z25 z26 z27 z28 z29 z30 z31 z32 : Value), n = L.length - k ∧ a = ⟨#[.pointer (some ⟨la, 0, none⟩), undef, .pointer none, .pointer (some ⟨lc, 0, none⟩), undef, z5, .pointer (some ⟨la, 0, none⟩), .bool false, .pointer (some ⟨la, 0, none⟩), .pointer (some ⟨la, 0, none⟩), .pointer (some ⟨la, 0, none⟩), .slice A (recAll [] p).length c, .slice A1 (recAll [] p).length c1, .pointer (some ⟨tc, 0, none⟩), .agg #[.slice A1 (recAll [] p).length c1, .pointer (some ⟨tc, 0, none⟩)], .pointer (some ⟨lc, 0, none⟩), .pointer (some ⟨la, 0, none⟩), .pointer (some ⟨la, 0, none⟩), .pointer (some ⟨la, 1, none⟩), .pointer (some ⟨ta, 0, none⟩), .slice A4 L.length c4, .int .i64 (L.length : Int), .int .i64 (k : Int), z23, z24, z25, z26, z27, z28, z29, z30, z31, z32, undef], []⟩ ∧ k ≤ L.length ∧ TreeIs B r1 tc rc (L.take k) ∧ Mod [rc] w4 r1) ⟨_, 0, undef, undef, undef, undef, undef, undef, undef, undef, undef, undef, undef, rfl, (by kernel_rfl), Nat.zero_le _, hT4, Mod.refl _ _⟩ ?_
  rintro _ _ r1 ⟨k, z5, z23, z24, z25, z26, z27, z28, z29, z30, z31, z32, rfl, rfl, hk, hT5, hM5⟩
  have hlc5 := md_ob hM5 (nin1 hlcr) hlc4
  have hI5 : IRow 35 B w3.heap.size r1 (.slice A4 L.length c4) L := IRow.chgn hI4 (Mod.chg hM5) ⟨hT4.2.2.1, NotU8.map hr4⟩ (fun e => by
    obtain ⟨ds, hp0, ho⟩ := hI4
    rcases ho.2 with ⟨e0, _⟩ | ⟨g, cap, cur, e0, _, hg, _⟩
    · rw [e0] at e; cases e
    · rw [e0] at e; injection e with e; subst e; exact hT4.2.2.2.1.noCells _ _ _ hg)
  refine wp_seq (rg_lit ?_)
  refine wl (sb rfl (r_lt (k := .i64) (m := (k : Int)) (n := (L.length : Int)) (by kernel_rfl) (by kernel_rfl)) ?_)
  intro bb kb
  refine wnil (then_n (wp_seq ?_))
  refine bcase bb (fun vb => ?_) (fun vb => ?_)
  · have hkm : k = L.length := by have := of_decide_eq_false (kb.trans vb); omega
    refine wp_cond_false (ebool (b := bb) (by kernel_rfl) vb) ?_
    refine wp_exit (then_x (by nofun) (then_x (by nofun) (inb_hit (then_n (wp_seq (rg_lit ?_))))))
    refine wmv (v := .pointer (some ⟨lc, 0, none⟩)) ?_
    refine was (v := .pointer (some ⟨lc, 0, none⟩)) ?_
    refine wnil (then_n (wp_ret ?_))
    refine bodyPost_ret (v := .pointer (some ⟨lc, 0, none⟩)) (res1 rfl (rv_t (by kernel_rfl))) (by kernel_rfl) ?_
    have uend : Up w r1 := Mod.up (Mod.thin (X := []) (Mod.of_up u14) hM5 (fun y hy => by simp at hy; subst hy; exact .inr hrc))
    have hown : ∀ g, Value.ownBlock (.slice A1 (recAll [] p).length c1) = some g → g ≠ rc := fun g hg e => by
      subst e
      obtain ⟨ds, hp0, _, ⟨e0, _⟩ | ⟨g', cap, cur, e0, _, hg', _⟩⟩ := hp1
      · rw [e0] at hg; cases hg
      · rw [e0] at hg; injection hg with hg; subst hg
        exact hT4.2.2.2.1.noCells _ _ _ (up_ob u4 (up_ob u3 (up_ob u2 hg')))
    have hpc : PRow 101 B w.heap.size r1 (.slice A1 (recAll [] p).length c1) (recAll [] p) := PRow.chgn (PRow.up (PRow.up (PRow.up hp1 u2) u3) u4) (Mod.chg hM5) ⟨hT4.2.2.1, NotU8.map hr4⟩ (fun e => hown rc e rfl)
    rw [hkm, List.take_of_length_le (Nat.le_refl _), eL] at hT5
    have hlcw : w.heap.size ≤ lc := by rw [e3]; exact Nat.le_trans u1.size u2.size
    refine ⟨lc, rfl, ⟨ta, r, _, tc, rc, _, hL.up uend, ⟨hlc5, hT5, PRow.base hpc hB, Nat.le_trans hB hlcw, hso, hnm⟩, fun x hx hm => ?_⟩, uend⟩
    have hxw := (hL.foot x hx).2.2
    simp only [footL, List.mem_cons] at hm
    rcases hm with hm | hm | hm | hm
    · omega
    · have := Nat.le_trans u1.size gt; omega
    · omega
    · have := (hpc.own x (by simpa using hm)).1; omega
  have hkm : k < L.length := by have := of_decide_eq_true (kb.trans vb); omega
  obtain ⟨x, hx⟩ : ∃ x, L[k]? = some x := ⟨_, List.getElem?_eq_getElem hkm⟩
  obtain ⟨g, cap, cur, dA, dn, dc, hA5, hg5, hb5, he5, hD5⟩ := hI5.get hx
  injection hA5 with hA5 _ _
  refine wp_cond_true (ebool (b := bb) (by kernel_rfl) vb) ?_
  refine wp_skip (then_n (wp_seq (wp_block (wp_seq (rg_lit ?_)))))
  refine wl (sv rfl (v := .pointer (some ⟨g, k * 10, none⟩)) (r_ixaddr' (A := A4) (b := g) (o := 0) (n := L.length) (c := c4) (sz := 10) (j := (k : Int)) (by kernel_rfl) hA5 (by kernel_rfl) Ty.un48 Ty.sz35 (by omega) (by omega) (by omega)) ?_)
  refine wl (sv rfl (v := itV x (.slice dA dn dc)) (r_loads (k := k * 10) (vs := itC x (.slice dA dn dc)) (by kernel_rfl) Ty.ag35 Ty.sz35 hb5 he5) ?_)
  refine wl (sn rfl (cs := (itC nilI (.slice none 0 0)).toArray) (T := 35) (V := fun b => .pointer (some ⟨b, 0, none⟩)) (r_alloc Ty.zv35 rfl) ?_)
  intro b6 w6 e6 h6 u6
  refine wl (ss rfl (k := 0) (v := itV x (.slice dA dn dc)) (vs := itC x (.slice dA dn dc)) (cs' := itC x (.slice dA dn dc)) (by kernel_rfl) (by kernel_rfl) rfl Ty.sz35 h6 rfl (Nat.le_of_ble_eq_true rfl) rfl ?_)
  intro w7 h7 c7
  have u7 : Up r1 w7 := up_chgn u6 c7 (Nat.le_of_eq e6.symm)
  have hT7 := TreeIs.up hT5 u7
  have hlc7 := up_ob u7 hlc5
  have hD7 := hD5.up u7
  have hBw7 : B ≤ w7.heap.size := Nat.le_trans hB (Nat.le_trans u14.size (Nat.le_trans hM5.size u7.size))
  have hxr : stR x.node = true := hLr x (List.mem_of_getElem? hx)
  have hset : setT x true (L.take k) = L.take (k + 1) := by unfold setT; rw [if_pos rfl]; exact take_put hLs hx
  refine wnil (then_n (rg_tail 5 (by kernel_rfl) (by kernel_rfl) rfl rfl ?_))
  refine qmv (v := .pointer (some ⟨lc, 0, none⟩)) ?_
  refine qv rfl (v := .pointer (some ⟨lc, 0, none⟩)) (fun _ _ => r_nilCheck (by kernel_rfl)) ?_
  refine qv rfl (v := .pointer (some ⟨lc, 1, none⟩)) (fun _ _ => r_fieldAddr (u := .pointer (some ⟨lc, 0, none⟩)) (by kernel_rfl) (fun _ => (by kernel_rfl))) ?_
  refine qv rfl (v := .pointer (some ⟨tc, 0, none⟩)) (fun _ u => r_load (k := 1) (by kernel_rfl) Ty.ag27 (up_ob u hlc7) (by kernel_rfl)) ?_
  refine qv rfl (v := itV x (.slice dA dn dc)) (fun _ u => r_loads (k := 0) (vs := itC x (.slice dA dn dc)) (by kernel_rfl) Ty.ag35 Ty.sz35 (up_ob u h7) (by rfl)) ?_
  refine qnil ?_
  intro w8 u8
  refine wl (sc rfl (r_callv (caps := []) (all := [.pointer (some ⟨tc, 0, none⟩), itV x (.slice dA dn dc), .bool true]) En.f44 (by kernel_rfl) (by kernel_rfl)) (tset_at (hT7.up u8) (Nat.le_trans hBw7 u8.size) x dA dn dc (hD7.up u8) true (by rw [hset, List.length_take]; omega)) ?_)
  rintro _ w9 ⟨rfl, hT9, c9⟩
  refine ⟨_, rfl, ?_⟩
  rw [if_pos hxr, hset] at hT9
  refine wnil (inb_n (then_n (rg_lit ?_)))
  refine wl (sv rfl (v := .int .i64 ((k + 1 : Nat) : Int)) (r_add (k := .i64) (m := (k : Int)) (n := 1) (c := ((k + 1 : Nat) : Int)) (by kernel_rfl) (by kernel_rfl) ((IntWalk.i64_in _ (by omega)).trans (by omega))) ?_)
  refine wmv (v := .int .i64 ((k + 1 : Nat) : Int)) ?_
  refine wnil (then_n ?_)
  exact ⟨L.length - (k + 1), by omega, k + 1, .pointer (some ⟨b6, 0, none⟩), .bool bb, .pointer (some ⟨g, k * 10, none⟩), itV x (.slice dA dn dc), .pointer (some ⟨lc, 0, none⟩), .pointer (some ⟨lc, 0, none⟩), .pointer (some ⟨lc, 1, none⟩), .pointer (some ⟨tc, 0, none⟩), itV x (.slice dA dn dc), .int .i64 (if stR x.node then 0 else 1), .int .i64 ((k + 1 : Nat) : Int), rfl, (by kernel_rfl), hkm, hT9, Mod.trans (Mod.trans hM5 (Mod.of_up (up_up u7 u8))) (Mod.of_chg c9 (by simp))⟩
end Go.Proofs.Ytefhfoioeoijlaa

namespace Go.Proofs.Ytefhfoioeoijlaa
open Go Go.RowKit Go.Sort
theorem IRow.only {T : TypeId} {B base : Nat} {w w' : World} {v : Value} {L : List Item} (h : IRow T B base w v L) (o : Only B w w') (h1 : T ≠ 99) (h2 : T ≠ 101) : IRow T B base w' v L := by
  obtain ⟨X, m, hX⟩ := o
  obtain ⟨ds, hp, k1, k2⟩ := h
  refine ⟨ds, hp.mono (fun x d hd => hd.mod m fun x hx => ⟨(hX x hx).1, not8 (hX x hx).2⟩), k1, ?_⟩
  rcases k2 with k2 | ⟨g, cap, cur, e, hb, hg, rest⟩
  · exact .inl k2
  · exact .inr ⟨g, cap, cur, e, hb, md_ob m (fun hm => by rcases (hX g hm).2 _ _ _ hg with h | h; exact h1 h; exact h2 h) hg, rest⟩
theorem two_remA {B : Nat} {w : World} {la lb : Nat} {p q : List OpD} (h : Two B w la lb p q) (hB : B ≤ w.heap.size) (hlen : p.length ≤ 140) (m1 m2 : Int) :
    Calls Try.prog 41 #[trP la, .agg #[.int .i64 m1, .int .i64 m2]] w fun e w' => ∃ nn kk, e = .returned (.tuple #[.int .i64 nn, .int .i64 kk]) ∧ Two B w' la lb (remL p ⟨m1, m2⟩) q ∧ Only B w w' := by
  refine (two_remB h.swap hB hlen m1 m2).mono ?_
  rintro e w' ⟨nn, kk, rfl, hs, ho⟩
  exact ⟨nn, kk, rfl, hs.swap, ho⟩
theorem foldS_len' (ms : List GStep) (p : List OpD) (k : Nat) : ((ms.take k).foldl stepL p).length ≤ p.length + ms.length := by
  have h1 := foldS_len (ms.take k) p
  have h2 : (ms.take k).length ≤ ms.length := by rw [List.length_take]; omega
  omega
theorem foldS_next' {ms : List GStep} {p : List OpD} {k : Nat} {x : GStep} (h : ms[k]? = some x) : stepL ((ms.take k).foldl stepL p) x = (ms.take (k + 1)).foldl stepL p := by
  rw [List.take_add_one, h, List.foldl_append]; rfl
end Go.Proofs.Ytefhfoioeoijlaa

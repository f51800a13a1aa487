/- GZ: printed by gen.py -/
import Derived.Test.YtefhfoioeoijlaaGreatGX
import Derived.Test.YtefhfoioeoijlaaGreatStpR
set_option linter.unusedVariables false
set_option linter.unusedSimpArgs false
namespace Go.Proofs.YtefhfoioeoijlaaGreat
open Go Go.RowKit Go.Sort
theorem TreeIs.chgb {B : Nat} {w w' : World} {tb r b : Nat} {L : List Item} (h : TreeIs B w tb r L) (c : Chg w w' b) (hc : B ≤ b ∧ NotU8 w b) (h1 : tb ≠ b) (h2 : r ≠ b) : TreeIs B w' tb r L := by
  obtain ⟨k1, k2, k3, k4, k5⟩ := h
  exact ⟨chg_ob c h1 k1, k2, k3, k4.grown c hc.1 h2 hc.2, k5⟩
set_option maxHeartbeats 2000000 in
theorem do1_at {B base : Nat} {w : World} {lb tb r g n c i : Nat} {M : List Item} {S : List StepD} {s : StepD} (hlb : w.heap[lb]? = some (.cells #[.slice (some ⟨g, 0, none⟩) n c, .pointer (some ⟨tb, 0, none⟩)] 66 (0, 0))) (h : TreeIs B w tb r M) (hB : B ≤ w.heap.size) (hp : PRow 73 B base w (.slice (some ⟨g, 0, none⟩) n c) S) (hBb : B ≤ base) (hi : S[i]? = some s) (hname : s.o.name.size ≤ 9223372036854775807) :
    Calls Tryz.prog 62 #[trP lb, .pointer (some ⟨g, i * 22, none⟩)] w fun e w' => e = .returned (.tuple #[]) ∧ TreeIs B w' tb r (playI M s.o) ∧ PRow 73 B base w' (.slice (some ⟨g, 0, none⟩) n c) (S.set i (recS M s.o)) ∧ Mod [g, r] w w' := by
  obtain ⟨hr_es, hr_cl, hr_xs, hr, _⟩ := h.2.2.2.1
  have hil := (List.getElem?_eq_some_iff.1 hi).1
  obtain ⟨gg, cu, oA, on, oc, iA, in_, ic, hgg, hbg, hg, he, hd, hd2⟩ := PRow.get hp hi
  injection hgg with hgg; injection hgg with hgg _ _
  rw [← hgg] at hg hbg
  have hBg : B ≤ g := Nat.le_trans hBb hbg
  have htr : tb ≠ r := fun e => h.2.2.2.1.noCells _ _ _ (by rw [← e]; exact h.1)
  have hlr : lb ≠ r := fun e => h.2.2.2.1.noCells _ _ _ (by rw [← e]; exact hlb)
  have hgr : g ≠ r := fun e => h.2.2.2.1.noCells _ _ _ (by rw [← e]; exact hg)
  have hlg : lb ≠ g := fun e => by rw [e, hg] at hlb; injection hlb with hlb; injection hlb with _ hlb _; exact absurd hlb (by decide)
  have htg : tb ≠ g := fun e => by have h0 := h.1; rw [e, hg] at h0; injection h0 with h0; injection h0 with _ h0 _; exact absurd h0 (by decide)
  go_enter Tryz.func62, Tryz.ntmps62
  refine wp_seq ?_
  refine rg_held [r] (n := 17) (by kernel_rfl) rfl ?_
  intro w1 u2
  have M3 := Mod.trans (Mod.refl [] w) (Mod.of_up u2)
  refine hvq (i := 0) (fuel := 16) rfl (fun _ _ _ h => h) (Mod.refl _ _) rfl (v := .pointer (some ⟨lb, 0, none⟩)) (fun _ _ => r_move (by kernel_rfl)) ?_
  refine hvq (i := 1) (fuel := 15) rfl (fun _ _ _ h => h) (Mod.refl _ _) rfl (v := .pointer (some ⟨lb, 0, none⟩)) (fun _ _ => r_nilCheck (by kernel_rfl)) ?_
  refine hvq (i := 2) (fuel := 14) rfl (fun _ _ _ h => h) (Mod.refl _ _) rfl (v := .pointer (some ⟨lb, 1, none⟩)) (fun _ _ => r_fieldAddr (u := .pointer (some ⟨lb, 0, none⟩)) (by kernel_rfl) (fun _ => (by kernel_rfl))) ?_
  have h4 := md_ob M3 nin0 hlb
  refine hvq (i := 3) (fuel := 13) rfl (fun _ _ _ h => h) (Mod.refl _ _) rfl (v := .pointer (some ⟨tb, 0, none⟩)) (fun _ uz => r_load (k := 1) (by kernel_rfl) Ty.ag50 (md_ob uz (nin1 hlr) h4) (by kernel_rfl)) ?_
  refine hvq (i := 4) (fuel := 12) rfl (fun _ _ _ h => h) (Mod.refl _ _) rfl (v := .pointer (some ⟨g, i * 22, none⟩)) (fun _ _ => r_move (by kernel_rfl)) ?_
  refine hvq (i := 5) (fuel := 11) rfl (fun _ _ _ h => h) (Mod.refl _ _) rfl (v := .pointer (some ⟨g, i * 22, none⟩)) (fun _ _ => r_nilCheck (by kernel_rfl)) ?_
  refine hvq (i := 6) (fuel := 10) rfl (fun _ _ _ h => h) (Mod.refl _ _) rfl (v := .pointer (some ⟨g, i * 22, none⟩)) (fun _ _ => r_fieldAddr (u := .pointer (some ⟨g, i * 22, none⟩)) (by kernel_rfl) (fun _ => (by kernel_rfl))) ?_
  have h5 := md_ob M3 nin0 hg
  refine hvq (i := 7) (fuel := 9) rfl (fun _ _ _ h => h) (Mod.refl _ _) rfl (v := opV s.o (.slice oA on oc)) (fun _ uz => r_loads (k := i * 22) (by kernel_rfl) Ty.ag38 Ty.sz38 (md_ob uz (nin1 hgr) h5) (el_sub0 he rfl)) ?_
  refine h2 (i := 8) (j := 13) (fuel := 8) (by kernel_rfl) rfl rfl ?_ ?_
  ·
   have h6 := (TreeIs.up h u2)
   have h7 := (Dat.up hd u2)
   have h15 := md_ob M3 nin0 h.1
   have h16 := md_ob M3 nin0 hr
   refine sc rfl (r_callv (caps := []) (all := [.pointer (some ⟨tb, 0, none⟩), opV s.o (.slice oA on oc)]) En.f77 (by kernel_rfl) (by kernel_rfl)) (do_x (L' := (playI M s.o)) h6 (Nat.le_trans hB M3.size) s.o oA on oc h7 hname rfl) ?_
   rintro e w8 ⟨A9, n10, c11, rfl, h12, h13, u14⟩
   refine ⟨.tuple #[itV (doI M s.o).1.1 (.slice A9 n10 c11), .bool ((doI M s.o).1.2.1), .int .i64 ((doI M s.o).1.2.2)], rfl, ?_⟩
   have M17 := md_old M3 u14
   obtain ⟨eshr18, clhr18, xshr18, hr18, _⟩ := h13.2.2.2.1
   refine hx (Y := [r]) (Mod.of_chg u14 (by simp)) (fun y hy => .inl hy) ?_
   refine hvq (i := 9) (fuel := 7) rfl (fun _ _ _ h => h) (Mod.refl _ _) rfl (v := .tuple #[itV (doI M s.o).1.1 (.slice A9 n10 c11), .bool ((doI M s.o).1.2.1), .int .i64 ((doI M s.o).1.2.2)]) (fun _ _ => r_move (by kernel_rfl)) ?_
   refine hvq (i := 10) (fuel := 6) rfl (fun _ _ _ h => h) (Mod.refl _ _) rfl (v := itV (doI M s.o).1.1 (.slice A9 n10 c11)) (fun _ _ => r_extract (vs := [itV (doI M s.o).1.1 (.slice A9 n10 c11), .bool ((doI M s.o).1.2.1), .int .i64 ((doI M s.o).1.2.2)]) (by kernel_rfl) rfl) ?_
   refine hvq (i := 11) (fuel := 5) rfl (fun _ _ _ h => h) (Mod.refl _ _) rfl (v := .bool ((doI M s.o).1.2.1)) (fun _ _ => r_extract (vs := [itV (doI M s.o).1.1 (.slice A9 n10 c11), .bool ((doI M s.o).1.2.1), .int .i64 ((doI M s.o).1.2.2)]) (by kernel_rfl) rfl) ?_
   refine hvq (i := 12) (fuel := 4) rfl (fun _ _ _ h => h) (Mod.refl _ _) rfl (v := .int .i64 ((doI M s.o).1.2.2)) (fun _ _ => r_extract (vs := [itV (doI M s.o).1.1 (.slice A9 n10 c11), .bool ((doI M s.o).1.2.1), .int .i64 ((doI M s.o).1.2.2)]) (by kernel_rfl) rfl) ?_
   refine h1 (i := 13) (fuel := 3) (by kernel_rfl) rfl (sn rfl (cs := #[.int .i64 0, .int .i64 0, .int .i64 0, .int .i64 0, .string (⟨#[]⟩), .bool false, .bool false, .slice none 0 0, .int .i64 0, .int .i64 0]) (T := 61) (V := fun b => .pointer (some ⟨b, 0, none⟩)) (r_alloc Ty.zv61 rfl) ?_)
   intro b19 w20 e21 h22 u23
   have h24 := md_ob M17 (nin1 hlr) hlb
   have l25 : lb < b19 := by rw [e21]; exact lt_ob h24
   have l26 : tb < b19 := by rw [e21]; exact lt_ob h13.1
   have l27 : r < b19 := by rw [e21]; exact lt_ob hr18
   have h28 := md_ob M17 (nin1 hgr) hg
   have l29 : g < b19 := by rw [e21]; exact lt_ob h28
   have g30 : w.heap.size ≤ b19 := by rw [e21]; exact M17.size
   have M31 := Mod.trans M17 (Mod.of_up u23)
   refine hx (Y := [b19, r]) (Mod.of_up u23) (ynew e21) ?_
   refine h1 (i := 14) (fuel := 2) (by kernel_rfl) rfl (ss rfl (k := 0) (v := itV (doI M s.o).1.1 (.slice A9 n10 c11)) (vs := (itC (doI M s.o).1.1 (.slice A9 n10 c11))) (cs' := (itC (doI M s.o).1.1 (.slice A9 n10 c11))) (by kernel_rfl) (by kernel_rfl) rfl Ty.sz61 h22 rfl (Nat.le_of_ble_eq_true rfl) rfl ?_)
   intro w32 h33 c34
   have M35 := Mod.trans' M31 c34 (fun i hi => by injection hi with hi; rw [← hi]; exact g30)
   refine hx (Y := [b19, r]) (Mod.of_chg c34 (by simp)) (fun y hy => .inl hy) ?_
   refine hvq (i := 15) (fuel := 1) rfl (fun _ _ _ h => h) (Mod.refl _ _) rfl (v := .bool ((doI M s.o).1.2.1)) (fun _ _ => r_assign (by kernel_rfl)) ?_
   refine hvq (i := 16) (fuel := 0) rfl (fun _ _ _ h => h) (Mod.refl _ _) rfl (v := .int .i64 ((doI M s.o).1.2.2)) (fun _ _ => r_assign (by kernel_rfl)) ?_
   refine hend (by kernel_rfl) ?_
   refine then_n (wp_seq (wp_seq (rg_lit ?_)))
   refine wmv (v := .bool ((doI M s.o).1.2.1)) ?_
   refine wl (sv rfl (v := .bool (!((doI M s.o).1.2.1))) (r_not (b := ((doI M s.o).1.2.1)) (by kernel_rfl)) ?_)
   refine wnil (then_n ?_)
   refine bcase ((doI M s.o).1.2.1) (fun v36 => ?_) (fun v36 => ?_)
   ·
    refine wp_cond_true (ebool (b := !((doI M s.o).1.2.1)) (by kernel_rfl) (bneg v36)) ?_
    refine rg_lit ?_
    refine wmv (v := .pointer (some ⟨g, i * 22, none⟩)) ?_
    refine wl (sv rfl (v := .pointer (some ⟨g, i * 22, none⟩)) (r_nilCheck (by kernel_rfl)) ?_)
    refine wl (sv rfl (v := .pointer (some ⟨g, i * 22, none⟩)) (r_fieldAddr (u := .pointer (some ⟨g, i * 22, none⟩)) (by kernel_rfl) (fun _ => (by kernel_rfl))) ?_)
    refine wl (sv rfl (v := .pointer (some ⟨g, i * 22 + 3, none⟩)) (r_fieldAddr (u := .pointer (some ⟨g, i * 22, none⟩)) (by kernel_rfl) (fun _ => (by kernel_rfl))) ?_)
    have h37 := md_ob M35 (nin1 hgr) hg
    refine wl (sv rfl (v := .agg #[.int .i64 s.o.node.t, .int .i64 s.o.node.w]) (r_loads (k := i * 22 + 3) (by kernel_rfl) Ty.ag35 Ty.sz35 h37 (el_sub he 3 rfl)) ?_)
    refine wl (sv rfl (v := .pointer (some ⟨b19, 0, none⟩)) (r_fieldAddr (u := .pointer (some ⟨b19, 0, none⟩)) (by kernel_rfl) (fun _ => (by kernel_rfl))) ?_)
    refine wl (ss rfl (k := 0) (v := .agg #[.int .i64 s.o.node.t, .int .i64 s.o.node.w]) (vs := [.int .i64 s.o.node.t, .int .i64 s.o.node.w]) (cs' := [.int .i64 s.o.node.t, .int .i64 s.o.node.w, .int .i64 ((doI M s.o).1.1.parent.t), .int .i64 ((doI M s.o).1.1.parent.w), .string ((doI M s.o).1.1.name), .bool ((doI M s.o).1.1.dir), .bool ((doI M s.o).1.1.gone), .slice A9 n10 c11, .int .i64 ((doI M s.o).1.1.by_.t), .int .i64 ((doI M s.o).1.1.by_.w)]) (by kernel_rfl) (by kernel_rfl) rfl Ty.sz35 h33 rfl (Nat.le_of_ble_eq_true rfl) rfl ?_)
    intro w38 h39 c40
    have M41 := Mod.trans' M35 c40 (fun i hi => by injection hi with hi; rw [← hi]; exact g30)
    refine wnil (then_n (rg_lit ?_))
    refine wmv (v := .pointer (some ⟨g, i * 22, none⟩)) ?_
    refine wmv (v := .pointer (some ⟨g, i * 22, none⟩)) ?_
    refine wmv (v := .pointer (some ⟨g, i * 22, none⟩)) ?_
    refine wl (sv rfl (v := .agg #[.int .i64 s.o.node.t, .int .i64 s.o.node.w, .int .i64 ((doI M s.o).1.1.parent.t), .int .i64 ((doI M s.o).1.1.parent.w), .string ((doI M s.o).1.1.name), .bool ((doI M s.o).1.1.dir), .bool ((doI M s.o).1.1.gone), .slice A9 n10 c11, .int .i64 ((doI M s.o).1.1.by_.t), .int .i64 ((doI M s.o).1.1.by_.w)]) (r_loads (k := 0) (by kernel_rfl) Ty.ag61 Ty.sz61 h39 (by kernel_rfl)) ?_)
    refine wmv (v := .bool ((doI M s.o).1.2.1)) ?_
    refine wmv (v := .int .i64 ((doI M s.o).1.2.2)) ?_
    refine wl (sb rfl (r_eq (k := .i64) (m := ((doI M s.o).1.2.2)) (n := 0) (by kernel_rfl) (by kernel_rfl)) ?_)
    intro b42 k43
    refine wl (sv rfl (v := .pointer (some ⟨g, i * 22, none⟩)) (r_nilCheck (by kernel_rfl)) ?_)
    refine wl (sv rfl (v := .pointer (some ⟨g, i * 22 + 10, none⟩)) (r_fieldAddr (u := .pointer (some ⟨g, i * 22, none⟩)) (by kernel_rfl) (fun _ => (by kernel_rfl))) ?_)
    have h44 := (PRow.up (PRow.chgn (PRow.up hp u2) u14 ⟨h6.2.2.1, NotU8.map h16⟩ (fun e => by injection e with e; exact hgr e)) (up_chgn (up_chgn u23 c34 (by rw [e21]; exact Nat.le_refl _)) c40 (by rw [e21]; exact Nat.le_refl _)))
    have h46 := (Dat.up h12 (up_chgn (up_chgn u23 c34 (by rw [e21]; exact Nat.le_refl _)) c40 (by rw [e21]; exact Nat.le_refl _)))
    have h47 := md_ob M41 (nin1 hgr) hg
    refine wl (ssP (i := i) (off := 10) (S := S) (s := s) (v := .agg #[.int .i64 s.o.node.t, .int .i64 s.o.node.w, .int .i64 ((doI M s.o).1.1.parent.t), .int .i64 ((doI M s.o).1.1.parent.w), .string ((doI M s.o).1.1.name), .bool ((doI M s.o).1.1.dir), .bool ((doI M s.o).1.1.gone), .slice A9 n10 c11, .int .i64 ((doI M s.o).1.1.by_.t), .int .i64 ((doI M s.o).1.1.by_.w)]) (vs := [.int .i64 s.o.node.t, .int .i64 s.o.node.w, .int .i64 ((doI M s.o).1.1.parent.t), .int .i64 ((doI M s.o).1.1.parent.w), .string ((doI M s.o).1.1.name), .bool ((doI M s.o).1.1.dir), .bool ((doI M s.o).1.1.gone), .slice A9 n10 c11, .int .i64 ((doI M s.o).1.1.by_.t), .int .i64 ((doI M s.o).1.1.by_.w)]) ({ s with was := ({ (doI M s.o).1.1 with node := s.o.node } : Item) } : StepD) (fun _ => .slice A9 n10 c11) rfl (by kernel_rfl) rfl (by kernel_rfl) rfl Ty.sz61 h44 hi rfl (Nat.le_of_ble_eq_true rfl) (fun _ _ => rfl) (fun d1 d2 h => ⟨h.1, h46⟩) (by decide) hBb ?_)
    intro w48 h49 c50
    have M51 := md_old M41 c50
    have h52 : (S.set i ({ s with was := ({ (doI M s.o).1.1 with node := s.o.node } : Item) } : StepD))[i]? = some ({ s with was := ({ (doI M s.o).1.1 with node := s.o.node } : Item) } : StepD) := List.getElem?_set_self (by simpa using hil)
    obtain ⟨_, _, _, hz53⟩ := PRow.addr h49
    obtain ⟨hz53, _⟩ | ⟨g53, cg53, hy53, _, hg53, _⟩ := hz53
    · cases hz53
    injection hy53 with hy53; injection hy53 with hy53 _ _
    rw [← hy53] at hg53
    refine wl (sv rfl (v := .pointer (some ⟨g, i * 22, none⟩)) (r_nilCheck (by kernel_rfl)) ?_)
    refine wl (sv rfl (v := .pointer (some ⟨g, i * 22 + 20, none⟩)) (r_fieldAddr (u := .pointer (some ⟨g, i * 22, none⟩)) (by kernel_rfl) (fun _ => (by kernel_rfl))) ?_)
    refine wl (ssP (i := i) (off := 20) (S := (S.set i ({ s with was := ({ (doI M s.o).1.1 with node := s.o.node } : Item) } : StepD))) (s := ({ s with was := ({ (doI M s.o).1.1 with node := s.o.node } : Item) } : StepD)) (v := .bool ((doI M s.o).1.2.1)) (vs := [.bool ((doI M s.o).1.2.1)]) ({ ({ s with was := ({ (doI M s.o).1.1 with node := s.o.node } : Item) } : StepD) with there := ((doI M s.o).1.2.1) } : StepD) (fun d => d) rfl (by kernel_rfl) rfl (by kernel_rfl) rfl Ty.sz4 h49 h52 rfl (Nat.le_of_ble_eq_true rfl) (fun _ _ => rfl) (fun d1 d2 h => h) (by decide) hBb ?_)
    intro w55 h56 c57
    have M58 := Mod.trans M51 (Mod.of_chg c57 (by simp))
    have h59 : ((S.set i ({ s with was := ({ (doI M s.o).1.1 with node := s.o.node } : Item) } : StepD)).set i ({ ({ s with was := ({ (doI M s.o).1.1 with node := s.o.node } : Item) } : StepD) with there := ((doI M s.o).1.2.1) } : StepD))[i]? = some ({ ({ s with was := ({ (doI M s.o).1.1 with node := s.o.node } : Item) } : StepD) with there := ((doI M s.o).1.2.1) } : StepD) := List.getElem?_set_self (by simpa using hil)
    obtain ⟨_, _, _, hz60⟩ := PRow.addr h56
    obtain ⟨hz60, _⟩ | ⟨g60, cg60, hy60, _, hg60, _⟩ := hz60
    · cases hz60
    injection hy60 with hy60; injection hy60 with hy60 _ _
    rw [← hy60] at hg60
    refine wl (sv rfl (v := .pointer (some ⟨g, i * 22, none⟩)) (r_nilCheck (by kernel_rfl)) ?_)
    refine wl (sv rfl (v := .pointer (some ⟨g, i * 22 + 21, none⟩)) (r_fieldAddr (u := .pointer (some ⟨g, i * 22, none⟩)) (by kernel_rfl) (fun _ => (by kernel_rfl))) ?_)
    refine wl (ssP (i := i) (off := 21) (S := ((S.set i ({ s with was := ({ (doI M s.o).1.1 with node := s.o.node } : Item) } : StepD)).set i ({ ({ s with was := ({ (doI M s.o).1.1 with node := s.o.node } : Item) } : StepD) with there := ((doI M s.o).1.2.1) } : StepD))) (s := ({ ({ s with was := ({ (doI M s.o).1.1 with node := s.o.node } : Item) } : StepD) with there := ((doI M s.o).1.2.1) } : StepD)) (v := .bool b42) (vs := [.bool b42]) ({ ({ ({ s with was := ({ (doI M s.o).1.1 with node := s.o.node } : Item) } : StepD) with there := ((doI M s.o).1.2.1) } : StepD) with did := b42 } : StepD) (fun d => d) rfl (by kernel_rfl) rfl (by kernel_rfl) rfl Ty.sz4 h56 h59 rfl (Nat.le_of_ble_eq_true rfl) (fun _ _ => rfl) (fun d1 d2 h => h) (by decide) hBb ?_)
    intro w62 h63 c64
    have M65 := Mod.trans M58 (Mod.of_chg c64 (by simp))
    have h66 : (((S.set i ({ s with was := ({ (doI M s.o).1.1 with node := s.o.node } : Item) } : StepD)).set i ({ ({ s with was := ({ (doI M s.o).1.1 with node := s.o.node } : Item) } : StepD) with there := ((doI M s.o).1.2.1) } : StepD)).set i ({ ({ ({ s with was := ({ (doI M s.o).1.1 with node := s.o.node } : Item) } : StepD) with there := ((doI M s.o).1.2.1) } : StepD) with did := b42 } : StepD))[i]? = some ({ ({ ({ s with was := ({ (doI M s.o).1.1 with node := s.o.node } : Item) } : StepD) with there := ((doI M s.o).1.2.1) } : StepD) with did := b42 } : StepD) := List.getElem?_set_self (by simpa using hil)
    obtain ⟨_, _, _, hz67⟩ := PRow.addr h63
    obtain ⟨hz67, _⟩ | ⟨g67, cg67, hy67, _, hg67, _⟩ := hz67
    · cases hz67
    injection hy67 with hy67; injection hy67 with hy67 _ _
    rw [← hy67] at hg67
    refine wnil ?_
    refine bodyPost_end (v := .tuple #[]) (res0 rfl ) (by kernel_rfl) ?_
    have h68 := (TreeIs.chgb (TreeIs.chgb (TreeIs.chgb (TreeIs.up h13 (up_chgn (up_chgn u23 c34 (by rw [e21]; exact Nat.le_refl _)) c40 (by rw [e21]; exact Nat.le_refl _))) c50 ⟨hBg, NotU8.of h47 (by decide)⟩ htg (Ne.symm hgr)) c57 ⟨hBg, NotU8.of hg53 (by decide)⟩ htg (Ne.symm hgr)) c64 ⟨hBg, NotU8.of hg60 (by decide)⟩ htg (Ne.symm hgr))
    have hrec : ({ ({ ({ s with was := ({ (doI M s.o).1.1 with node := s.o.node } : Item) } : StepD) with there := ((doI M s.o).1.2.1) } : StepD) with did := b42 } : StepD) = recS M s.o := by unfold recS; rw [← k43]; simp [v36]
    refine ⟨rfl, h68, PRow.to h63 ?_, M65⟩
    rw [← hrec]; simp [List.set_set]
   refine wp_cond_false (ebool (b := !((doI M s.o).1.2.1)) (by kernel_rfl) (bneg v36)) ?_
   refine wp_skip (then_n (rg_lit ?_))
   refine wmv (v := .pointer (some ⟨g, i * 22, none⟩)) ?_
   refine wmv (v := .pointer (some ⟨g, i * 22, none⟩)) ?_
   refine wmv (v := .pointer (some ⟨g, i * 22, none⟩)) ?_
   refine wl (sv rfl (v := itV (doI M s.o).1.1 (.slice A9 n10 c11)) (r_loads (k := 0) (by kernel_rfl) Ty.ag61 Ty.sz61 h33 (by kernel_rfl)) ?_)
   refine wmv (v := .bool ((doI M s.o).1.2.1)) ?_
   refine wmv (v := .int .i64 ((doI M s.o).1.2.2)) ?_
   refine wl (sb rfl (r_eq (k := .i64) (m := ((doI M s.o).1.2.2)) (n := 0) (by kernel_rfl) (by kernel_rfl)) ?_)
   intro b37 k38
   refine wl (sv rfl (v := .pointer (some ⟨g, i * 22, none⟩)) (r_nilCheck (by kernel_rfl)) ?_)
   refine wl (sv rfl (v := .pointer (some ⟨g, i * 22 + 10, none⟩)) (r_fieldAddr (u := .pointer (some ⟨g, i * 22, none⟩)) (by kernel_rfl) (fun _ => (by kernel_rfl))) ?_)
   have h39 := (PRow.up (PRow.chgn (PRow.up hp u2) u14 ⟨h6.2.2.1, NotU8.map h16⟩ (fun e => by injection e with e; exact hgr e)) (up_chgn u23 c34 (by rw [e21]; exact Nat.le_refl _)))
   have h41 := (Dat.up h12 (up_chgn u23 c34 (by rw [e21]; exact Nat.le_refl _)))
   have h42 := md_ob M35 (nin1 hgr) hg
   refine wl (ssP (i := i) (off := 10) (S := S) (s := s) (v := itV (doI M s.o).1.1 (.slice A9 n10 c11)) (vs := (itC (doI M s.o).1.1 (.slice A9 n10 c11))) ({ s with was := (doI M s.o).1.1 } : StepD) (fun _ => .slice A9 n10 c11) rfl (by kernel_rfl) rfl (by kernel_rfl) rfl Ty.sz61 h39 hi rfl (Nat.le_of_ble_eq_true rfl) (fun _ _ => rfl) (fun d1 d2 h => ⟨h.1, h41⟩) (by decide) hBb ?_)
   intro w43 h44 c45
   have M46 := md_old M35 c45
   have h47 : (S.set i ({ s with was := (doI M s.o).1.1 } : StepD))[i]? = some ({ s with was := (doI M s.o).1.1 } : StepD) := List.getElem?_set_self (by simpa using hil)
   obtain ⟨_, _, _, hz48⟩ := PRow.addr h44
   obtain ⟨hz48, _⟩ | ⟨g48, cg48, hy48, _, hg48, _⟩ := hz48
   · cases hz48
   injection hy48 with hy48; injection hy48 with hy48 _ _
   rw [← hy48] at hg48
   refine wl (sv rfl (v := .pointer (some ⟨g, i * 22, none⟩)) (r_nilCheck (by kernel_rfl)) ?_)
   refine wl (sv rfl (v := .pointer (some ⟨g, i * 22 + 20, none⟩)) (r_fieldAddr (u := .pointer (some ⟨g, i * 22, none⟩)) (by kernel_rfl) (fun _ => (by kernel_rfl))) ?_)
   refine wl (ssP (i := i) (off := 20) (S := (S.set i ({ s with was := (doI M s.o).1.1 } : StepD))) (s := ({ s with was := (doI M s.o).1.1 } : StepD)) (v := .bool ((doI M s.o).1.2.1)) (vs := [.bool ((doI M s.o).1.2.1)]) ({ ({ s with was := (doI M s.o).1.1 } : StepD) with there := ((doI M s.o).1.2.1) } : StepD) (fun d => d) rfl (by kernel_rfl) rfl (by kernel_rfl) rfl Ty.sz4 h44 h47 rfl (Nat.le_of_ble_eq_true rfl) (fun _ _ => rfl) (fun d1 d2 h => h) (by decide) hBb ?_)
   intro w50 h51 c52
   have M53 := Mod.trans M46 (Mod.of_chg c52 (by simp))
   have h54 : ((S.set i ({ s with was := (doI M s.o).1.1 } : StepD)).set i ({ ({ s with was := (doI M s.o).1.1 } : StepD) with there := ((doI M s.o).1.2.1) } : StepD))[i]? = some ({ ({ s with was := (doI M s.o).1.1 } : StepD) with there := ((doI M s.o).1.2.1) } : StepD) := List.getElem?_set_self (by simpa using hil)
   obtain ⟨_, _, _, hz55⟩ := PRow.addr h51
   obtain ⟨hz55, _⟩ | ⟨g55, cg55, hy55, _, hg55, _⟩ := hz55
   · cases hz55
   injection hy55 with hy55; injection hy55 with hy55 _ _
   rw [← hy55] at hg55
   refine wl (sv rfl (v := .pointer (some ⟨g, i * 22, none⟩)) (r_nilCheck (by kernel_rfl)) ?_)
   refine wl (sv rfl (v := .pointer (some ⟨g, i * 22 + 21, none⟩)) (r_fieldAddr (u := .pointer (some ⟨g, i * 22, none⟩)) (by kernel_rfl) (fun _ => (by kernel_rfl))) ?_)
   refine wl (ssP (i := i) (off := 21) (S := ((S.set i ({ s with was := (doI M s.o).1.1 } : StepD)).set i ({ ({ s with was := (doI M s.o).1.1 } : StepD) with there := ((doI M s.o).1.2.1) } : StepD))) (s := ({ ({ s with was := (doI M s.o).1.1 } : StepD) with there := ((doI M s.o).1.2.1) } : StepD)) (v := .bool b37) (vs := [.bool b37]) ({ ({ ({ s with was := (doI M s.o).1.1 } : StepD) with there := ((doI M s.o).1.2.1) } : StepD) with did := b37 } : StepD) (fun d => d) rfl (by kernel_rfl) rfl (by kernel_rfl) rfl Ty.sz4 h51 h54 rfl (Nat.le_of_ble_eq_true rfl) (fun _ _ => rfl) (fun d1 d2 h => h) (by decide) hBb ?_)
   intro w57 h58 c59
   have M60 := Mod.trans M53 (Mod.of_chg c59 (by simp))
   have h61 : (((S.set i ({ s with was := (doI M s.o).1.1 } : StepD)).set i ({ ({ s with was := (doI M s.o).1.1 } : StepD) with there := ((doI M s.o).1.2.1) } : StepD)).set i ({ ({ ({ s with was := (doI M s.o).1.1 } : StepD) with there := ((doI M s.o).1.2.1) } : StepD) with did := b37 } : StepD))[i]? = some ({ ({ ({ s with was := (doI M s.o).1.1 } : StepD) with there := ((doI M s.o).1.2.1) } : StepD) with did := b37 } : StepD) := List.getElem?_set_self (by simpa using hil)
   obtain ⟨_, _, _, hz62⟩ := PRow.addr h58
   obtain ⟨hz62, _⟩ | ⟨g62, cg62, hy62, _, hg62, _⟩ := hz62
   · cases hz62
   injection hy62 with hy62; injection hy62 with hy62 _ _
   rw [← hy62] at hg62
   refine wnil ?_
   refine bodyPost_end (v := .tuple #[]) (res0 rfl ) (by kernel_rfl) ?_
   have h63 := (TreeIs.chgb (TreeIs.chgb (TreeIs.chgb (TreeIs.up h13 (up_chgn u23 c34 (by rw [e21]; exact Nat.le_refl _))) c45 ⟨hBg, NotU8.of h42 (by decide)⟩ htg (Ne.symm hgr)) c52 ⟨hBg, NotU8.of hg48 (by decide)⟩ htg (Ne.symm hgr)) c59 ⟨hBg, NotU8.of hg55 (by decide)⟩ htg (Ne.symm hgr))
   have hrec : ({ ({ ({ s with was := (doI M s.o).1.1 } : StepD) with there := ((doI M s.o).1.2.1) } : StepD) with did := b37 } : StepD) = recS M s.o := by unfold recS; rw [← k38]; simp [v36]
   refine ⟨rfl, h63, PRow.to h58 ?_, M60⟩
   rw [← hrec]; simp [List.set_set]
  ·
   refine sn rfl (cs := #[.int .i64 0, .int .i64 0, .int .i64 0, .int .i64 0, .string (⟨#[]⟩), .bool false, .bool false, .slice none 0 0, .int .i64 0, .int .i64 0]) (T := 61) (V := fun b => .pointer (some ⟨b, 0, none⟩)) (r_alloc Ty.zv61 rfl) ?_
   intro b6 w7 e8 h9 u10
   have l11 : lb < b6 := by rw [e8]; exact lt_ob h4
   have h12 := md_ob M3 nin0 h.1
   have l13 : tb < b6 := by rw [e8]; exact lt_ob h12
   have h14 := md_ob M3 nin0 hr
   have l15 : r < b6 := by rw [e8]; exact lt_ob h14
   have l16 : g < b6 := by rw [e8]; exact lt_ob h5
   have g17 : w.heap.size ≤ b6 := by rw [e8]; exact M3.size
   have M18 := Mod.trans M3 (Mod.of_up u10)
   refine hx (Y := [b6, r]) (Mod.of_up u10) (ynew e8) ?_
   have h19 := (TreeIs.up h (up_up u2 u10))
   have h20 := (Dat.up hd (up_up u2 u10))
   have h28 := md_ob M18 nin0 hlb
   have h29 := md_ob M18 nin0 h.1
   have h30 := md_ob M18 nin0 hr
   have h31 := md_ob M18 nin0 hg
   refine h1 (i := 8) (fuel := 7) (by kernel_rfl) rfl (sc rfl (r_callv (caps := []) (all := [.pointer (some ⟨tb, 0, none⟩), opV s.o (.slice oA on oc)]) En.f77 (by kernel_rfl) (by kernel_rfl)) (do_x (L' := (playI M s.o)) h19 (Nat.le_trans hB M18.size) s.o oA on oc h20 hname rfl) ?_)
   rintro e w21 ⟨A22, n23, c24, rfl, h25, h26, u27⟩
   refine ⟨.tuple #[itV (doI M s.o).1.1 (.slice A22 n23 c24), .bool ((doI M s.o).1.2.1), .int .i64 ((doI M s.o).1.2.2)], rfl, ?_⟩
   have M32 := md_old M18 u27
   obtain ⟨eshr33, clhr33, xshr33, hr33, _⟩ := h26.2.2.2.1
   refine hx (Y := [b6, r]) (Mod.of_chg u27 (by simp)) (fun y hy => .inl hy) ?_
   refine hvq (i := 9) (fuel := 6) rfl (fun _ _ _ h => h) (Mod.refl _ _) rfl (v := .tuple #[itV (doI M s.o).1.1 (.slice A22 n23 c24), .bool ((doI M s.o).1.2.1), .int .i64 ((doI M s.o).1.2.2)]) (fun _ _ => r_move (by kernel_rfl)) ?_
   refine hvq (i := 10) (fuel := 5) rfl (fun _ _ _ h => h) (Mod.refl _ _) rfl (v := itV (doI M s.o).1.1 (.slice A22 n23 c24)) (fun _ _ => r_extract (vs := [itV (doI M s.o).1.1 (.slice A22 n23 c24), .bool ((doI M s.o).1.2.1), .int .i64 ((doI M s.o).1.2.2)]) (by kernel_rfl) rfl) ?_
   refine hvq (i := 11) (fuel := 4) rfl (fun _ _ _ h => h) (Mod.refl _ _) rfl (v := .bool ((doI M s.o).1.2.1)) (fun _ _ => r_extract (vs := [itV (doI M s.o).1.1 (.slice A22 n23 c24), .bool ((doI M s.o).1.2.1), .int .i64 ((doI M s.o).1.2.2)]) (by kernel_rfl) rfl) ?_
   refine hvq (i := 12) (fuel := 3) rfl (fun _ _ _ h => h) (Mod.refl _ _) rfl (v := .int .i64 ((doI M s.o).1.2.2)) (fun _ _ => r_extract (vs := [itV (doI M s.o).1.1 (.slice A22 n23 c24), .bool ((doI M s.o).1.2.1), .int .i64 ((doI M s.o).1.2.2)]) (by kernel_rfl) rfl) ?_
   have h34 := (chg_ob u27 (Nat.ne_of_gt l15) h9)
   refine h1 (i := 14) (fuel := 2) (by kernel_rfl) rfl (ss rfl (k := 0) (v := itV (doI M s.o).1.1 (.slice A22 n23 c24)) (vs := (itC (doI M s.o).1.1 (.slice A22 n23 c24))) (cs' := (itC (doI M s.o).1.1 (.slice A22 n23 c24))) (by kernel_rfl) (by kernel_rfl) rfl Ty.sz61 h34 rfl (Nat.le_of_ble_eq_true rfl) rfl ?_)
   intro w35 h36 c37
   have M38 := Mod.trans' M32 c37 (fun i hi => by injection hi with hi; rw [← hi]; exact g17)
   refine hx (Y := [b6, r]) (Mod.of_chg c37 (by simp)) (fun y hy => .inl hy) ?_
   refine hvq (i := 15) (fuel := 1) rfl (fun _ _ _ h => h) (Mod.refl _ _) rfl (v := .bool ((doI M s.o).1.2.1)) (fun _ _ => r_assign (by kernel_rfl)) ?_
   refine hvq (i := 16) (fuel := 0) rfl (fun _ _ _ h => h) (Mod.refl _ _) rfl (v := .int .i64 ((doI M s.o).1.2.2)) (fun _ _ => r_assign (by kernel_rfl)) ?_
   refine hend (by kernel_rfl) ?_
   refine then_n (wp_seq (wp_seq (rg_lit ?_)))
   refine wmv (v := .bool ((doI M s.o).1.2.1)) ?_
   refine wl (sv rfl (v := .bool (!((doI M s.o).1.2.1))) (r_not (b := ((doI M s.o).1.2.1)) (by kernel_rfl)) ?_)
   refine wnil (then_n ?_)
   refine bcase ((doI M s.o).1.2.1) (fun v39 => ?_) (fun v39 => ?_)
   ·
    refine wp_cond_true (ebool (b := !((doI M s.o).1.2.1)) (by kernel_rfl) (bneg v39)) ?_
    refine rg_lit ?_
    refine wmv (v := .pointer (some ⟨g, i * 22, none⟩)) ?_
    refine wl (sv rfl (v := .pointer (some ⟨g, i * 22, none⟩)) (r_nilCheck (by kernel_rfl)) ?_)
    refine wl (sv rfl (v := .pointer (some ⟨g, i * 22, none⟩)) (r_fieldAddr (u := .pointer (some ⟨g, i * 22, none⟩)) (by kernel_rfl) (fun _ => (by kernel_rfl))) ?_)
    refine wl (sv rfl (v := .pointer (some ⟨g, i * 22 + 3, none⟩)) (r_fieldAddr (u := .pointer (some ⟨g, i * 22, none⟩)) (by kernel_rfl) (fun _ => (by kernel_rfl))) ?_)
    have h40 := md_ob M38 (nin1 hgr) hg
    refine wl (sv rfl (v := .agg #[.int .i64 s.o.node.t, .int .i64 s.o.node.w]) (r_loads (k := i * 22 + 3) (by kernel_rfl) Ty.ag35 Ty.sz35 h40 (el_sub he 3 rfl)) ?_)
    refine wl (sv rfl (v := .pointer (some ⟨b6, 0, none⟩)) (r_fieldAddr (u := .pointer (some ⟨b6, 0, none⟩)) (by kernel_rfl) (fun _ => (by kernel_rfl))) ?_)
    refine wl (ss rfl (k := 0) (v := .agg #[.int .i64 s.o.node.t, .int .i64 s.o.node.w]) (vs := [.int .i64 s.o.node.t, .int .i64 s.o.node.w]) (cs' := [.int .i64 s.o.node.t, .int .i64 s.o.node.w, .int .i64 ((doI M s.o).1.1.parent.t), .int .i64 ((doI M s.o).1.1.parent.w), .string ((doI M s.o).1.1.name), .bool ((doI M s.o).1.1.dir), .bool ((doI M s.o).1.1.gone), .slice A22 n23 c24, .int .i64 ((doI M s.o).1.1.by_.t), .int .i64 ((doI M s.o).1.1.by_.w)]) (by kernel_rfl) (by kernel_rfl) rfl Ty.sz35 h36 rfl (Nat.le_of_ble_eq_true rfl) rfl ?_)
    intro w41 h42 c43
    have M44 := Mod.trans' M38 c43 (fun i hi => by injection hi with hi; rw [← hi]; exact g17)
    refine wnil (then_n (rg_lit ?_))
    refine wmv (v := .pointer (some ⟨g, i * 22, none⟩)) ?_
    refine wmv (v := .pointer (some ⟨g, i * 22, none⟩)) ?_
    refine wmv (v := .pointer (some ⟨g, i * 22, none⟩)) ?_
    refine wl (sv rfl (v := .agg #[.int .i64 s.o.node.t, .int .i64 s.o.node.w, .int .i64 ((doI M s.o).1.1.parent.t), .int .i64 ((doI M s.o).1.1.parent.w), .string ((doI M s.o).1.1.name), .bool ((doI M s.o).1.1.dir), .bool ((doI M s.o).1.1.gone), .slice A22 n23 c24, .int .i64 ((doI M s.o).1.1.by_.t), .int .i64 ((doI M s.o).1.1.by_.w)]) (r_loads (k := 0) (by kernel_rfl) Ty.ag61 Ty.sz61 h42 (by kernel_rfl)) ?_)
    refine wmv (v := .bool ((doI M s.o).1.2.1)) ?_
    refine wmv (v := .int .i64 ((doI M s.o).1.2.2)) ?_
    refine wl (sb rfl (r_eq (k := .i64) (m := ((doI M s.o).1.2.2)) (n := 0) (by kernel_rfl) (by kernel_rfl)) ?_)
    intro b45 k46
    refine wl (sv rfl (v := .pointer (some ⟨g, i * 22, none⟩)) (r_nilCheck (by kernel_rfl)) ?_)
    refine wl (sv rfl (v := .pointer (some ⟨g, i * 22 + 10, none⟩)) (r_fieldAddr (u := .pointer (some ⟨g, i * 22, none⟩)) (by kernel_rfl) (fun _ => (by kernel_rfl))) ?_)
    have h47 := (PRow.chgn (PRow.chgn (PRow.chgn (PRow.up hp (up_up u2 u10)) u27 ⟨h19.2.2.1, NotU8.map h30⟩ (fun e => by injection e with e; exact hgr e)) c37 ⟨(Nat.le_trans hB g17), NotU8.of h34 (by decide)⟩ (fun e => by injection e with e; exact (Nat.ne_of_lt l16) e)) c43 ⟨(Nat.le_trans hB g17), NotU8.of h36 (by decide)⟩ (fun e => by injection e with e; exact (Nat.ne_of_lt l16) e))
    have h49 := (Dat.chg (Dat.chg h25 c37 ⟨(Nat.le_trans hB g17), NotU8.of h34 (by decide)⟩) c43 ⟨(Nat.le_trans hB g17), NotU8.of h36 (by decide)⟩)
    have h50 := md_ob M44 (nin1 hgr) hg
    refine wl (ssP (i := i) (off := 10) (S := S) (s := s) (v := .agg #[.int .i64 s.o.node.t, .int .i64 s.o.node.w, .int .i64 ((doI M s.o).1.1.parent.t), .int .i64 ((doI M s.o).1.1.parent.w), .string ((doI M s.o).1.1.name), .bool ((doI M s.o).1.1.dir), .bool ((doI M s.o).1.1.gone), .slice A22 n23 c24, .int .i64 ((doI M s.o).1.1.by_.t), .int .i64 ((doI M s.o).1.1.by_.w)]) (vs := [.int .i64 s.o.node.t, .int .i64 s.o.node.w, .int .i64 ((doI M s.o).1.1.parent.t), .int .i64 ((doI M s.o).1.1.parent.w), .string ((doI M s.o).1.1.name), .bool ((doI M s.o).1.1.dir), .bool ((doI M s.o).1.1.gone), .slice A22 n23 c24, .int .i64 ((doI M s.o).1.1.by_.t), .int .i64 ((doI M s.o).1.1.by_.w)]) ({ s with was := ({ (doI M s.o).1.1 with node := s.o.node } : Item) } : StepD) (fun _ => .slice A22 n23 c24) rfl (by kernel_rfl) rfl (by kernel_rfl) rfl Ty.sz61 h47 hi rfl (Nat.le_of_ble_eq_true rfl) (fun _ _ => rfl) (fun d1 d2 h => ⟨h.1, h49⟩) (by decide) hBb ?_)
    intro w51 h52 c53
    have M54 := md_old M44 c53
    have h55 : (S.set i ({ s with was := ({ (doI M s.o).1.1 with node := s.o.node } : Item) } : StepD))[i]? = some ({ s with was := ({ (doI M s.o).1.1 with node := s.o.node } : Item) } : StepD) := List.getElem?_set_self (by simpa using hil)
    obtain ⟨_, _, _, hz56⟩ := PRow.addr h52
    obtain ⟨hz56, _⟩ | ⟨g56, cg56, hy56, _, hg56, _⟩ := hz56
    · cases hz56
    injection hy56 with hy56; injection hy56 with hy56 _ _
    rw [← hy56] at hg56
    refine wl (sv rfl (v := .pointer (some ⟨g, i * 22, none⟩)) (r_nilCheck (by kernel_rfl)) ?_)
    refine wl (sv rfl (v := .pointer (some ⟨g, i * 22 + 20, none⟩)) (r_fieldAddr (u := .pointer (some ⟨g, i * 22, none⟩)) (by kernel_rfl) (fun _ => (by kernel_rfl))) ?_)
    refine wl (ssP (i := i) (off := 20) (S := (S.set i ({ s with was := ({ (doI M s.o).1.1 with node := s.o.node } : Item) } : StepD))) (s := ({ s with was := ({ (doI M s.o).1.1 with node := s.o.node } : Item) } : StepD)) (v := .bool ((doI M s.o).1.2.1)) (vs := [.bool ((doI M s.o).1.2.1)]) ({ ({ s with was := ({ (doI M s.o).1.1 with node := s.o.node } : Item) } : StepD) with there := ((doI M s.o).1.2.1) } : StepD) (fun d => d) rfl (by kernel_rfl) rfl (by kernel_rfl) rfl Ty.sz4 h52 h55 rfl (Nat.le_of_ble_eq_true rfl) (fun _ _ => rfl) (fun d1 d2 h => h) (by decide) hBb ?_)
    intro w58 h59 c60
    have M61 := Mod.trans M54 (Mod.of_chg c60 (by simp))
    have h62 : ((S.set i ({ s with was := ({ (doI M s.o).1.1 with node := s.o.node } : Item) } : StepD)).set i ({ ({ s with was := ({ (doI M s.o).1.1 with node := s.o.node } : Item) } : StepD) with there := ((doI M s.o).1.2.1) } : StepD))[i]? = some ({ ({ s with was := ({ (doI M s.o).1.1 with node := s.o.node } : Item) } : StepD) with there := ((doI M s.o).1.2.1) } : StepD) := List.getElem?_set_self (by simpa using hil)
    obtain ⟨_, _, _, hz63⟩ := PRow.addr h59
    obtain ⟨hz63, _⟩ | ⟨g63, cg63, hy63, _, hg63, _⟩ := hz63
    · cases hz63
    injection hy63 with hy63; injection hy63 with hy63 _ _
    rw [← hy63] at hg63
    refine wl (sv rfl (v := .pointer (some ⟨g, i * 22, none⟩)) (r_nilCheck (by kernel_rfl)) ?_)
    refine wl (sv rfl (v := .pointer (some ⟨g, i * 22 + 21, none⟩)) (r_fieldAddr (u := .pointer (some ⟨g, i * 22, none⟩)) (by kernel_rfl) (fun _ => (by kernel_rfl))) ?_)
    refine wl (ssP (i := i) (off := 21) (S := ((S.set i ({ s with was := ({ (doI M s.o).1.1 with node := s.o.node } : Item) } : StepD)).set i ({ ({ s with was := ({ (doI M s.o).1.1 with node := s.o.node } : Item) } : StepD) with there := ((doI M s.o).1.2.1) } : StepD))) (s := ({ ({ s with was := ({ (doI M s.o).1.1 with node := s.o.node } : Item) } : StepD) with there := ((doI M s.o).1.2.1) } : StepD)) (v := .bool b45) (vs := [.bool b45]) ({ ({ ({ s with was := ({ (doI M s.o).1.1 with node := s.o.node } : Item) } : StepD) with there := ((doI M s.o).1.2.1) } : StepD) with did := b45 } : StepD) (fun d => d) rfl (by kernel_rfl) rfl (by kernel_rfl) rfl Ty.sz4 h59 h62 rfl (Nat.le_of_ble_eq_true rfl) (fun _ _ => rfl) (fun d1 d2 h => h) (by decide) hBb ?_)
    intro w65 h66 c67
    have M68 := Mod.trans M61 (Mod.of_chg c67 (by simp))
    have h69 : (((S.set i ({ s with was := ({ (doI M s.o).1.1 with node := s.o.node } : Item) } : StepD)).set i ({ ({ s with was := ({ (doI M s.o).1.1 with node := s.o.node } : Item) } : StepD) with there := ((doI M s.o).1.2.1) } : StepD)).set i ({ ({ ({ s with was := ({ (doI M s.o).1.1 with node := s.o.node } : Item) } : StepD) with there := ((doI M s.o).1.2.1) } : StepD) with did := b45 } : StepD))[i]? = some ({ ({ ({ s with was := ({ (doI M s.o).1.1 with node := s.o.node } : Item) } : StepD) with there := ((doI M s.o).1.2.1) } : StepD) with did := b45 } : StepD) := List.getElem?_set_self (by simpa using hil)
    obtain ⟨_, _, _, hz70⟩ := PRow.addr h66
    obtain ⟨hz70, _⟩ | ⟨g70, cg70, hy70, _, hg70, _⟩ := hz70
    · cases hz70
    injection hy70 with hy70; injection hy70 with hy70 _ _
    rw [← hy70] at hg70
    refine wnil ?_
    refine bodyPost_end (v := .tuple #[]) (res0 rfl ) (by kernel_rfl) ?_
    have h71 := (TreeIs.chgb (TreeIs.chgb (TreeIs.chgb (TreeIs.chgb (TreeIs.chgb h26 c37 ⟨(Nat.le_trans hB g17), NotU8.of h34 (by decide)⟩ (Nat.ne_of_lt l13) (Nat.ne_of_lt l15)) c43 ⟨(Nat.le_trans hB g17), NotU8.of h36 (by decide)⟩ (Nat.ne_of_lt l13) (Nat.ne_of_lt l15)) c53 ⟨hBg, NotU8.of h50 (by decide)⟩ htg (Ne.symm hgr)) c60 ⟨hBg, NotU8.of hg56 (by decide)⟩ htg (Ne.symm hgr)) c67 ⟨hBg, NotU8.of hg63 (by decide)⟩ htg (Ne.symm hgr))
    have hrec : ({ ({ ({ s with was := ({ (doI M s.o).1.1 with node := s.o.node } : Item) } : StepD) with there := ((doI M s.o).1.2.1) } : StepD) with did := b45 } : StepD) = recS M s.o := by unfold recS; rw [← k46]; simp [v39]
    refine ⟨rfl, h71, PRow.to h66 ?_, M68⟩
    rw [← hrec]; simp [List.set_set]
   refine wp_cond_false (ebool (b := !((doI M s.o).1.2.1)) (by kernel_rfl) (bneg v39)) ?_
   refine wp_skip (then_n (rg_lit ?_))
   refine wmv (v := .pointer (some ⟨g, i * 22, none⟩)) ?_
   refine wmv (v := .pointer (some ⟨g, i * 22, none⟩)) ?_
   refine wmv (v := .pointer (some ⟨g, i * 22, none⟩)) ?_
   refine wl (sv rfl (v := itV (doI M s.o).1.1 (.slice A22 n23 c24)) (r_loads (k := 0) (by kernel_rfl) Ty.ag61 Ty.sz61 h36 (by kernel_rfl)) ?_)
   refine wmv (v := .bool ((doI M s.o).1.2.1)) ?_
   refine wmv (v := .int .i64 ((doI M s.o).1.2.2)) ?_
   refine wl (sb rfl (r_eq (k := .i64) (m := ((doI M s.o).1.2.2)) (n := 0) (by kernel_rfl) (by kernel_rfl)) ?_)
   intro b40 k41
   refine wl (sv rfl (v := .pointer (some ⟨g, i * 22, none⟩)) (r_nilCheck (by kernel_rfl)) ?_)
   refine wl (sv rfl (v := .pointer (some ⟨g, i * 22 + 10, none⟩)) (r_fieldAddr (u := .pointer (some ⟨g, i * 22, none⟩)) (by kernel_rfl) (fun _ => (by kernel_rfl))) ?_)
   have h42 := (PRow.chgn (PRow.chgn (PRow.up hp (up_up u2 u10)) u27 ⟨h19.2.2.1, NotU8.map h30⟩ (fun e => by injection e with e; exact hgr e)) c37 ⟨(Nat.le_trans hB g17), NotU8.of h34 (by decide)⟩ (fun e => by injection e with e; exact (Nat.ne_of_lt l16) e))
   have h44 := (Dat.chg h25 c37 ⟨(Nat.le_trans hB g17), NotU8.of h34 (by decide)⟩)
   have h45 := md_ob M38 (nin1 hgr) hg
   refine wl (ssP (i := i) (off := 10) (S := S) (s := s) (v := itV (doI M s.o).1.1 (.slice A22 n23 c24)) (vs := (itC (doI M s.o).1.1 (.slice A22 n23 c24))) ({ s with was := (doI M s.o).1.1 } : StepD) (fun _ => .slice A22 n23 c24) rfl (by kernel_rfl) rfl (by kernel_rfl) rfl Ty.sz61 h42 hi rfl (Nat.le_of_ble_eq_true rfl) (fun _ _ => rfl) (fun d1 d2 h => ⟨h.1, h44⟩) (by decide) hBb ?_)
   intro w46 h47 c48
   have M49 := md_old M38 c48
   have h50 : (S.set i ({ s with was := (doI M s.o).1.1 } : StepD))[i]? = some ({ s with was := (doI M s.o).1.1 } : StepD) := List.getElem?_set_self (by simpa using hil)
   obtain ⟨_, _, _, hz51⟩ := PRow.addr h47
   obtain ⟨hz51, _⟩ | ⟨g51, cg51, hy51, _, hg51, _⟩ := hz51
   · cases hz51
   injection hy51 with hy51; injection hy51 with hy51 _ _
   rw [← hy51] at hg51
   refine wl (sv rfl (v := .pointer (some ⟨g, i * 22, none⟩)) (r_nilCheck (by kernel_rfl)) ?_)
   refine wl (sv rfl (v := .pointer (some ⟨g, i * 22 + 20, none⟩)) (r_fieldAddr (u := .pointer (some ⟨g, i * 22, none⟩)) (by kernel_rfl) (fun _ => (by kernel_rfl))) ?_)
   refine wl (ssP (i := i) (off := 20) (S := (S.set i ({ s with was := (doI M s.o).1.1 } : StepD))) (s := ({ s with was := (doI M s.o).1.1 } : StepD)) (v := .bool ((doI M s.o).1.2.1)) (vs := [.bool ((doI M s.o).1.2.1)]) ({ ({ s with was := (doI M s.o).1.1 } : StepD) with there := ((doI M s.o).1.2.1) } : StepD) (fun d => d) rfl (by kernel_rfl) rfl (by kernel_rfl) rfl Ty.sz4 h47 h50 rfl (Nat.le_of_ble_eq_true rfl) (fun _ _ => rfl) (fun d1 d2 h => h) (by decide) hBb ?_)
   intro w53 h54 c55
   have M56 := Mod.trans M49 (Mod.of_chg c55 (by simp))
   have h57 : ((S.set i ({ s with was := (doI M s.o).1.1 } : StepD)).set i ({ ({ s with was := (doI M s.o).1.1 } : StepD) with there := ((doI M s.o).1.2.1) } : StepD))[i]? = some ({ ({ s with was := (doI M s.o).1.1 } : StepD) with there := ((doI M s.o).1.2.1) } : StepD) := List.getElem?_set_self (by simpa using hil)
   obtain ⟨_, _, _, hz58⟩ := PRow.addr h54
   obtain ⟨hz58, _⟩ | ⟨g58, cg58, hy58, _, hg58, _⟩ := hz58
   · cases hz58
   injection hy58 with hy58; injection hy58 with hy58 _ _
   rw [← hy58] at hg58
   refine wl (sv rfl (v := .pointer (some ⟨g, i * 22, none⟩)) (r_nilCheck (by kernel_rfl)) ?_)
   refine wl (sv rfl (v := .pointer (some ⟨g, i * 22 + 21, none⟩)) (r_fieldAddr (u := .pointer (some ⟨g, i * 22, none⟩)) (by kernel_rfl) (fun _ => (by kernel_rfl))) ?_)
   refine wl (ssP (i := i) (off := 21) (S := ((S.set i ({ s with was := (doI M s.o).1.1 } : StepD)).set i ({ ({ s with was := (doI M s.o).1.1 } : StepD) with there := ((doI M s.o).1.2.1) } : StepD))) (s := ({ ({ s with was := (doI M s.o).1.1 } : StepD) with there := ((doI M s.o).1.2.1) } : StepD)) (v := .bool b40) (vs := [.bool b40]) ({ ({ ({ s with was := (doI M s.o).1.1 } : StepD) with there := ((doI M s.o).1.2.1) } : StepD) with did := b40 } : StepD) (fun d => d) rfl (by kernel_rfl) rfl (by kernel_rfl) rfl Ty.sz4 h54 h57 rfl (Nat.le_of_ble_eq_true rfl) (fun _ _ => rfl) (fun d1 d2 h => h) (by decide) hBb ?_)
   intro w60 h61 c62
   have M63 := Mod.trans M56 (Mod.of_chg c62 (by simp))
   have h64 : (((S.set i ({ s with was := (doI M s.o).1.1 } : StepD)).set i ({ ({ s with was := (doI M s.o).1.1 } : StepD) with there := ((doI M s.o).1.2.1) } : StepD)).set i ({ ({ ({ s with was := (doI M s.o).1.1 } : StepD) with there := ((doI M s.o).1.2.1) } : StepD) with did := b40 } : StepD))[i]? = some ({ ({ ({ s with was := (doI M s.o).1.1 } : StepD) with there := ((doI M s.o).1.2.1) } : StepD) with did := b40 } : StepD) := List.getElem?_set_self (by simpa using hil)
   obtain ⟨_, _, _, hz65⟩ := PRow.addr h61
   obtain ⟨hz65, _⟩ | ⟨g65, cg65, hy65, _, hg65, _⟩ := hz65
   · cases hz65
   injection hy65 with hy65; injection hy65 with hy65 _ _
   rw [← hy65] at hg65
   refine wnil ?_
   refine bodyPost_end (v := .tuple #[]) (res0 rfl ) (by kernel_rfl) ?_
   have h66 := (TreeIs.chgb (TreeIs.chgb (TreeIs.chgb (TreeIs.chgb h26 c37 ⟨(Nat.le_trans hB g17), NotU8.of h34 (by decide)⟩ (Nat.ne_of_lt l13) (Nat.ne_of_lt l15)) c48 ⟨hBg, NotU8.of h45 (by decide)⟩ htg (Ne.symm hgr)) c55 ⟨hBg, NotU8.of hg51 (by decide)⟩ htg (Ne.symm hgr)) c62 ⟨hBg, NotU8.of hg58 (by decide)⟩ htg (Ne.symm hgr))
   have hrec : ({ ({ ({ s with was := (doI M s.o).1.1 } : StepD) with there := ((doI M s.o).1.2.1) } : StepD) with did := b40 } : StepD) = recS M s.o := by unfold recS; rw [← k41]; simp [v39]
   refine ⟨rfl, h66, PRow.to h61 ?_, M63⟩
   rw [← hrec]; simp [List.set_set]
end Go.Proofs.YtefhfoioeoijlaaGreat

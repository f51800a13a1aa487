/- GI: printed by gen.py -/
import Derived.Test.YtefhfoioeoijlaaGreatPlain
set_option linter.unusedVariables false
set_option linter.unusedSimpArgs false
namespace Go.Proofs.YtefhfoioeoijlaaGreat
open Go Go.RowKit Go.Sort
set_option maxHeartbeats 2000000 in
theorem tset_at {B : Nat} {w : World} {tb r : Nat} {L : List Item} (h : TreeIs B w tb r L) (hB : B ≤ w.heap.size) (it : Item) (iA : Option Addr) (in_ ic : Nat) (hd : Dat B w (.slice iA in_ ic) it.data) (there : Bool) (hlen : (setT it there L).length ≤ 300) :
    Calls Tryz.prog 76 #[trP tb, itV it (.slice iA in_ ic), .bool there] w fun e w' => e = .returned (.int .i64 (if stR it.node then 0 else 1)) ∧ TreeIs B w' tb r (if stR it.node then setT it there L else L) ∧ Chg w w' r := by
  obtain ⟨hr_es, hr_cl, hr_xs, hr, _⟩ := h.2.2.2.1
  have htr : tb ≠ r := fun e => h.2.2.2.1.noCells _ _ _ (by rw [← e]; exact h.1)
  go_enter Tryz.func76, Tryz.ntmps76
  refine wp_seq (rg_lit ?_)
  refine wl (sn rfl (cs := (itC it (.slice iA in_ ic)).toArray) (T := 61) (V := fun b => .pointer (some ⟨b, 0, none⟩)) (r_box (v := itV it (.slice iA in_ ic)) (by kernel_rfl) rfl) ?_)
  intro b1 w2 e3 h4 u5
  have l6 : tb < b1 := by rw [e3]; exact lt_ob h.1
  have l7 : r < b1 := by rw [e3]; exact lt_ob hr
  have g8 : w.heap.size ≤ b1 := by rw [e3]; exact (Mod.refl [] w).size
  have M9 := Mod.trans (Mod.refl [] w) (Mod.of_up u5)
  refine was (v := .int .i64 0) ?_
  refine wnil (then_n (wp_seq (wp_block (wp_seq (rg_lit ?_)))))
  refine wmv (v := .pointer (some ⟨tb, 0, none⟩)) ?_
  refine wl (sv (w' := w2) rfl (v := .bool false) (by kernel_rfl) ?_)
  refine was (v := .bool false) ?_
  refine wnil (then_n ?_)
  refine wp_cond_false (by kernel_rfl) ?_
  refine wp_seq (rg_lit ?_)
  refine wl (sv rfl (v := .pointer (some ⟨b1, 0, none⟩)) (r_fieldAddr (u := .pointer (some ⟨b1, 0, none⟩)) (by kernel_rfl) (fun _ => (by kernel_rfl))) ?_)
  refine wl (sv rfl (v := .agg #[.int .i64 it.node.t, .int .i64 it.node.w]) (r_loads (k := 0) (by kernel_rfl) Ty.ag35 Ty.sz35 h4 (by kernel_rfl)) ?_)
  refine wl (sc rfl (r_callv (caps := []) (all := [.agg #[.int .i64 it.node.t, .int .i64 it.node.w]]) En.f56 (by kernel_rfl) (by kernel_rfl)) (sright_at it.node.t it.node.w _) ?_)
  rintro e w10 ⟨rfl, u11⟩
  replace u11 := u11.below
  refine ⟨.bool ((stR ⟨it.node.t, it.node.w⟩)), rfl, ?_⟩
  have M12 := Mod.trans M9 (Mod.of_up u11)
  refine wl (sv rfl (v := .bool (!((stR ⟨it.node.t, it.node.w⟩)))) (r_not (b := ((stR ⟨it.node.t, it.node.w⟩))) (by kernel_rfl)) ?_)
  refine was (v := .bool (!((stR ⟨it.node.t, it.node.w⟩)))) ?_
  refine wnil (then_n ?_)
  refine bcase ((stR ⟨it.node.t, it.node.w⟩)) (fun v13 => ?_) (fun v13 => ?_)
  ·
   refine wp_cond_true (ebool (b := !((stR ⟨it.node.t, it.node.w⟩))) (by kernel_rfl) (bneg v13)) ?_
   refine wp_seq (rg_lit ?_)
   refine was (v := .int .i64 1) ?_
   refine wnil (then_n (wp_ret (inb_r (then_x (by nofun) ?_))))
   refine bodyPost_ret (v := .int .i64 1) (res1 rfl (rv_t (by kernel_rfl))) (by kernel_rfl) ?_
   have h14 := (TreeIs.up h (Mod.up M12))
   have f : stR it.node = false := v13
   exact ⟨by rw [f]; rfl, by rw [f]; exact h14, (to_chg (Mod.up M12) r)⟩
  refine wp_cond_false (ebool (b := !((stR ⟨it.node.t, it.node.w⟩))) (by kernel_rfl) (bneg v13)) ?_
  refine wp_seq (rg_lit ?_)
  refine wmv (v := .bool there) ?_
  refine was (v := .bool there) ?_
  refine wnil (then_n ?_)
  refine bcase there (fun v14 => ?_) (fun v14 => ?_)
  ·
   have hlen2 : (delI it.node L).length ≤ 300 := by rw [v14] at hlen; exact hlen
   refine wp_cond_false (ebool (b := there) (by kernel_rfl) v14) ?_
   refine rg_tail 6 (by kernel_rfl) (by kernel_rfl) rfl rfl ?_
   refine qmv (v := .pointer (some ⟨tb, 0, none⟩)) ?_
   refine qv rfl (v := .pointer (some ⟨tb, 0, none⟩)) (fun _ _ => r_nilCheck (by kernel_rfl)) ?_
   refine qv rfl (v := .pointer (some ⟨tb, 0, none⟩)) (fun _ _ => r_fieldAddr (u := .pointer (some ⟨tb, 0, none⟩)) (by kernel_rfl) (fun _ => (by kernel_rfl))) ?_
   have h15 := md_ob M12 nin0 h.1
   refine qv rfl (v := .map (some r)) (fun _ uz => r_load (k := 0) (by kernel_rfl) Ty.ag86 (up_ob uz h15) (by kernel_rfl)) ?_
   refine qv rfl (v := .pointer (some ⟨b1, 0, none⟩)) (fun _ _ => r_fieldAddr (u := .pointer (some ⟨b1, 0, none⟩)) (by kernel_rfl) (fun _ => (by kernel_rfl))) ?_
   have h16 := (up_ob u11 h4)
   refine qv rfl (v := .agg #[.int .i64 it.node.t, .int .i64 it.node.w]) (fun _ uz => r_loads (k := 0) (by kernel_rfl) Ty.ag35 Ty.sz35 (up_ob uz h16) (by kernel_rfl)) ?_
   refine qnil ?_
   intro w17 u18
   have M19 := Mod.trans M12 (Mod.of_up u18)
   have h20 := (TreeIs.up h (Mod.up M19))
   have h21 := md_ob M19 nin0 h.1
   have h22 := md_ob M19 nin0 hr
   have h23 := (up_ob u18 h16)
   obtain ⟨w24, hr24, hc24, hm24⟩ := MapIs.delete h20.2.2.2.1 h20.2.2.1 ⟨it.node.t, it.node.w⟩ _
   refine wl (sv rfl (v := .tuple #[]) (r_delete (mv := .map (some r)) (kv := .agg #[.int .i64 it.node.t, .int .i64 it.node.w]) (by kernel_rfl) (by kernel_rfl) hr24) ?_)
   have ht24 : TreeIs B w24 tb r (delI ⟨it.node.t, it.node.w⟩ L) := TreeIs.put h20 hc24 hm24 hlen2
   have M25 := md_old M19 hc24
   refine wnil (inb_n (then_n (wp_seq (rg_lit ?_))))
   refine was (v := .int .i64 0) ?_
   refine wnil (then_n (wp_ret ?_))
   refine bodyPost_ret (v := .int .i64 0) (res1 rfl (rv_t (by kernel_rfl))) (by kernel_rfl) ?_
   have f : stR it.node = true := v13
   exact ⟨by rw [f]; rfl, by rw [f, v14]; exact ht24, (Mod.chg M25)⟩
  have hlen1 : (setT it true L).length ≤ 300 := by rw [v14] at hlen; exact hlen
  refine wp_cond_true (ebool (b := there) (by kernel_rfl) v14) ?_
  refine rg_held [r] (n := 9) (by kernel_rfl) rfl ?_
  intro w15 u16
  have M17 := Mod.trans M12 (Mod.of_up u16)
  refine hvq (i := 0) (fuel := 8) rfl (fun _ _ _ h => h) (Mod.refl _ _) rfl (v := .pointer (some ⟨tb, 0, none⟩)) (fun _ _ => r_move (by kernel_rfl)) ?_
  refine hvq (i := 1) (fuel := 7) rfl (fun _ _ _ h => h) (Mod.refl _ _) rfl (v := .pointer (some ⟨tb, 0, none⟩)) (fun _ _ => r_nilCheck (by kernel_rfl)) ?_
  refine hvq (i := 2) (fuel := 6) rfl (fun _ _ _ h => h) (Mod.refl _ _) rfl (v := .pointer (some ⟨tb, 0, none⟩)) (fun _ _ => r_fieldAddr (u := .pointer (some ⟨tb, 0, none⟩)) (by kernel_rfl) (fun _ => (by kernel_rfl))) ?_
  have h18 := md_ob M17 nin0 h.1
  refine hvq (i := 3) (fuel := 5) rfl (fun _ _ _ h => h) (Mod.refl _ _) rfl (v := .map (some r)) (fun _ uz => r_load (k := 0) (by kernel_rfl) Ty.ag86 (md_ob uz (nin1 htr) h18) (by kernel_rfl)) ?_
  refine hvq (i := 4) (fuel := 4) rfl (fun _ _ _ h => h) (Mod.refl _ _) rfl (v := .pointer (some ⟨b1, 0, none⟩)) (fun _ _ => r_fieldAddr (u := .pointer (some ⟨b1, 0, none⟩)) (by kernel_rfl) (fun _ => (by kernel_rfl))) ?_
  have h19 := (up_ob u16 (up_ob u11 h4))
  refine hvq (i := 5) (fuel := 3) rfl (fun _ _ _ h => h) (Mod.refl _ _) rfl (v := .agg #[.int .i64 it.node.t, .int .i64 it.node.w]) (fun _ uz => r_loads (k := 0) (by kernel_rfl) Ty.ag35 Ty.sz35 (md_ob uz (nin1 (Nat.ne_of_gt l7)) h19) (by kernel_rfl)) ?_
  refine hvq (i := 6) (fuel := 2) rfl (fun _ _ _ h => h) (Mod.refl _ _) rfl (v := itV it (.slice iA in_ ic)) (fun _ uz => r_loads (k := 0) (by kernel_rfl) Ty.ag61 Ty.sz61 (md_ob uz (nin1 (Nat.ne_of_gt l7)) h19) (by kernel_rfl)) ?_
  have h20 := (Dat.up hd (Mod.up M17))
  refine h1 (i := 7) (fuel := 1) (by kernel_rfl) rfl (sc rfl (r_callv (caps := []) (all := [itV it (.slice iA in_ ic)]) En.f39 (by kernel_rfl) (by kernel_rfl)) (own_sl (Nat.le_trans hB M17.size) h20) ?_)
  rintro e w21 ⟨A22, n23, c24, rfl, h25, u26⟩
  refine ⟨itV it (.slice A22 n23 c24), rfl, ?_⟩
  have M27 := Mod.trans M17 (Mod.of_up u26)
  refine hx (Y := [r]) (Mod.of_up u26) (fun y hy => .inl hy) ?_
  have h28 := (TreeIs.up h (Mod.up M27))
  have h29 := md_ob M27 nin0 h.1
  have h30 := md_ob M27 nin0 hr
  have h31 := (up_ob u26 h19)
  obtain ⟨w32, hr32, hc32, hm32⟩ := MapIs.store h28.2.2.2.1 h28.2.2.1 it _ h25
  refine h1 (i := 8) (fuel := 0) (by kernel_rfl) rfl (sk rfl (r_mapUpdate (mv := .map (some r)) (kv := .agg #[.int .i64 it.node.t, .int .i64 it.node.w]) (vv := itV it (.slice A22 n23 c24)) (by kernel_rfl) (by kernel_rfl) (by kernel_rfl) hr32) ?_)
  have ht32 : TreeIs B w32 tb r (setT it true L) := TreeIs.put h28 hc32 hm32 hlen1
  have M33 := md_old M27 hc32
  refine hx (Y := [r]) (Mod.of_chg hc32 (by simp)) (fun y hy => .inl hy) ?_
  refine hend (by kernel_rfl) ?_
  refine inb_n (then_n (wp_seq (rg_lit ?_)))
  refine was (v := .int .i64 0) ?_
  refine wnil (then_n (wp_ret ?_))
  refine bodyPost_ret (v := .int .i64 0) (res1 rfl (rv_t (by kernel_rfl))) (by kernel_rfl) ?_
  have f : stR it.node = true := v13
  exact ⟨by rw [f]; rfl, by rw [f, v14]; exact ht32, (Mod.chg M33)⟩
end Go.Proofs.YtefhfoioeoijlaaGreat

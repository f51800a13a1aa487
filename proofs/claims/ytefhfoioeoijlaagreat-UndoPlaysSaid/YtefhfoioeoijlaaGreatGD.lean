/- GD: printed by gen.py -/
import Derived.Test.YtefhfoioeoijlaaGreatGC
import Derived.Test.YtefhfoioeoijlaaGreatTreeJ
import Derived.Test.YtefhfoioeoijlaaGreatArg
import Derived.Test.YtefhfoioeoijlaaGreatEx2
set_option linter.unusedVariables false
set_option linter.unusedSimpArgs false
namespace Go.Proofs.YtefhfoioeoijlaaGreat
open Go Go.RowKit Go.Sort
set_option maxHeartbeats 2000000 in
theorem rdo_at {B : Nat} {w : World} {ub : Nat} {L : List Item} (h : RIs B w ub L) (hB : B ≤ w.heap.size) (hsrt : Srt L) (o : OpD) (oA : Option Addr) (on oc : Nat) (hDo : Dat B w (.slice oA on oc) o.data) (hs : o.name.size ≤ 9223372036854775807) :
    Calls Tryz.prog 33 #[trP ub, opV o (.slice oA on oc)] w fun e w' => ∃ d, e = .returned (.tuple #[itV (doI L o).1.1 d, .bool (doI L o).1.2.1, .int .i64 (doI L o).1.2.2]) ∧ Dat B w' d (doI L o).1.1.data ∧ RIs B w' ub (doI L o).2 ∧ Chg w w' ub := by
  have hon := hDo.len.1
  have h0 := h
  obtain ⟨huub, v, hv, hl, hne, hL⟩ := h0
  rw [rowI_is] at hl
  obtain ⟨lA, lc, rfl⟩ := hl.form
  go_enter Tryz.func33, Tryz.ntmps33
  refine wp_seq (rg_lit ?_)
  refine wl (sn rfl (cs := (opC o (.slice oA on oc)).toArray) (T := 38) (V := fun b => .pointer (some ⟨b, 0, none⟩)) (r_box (v := opV o (.slice oA on oc)) (by kernel_rfl) rfl) ?_)
  intro b1 w2 e3 h4 u5
  have l6 : ub < b1 := by rw [e3]; exact lt_ob hv
  have g7 : w.heap.size ≤ b1 := by rw [e3]; exact (Mod.refl [] w).size
  have M8 := Mod.trans (Mod.refl [] w) (Mod.of_up u5)
  refine wl (sn rfl (cs := #[.int .i64 0, .int .i64 0, .int .i64 0, .int .i64 0, .string (⟨#[]⟩), .bool false, .bool false, .slice none 0 0, .int .i64 0, .int .i64 0]) (T := 76) (V := fun b => .pointer (some ⟨b, 0, none⟩)) (r_alloc Ty.zv76 rfl) ?_)
  intro b9 w10 e11 h12 u13
  have h14 := md_ob M8 nin0 hv
  have l15 : ub < b9 := by rw [e11]; exact lt_ob h14
  have l16 : b1 < b9 := by rw [e11]; exact lt_ob h4
  have g17 : w.heap.size ≤ b9 := by rw [e11]; exact M8.size
  have M18 := Mod.trans M8 (Mod.of_up u13)
  refine was (v := .bool false) ?_
  refine was (v := .int .i64 0) ?_
  refine wnil (then_n (wp_seq (wp_seq (rg_lit ?_))))
  have h19 := (up_ob u13 h4)
  refine wl (sv rfl (v := opV o (.slice oA on oc)) (r_loads (k := 0) (by kernel_rfl) Ty.ag38 Ty.sz38 h19 (by kernel_rfl)) ?_)
  refine wl (sc rfl (r_callv (caps := []) (all := [opV o (.slice oA on oc)]) En.f25 (by kernel_rfl) (by kernel_rfl)) (r15right_any o oA on oc hon hs _) ?_)
  rintro e w20 ⟨rfl, u21⟩
  refine ⟨.bool ((rightB o)), rfl, ?_⟩
  have M22 := Mod.trans M18 (Mod.of_up u21)
  refine wl (sv rfl (v := .bool (!((rightB o)))) (r_not (b := ((rightB o))) (by kernel_rfl)) ?_)
  refine wnil (then_n ?_)
  refine bcase ((rightB o)) (fun v23 => ?_) (fun v23 => ?_)
  ·
   refine wp_cond_true (ebool (b := !((rightB o))) (by kernel_rfl) (bneg v23)) ?_
   refine wp_seq (rg_lit ?_)
   refine wl (sv rfl (v := .agg #[.int .i64 0, .int .i64 0, .int .i64 0, .int .i64 0, .string (⟨#[]⟩), .bool false, .bool false, .slice none 0 0, .int .i64 0, .int .i64 0]) (r_build (ps := []) (cs := [.int .i64 0, .int .i64 0, .int .i64 0, .int .i64 0, .string (⟨#[]⟩), .bool false, .bool false, .slice none 0 0, .int .i64 0, .int .i64 0]) Ty.un76 Ty.zv76 Ty.pl76 (by kernel_rfl) (by kernel_rfl)) ?_)
   have h24 := (up_ob u21 h12)
   refine wl (ss rfl (k := 0) (v := .agg #[.int .i64 0, .int .i64 0, .int .i64 0, .int .i64 0, .string (⟨#[]⟩), .bool false, .bool false, .slice none 0 0, .int .i64 0, .int .i64 0]) (vs := [.int .i64 0, .int .i64 0, .int .i64 0, .int .i64 0, .string (⟨#[]⟩), .bool false, .bool false, .slice none 0 0, .int .i64 0, .int .i64 0]) (cs' := [.int .i64 0, .int .i64 0, .int .i64 0, .int .i64 0, .string (⟨#[]⟩), .bool false, .bool false, .slice none 0 0, .int .i64 0, .int .i64 0]) (by kernel_rfl) (by kernel_rfl) rfl Ty.sz76 h24 rfl (Nat.le_of_ble_eq_true rfl) rfl ?_)
   intro w25 h26 c27
   have M28 := Mod.trans' M22 c27 (fun i hi => by injection hi with hi; rw [← hi]; exact g17)
   refine was (v := .bool false) ?_
   refine was (v := .int .i64 1) ?_
   refine wnil (then_n (wp_ret (then_x (by nofun) ?_)))
   refine bodyPost_ret (v := .tuple #[.agg #[.int .i64 0, .int .i64 0, .int .i64 0, .int .i64 0, .string (⟨#[]⟩), .bool false, .bool false, .slice none 0 0, .int .i64 0, .int .i64 0], .bool false, .int .i64 1]) (res3 rfl (rv_c (p := ⟨b9, 0, none⟩) (by kernel_rfl) (run_loadVars (vs := [.int .i64 0, .int .i64 0, .int .i64 0, .int .i64 0, .string (⟨#[]⟩), .bool false, .bool false, .slice none 0 0, .int .i64 0, .int .i64 0]) Ty.ag76 Ty.sz76 h26 (by kernel_rfl))) (rv_t (by kernel_rfl)) (rv_t (by kernel_rfl))) (by kernel_rfl) ?_
   have h30 := (RIs.up h (Mod.up M28))
   have f29 : (rightB o) = false := v23
   have E : doI L o = ((nilI, false, 1), L) := by simp [doI, nowI, f29]
   rw [E]
   exact ⟨.slice none 0 0, rfl, (Dat.nil B _), h30, (to_chg (Mod.up M28) ub)⟩
  refine wp_cond_false (ebool (b := !((rightB o))) (by kernel_rfl) (bneg v23)) ?_
  refine wp_skip (then_n (wp_seq (rg_lit ?_)))
  refine wmv (v := .pointer (some ⟨ub, 0, none⟩)) ?_
  refine wl (sv rfl (v := .pointer (some ⟨b1, 3, none⟩)) (r_fieldAddr (u := .pointer (some ⟨b1, 0, none⟩)) (by kernel_rfl) (fun _ => (by kernel_rfl))) ?_)
  have h24 := (up_ob u21 h19)
  refine wl (sv rfl (v := .agg #[.int .i64 o.node.t, .int .i64 o.node.w]) (r_loads (k := 3) (by kernel_rfl) Ty.ag35 Ty.sz35 h24 (by kernel_rfl)) ?_)
  have h25 := (RIs.up h (Mod.up M22))
  refine wl (sc rfl (r_callv (caps := []) (all := [.pointer (some ⟨ub, 0, none⟩), .agg #[.int .i64 o.node.t, .int .i64 o.node.w]]) En.f50 (by kernel_rfl) (by kernel_rfl)) (rget_at h25 o.node.t o.node.w) ?_)
  rintro e w26 ⟨d26, rfl, hD26, hU26⟩
  obtain ⟨dA26, dn26, dc26, rfl⟩ := hD26.form
  obtain ⟨x26, hx26⟩ : ∃ x, gotI L ⟨o.node.t, o.node.w⟩ = x := ⟨_, rfl⟩
  rw [hx26] at hD26
  refine ⟨.tuple #[itV x26 (.slice dA26 dn26 dc26), .bool ((hasI L ⟨o.node.t, o.node.w⟩))], by rw [hx26] <;> rfl, ?_⟩
  have M27 := Mod.trans M22 (Mod.of_up hU26)
  refine wmv (v := .tuple #[itV x26 (.slice dA26 dn26 dc26), .bool ((hasI L ⟨o.node.t, o.node.w⟩))]) ?_
  refine wl (sv rfl (v := itV x26 (.slice dA26 dn26 dc26)) (r_extract (vs := [itV x26 (.slice dA26 dn26 dc26), .bool ((hasI L ⟨o.node.t, o.node.w⟩))]) (by kernel_rfl) rfl) ?_)
  refine wl (sv rfl (v := .bool ((hasI L ⟨o.node.t, o.node.w⟩))) (r_extract (vs := [itV x26 (.slice dA26 dn26 dc26), .bool ((hasI L ⟨o.node.t, o.node.w⟩))]) (by kernel_rfl) rfl) ?_)
  refine wl (sn rfl (cs := #[.int .i64 0, .int .i64 0, .int .i64 0, .int .i64 0, .string (⟨#[]⟩), .bool false, .bool false, .slice none 0 0, .int .i64 0, .int .i64 0]) (T := 76) (V := fun b => .pointer (some ⟨b, 0, none⟩)) (r_alloc Ty.zv76 rfl) ?_)
  intro b28 w29 e30 h31 u32
  have h33 := md_ob M27 nin0 hv
  have l34 : ub < b28 := by rw [e30]; exact lt_ob h33
  have h35 := (up_ob hU26 h24)
  have l36 : b1 < b28 := by rw [e30]; exact lt_ob h35
  have h37 := (up_ob hU26 (up_ob u21 h12))
  have l38 : b9 < b28 := by rw [e30]; exact lt_ob h37
  have g39 : w.heap.size ≤ b28 := by rw [e30]; exact M27.size
  have M40 := Mod.trans M27 (Mod.of_up u32)
  refine wl (ss rfl (k := 0) (v := itV x26 (.slice dA26 dn26 dc26)) (vs := (itC x26 (.slice dA26 dn26 dc26))) (cs' := (itC x26 (.slice dA26 dn26 dc26))) (by kernel_rfl) (by kernel_rfl) rfl Ty.sz76 h31 rfl (Nat.le_of_ble_eq_true rfl) rfl ?_)
  intro w41 h42 c43
  have M44 := Mod.trans' M40 c43 (fun i hi => by injection hi with hi; rw [← hi]; exact g39)
  refine was (v := .bool ((hasI L ⟨o.node.t, o.node.w⟩))) ?_
  refine wnil (then_n (wp_seq (rg_lit ?_)))
  refine wl (sv rfl (v := itV x26 (.slice dA26 dn26 dc26)) (r_loads (k := 0) (by kernel_rfl) Ty.ag76 Ty.sz76 h42 (by kernel_rfl)) ?_)
  refine wl (sn rfl (cs := #[.int .i64 0, .int .i64 0, .int .i64 0, .int .i64 0, .string (⟨#[]⟩), .bool false, .bool false, .slice none 0 0, .int .i64 0, .int .i64 0]) (T := 76) (V := fun b => .pointer (some ⟨b, 0, none⟩)) (r_alloc Ty.zv76 rfl) ?_)
  intro b45 w46 e47 h48 u49
  have h50 := md_ob M44 nin0 hv
  have l51 : ub < b45 := by rw [e47]; exact lt_ob h50
  have h52 := (chg_ob c43 (Nat.ne_of_lt l36) (up_ob u32 h35))
  have l53 : b1 < b45 := by rw [e47]; exact lt_ob h52
  have h54 := (chg_ob c43 (Nat.ne_of_lt l38) (up_ob u32 h37))
  have l55 : b9 < b45 := by rw [e47]; exact lt_ob h54
  have l56 : b28 < b45 := by rw [e47]; exact lt_ob h42
  have g57 : w.heap.size ≤ b45 := by rw [e47]; exact M44.size
  have M58 := Mod.trans M44 (Mod.of_up u49)
  refine wl (ss rfl (k := 0) (v := itV x26 (.slice dA26 dn26 dc26)) (vs := (itC x26 (.slice dA26 dn26 dc26))) (cs' := (itC x26 (.slice dA26 dn26 dc26))) (by kernel_rfl) (by kernel_rfl) rfl Ty.sz76 h48 rfl (Nat.le_of_ble_eq_true rfl) rfl ?_)
  intro w59 h60 c61
  have M62 := Mod.trans' M58 c61 (fun i hi => by injection hi with hi; rw [← hi]; exact g57)
  refine wnil (then_n (wp_seq (wp_seq (rg_lit ?_))))
  refine wl (sv rfl (v := .pointer (some ⟨b1, 0, none⟩)) (r_fieldAddr (u := .pointer (some ⟨b1, 0, none⟩)) (by kernel_rfl) (fun _ => (by kernel_rfl))) ?_)
  have h63 := (chg_ob c61 (Nat.ne_of_lt l53) (up_ob u49 h52))
  refine wl (sv rfl (v := .int .i64 o.kind) (r_load (k := 0) (by kernel_rfl) Ty.ag3 h63 (by kernel_rfl)) ?_)
  refine wnil (then_n (wp_block (wp_seq (rg_lit ?_))))
  refine wl (sb rfl (r_eq (k := .i64) (m := o.kind) (n := 1) (by kernel_rfl) (by kernel_rfl)) ?_)
  intro b64 k65
  refine was (v := .bool b64) ?_
  refine wnil (then_n ?_)
  refine bcase b64 (fun v66 => ?_) (fun v66 => ?_)
  ·
   have p67 := of_decide_eq_false (k65.trans v66)
   refine wp_cond_false (ebool (b := b64) (by kernel_rfl) v66) ?_
   refine wp_seq (rg_lit ?_)
   refine wl (sb rfl (r_eq (k := .i64) (m := o.kind) (n := 2) (by kernel_rfl) (by kernel_rfl)) ?_)
   intro b68 k69
   refine was (v := .bool b68) ?_
   refine wnil (then_n ?_)
   refine bcase b68 (fun v70 => ?_) (fun v70 => ?_)
   ·
    have p71 := of_decide_eq_false (k69.trans v70)
    refine wp_cond_false (ebool (b := b68) (by kernel_rfl) v70) ?_
    refine wp_seq (rg_lit ?_)
    refine wl (sb rfl (r_eq (k := .i64) (m := o.kind) (n := 3) (by kernel_rfl) (by kernel_rfl)) ?_)
    intro b72 k73
    refine was (v := .bool b72) ?_
    refine wnil (then_n ?_)
    refine bcase b72 (fun v74 => ?_) (fun v74 => ?_)
    ·
     have p75 := of_decide_eq_false (k73.trans v74)
     refine wp_cond_false (ebool (b := b72) (by kernel_rfl) v74) ?_
     refine wp_seq (rg_lit ?_)
     refine wl (sb rfl (r_eq (k := .i64) (m := o.kind) (n := 4) (by kernel_rfl) (by kernel_rfl)) ?_)
     intro b76 k77
     refine was (v := .bool b76) ?_
     refine wnil (then_n ?_)
     refine bcase b76 (fun v78 => ?_) (fun v78 => ?_)
     ·
      have p79 := of_decide_eq_false (k77.trans v78)
      rcases right_kinds v23 with e | e | e | e
      · exact absurd e p67
      · exact absurd e p71
      · exact absurd e p75
      · exact absurd e p79
     have p79 := of_decide_eq_true (k77.trans v78)
     refine wp_cond_true (ebool (b := b76) (by kernel_rfl) v78) ?_
     refine wp_seq (wp_seq (rg_lit ?_))
     refine wmv (v := .bool ((hasI L ⟨o.node.t, o.node.w⟩))) ?_
     refine wl (sv rfl (v := .bool (!((hasI L ⟨o.node.t, o.node.w⟩)))) (r_not (b := ((hasI L ⟨o.node.t, o.node.w⟩))) (by kernel_rfl)) ?_)
     refine wmv (v := .bool (!((hasI L ⟨o.node.t, o.node.w⟩)))) ?_
     refine bcase ((hasI L ⟨o.node.t, o.node.w⟩)) (fun v80 => ?_) (fun v80 => ?_)
     ·
      refine wl (sp (wf (b := !((hasI L ⟨o.node.t, o.node.w⟩))) rfl (by kernel_rfl) (bneg v80)) ?_)
      refine wl (sp (wf (b := !((hasI L ⟨o.node.t, o.node.w⟩))) rfl (by kernel_rfl) (bneg v80)) ?_)
      refine wl (sv rfl (v := .bool true) (r_pkT (ebool (b := !((hasI L ⟨o.node.t, o.node.w⟩))) (by kernel_rfl) (bneg v80)) (by kernel_rfl)) ?_)
      refine wnil (then_n ?_)
      refine wp_cond_true (by kernel_rfl) ?_
      refine wp_seq (rg_lit ?_)
      have h81 := (chg_ob c61 (Nat.ne_of_lt l56) (up_ob u49 h42))
      refine wl (sv rfl (v := itV x26 (.slice dA26 dn26 dc26)) (r_loads (k := 0) (by kernel_rfl) Ty.ag76 Ty.sz76 h81 (by kernel_rfl)) ?_)
      refine wmv (v := .bool ((hasI L ⟨o.node.t, o.node.w⟩))) ?_
      have h82 := (chg_ob c61 (Nat.ne_of_lt l55) (up_ob u49 h54))
      refine wl (ss rfl (k := 0) (v := itV x26 (.slice dA26 dn26 dc26)) (vs := (itC x26 (.slice dA26 dn26 dc26))) (cs' := (itC x26 (.slice dA26 dn26 dc26))) (by kernel_rfl) (by kernel_rfl) rfl Ty.sz76 h82 rfl (Nat.le_of_ble_eq_true rfl) rfl ?_)
      intro w83 h84 c85
      have M86 := Mod.trans' M62 c85 (fun i hi => by injection hi with hi; rw [← hi]; exact g17)
      refine was (v := .bool ((hasI L ⟨o.node.t, o.node.w⟩))) ?_
      refine was (v := .int .i64 0) ?_
      refine wnil (then_n (wp_ret (then_x (by nofun) (inb_r (then_x (by nofun) ?_)))))
      refine bodyPost_ret (v := .tuple #[itV x26 (.slice dA26 dn26 dc26), .bool ((hasI L ⟨o.node.t, o.node.w⟩)), .int .i64 0]) (res3 rfl (rv_c (p := ⟨b9, 0, none⟩) (by kernel_rfl) (run_loadVars (vs := (itC x26 (.slice dA26 dn26 dc26))) Ty.ag76 Ty.sz76 h84 (by kernel_rfl))) (rv_t (by kernel_rfl)) (rv_t (by kernel_rfl))) (by kernel_rfl) ?_
      have h95 := (Dat.chg (Dat.chg (Dat.up (Dat.chg (Dat.up hD26 u32) c43 ⟨(Nat.le_trans hB g39), NotU8.of h31 (by decide)⟩) u49) c61 ⟨(Nat.le_trans hB g57), NotU8.of h48 (by decide)⟩) c85 ⟨(Nat.le_trans hB g17), NotU8.of h82 (by decide)⟩)
      have h96 := (RIs.up h (Mod.up M86))
      have f87 : (rightB o) = true := v23
      have f88 : ¬ (o.kind = 1) := p67
      have f89 : ¬ (o.kind = 2) := p71
      have f90 : ¬ (o.kind = 3) := p75
      have f91 : o.kind = 4 := p79
      have f92 : (hasI L o.node) = false := v80
      have f93 : gotI L o.node = x26 := hx26
      have f94 : ¬ x26.node = o.node := by rw [← f93]; exact got_not f92 f87
      have E : doI L o = ((x26, ((hasI L o.node)), 0), L) := by simp [doI, nowI, f87, f88, f89, f90, f91, f92, f93, f94]
      rw [E]
      exact ⟨.slice dA26 dn26 dc26, rfl, h95, h96, (to_chg (Mod.up M86) ub)⟩
     refine wl (sv (wt (b := !((hasI L ⟨o.node.t, o.node.w⟩))) rfl (by kernel_rfl) (bneg v80)) (v := .pointer (some ⟨b28, 5, none⟩)) (r_fieldAddr (u := .pointer (some ⟨b28, 0, none⟩)) (by kernel_rfl) (fun _ => (by kernel_rfl))) ?_)
     have h81 := (chg_ob c61 (Nat.ne_of_lt l56) (up_ob u49 h42))
     refine wl (sv (wt (b := !((hasI L ⟨o.node.t, o.node.w⟩))) rfl (by kernel_rfl) (bneg v80)) (v := .bool x26.dir) (r_load (k := 5) (by kernel_rfl) Ty.ag4 h81 (by kernel_rfl)) ?_)
     refine wl (sv rfl (v := .bool x26.dir) (r_pkF (ebool (b := !((hasI L ⟨o.node.t, o.node.w⟩))) (by kernel_rfl) (bneg v80)) (by kernel_rfl)) ?_)
     refine wnil (then_n ?_)
     refine bcase x26.dir (fun v82 => ?_) (fun v82 => ?_)
     ·
      refine wp_cond_false (ebool (b := x26.dir) (by kernel_rfl) v82) ?_
      refine wp_skip (then_n (wp_seq (rg_lit ?_)))
      refine wl (sv rfl (v := .pointer (some ⟨b1, 9, none⟩)) (r_fieldAddr (u := .pointer (some ⟨b1, 0, none⟩)) (by kernel_rfl) (fun _ => (by kernel_rfl))) ?_)
      refine wl (sv rfl (v := .slice oA on oc) (r_load (k := 9) (by kernel_rfl) Ty.ag36 h63 (by kernel_rfl)) ?_)
      refine wl (sv rfl (v := .pointer (some ⟨b45, 7, none⟩)) (r_fieldAddr (u := .pointer (some ⟨b45, 0, none⟩)) (by kernel_rfl) (fun _ => (by kernel_rfl))) ?_)
      refine wl (ss rfl (k := 7) (v := .slice oA on oc) (vs := [.slice oA on oc]) (cs' := (itC x26 (.slice oA on oc))) (by kernel_rfl) (by kernel_rfl) rfl Ty.sz36 h60 rfl (Nat.le_of_ble_eq_true rfl) rfl ?_)
      intro w83 h84 c85
      have M86 := Mod.trans' M62 c85 (fun i hi => by injection hi with hi; rw [← hi]; exact g57)
      refine wnil (then_n (rg_lit ?_))
      refine wl (sv rfl (v := .pointer (some ⟨b1, 1, none⟩)) (r_fieldAddr (u := .pointer (some ⟨b1, 0, none⟩)) (by kernel_rfl) (fun _ => (by kernel_rfl))) ?_)
      have h87 := (chg_ob c85 (Nat.ne_of_lt l53) h63)
      refine wl (sv rfl (v := .agg #[.int .i64 o.at_.t, .int .i64 o.at_.w]) (r_loads (k := 1) (by kernel_rfl) Ty.ag35 Ty.sz35 h87 (by kernel_rfl)) ?_)
      refine wl (sv rfl (v := .pointer (some ⟨b45, 8, none⟩)) (r_fieldAddr (u := .pointer (some ⟨b45, 0, none⟩)) (by kernel_rfl) (fun _ => (by kernel_rfl))) ?_)
      refine wl (ss rfl (k := 8) (v := .agg #[.int .i64 o.at_.t, .int .i64 o.at_.w]) (vs := [.int .i64 o.at_.t, .int .i64 o.at_.w]) (cs' := [.int .i64 x26.node.t, .int .i64 x26.node.w, .int .i64 x26.parent.t, .int .i64 x26.parent.w, .string x26.name, .bool x26.dir, .bool x26.gone, .slice oA on oc, .int .i64 o.at_.t, .int .i64 o.at_.w]) (by kernel_rfl) (by kernel_rfl) rfl Ty.sz35 h84 rfl (Nat.le_of_ble_eq_true rfl) rfl ?_)
      intro w88 h89 c90
      have M91 := Mod.trans' M86 c90 (fun i hi => by injection hi with hi; rw [← hi]; exact g57)
      refine wnil (inb_n (then_n (wp_seq (rg_lit ?_))))
      refine wmv (v := .pointer (some ⟨ub, 0, none⟩)) ?_
      refine wl (sv rfl (v := .agg #[.int .i64 x26.node.t, .int .i64 x26.node.w, .int .i64 x26.parent.t, .int .i64 x26.parent.w, .string x26.name, .bool x26.dir, .bool x26.gone, .slice oA on oc, .int .i64 o.at_.t, .int .i64 o.at_.w]) (r_loads (k := 0) (by kernel_rfl) Ty.ag76 Ty.sz76 h89 (by kernel_rfl)) ?_)
      have h92 := (RIs.up h (Mod.up M91))
      have hN93 : setI (⟨⟨x26.node.t, x26.node.w⟩, ⟨x26.parent.t, x26.parent.w⟩, x26.name, x26.dir, x26.gone, o.data, ⟨o.at_.t, o.at_.w⟩⟩ : Item) true L = putI ⟨⟨x26.node.t, x26.node.w⟩, ⟨x26.parent.t, x26.parent.w⟩, x26.name, x26.dir, x26.gone, o.data, ⟨o.at_.t, o.at_.w⟩⟩ L := setI_true hsrt
      have hl93 : (setI (⟨⟨x26.node.t, x26.node.w⟩, ⟨x26.parent.t, x26.parent.w⟩, x26.name, x26.dir, x26.gone, o.data, ⟨o.at_.t, o.at_.w⟩⟩ : Item) true L).length ≤ 300 := by rw [hN93]; exact (putI_len_has (it := ⟨⟨x26.node.t, x26.node.w⟩, ⟨x26.parent.t, x26.parent.w⟩, x26.name, x26.dir, x26.gone, o.data, ⟨o.at_.t, o.at_.w⟩⟩) hsrt (show hasI L x26.node = true from by rw [← hx26, gotI_node v80]; exact v80) hL)
      have h94 := md_ob M91 nin0 hv
      have h95 := (chg_ob c90 (Nat.ne_of_lt l53) h87)
      have h96 := (chg_ob c90 (Nat.ne_of_lt l55) (chg_ob c85 (Nat.ne_of_lt l55) (chg_ob c61 (Nat.ne_of_lt l55) (up_ob u49 h54))))
      have h97 := (chg_ob c90 (Nat.ne_of_lt l56) (chg_ob c85 (Nat.ne_of_lt l56) h81))
      have h98 := (Dat.up hDo (Mod.up M91))
      refine wl (sc rfl (r_callv (caps := []) (all := [.pointer (some ⟨ub, 0, none⟩), .agg #[.int .i64 x26.node.t, .int .i64 x26.node.w, .int .i64 x26.parent.t, .int .i64 x26.parent.w, .string x26.name, .bool x26.dir, .bool x26.gone, .slice oA on oc, .int .i64 o.at_.t, .int .i64 o.at_.w], .bool true]) En.f53 (by kernel_rfl) (by kernel_rfl)) (rset_at h92 (Nat.le_trans hB M91.size) ⟨⟨x26.node.t, x26.node.w⟩, ⟨x26.parent.t, x26.parent.w⟩, x26.name, x26.dir, x26.gone, o.data, ⟨o.at_.t, o.at_.w⟩⟩ oA on oc h98 true hl93) ?_)
      rintro e w93 ⟨rfl, hR93, hC93⟩
      refine ⟨.tuple #[], rfl, ?_⟩
      have M99 := md_old M91 hC93
      refine wnil (then_n (wp_seq (rg_lit ?_)))
      have h100 := (chg_ob hC93 (Nat.ne_of_gt l34) h97)
      refine wl (sv rfl (v := itV x26 (.slice dA26 dn26 dc26)) (r_loads (k := 0) (by kernel_rfl) Ty.ag76 Ty.sz76 h100 (by kernel_rfl)) ?_)
      refine wmv (v := .bool ((hasI L ⟨o.node.t, o.node.w⟩))) ?_
      have h101 := (chg_ob hC93 (Nat.ne_of_gt l15) h96)
      refine wl (ss rfl (k := 0) (v := itV x26 (.slice dA26 dn26 dc26)) (vs := (itC x26 (.slice dA26 dn26 dc26))) (cs' := (itC x26 (.slice dA26 dn26 dc26))) (by kernel_rfl) (by kernel_rfl) rfl Ty.sz76 h101 rfl (Nat.le_of_ble_eq_true rfl) rfl ?_)
      intro w102 h103 c104
      have M105 := Mod.trans' M99 c104 (fun i hi => by injection hi with hi; rw [← hi]; exact g17)
      refine was (v := .bool ((hasI L ⟨o.node.t, o.node.w⟩))) ?_
      refine was (v := .int .i64 0) ?_
      refine wnil (then_n (wp_ret ?_))
      refine bodyPost_ret (v := .tuple #[itV x26 (.slice dA26 dn26 dc26), .bool ((hasI L ⟨o.node.t, o.node.w⟩)), .int .i64 0]) (res3 rfl (rv_c (p := ⟨b9, 0, none⟩) (by kernel_rfl) (run_loadVars (vs := (itC x26 (.slice dA26 dn26 dc26))) Ty.ag76 Ty.sz76 h103 (by kernel_rfl))) (rv_t (by kernel_rfl)) (rv_t (by kernel_rfl))) (by kernel_rfl) ?_
      have h115 := (RIb.chg hR93 c104 ⟨(Nat.le_trans hB g17), NotU8.of h101 (by decide)⟩ (Nat.ne_of_lt l15) (lt_ob h96))
      have h116 := (Dat.chg (Dat.chg (Dat.chg (Dat.chg (Dat.chg (Dat.up (Dat.chg (Dat.up hD26 u32) c43 ⟨(Nat.le_trans hB g39), NotU8.of h31 (by decide)⟩) u49) c61 ⟨(Nat.le_trans hB g57), NotU8.of h48 (by decide)⟩) c85 ⟨(Nat.le_trans hB g57), NotU8.of h60 (by decide)⟩) c90 ⟨(Nat.le_trans hB g57), NotU8.of h84 (by decide)⟩) hC93 ⟨huub, NotU8.of h94 (by decide)⟩) c104 ⟨(Nat.le_trans hB g17), NotU8.of h101 (by decide)⟩)
      have f106 : (rightB o) = true := v23
      have f107 : ¬ (o.kind = 1) := p67
      have f108 : ¬ (o.kind = 2) := p71
      have f109 : ¬ (o.kind = 3) := p75
      have f110 : o.kind = 4 := p79
      have f111 : (hasI L o.node) = true := v80
      have f112 : x26.dir = false := v82
      have f113 : gotI L o.node = x26 := hx26
      have f114 : x26.node = o.node := by rw [← f113]; exact gotI_node f111
      rw [hN93] at h115
      have E : doI L o = ((x26, ((hasI L o.node)), 0), putI ⟨⟨x26.node.t, x26.node.w⟩, ⟨x26.parent.t, x26.parent.w⟩, x26.name, x26.dir, x26.gone, o.data, ⟨o.at_.t, o.at_.w⟩⟩ L) := by simp [doI, nowI, f106, f107, f108, f109, f110, f111, f112, f113, f114]; first | done | rfl
      rw [E]
      exact ⟨.slice dA26 dn26 dc26, rfl, h116, (RIb.ris h115 (Nat.le_trans hB M91.size)), (Mod.chg M105)⟩
     refine wp_cond_true (ebool (b := x26.dir) (by kernel_rfl) v82) ?_
     refine wp_seq (rg_lit ?_)
     refine wl (sv rfl (v := itV x26 (.slice dA26 dn26 dc26)) (r_loads (k := 0) (by kernel_rfl) Ty.ag76 Ty.sz76 h81 (by kernel_rfl)) ?_)
     refine wmv (v := .bool ((hasI L ⟨o.node.t, o.node.w⟩))) ?_
     have h83 := (chg_ob c61 (Nat.ne_of_lt l55) (up_ob u49 h54))
     refine wl (ss rfl (k := 0) (v := itV x26 (.slice dA26 dn26 dc26)) (vs := (itC x26 (.slice dA26 dn26 dc26))) (cs' := (itC x26 (.slice dA26 dn26 dc26))) (by kernel_rfl) (by kernel_rfl) rfl Ty.sz76 h83 rfl (Nat.le_of_ble_eq_true rfl) rfl ?_)
     intro w84 h85 c86
     have M87 := Mod.trans' M62 c86 (fun i hi => by injection hi with hi; rw [← hi]; exact g17)
     refine was (v := .bool ((hasI L ⟨o.node.t, o.node.w⟩))) ?_
     refine was (v := .int .i64 0) ?_
     refine wnil (then_n (wp_ret (then_x (by nofun) (inb_r (then_x (by nofun) ?_)))))
     refine bodyPost_ret (v := .tuple #[itV x26 (.slice dA26 dn26 dc26), .bool ((hasI L ⟨o.node.t, o.node.w⟩)), .int .i64 0]) (res3 rfl (rv_c (p := ⟨b9, 0, none⟩) (by kernel_rfl) (run_loadVars (vs := (itC x26 (.slice dA26 dn26 dc26))) Ty.ag76 Ty.sz76 h85 (by kernel_rfl))) (rv_t (by kernel_rfl)) (rv_t (by kernel_rfl))) (by kernel_rfl) ?_
     have h97 := (Dat.chg (Dat.chg (Dat.up (Dat.chg (Dat.up hD26 u32) c43 ⟨(Nat.le_trans hB g39), NotU8.of h31 (by decide)⟩) u49) c61 ⟨(Nat.le_trans hB g57), NotU8.of h48 (by decide)⟩) c86 ⟨(Nat.le_trans hB g17), NotU8.of h83 (by decide)⟩)
     have h98 := (RIs.up h (Mod.up M87))
     have f88 : (rightB o) = true := v23
     have f89 : ¬ (o.kind = 1) := p67
     have f90 : ¬ (o.kind = 2) := p71
     have f91 : ¬ (o.kind = 3) := p75
     have f92 : o.kind = 4 := p79
     have f93 : (hasI L o.node) = true := v80
     have f94 : x26.dir = true := v82
     have f95 : gotI L o.node = x26 := hx26
     have f96 : x26.node = o.node := by rw [← f95]; exact gotI_node f93
     have E : doI L o = ((x26, ((hasI L o.node)), 0), L) := by simp [doI, nowI, f88, f89, f90, f91, f92, f93, f94, f95, f96]
     rw [E]
     exact ⟨.slice dA26 dn26 dc26, rfl, h97, h98, (to_chg (Mod.up M87) ub)⟩
    have p75 := of_decide_eq_true (k73.trans v74)
    refine wp_cond_true (ebool (b := b72) (by kernel_rfl) v74) ?_
    refine wp_seq (wp_seq (rg_lit ?_))
    refine wmv (v := .bool ((hasI L ⟨o.node.t, o.node.w⟩))) ?_
    refine wl (sv rfl (v := .bool (!((hasI L ⟨o.node.t, o.node.w⟩)))) (r_not (b := ((hasI L ⟨o.node.t, o.node.w⟩))) (by kernel_rfl)) ?_)
    refine wnil (then_n ?_)
    refine bcase ((hasI L ⟨o.node.t, o.node.w⟩)) (fun v76 => ?_) (fun v76 => ?_)
    ·
     refine wp_cond_true (ebool (b := !((hasI L ⟨o.node.t, o.node.w⟩))) (by kernel_rfl) (bneg v76)) ?_
     refine wp_seq (rg_lit ?_)
     have h77 := (chg_ob c61 (Nat.ne_of_lt l56) (up_ob u49 h42))
     refine wl (sv rfl (v := itV x26 (.slice dA26 dn26 dc26)) (r_loads (k := 0) (by kernel_rfl) Ty.ag76 Ty.sz76 h77 (by kernel_rfl)) ?_)
     refine wmv (v := .bool ((hasI L ⟨o.node.t, o.node.w⟩))) ?_
     have h78 := (chg_ob c61 (Nat.ne_of_lt l55) (up_ob u49 h54))
     refine wl (ss rfl (k := 0) (v := itV x26 (.slice dA26 dn26 dc26)) (vs := (itC x26 (.slice dA26 dn26 dc26))) (cs' := (itC x26 (.slice dA26 dn26 dc26))) (by kernel_rfl) (by kernel_rfl) rfl Ty.sz76 h78 rfl (Nat.le_of_ble_eq_true rfl) rfl ?_)
     intro w79 h80 c81
     have M82 := Mod.trans' M62 c81 (fun i hi => by injection hi with hi; rw [← hi]; exact g17)
     refine was (v := .bool ((hasI L ⟨o.node.t, o.node.w⟩))) ?_
     refine was (v := .int .i64 0) ?_
     refine wnil (then_n (wp_ret (then_x (by nofun) (inb_r (then_x (by nofun) ?_)))))
     refine bodyPost_ret (v := .tuple #[itV x26 (.slice dA26 dn26 dc26), .bool ((hasI L ⟨o.node.t, o.node.w⟩)), .int .i64 0]) (res3 rfl (rv_c (p := ⟨b9, 0, none⟩) (by kernel_rfl) (run_loadVars (vs := (itC x26 (.slice dA26 dn26 dc26))) Ty.ag76 Ty.sz76 h80 (by kernel_rfl))) (rv_t (by kernel_rfl)) (rv_t (by kernel_rfl))) (by kernel_rfl) ?_
     have h90 := (Dat.chg (Dat.chg (Dat.up (Dat.chg (Dat.up hD26 u32) c43 ⟨(Nat.le_trans hB g39), NotU8.of h31 (by decide)⟩) u49) c61 ⟨(Nat.le_trans hB g57), NotU8.of h48 (by decide)⟩) c81 ⟨(Nat.le_trans hB g17), NotU8.of h78 (by decide)⟩)
     have h91 := (RIs.up h (Mod.up M82))
     have f83 : (rightB o) = true := v23
     have f84 : ¬ (o.kind = 1) := p67
     have f85 : ¬ (o.kind = 2) := p71
     have f86 : o.kind = 3 := p75
     have f87 : (hasI L o.node) = false := v76
     have f88 : gotI L o.node = x26 := hx26
     have f89 : ¬ x26.node = o.node := by rw [← f88]; exact got_not f87 f83
     have E : doI L o = ((x26, ((hasI L o.node)), 0), L) := by simp [doI, nowI, f83, f84, f85, f86, f87, f88, f89]
     rw [E]
     exact ⟨.slice dA26 dn26 dc26, rfl, h90, h91, (to_chg (Mod.up M82) ub)⟩
    refine wp_cond_false (ebool (b := !((hasI L ⟨o.node.t, o.node.w⟩))) (by kernel_rfl) (bneg v76)) ?_
    refine wp_skip (then_n (rg_lit ?_))
    refine wl (sv rfl (v := .pointer (some ⟨b45, 6, none⟩)) (r_fieldAddr (u := .pointer (some ⟨b45, 0, none⟩)) (by kernel_rfl) (fun _ => (by kernel_rfl))) ?_)
    refine wl (ss rfl (k := 6) (v := .bool true) (vs := [.bool true]) (cs' := [.int .i64 x26.node.t, .int .i64 x26.node.w, .int .i64 x26.parent.t, .int .i64 x26.parent.w, .string x26.name, .bool x26.dir, .bool true, .slice dA26 dn26 dc26, .int .i64 x26.by_.t, .int .i64 x26.by_.w]) (by kernel_rfl) (by kernel_rfl) rfl Ty.sz4 h60 rfl (Nat.le_of_ble_eq_true rfl) rfl ?_)
    intro w77 h78 c79
    have M80 := Mod.trans' M62 c79 (fun i hi => by injection hi with hi; rw [← hi]; exact g57)
    refine wnil (inb_n (then_n (wp_seq (rg_lit ?_))))
    refine wmv (v := .pointer (some ⟨ub, 0, none⟩)) ?_
    refine wl (sv rfl (v := .agg #[.int .i64 x26.node.t, .int .i64 x26.node.w, .int .i64 x26.parent.t, .int .i64 x26.parent.w, .string x26.name, .bool x26.dir, .bool true, .slice dA26 dn26 dc26, .int .i64 x26.by_.t, .int .i64 x26.by_.w]) (r_loads (k := 0) (by kernel_rfl) Ty.ag76 Ty.sz76 h78 (by kernel_rfl)) ?_)
    have h81 := (RIs.up h (Mod.up M80))
    have hN82 : setI (⟨⟨x26.node.t, x26.node.w⟩, ⟨x26.parent.t, x26.parent.w⟩, x26.name, x26.dir, true, x26.data, ⟨x26.by_.t, x26.by_.w⟩⟩ : Item) true L = putI ⟨⟨x26.node.t, x26.node.w⟩, ⟨x26.parent.t, x26.parent.w⟩, x26.name, x26.dir, true, x26.data, ⟨x26.by_.t, x26.by_.w⟩⟩ L := setI_true hsrt
    have hl82 : (setI (⟨⟨x26.node.t, x26.node.w⟩, ⟨x26.parent.t, x26.parent.w⟩, x26.name, x26.dir, true, x26.data, ⟨x26.by_.t, x26.by_.w⟩⟩ : Item) true L).length ≤ 300 := by rw [hN82]; exact (putI_len_has (it := ⟨⟨x26.node.t, x26.node.w⟩, ⟨x26.parent.t, x26.parent.w⟩, x26.name, x26.dir, true, x26.data, ⟨x26.by_.t, x26.by_.w⟩⟩) hsrt (show hasI L x26.node = true from by rw [← hx26, gotI_node v76]; exact v76) hL)
    have h83 := md_ob M80 nin0 hv
    have h84 := (chg_ob c79 (Nat.ne_of_lt l53) h63)
    have h85 := (chg_ob c79 (Nat.ne_of_lt l55) (chg_ob c61 (Nat.ne_of_lt l55) (up_ob u49 h54)))
    have h86 := (chg_ob c79 (Nat.ne_of_lt l56) (chg_ob c61 (Nat.ne_of_lt l56) (up_ob u49 h42)))
    have h87 := (Dat.chg (Dat.chg (Dat.up (Dat.chg (Dat.up hD26 u32) c43 ⟨(Nat.le_trans hB g39), NotU8.of h31 (by decide)⟩) u49) c61 ⟨(Nat.le_trans hB g57), NotU8.of h48 (by decide)⟩) c79 ⟨(Nat.le_trans hB g57), NotU8.of h60 (by decide)⟩)
    refine wl (sc rfl (r_callv (caps := []) (all := [.pointer (some ⟨ub, 0, none⟩), .agg #[.int .i64 x26.node.t, .int .i64 x26.node.w, .int .i64 x26.parent.t, .int .i64 x26.parent.w, .string x26.name, .bool x26.dir, .bool true, .slice dA26 dn26 dc26, .int .i64 x26.by_.t, .int .i64 x26.by_.w], .bool true]) En.f53 (by kernel_rfl) (by kernel_rfl)) (rset_at h81 (Nat.le_trans hB M80.size) ⟨⟨x26.node.t, x26.node.w⟩, ⟨x26.parent.t, x26.parent.w⟩, x26.name, x26.dir, true, x26.data, ⟨x26.by_.t, x26.by_.w⟩⟩ dA26 dn26 dc26 h87 true hl82) ?_)
    rintro e w82 ⟨rfl, hR82, hC82⟩
    refine ⟨.tuple #[], rfl, ?_⟩
    have M88 := md_old M80 hC82
    refine wnil (then_n (wp_seq (rg_lit ?_)))
    have h89 := (chg_ob hC82 (Nat.ne_of_gt l34) h86)
    refine wl (sv rfl (v := itV x26 (.slice dA26 dn26 dc26)) (r_loads (k := 0) (by kernel_rfl) Ty.ag76 Ty.sz76 h89 (by kernel_rfl)) ?_)
    refine wmv (v := .bool ((hasI L ⟨o.node.t, o.node.w⟩))) ?_
    have h90 := (chg_ob hC82 (Nat.ne_of_gt l15) h85)
    refine wl (ss rfl (k := 0) (v := itV x26 (.slice dA26 dn26 dc26)) (vs := (itC x26 (.slice dA26 dn26 dc26))) (cs' := (itC x26 (.slice dA26 dn26 dc26))) (by kernel_rfl) (by kernel_rfl) rfl Ty.sz76 h90 rfl (Nat.le_of_ble_eq_true rfl) rfl ?_)
    intro w91 h92 c93
    have M94 := Mod.trans' M88 c93 (fun i hi => by injection hi with hi; rw [← hi]; exact g17)
    refine was (v := .bool ((hasI L ⟨o.node.t, o.node.w⟩))) ?_
    refine was (v := .int .i64 0) ?_
    refine wnil (then_n (wp_ret ?_))
    refine bodyPost_ret (v := .tuple #[itV x26 (.slice dA26 dn26 dc26), .bool ((hasI L ⟨o.node.t, o.node.w⟩)), .int .i64 0]) (res3 rfl (rv_c (p := ⟨b9, 0, none⟩) (by kernel_rfl) (run_loadVars (vs := (itC x26 (.slice dA26 dn26 dc26))) Ty.ag76 Ty.sz76 h92 (by kernel_rfl))) (rv_t (by kernel_rfl)) (rv_t (by kernel_rfl))) (by kernel_rfl) ?_
    have h102 := (RIb.chg hR82 c93 ⟨(Nat.le_trans hB g17), NotU8.of h90 (by decide)⟩ (Nat.ne_of_lt l15) (lt_ob h85))
    have h103 := (Dat.chg (Dat.chg h87 hC82 ⟨huub, NotU8.of h83 (by decide)⟩) c93 ⟨(Nat.le_trans hB g17), NotU8.of h90 (by decide)⟩)
    have f95 : (rightB o) = true := v23
    have f96 : ¬ (o.kind = 1) := p67
    have f97 : ¬ (o.kind = 2) := p71
    have f98 : o.kind = 3 := p75
    have f99 : (hasI L o.node) = true := v76
    have f100 : gotI L o.node = x26 := hx26
    have f101 : x26.node = o.node := by rw [← f100]; exact gotI_node f99
    rw [hN82] at h102
    have E : doI L o = ((x26, ((hasI L o.node)), 0), putI ⟨⟨x26.node.t, x26.node.w⟩, ⟨x26.parent.t, x26.parent.w⟩, x26.name, x26.dir, true, x26.data, ⟨x26.by_.t, x26.by_.w⟩⟩ L) := by simp [doI, nowI, f95, f96, f97, f98, f99, f100, f101]; first | done | rfl
    rw [E]
    exact ⟨.slice dA26 dn26 dc26, rfl, h103, (RIb.ris h102 (Nat.le_trans hB M80.size)), (Mod.chg M94)⟩
   have p71 := of_decide_eq_true (k69.trans v70)
   refine wp_cond_true (ebool (b := b68) (by kernel_rfl) v70) ?_
   refine wp_seq (wp_seq (rg_lit ?_))
   refine wmv (v := .bool ((hasI L ⟨o.node.t, o.node.w⟩))) ?_
   refine wl (sv rfl (v := .bool (!((hasI L ⟨o.node.t, o.node.w⟩)))) (r_not (b := ((hasI L ⟨o.node.t, o.node.w⟩))) (by kernel_rfl)) ?_)
   refine wmv (v := .bool (!((hasI L ⟨o.node.t, o.node.w⟩)))) ?_
   refine bcase ((hasI L ⟨o.node.t, o.node.w⟩)) (fun v72 => ?_) (fun v72 => ?_)
   ·
    refine wl (sp (wf (b := !((hasI L ⟨o.node.t, o.node.w⟩))) rfl (by kernel_rfl) (bneg v72)) ?_)
    refine wl (sp (wf (b := !((hasI L ⟨o.node.t, o.node.w⟩))) rfl (by kernel_rfl) (bneg v72)) ?_)
    refine wl (sp (wf (b := !((hasI L ⟨o.node.t, o.node.w⟩))) rfl (by kernel_rfl) (bneg v72)) ?_)
    refine wl (sp (wf (b := !((hasI L ⟨o.node.t, o.node.w⟩))) rfl (by kernel_rfl) (bneg v72)) ?_)
    refine wl (sp (wf (b := !((hasI L ⟨o.node.t, o.node.w⟩))) rfl (by kernel_rfl) (bneg v72)) ?_)
    refine wl (sv rfl (v := .bool true) (r_pkT (ebool (b := !((hasI L ⟨o.node.t, o.node.w⟩))) (by kernel_rfl) (bneg v72)) (by kernel_rfl)) ?_)
    refine wmv (v := .bool true) ?_
    refine wsp ?_
    refine wsp ?_
    refine wsp ?_
    refine wsp ?_
    refine wsp ?_
    refine wsp ?_
    refine wl (sv rfl (v := .bool true) (r_pkT (by kernel_rfl) (by kernel_rfl)) ?_)
    refine wnil (then_n ?_)
    refine wp_cond_true (by kernel_rfl) ?_
    refine wp_seq (rg_lit ?_)
    have h73 := (chg_ob c61 (Nat.ne_of_lt l56) (up_ob u49 h42))
    refine wl (sv rfl (v := itV x26 (.slice dA26 dn26 dc26)) (r_loads (k := 0) (by kernel_rfl) Ty.ag76 Ty.sz76 h73 (by kernel_rfl)) ?_)
    refine wmv (v := .bool ((hasI L ⟨o.node.t, o.node.w⟩))) ?_
    have h74 := (chg_ob c61 (Nat.ne_of_lt l55) (up_ob u49 h54))
    refine wl (ss rfl (k := 0) (v := itV x26 (.slice dA26 dn26 dc26)) (vs := (itC x26 (.slice dA26 dn26 dc26))) (cs' := (itC x26 (.slice dA26 dn26 dc26))) (by kernel_rfl) (by kernel_rfl) rfl Ty.sz76 h74 rfl (Nat.le_of_ble_eq_true rfl) rfl ?_)
    intro w75 h76 c77
    have M78 := Mod.trans' M62 c77 (fun i hi => by injection hi with hi; rw [← hi]; exact g17)
    refine was (v := .bool ((hasI L ⟨o.node.t, o.node.w⟩))) ?_
    refine was (v := .int .i64 0) ?_
    refine wnil (then_n (wp_ret (then_x (by nofun) (inb_r (then_x (by nofun) ?_)))))
    refine bodyPost_ret (v := .tuple #[itV x26 (.slice dA26 dn26 dc26), .bool ((hasI L ⟨o.node.t, o.node.w⟩)), .int .i64 0]) (res3 rfl (rv_c (p := ⟨b9, 0, none⟩) (by kernel_rfl) (run_loadVars (vs := (itC x26 (.slice dA26 dn26 dc26))) Ty.ag76 Ty.sz76 h76 (by kernel_rfl))) (rv_t (by kernel_rfl)) (rv_t (by kernel_rfl))) (by kernel_rfl) ?_
    have h85 := (Dat.chg (Dat.chg (Dat.up (Dat.chg (Dat.up hD26 u32) c43 ⟨(Nat.le_trans hB g39), NotU8.of h31 (by decide)⟩) u49) c61 ⟨(Nat.le_trans hB g57), NotU8.of h48 (by decide)⟩) c77 ⟨(Nat.le_trans hB g17), NotU8.of h74 (by decide)⟩)
    have h86 := (RIs.up h (Mod.up M78))
    have f79 : (rightB o) = true := v23
    have f80 : ¬ (o.kind = 1) := p67
    have f81 : o.kind = 2 := p71
    have f82 : (hasI L o.node) = false := v72
    have f83 : gotI L o.node = x26 := hx26
    have f84 : ¬ x26.node = o.node := by rw [← f83]; exact got_not f82 f79
    have E : doI L o = ((x26, ((hasI L o.node)), 0), L) := by simp [doI, nowI, f79, f80, f81, f82, f83, f84]
    rw [E]
    exact ⟨.slice dA26 dn26 dc26, rfl, h85, h86, (to_chg (Mod.up M78) ub)⟩
   refine wl (sv (wt (b := !((hasI L ⟨o.node.t, o.node.w⟩))) rfl (by kernel_rfl) (bneg v72)) (v := .pointer (some ⟨ub, 0, none⟩)) (r_move (by kernel_rfl)) ?_)
   refine wl (sv (wt (b := !((hasI L ⟨o.node.t, o.node.w⟩))) rfl (by kernel_rfl) (bneg v72)) (v := .pointer (some ⟨b1, 5, none⟩)) (r_fieldAddr (u := .pointer (some ⟨b1, 0, none⟩)) (by kernel_rfl) (fun _ => (by kernel_rfl))) ?_)
   refine wl (sv (wt (b := !((hasI L ⟨o.node.t, o.node.w⟩))) rfl (by kernel_rfl) (bneg v72)) (v := .agg #[.int .i64 o.parent.t, .int .i64 o.parent.w]) (r_loads (k := 5) (by kernel_rfl) Ty.ag35 Ty.sz35 h63 (by kernel_rfl)) ?_)
   have h73 := (RIs.up h (Mod.up M62))
   refine wl (sc (wt (b := !((hasI L ⟨o.node.t, o.node.w⟩))) rfl (by kernel_rfl) (bneg v72)) (r_callv (caps := []) (all := [.pointer (some ⟨ub, 0, none⟩), .agg #[.int .i64 o.parent.t, .int .i64 o.parent.w]]) En.f51 (by kernel_rfl) (by kernel_rfl)) (rdir_at h73 o.parent.t o.parent.w) ?_)
   rintro e w74 ⟨rfl, u75⟩
   refine ⟨.bool ((dirI L ⟨o.parent.t, o.parent.w⟩)), rfl, ?_⟩
   have M76 := Mod.trans M62 (Mod.of_up u75)
   refine wl (sv (wt (b := !((hasI L ⟨o.node.t, o.node.w⟩))) rfl (by kernel_rfl) (bneg v72)) (v := .bool (!((dirI L ⟨o.parent.t, o.parent.w⟩)))) (r_not (b := ((dirI L ⟨o.parent.t, o.parent.w⟩))) (by kernel_rfl)) ?_)
   refine wl (sv rfl (v := .bool (!((dirI L ⟨o.parent.t, o.parent.w⟩)))) (r_pkF (ebool (b := !((hasI L ⟨o.node.t, o.node.w⟩))) (by kernel_rfl) (bneg v72)) (by kernel_rfl)) ?_)
   refine wmv (v := .bool (!((dirI L ⟨o.parent.t, o.parent.w⟩)))) ?_
   refine bcase ((dirI L ⟨o.parent.t, o.parent.w⟩)) (fun v77 => ?_) (fun v77 => ?_)
   ·
    refine wl (sp (wf (b := !((dirI L ⟨o.parent.t, o.parent.w⟩))) rfl (by kernel_rfl) (bneg v77)) ?_)
    refine wl (sp (wf (b := !((dirI L ⟨o.parent.t, o.parent.w⟩))) rfl (by kernel_rfl) (bneg v77)) ?_)
    refine wl (sp (wf (b := !((dirI L ⟨o.parent.t, o.parent.w⟩))) rfl (by kernel_rfl) (bneg v77)) ?_)
    refine wl (sp (wf (b := !((dirI L ⟨o.parent.t, o.parent.w⟩))) rfl (by kernel_rfl) (bneg v77)) ?_)
    refine wl (sp (wf (b := !((dirI L ⟨o.parent.t, o.parent.w⟩))) rfl (by kernel_rfl) (bneg v77)) ?_)
    refine wl (sp (wf (b := !((dirI L ⟨o.parent.t, o.parent.w⟩))) rfl (by kernel_rfl) (bneg v77)) ?_)
    refine wl (sv rfl (v := .bool true) (r_pkT (ebool (b := !((dirI L ⟨o.parent.t, o.parent.w⟩))) (by kernel_rfl) (bneg v77)) (by kernel_rfl)) ?_)
    refine wnil (then_n ?_)
    refine wp_cond_true (by kernel_rfl) ?_
    refine wp_seq (rg_lit ?_)
    have h78 := (up_ob u75 (chg_ob c61 (Nat.ne_of_lt l56) (up_ob u49 h42)))
    refine wl (sv rfl (v := itV x26 (.slice dA26 dn26 dc26)) (r_loads (k := 0) (by kernel_rfl) Ty.ag76 Ty.sz76 h78 (by kernel_rfl)) ?_)
    refine wmv (v := .bool ((hasI L ⟨o.node.t, o.node.w⟩))) ?_
    have h79 := (up_ob u75 (chg_ob c61 (Nat.ne_of_lt l55) (up_ob u49 h54)))
    refine wl (ss rfl (k := 0) (v := itV x26 (.slice dA26 dn26 dc26)) (vs := (itC x26 (.slice dA26 dn26 dc26))) (cs' := (itC x26 (.slice dA26 dn26 dc26))) (by kernel_rfl) (by kernel_rfl) rfl Ty.sz76 h79 rfl (Nat.le_of_ble_eq_true rfl) rfl ?_)
    intro w80 h81 c82
    have M83 := Mod.trans' M76 c82 (fun i hi => by injection hi with hi; rw [← hi]; exact g17)
    refine was (v := .bool ((hasI L ⟨o.node.t, o.node.w⟩))) ?_
    refine was (v := .int .i64 0) ?_
    refine wnil (then_n (wp_ret (then_x (by nofun) (inb_r (then_x (by nofun) ?_)))))
    refine bodyPost_ret (v := .tuple #[itV x26 (.slice dA26 dn26 dc26), .bool ((hasI L ⟨o.node.t, o.node.w⟩)), .int .i64 0]) (res3 rfl (rv_c (p := ⟨b9, 0, none⟩) (by kernel_rfl) (run_loadVars (vs := (itC x26 (.slice dA26 dn26 dc26))) Ty.ag76 Ty.sz76 h81 (by kernel_rfl))) (rv_t (by kernel_rfl)) (rv_t (by kernel_rfl))) (by kernel_rfl) ?_
    have h91 := (Dat.chg (Dat.up (Dat.chg (Dat.up (Dat.chg (Dat.up hD26 u32) c43 ⟨(Nat.le_trans hB g39), NotU8.of h31 (by decide)⟩) u49) c61 ⟨(Nat.le_trans hB g57), NotU8.of h48 (by decide)⟩) u75) c82 ⟨(Nat.le_trans hB g17), NotU8.of h79 (by decide)⟩)
    have h92 := (RIs.up h (Mod.up M83))
    have f84 : (rightB o) = true := v23
    have f85 : ¬ (o.kind = 1) := p67
    have f86 : o.kind = 2 := p71
    have f87 : (hasI L o.node) = true := v72
    have f88 : (dirI L o.parent) = false := v77
    have f89 : gotI L o.node = x26 := hx26
    have f90 : x26.node = o.node := by rw [← f89]; exact gotI_node f87
    have E : doI L o = ((x26, ((hasI L o.node)), 0), L) := by simp [doI, nowI, f84, f85, f86, f87, f88, f89, f90]
    rw [E]
    exact ⟨.slice dA26 dn26 dc26, rfl, h91, h92, (to_chg (Mod.up M83) ub)⟩
   refine wl (sv (wt (b := !((dirI L ⟨o.parent.t, o.parent.w⟩))) rfl (by kernel_rfl) (bneg v77)) (v := .pointer (some ⟨ub, 0, none⟩)) (r_move (by kernel_rfl)) ?_)
   refine wl (sv (wt (b := !((dirI L ⟨o.parent.t, o.parent.w⟩))) rfl (by kernel_rfl) (bneg v77)) (v := .pointer (some ⟨b1, 3, none⟩)) (r_fieldAddr (u := .pointer (some ⟨b1, 0, none⟩)) (by kernel_rfl) (fun _ => (by kernel_rfl))) ?_)
   have h78 := (up_ob u75 h63)
   refine wl (sv (wt (b := !((dirI L ⟨o.parent.t, o.parent.w⟩))) rfl (by kernel_rfl) (bneg v77)) (v := .agg #[.int .i64 o.node.t, .int .i64 o.node.w]) (r_loads (k := 3) (by kernel_rfl) Ty.ag35 Ty.sz35 h78 (by kernel_rfl)) ?_)
   refine wl (sv (wt (b := !((dirI L ⟨o.parent.t, o.parent.w⟩))) rfl (by kernel_rfl) (bneg v77)) (v := .pointer (some ⟨b1, 5, none⟩)) (r_fieldAddr (u := .pointer (some ⟨b1, 0, none⟩)) (by kernel_rfl) (fun _ => (by kernel_rfl))) ?_)
   refine wl (sv (wt (b := !((dirI L ⟨o.parent.t, o.parent.w⟩))) rfl (by kernel_rfl) (bneg v77)) (v := .agg #[.int .i64 o.parent.t, .int .i64 o.parent.w]) (r_loads (k := 5) (by kernel_rfl) Ty.ag35 Ty.sz35 h78 (by kernel_rfl)) ?_)
   have h79 := (RIs.up h (Mod.up M76))
   refine wl (sc (wt (b := !((dirI L ⟨o.parent.t, o.parent.w⟩))) rfl (by kernel_rfl) (bneg v77)) (r_callv (caps := []) (all := [.pointer (some ⟨ub, 0, none⟩), .agg #[.int .i64 o.node.t, .int .i64 o.node.w], .agg #[.int .i64 o.parent.t, .int .i64 o.parent.w]]) En.f52 (by kernel_rfl) (by kernel_rfl)) (rwithin_at h79 o.node.t o.node.w o.parent.t o.parent.w) ?_)
   rintro e w80 ⟨rfl, u81⟩
   refine ⟨.bool ((withinI L ⟨o.node.t, o.node.w⟩ 301 ⟨o.parent.t, o.parent.w⟩)), rfl, ?_⟩
   have M82 := Mod.trans M76 (Mod.of_up u81)
   refine wl (sv rfl (v := .bool ((withinI L ⟨o.node.t, o.node.w⟩ 301 ⟨o.parent.t, o.parent.w⟩))) (r_pkF (ebool (b := !((dirI L ⟨o.parent.t, o.parent.w⟩))) (by kernel_rfl) (bneg v77)) (by kernel_rfl)) ?_)
   refine wnil (then_n ?_)
   refine bcase ((withinI L ⟨o.node.t, o.node.w⟩ 301 ⟨o.parent.t, o.parent.w⟩)) (fun v83 => ?_) (fun v83 => ?_)
   ·
    refine wp_cond_false (ebool (b := (withinI L ⟨o.node.t, o.node.w⟩ 301 ⟨o.parent.t, o.parent.w⟩)) (by kernel_rfl) v83) ?_
    refine wp_skip (then_n (wp_seq (rg_lit ?_)))
    refine wl (sv rfl (v := .pointer (some ⟨b1, 5, none⟩)) (r_fieldAddr (u := .pointer (some ⟨b1, 0, none⟩)) (by kernel_rfl) (fun _ => (by kernel_rfl))) ?_)
    have h84 := (up_ob u81 h78)
    refine wl (sv rfl (v := .agg #[.int .i64 o.parent.t, .int .i64 o.parent.w]) (r_loads (k := 5) (by kernel_rfl) Ty.ag35 Ty.sz35 h84 (by kernel_rfl)) ?_)
    refine wl (sv rfl (v := .pointer (some ⟨b45, 2, none⟩)) (r_fieldAddr (u := .pointer (some ⟨b45, 0, none⟩)) (by kernel_rfl) (fun _ => (by kernel_rfl))) ?_)
    have h85 := (up_ob u81 (up_ob u75 h60))
    refine wl (ss rfl (k := 2) (v := .agg #[.int .i64 o.parent.t, .int .i64 o.parent.w]) (vs := [.int .i64 o.parent.t, .int .i64 o.parent.w]) (cs' := [.int .i64 x26.node.t, .int .i64 x26.node.w, .int .i64 o.parent.t, .int .i64 o.parent.w, .string x26.name, .bool x26.dir, .bool x26.gone, .slice dA26 dn26 dc26, .int .i64 x26.by_.t, .int .i64 x26.by_.w]) (by kernel_rfl) (by kernel_rfl) rfl Ty.sz35 h85 rfl (Nat.le_of_ble_eq_true rfl) rfl ?_)
    intro w86 h87 c88
    have M89 := Mod.trans' M82 c88 (fun i hi => by injection hi with hi; rw [← hi]; exact g57)
    refine wnil (then_n (wp_seq (rg_lit ?_)))
    refine wl (sv rfl (v := .pointer (some ⟨b1, 8, none⟩)) (r_fieldAddr (u := .pointer (some ⟨b1, 0, none⟩)) (by kernel_rfl) (fun _ => (by kernel_rfl))) ?_)
    have h90 := (chg_ob c88 (Nat.ne_of_lt l53) h84)
    refine wl (sv rfl (v := .string o.name) (r_load (k := 8) (by kernel_rfl) Ty.ag9 h90 (by kernel_rfl)) ?_)
    refine wl (sv rfl (v := .pointer (some ⟨b45, 4, none⟩)) (r_fieldAddr (u := .pointer (some ⟨b45, 0, none⟩)) (by kernel_rfl) (fun _ => (by kernel_rfl))) ?_)
    refine wl (ss rfl (k := 4) (v := .string o.name) (vs := [.string o.name]) (cs' := [.int .i64 x26.node.t, .int .i64 x26.node.w, .int .i64 o.parent.t, .int .i64 o.parent.w, .string o.name, .bool x26.dir, .bool x26.gone, .slice dA26 dn26 dc26, .int .i64 x26.by_.t, .int .i64 x26.by_.w]) (by kernel_rfl) (by kernel_rfl) rfl Ty.sz9 h87 rfl (Nat.le_of_ble_eq_true rfl) rfl ?_)
    intro w91 h92 c93
    have M94 := Mod.trans' M89 c93 (fun i hi => by injection hi with hi; rw [← hi]; exact g57)
    refine wnil (then_n (rg_lit ?_))
    refine wl (sv rfl (v := .pointer (some ⟨b45, 6, none⟩)) (r_fieldAddr (u := .pointer (some ⟨b45, 0, none⟩)) (by kernel_rfl) (fun _ => (by kernel_rfl))) ?_)
    refine wl (ss rfl (k := 6) (v := .bool false) (vs := [.bool false]) (cs' := [.int .i64 x26.node.t, .int .i64 x26.node.w, .int .i64 o.parent.t, .int .i64 o.parent.w, .string o.name, .bool x26.dir, .bool false, .slice dA26 dn26 dc26, .int .i64 x26.by_.t, .int .i64 x26.by_.w]) (by kernel_rfl) (by kernel_rfl) rfl Ty.sz4 h92 rfl (Nat.le_of_ble_eq_true rfl) rfl ?_)
    intro w95 h96 c97
    have M98 := Mod.trans' M94 c97 (fun i hi => by injection hi with hi; rw [← hi]; exact g57)
    refine wnil (inb_n (then_n (wp_seq (rg_lit ?_))))
    refine wmv (v := .pointer (some ⟨ub, 0, none⟩)) ?_
    refine wl (sv rfl (v := .agg #[.int .i64 x26.node.t, .int .i64 x26.node.w, .int .i64 o.parent.t, .int .i64 o.parent.w, .string o.name, .bool x26.dir, .bool false, .slice dA26 dn26 dc26, .int .i64 x26.by_.t, .int .i64 x26.by_.w]) (r_loads (k := 0) (by kernel_rfl) Ty.ag76 Ty.sz76 h96 (by kernel_rfl)) ?_)
    have h99 := (RIs.up h (Mod.up M98))
    have hN100 : setI (⟨⟨x26.node.t, x26.node.w⟩, ⟨o.parent.t, o.parent.w⟩, o.name, x26.dir, false, x26.data, ⟨x26.by_.t, x26.by_.w⟩⟩ : Item) true L = putI ⟨⟨x26.node.t, x26.node.w⟩, ⟨o.parent.t, o.parent.w⟩, o.name, x26.dir, false, x26.data, ⟨x26.by_.t, x26.by_.w⟩⟩ L := setI_true hsrt
    have hl100 : (setI (⟨⟨x26.node.t, x26.node.w⟩, ⟨o.parent.t, o.parent.w⟩, o.name, x26.dir, false, x26.data, ⟨x26.by_.t, x26.by_.w⟩⟩ : Item) true L).length ≤ 300 := by rw [hN100]; exact (putI_len_has (it := ⟨⟨x26.node.t, x26.node.w⟩, ⟨o.parent.t, o.parent.w⟩, o.name, x26.dir, false, x26.data, ⟨x26.by_.t, x26.by_.w⟩⟩) hsrt (show hasI L x26.node = true from by rw [← hx26, gotI_node v72]; exact v72) hL)
    have h101 := md_ob M98 nin0 hv
    have h102 := (chg_ob c97 (Nat.ne_of_lt l53) (chg_ob c93 (Nat.ne_of_lt l53) h90))
    have h103 := (chg_ob c97 (Nat.ne_of_lt l55) (chg_ob c93 (Nat.ne_of_lt l55) (chg_ob c88 (Nat.ne_of_lt l55) (up_ob u81 (up_ob u75 (chg_ob c61 (Nat.ne_of_lt l55) (up_ob u49 h54)))))))
    have h104 := (chg_ob c97 (Nat.ne_of_lt l56) (chg_ob c93 (Nat.ne_of_lt l56) (chg_ob c88 (Nat.ne_of_lt l56) (up_ob u81 (up_ob u75 (chg_ob c61 (Nat.ne_of_lt l56) (up_ob u49 h42)))))))
    have h105 := (Dat.chg (Dat.chg (Dat.chg (Dat.up (Dat.up (Dat.chg (Dat.up (Dat.chg (Dat.up hD26 u32) c43 ⟨(Nat.le_trans hB g39), NotU8.of h31 (by decide)⟩) u49) c61 ⟨(Nat.le_trans hB g57), NotU8.of h48 (by decide)⟩) u75) u81) c88 ⟨(Nat.le_trans hB g57), NotU8.of h85 (by decide)⟩) c93 ⟨(Nat.le_trans hB g57), NotU8.of h87 (by decide)⟩) c97 ⟨(Nat.le_trans hB g57), NotU8.of h92 (by decide)⟩)
    refine wl (sc rfl (r_callv (caps := []) (all := [.pointer (some ⟨ub, 0, none⟩), .agg #[.int .i64 x26.node.t, .int .i64 x26.node.w, .int .i64 o.parent.t, .int .i64 o.parent.w, .string o.name, .bool x26.dir, .bool false, .slice dA26 dn26 dc26, .int .i64 x26.by_.t, .int .i64 x26.by_.w], .bool true]) En.f53 (by kernel_rfl) (by kernel_rfl)) (rset_at h99 (Nat.le_trans hB M98.size) ⟨⟨x26.node.t, x26.node.w⟩, ⟨o.parent.t, o.parent.w⟩, o.name, x26.dir, false, x26.data, ⟨x26.by_.t, x26.by_.w⟩⟩ dA26 dn26 dc26 h105 true hl100) ?_)
    rintro e w100 ⟨rfl, hR100, hC100⟩
    refine ⟨.tuple #[], rfl, ?_⟩
    have M106 := md_old M98 hC100
    refine wnil (then_n (wp_seq (rg_lit ?_)))
    have h107 := (chg_ob hC100 (Nat.ne_of_gt l34) h104)
    refine wl (sv rfl (v := itV x26 (.slice dA26 dn26 dc26)) (r_loads (k := 0) (by kernel_rfl) Ty.ag76 Ty.sz76 h107 (by kernel_rfl)) ?_)
    refine wmv (v := .bool ((hasI L ⟨o.node.t, o.node.w⟩))) ?_
    have h108 := (chg_ob hC100 (Nat.ne_of_gt l15) h103)
    refine wl (ss rfl (k := 0) (v := itV x26 (.slice dA26 dn26 dc26)) (vs := (itC x26 (.slice dA26 dn26 dc26))) (cs' := (itC x26 (.slice dA26 dn26 dc26))) (by kernel_rfl) (by kernel_rfl) rfl Ty.sz76 h108 rfl (Nat.le_of_ble_eq_true rfl) rfl ?_)
    intro w109 h110 c111
    have M112 := Mod.trans' M106 c111 (fun i hi => by injection hi with hi; rw [← hi]; exact g17)
    refine was (v := .bool ((hasI L ⟨o.node.t, o.node.w⟩))) ?_
    refine was (v := .int .i64 0) ?_
    refine wnil (then_n (wp_ret ?_))
    refine bodyPost_ret (v := .tuple #[itV x26 (.slice dA26 dn26 dc26), .bool ((hasI L ⟨o.node.t, o.node.w⟩)), .int .i64 0]) (res3 rfl (rv_c (p := ⟨b9, 0, none⟩) (by kernel_rfl) (run_loadVars (vs := (itC x26 (.slice dA26 dn26 dc26))) Ty.ag76 Ty.sz76 h110 (by kernel_rfl))) (rv_t (by kernel_rfl)) (rv_t (by kernel_rfl))) (by kernel_rfl) ?_
    have h121 := (RIb.chg hR100 c111 ⟨(Nat.le_trans hB g17), NotU8.of h108 (by decide)⟩ (Nat.ne_of_lt l15) (lt_ob h103))
    have h122 := (Dat.chg (Dat.chg h105 hC100 ⟨huub, NotU8.of h101 (by decide)⟩) c111 ⟨(Nat.le_trans hB g17), NotU8.of h108 (by decide)⟩)
    have f113 : (rightB o) = true := v23
    have f114 : ¬ (o.kind = 1) := p67
    have f115 : o.kind = 2 := p71
    have f116 : (hasI L o.node) = true := v72
    have f117 : (dirI L o.parent) = true := v77
    have f118 : (withinI L o.node 301 o.parent) = false := v83
    have f119 : gotI L o.node = x26 := hx26
    have f120 : x26.node = o.node := by rw [← f119]; exact gotI_node f116
    rw [hN100] at h121
    have E : doI L o = ((x26, ((hasI L o.node)), 0), putI ⟨⟨x26.node.t, x26.node.w⟩, ⟨o.parent.t, o.parent.w⟩, o.name, x26.dir, false, x26.data, ⟨x26.by_.t, x26.by_.w⟩⟩ L) := by simp [doI, nowI, f113, f114, f115, f116, f117, f118, f119, f120]; first | done | rfl
    rw [E]
    exact ⟨.slice dA26 dn26 dc26, rfl, h122, (RIb.ris h121 (Nat.le_trans hB M98.size)), (Mod.chg M112)⟩
   refine wp_cond_true (ebool (b := (withinI L ⟨o.node.t, o.node.w⟩ 301 ⟨o.parent.t, o.parent.w⟩)) (by kernel_rfl) v83) ?_
   refine wp_seq (rg_lit ?_)
   have h84 := (up_ob u81 (up_ob u75 (chg_ob c61 (Nat.ne_of_lt l56) (up_ob u49 h42))))
   refine wl (sv rfl (v := itV x26 (.slice dA26 dn26 dc26)) (r_loads (k := 0) (by kernel_rfl) Ty.ag76 Ty.sz76 h84 (by kernel_rfl)) ?_)
   refine wmv (v := .bool ((hasI L ⟨o.node.t, o.node.w⟩))) ?_
   have h85 := (up_ob u81 (up_ob u75 (chg_ob c61 (Nat.ne_of_lt l55) (up_ob u49 h54))))
   refine wl (ss rfl (k := 0) (v := itV x26 (.slice dA26 dn26 dc26)) (vs := (itC x26 (.slice dA26 dn26 dc26))) (cs' := (itC x26 (.slice dA26 dn26 dc26))) (by kernel_rfl) (by kernel_rfl) rfl Ty.sz76 h85 rfl (Nat.le_of_ble_eq_true rfl) rfl ?_)
   intro w86 h87 c88
   have M89 := Mod.trans' M82 c88 (fun i hi => by injection hi with hi; rw [← hi]; exact g17)
   refine was (v := .bool ((hasI L ⟨o.node.t, o.node.w⟩))) ?_
   refine was (v := .int .i64 0) ?_
   refine wnil (then_n (wp_ret (then_x (by nofun) (inb_r (then_x (by nofun) ?_)))))
   refine bodyPost_ret (v := .tuple #[itV x26 (.slice dA26 dn26 dc26), .bool ((hasI L ⟨o.node.t, o.node.w⟩)), .int .i64 0]) (res3 rfl (rv_c (p := ⟨b9, 0, none⟩) (by kernel_rfl) (run_loadVars (vs := (itC x26 (.slice dA26 dn26 dc26))) Ty.ag76 Ty.sz76 h87 (by kernel_rfl))) (rv_t (by kernel_rfl)) (rv_t (by kernel_rfl))) (by kernel_rfl) ?_
   have h98 := (Dat.chg (Dat.up (Dat.up (Dat.chg (Dat.up (Dat.chg (Dat.up hD26 u32) c43 ⟨(Nat.le_trans hB g39), NotU8.of h31 (by decide)⟩) u49) c61 ⟨(Nat.le_trans hB g57), NotU8.of h48 (by decide)⟩) u75) u81) c88 ⟨(Nat.le_trans hB g17), NotU8.of h85 (by decide)⟩)
   have h99 := (RIs.up h (Mod.up M89))
   have f90 : (rightB o) = true := v23
   have f91 : ¬ (o.kind = 1) := p67
   have f92 : o.kind = 2 := p71
   have f93 : (hasI L o.node) = true := v72
   have f94 : (dirI L o.parent) = true := v77
   have f95 : (withinI L o.node 301 o.parent) = true := v83
   have f96 : gotI L o.node = x26 := hx26
   have f97 : x26.node = o.node := by rw [← f96]; exact gotI_node f93
   have E : doI L o = ((x26, ((hasI L o.node)), 0), L) := by simp [doI, nowI, f90, f91, f92, f93, f94, f95, f96, f97]
   rw [E]
   exact ⟨.slice dA26 dn26 dc26, rfl, h98, h99, (to_chg (Mod.up M89) ub)⟩
  have p67 := of_decide_eq_true (k65.trans v66)
  refine wp_cond_true (ebool (b := b64) (by kernel_rfl) v66) ?_
  refine wp_seq (wp_seq (rg_lit ?_))
  refine wmv (v := .bool ((hasI L ⟨o.node.t, o.node.w⟩))) ?_
  refine wmv (v := .bool ((hasI L ⟨o.node.t, o.node.w⟩))) ?_
  refine bcase ((hasI L ⟨o.node.t, o.node.w⟩)) (fun v68 => ?_) (fun v68 => ?_)
  ·
   refine wl (sv (wt (b := (hasI L ⟨o.node.t, o.node.w⟩)) rfl (by kernel_rfl) v68) (v := .pointer (some ⟨ub, 0, none⟩)) (r_move (by kernel_rfl)) ?_)
   refine wl (sv (wt (b := (hasI L ⟨o.node.t, o.node.w⟩)) rfl (by kernel_rfl) v68) (v := .pointer (some ⟨b1, 5, none⟩)) (r_fieldAddr (u := .pointer (some ⟨b1, 0, none⟩)) (by kernel_rfl) (fun _ => (by kernel_rfl))) ?_)
   refine wl (sv (wt (b := (hasI L ⟨o.node.t, o.node.w⟩)) rfl (by kernel_rfl) v68) (v := .agg #[.int .i64 o.parent.t, .int .i64 o.parent.w]) (r_loads (k := 5) (by kernel_rfl) Ty.ag35 Ty.sz35 h63 (by kernel_rfl)) ?_)
   have h69 := (RIs.up h (Mod.up M62))
   refine wl (sc (wt (b := (hasI L ⟨o.node.t, o.node.w⟩)) rfl (by kernel_rfl) v68) (r_callv (caps := []) (all := [.pointer (some ⟨ub, 0, none⟩), .agg #[.int .i64 o.parent.t, .int .i64 o.parent.w]]) En.f51 (by kernel_rfl) (by kernel_rfl)) (rdir_at h69 o.parent.t o.parent.w) ?_)
   rintro e w70 ⟨rfl, u71⟩
   refine ⟨.bool ((dirI L ⟨o.parent.t, o.parent.w⟩)), rfl, ?_⟩
   have M72 := Mod.trans M62 (Mod.of_up u71)
   refine wl (sv (wt (b := (hasI L ⟨o.node.t, o.node.w⟩)) rfl (by kernel_rfl) v68) (v := .bool (!((dirI L ⟨o.parent.t, o.parent.w⟩)))) (r_not (b := ((dirI L ⟨o.parent.t, o.parent.w⟩))) (by kernel_rfl)) ?_)
   refine wl (sv rfl (v := .bool (!((dirI L ⟨o.parent.t, o.parent.w⟩)))) (r_pkF (ebool (b := (hasI L ⟨o.node.t, o.node.w⟩)) (by kernel_rfl) v68) (by kernel_rfl)) ?_)
   refine wnil (then_n ?_)
   refine bcase ((dirI L ⟨o.parent.t, o.parent.w⟩)) (fun v73 => ?_) (fun v73 => ?_)
   ·
    refine wp_cond_true (ebool (b := !((dirI L ⟨o.parent.t, o.parent.w⟩))) (by kernel_rfl) (bneg v73)) ?_
    refine wp_seq (rg_lit ?_)
    have h74 := (up_ob u71 (chg_ob c61 (Nat.ne_of_lt l56) (up_ob u49 h42)))
    refine wl (sv rfl (v := itV x26 (.slice dA26 dn26 dc26)) (r_loads (k := 0) (by kernel_rfl) Ty.ag76 Ty.sz76 h74 (by kernel_rfl)) ?_)
    refine wmv (v := .bool ((hasI L ⟨o.node.t, o.node.w⟩))) ?_
    have h75 := (up_ob u71 (chg_ob c61 (Nat.ne_of_lt l55) (up_ob u49 h54)))
    refine wl (ss rfl (k := 0) (v := itV x26 (.slice dA26 dn26 dc26)) (vs := (itC x26 (.slice dA26 dn26 dc26))) (cs' := (itC x26 (.slice dA26 dn26 dc26))) (by kernel_rfl) (by kernel_rfl) rfl Ty.sz76 h75 rfl (Nat.le_of_ble_eq_true rfl) rfl ?_)
    intro w76 h77 c78
    have M79 := Mod.trans' M72 c78 (fun i hi => by injection hi with hi; rw [← hi]; exact g17)
    refine was (v := .bool ((hasI L ⟨o.node.t, o.node.w⟩))) ?_
    refine was (v := .int .i64 0) ?_
    refine wnil (then_n (wp_ret (then_x (by nofun) (inb_r (then_x (by nofun) ?_)))))
    refine bodyPost_ret (v := .tuple #[itV x26 (.slice dA26 dn26 dc26), .bool ((hasI L ⟨o.node.t, o.node.w⟩)), .int .i64 0]) (res3 rfl (rv_c (p := ⟨b9, 0, none⟩) (by kernel_rfl) (run_loadVars (vs := (itC x26 (.slice dA26 dn26 dc26))) Ty.ag76 Ty.sz76 h77 (by kernel_rfl))) (rv_t (by kernel_rfl)) (rv_t (by kernel_rfl))) (by kernel_rfl) ?_
    have h86 := (Dat.chg (Dat.up (Dat.chg (Dat.up (Dat.chg (Dat.up hD26 u32) c43 ⟨(Nat.le_trans hB g39), NotU8.of h31 (by decide)⟩) u49) c61 ⟨(Nat.le_trans hB g57), NotU8.of h48 (by decide)⟩) u71) c78 ⟨(Nat.le_trans hB g17), NotU8.of h75 (by decide)⟩)
    have h87 := (RIs.up h (Mod.up M79))
    have f80 : (rightB o) = true := v23
    have f81 : o.kind = 1 := p67
    have f82 : (hasI L o.node) = false := v68
    have f83 : (dirI L o.parent) = false := v73
    have f84 : gotI L o.node = x26 := hx26
    have f85 : ¬ x26.node = o.node := by rw [← f84]; exact got_not f82 f80
    have E : doI L o = ((x26, ((hasI L o.node)), 0), L) := by simp [doI, nowI, f80, f81, f82, f83, f84, f85]
    rw [E]
    exact ⟨.slice dA26 dn26 dc26, rfl, h86, h87, (to_chg (Mod.up M79) ub)⟩
   refine wp_cond_false (ebool (b := !((dirI L ⟨o.parent.t, o.parent.w⟩))) (by kernel_rfl) (bneg v73)) ?_
   refine wp_skip (then_n (wp_seq (wp_seq (rg_lit ?_))))
   refine wmv (v := .pointer (some ⟨ub, 0, none⟩)) ?_
   refine wl (sv rfl (v := .pointer (some ⟨ub, 0, none⟩)) (r_nilCheck (by kernel_rfl)) ?_)
   refine wl (sv rfl (v := .pointer (some ⟨ub, 0, none⟩)) (r_fieldAddr (u := .pointer (some ⟨ub, 0, none⟩)) (by kernel_rfl) (fun _ => (by kernel_rfl))) ?_)
   have h74 := md_ob M72 nin0 hv
   refine wl (sv rfl (v := .slice lA L.length lc) (r_load (k := 0) (by kernel_rfl) Ty.ag47 h74 (by kernel_rfl)) ?_)
   refine wl (sv rfl (v := .int .i64 ((L.length : Int))) (r_len Ty.un47 (ad := lA) (n := L.length) (c := lc) (by kernel_rfl)) ?_)
   refine wl (sb rfl (r_ge (k := .i64) (m := ((L.length : Int))) (n := 300) (by kernel_rfl) (by kernel_rfl)) ?_)
   intro b75 k76
   refine wnil (then_n ?_)
   refine bcase b75 (fun v77 => ?_) (fun v77 => ?_)
   ·
    have p78 := of_decide_eq_false (k76.trans v77)
    refine wp_cond_false (ebool (b := b75) (by kernel_rfl) v77) ?_
    refine wp_skip (then_n (rg_lit ?_))
    refine wl (sv rfl (v := .pointer (some ⟨b1, 3, none⟩)) (r_fieldAddr (u := .pointer (some ⟨b1, 0, none⟩)) (by kernel_rfl) (fun _ => (by kernel_rfl))) ?_)
    have h79 := (up_ob u71 h63)
    refine wl (sv rfl (v := .agg #[.int .i64 o.node.t, .int .i64 o.node.w]) (r_loads (k := 3) (by kernel_rfl) Ty.ag35 Ty.sz35 h79 (by kernel_rfl)) ?_)
    refine wl (sv rfl (v := .pointer (some ⟨b1, 5, none⟩)) (r_fieldAddr (u := .pointer (some ⟨b1, 0, none⟩)) (by kernel_rfl) (fun _ => (by kernel_rfl))) ?_)
    refine wl (sv rfl (v := .agg #[.int .i64 o.parent.t, .int .i64 o.parent.w]) (r_loads (k := 5) (by kernel_rfl) Ty.ag35 Ty.sz35 h79 (by kernel_rfl)) ?_)
    refine wl (sv rfl (v := .pointer (some ⟨b1, 8, none⟩)) (r_fieldAddr (u := .pointer (some ⟨b1, 0, none⟩)) (by kernel_rfl) (fun _ => (by kernel_rfl))) ?_)
    refine wl (sv rfl (v := .string o.name) (r_load (k := 8) (by kernel_rfl) Ty.ag9 h79 (by kernel_rfl)) ?_)
    refine wl (sv rfl (v := .pointer (some ⟨b1, 7, none⟩)) (r_fieldAddr (u := .pointer (some ⟨b1, 0, none⟩)) (by kernel_rfl) (fun _ => (by kernel_rfl))) ?_)
    refine wl (sv rfl (v := .bool o.dir) (r_load (k := 7) (by kernel_rfl) Ty.ag4 h79 (by kernel_rfl)) ?_)
    refine wl (sv rfl (v := .agg #[.int .i64 o.node.t, .int .i64 o.node.w, .int .i64 o.parent.t, .int .i64 o.parent.w, .string o.name, .bool o.dir, .bool false, .slice none 0 0, .int .i64 0, .int .i64 0]) (r_build (ps := [(0, .agg #[.int .i64 o.node.t, .int .i64 o.node.w]), (1, .agg #[.int .i64 o.parent.t, .int .i64 o.parent.w]), (2, .string o.name), (3, .bool o.dir)]) (cs := [.int .i64 o.node.t, .int .i64 o.node.w, .int .i64 o.parent.t, .int .i64 o.parent.w, .string o.name, .bool o.dir, .bool false, .slice none 0 0, .int .i64 0, .int .i64 0]) Ty.un76 Ty.zv76 Ty.pl76 (by kernel_rfl) (by kernel_rfl)) ?_)
    have h80 := (up_ob u71 h60)
    refine wl (ss rfl (k := 0) (v := .agg #[.int .i64 o.node.t, .int .i64 o.node.w, .int .i64 o.parent.t, .int .i64 o.parent.w, .string o.name, .bool o.dir, .bool false, .slice none 0 0, .int .i64 0, .int .i64 0]) (vs := [.int .i64 o.node.t, .int .i64 o.node.w, .int .i64 o.parent.t, .int .i64 o.parent.w, .string o.name, .bool o.dir, .bool false, .slice none 0 0, .int .i64 0, .int .i64 0]) (cs' := [.int .i64 o.node.t, .int .i64 o.node.w, .int .i64 o.parent.t, .int .i64 o.parent.w, .string o.name, .bool o.dir, .bool false, .slice none 0 0, .int .i64 0, .int .i64 0]) (by kernel_rfl) (by kernel_rfl) rfl Ty.sz76 h80 rfl (Nat.le_of_ble_eq_true rfl) rfl ?_)
    intro w81 h82 c83
    have M84 := Mod.trans' M72 c83 (fun i hi => by injection hi with hi; rw [← hi]; exact g57)
    refine wnil (inb_n (then_n (wp_seq (rg_lit ?_))))
    refine wmv (v := .pointer (some ⟨ub, 0, none⟩)) ?_
    refine wl (sv rfl (v := .agg #[.int .i64 o.node.t, .int .i64 o.node.w, .int .i64 o.parent.t, .int .i64 o.parent.w, .string o.name, .bool o.dir, .bool false, .slice none 0 0, .int .i64 0, .int .i64 0]) (r_loads (k := 0) (by kernel_rfl) Ty.ag76 Ty.sz76 h82 (by kernel_rfl)) ?_)
    have h85 := (RIs.up h (Mod.up M84))
    have hN86 : setI (⟨⟨o.node.t, o.node.w⟩, ⟨o.parent.t, o.parent.w⟩, o.name, o.dir, false, [], ⟨0, 0⟩⟩ : Item) true L = putI ⟨⟨o.node.t, o.node.w⟩, ⟨o.parent.t, o.parent.w⟩, o.name, o.dir, false, [], ⟨0, 0⟩⟩ L := setI_true hsrt
    have hl86 : (setI (⟨⟨o.node.t, o.node.w⟩, ⟨o.parent.t, o.parent.w⟩, o.name, o.dir, false, [], ⟨0, 0⟩⟩ : Item) true L).length ≤ 300 := by rw [hN86]; exact (putI_len_new (it := ⟨⟨o.node.t, o.node.w⟩, ⟨o.parent.t, o.parent.w⟩, o.name, o.dir, false, [], ⟨0, 0⟩⟩) (by omega))
    have h87 := md_ob M84 nin0 hv
    have h88 := (chg_ob c83 (Nat.ne_of_lt l53) h79)
    have h89 := (chg_ob c83 (Nat.ne_of_lt l55) (up_ob u71 (chg_ob c61 (Nat.ne_of_lt l55) (up_ob u49 h54))))
    have h90 := (chg_ob c83 (Nat.ne_of_lt l56) (up_ob u71 (chg_ob c61 (Nat.ne_of_lt l56) (up_ob u49 h42))))
    refine wl (sc rfl (r_callv (caps := []) (all := [.pointer (some ⟨ub, 0, none⟩), .agg #[.int .i64 o.node.t, .int .i64 o.node.w, .int .i64 o.parent.t, .int .i64 o.parent.w, .string o.name, .bool o.dir, .bool false, .slice none 0 0, .int .i64 0, .int .i64 0], .bool true]) En.f53 (by kernel_rfl) (by kernel_rfl)) (rset_at h85 (Nat.le_trans hB M84.size) ⟨⟨o.node.t, o.node.w⟩, ⟨o.parent.t, o.parent.w⟩, o.name, o.dir, false, [], ⟨0, 0⟩⟩ none 0 0 (Dat.nil B _) true hl86) ?_)
    rintro e w86 ⟨rfl, hR86, hC86⟩
    refine ⟨.tuple #[], rfl, ?_⟩
    have M91 := md_old M84 hC86
    refine wnil (then_n (wp_seq (rg_lit ?_)))
    have h92 := (chg_ob hC86 (Nat.ne_of_gt l34) h90)
    refine wl (sv rfl (v := itV x26 (.slice dA26 dn26 dc26)) (r_loads (k := 0) (by kernel_rfl) Ty.ag76 Ty.sz76 h92 (by kernel_rfl)) ?_)
    refine wmv (v := .bool ((hasI L ⟨o.node.t, o.node.w⟩))) ?_
    have h93 := (chg_ob hC86 (Nat.ne_of_gt l15) h89)
    refine wl (ss rfl (k := 0) (v := itV x26 (.slice dA26 dn26 dc26)) (vs := (itC x26 (.slice dA26 dn26 dc26))) (cs' := (itC x26 (.slice dA26 dn26 dc26))) (by kernel_rfl) (by kernel_rfl) rfl Ty.sz76 h93 rfl (Nat.le_of_ble_eq_true rfl) rfl ?_)
    intro w94 h95 c96
    have M97 := Mod.trans' M91 c96 (fun i hi => by injection hi with hi; rw [← hi]; exact g17)
    refine was (v := .bool ((hasI L ⟨o.node.t, o.node.w⟩))) ?_
    refine was (v := .int .i64 0) ?_
    refine wnil (then_n (wp_ret ?_))
    refine bodyPost_ret (v := .tuple #[itV x26 (.slice dA26 dn26 dc26), .bool ((hasI L ⟨o.node.t, o.node.w⟩)), .int .i64 0]) (res3 rfl (rv_c (p := ⟨b9, 0, none⟩) (by kernel_rfl) (run_loadVars (vs := (itC x26 (.slice dA26 dn26 dc26))) Ty.ag76 Ty.sz76 h95 (by kernel_rfl))) (rv_t (by kernel_rfl)) (rv_t (by kernel_rfl))) (by kernel_rfl) ?_
    have h105 := (RIb.chg hR86 c96 ⟨(Nat.le_trans hB g17), NotU8.of h93 (by decide)⟩ (Nat.ne_of_lt l15) (lt_ob h89))
    have h106 := (Dat.chg (Dat.chg (Dat.chg (Dat.up (Dat.chg (Dat.up (Dat.chg (Dat.up hD26 u32) c43 ⟨(Nat.le_trans hB g39), NotU8.of h31 (by decide)⟩) u49) c61 ⟨(Nat.le_trans hB g57), NotU8.of h48 (by decide)⟩) u71) c83 ⟨(Nat.le_trans hB g57), NotU8.of h80 (by decide)⟩) hC86 ⟨huub, NotU8.of h87 (by decide)⟩) c96 ⟨(Nat.le_trans hB g17), NotU8.of h93 (by decide)⟩)
    have f98 : (rightB o) = true := v23
    have f99 : o.kind = 1 := p67
    have f100 : (hasI L o.node) = false := v68
    have f101 : (dirI L o.parent) = true := v73
    have f102 : ¬ 300 ≤ L.length := by omega
    have f103 : gotI L o.node = x26 := hx26
    have f104 : ¬ x26.node = o.node := by rw [← f103]; exact got_not f100 f98
    rw [hN86] at h105
    have E : doI L o = ((x26, ((hasI L o.node)), 0), putI ⟨⟨o.node.t, o.node.w⟩, ⟨o.parent.t, o.parent.w⟩, o.name, o.dir, false, [], ⟨0, 0⟩⟩ L) := by simp [doI, nowI, f98, f99, f100, f101, f102, f103, f104]; first | done | rfl
    rw [E]
    exact ⟨.slice dA26 dn26 dc26, rfl, h106, (RIb.ris h105 (Nat.le_trans hB M84.size)), (Mod.chg M97)⟩
   have p78 := of_decide_eq_true (k76.trans v77)
   refine wp_cond_true (ebool (b := b75) (by kernel_rfl) v77) ?_
   refine wp_seq (rg_lit ?_)
   refine wl (sv rfl (v := .agg #[.int .i64 0, .int .i64 0, .int .i64 0, .int .i64 0, .string (⟨#[]⟩), .bool false, .bool false, .slice none 0 0, .int .i64 0, .int .i64 0]) (r_build (ps := []) (cs := [.int .i64 0, .int .i64 0, .int .i64 0, .int .i64 0, .string (⟨#[]⟩), .bool false, .bool false, .slice none 0 0, .int .i64 0, .int .i64 0]) Ty.un76 Ty.zv76 Ty.pl76 (by kernel_rfl) (by kernel_rfl)) ?_)
   have h79 := (up_ob u71 (chg_ob c61 (Nat.ne_of_lt l55) (up_ob u49 h54)))
   refine wl (ss rfl (k := 0) (v := .agg #[.int .i64 0, .int .i64 0, .int .i64 0, .int .i64 0, .string (⟨#[]⟩), .bool false, .bool false, .slice none 0 0, .int .i64 0, .int .i64 0]) (vs := [.int .i64 0, .int .i64 0, .int .i64 0, .int .i64 0, .string (⟨#[]⟩), .bool false, .bool false, .slice none 0 0, .int .i64 0, .int .i64 0]) (cs' := [.int .i64 0, .int .i64 0, .int .i64 0, .int .i64 0, .string (⟨#[]⟩), .bool false, .bool false, .slice none 0 0, .int .i64 0, .int .i64 0]) (by kernel_rfl) (by kernel_rfl) rfl Ty.sz76 h79 rfl (Nat.le_of_ble_eq_true rfl) rfl ?_)
   intro w80 h81 c82
   have M83 := Mod.trans' M72 c82 (fun i hi => by injection hi with hi; rw [← hi]; exact g17)
   refine was (v := .bool false) ?_
   refine was (v := .int .i64 3) ?_
   refine wnil (then_n (wp_ret (then_x (by nofun) (inb_r (then_x (by nofun) ?_)))))
   refine bodyPost_ret (v := .tuple #[.agg #[.int .i64 0, .int .i64 0, .int .i64 0, .int .i64 0, .string (⟨#[]⟩), .bool false, .bool false, .slice none 0 0, .int .i64 0, .int .i64 0], .bool false, .int .i64 3]) (res3 rfl (rv_c (p := ⟨b9, 0, none⟩) (by kernel_rfl) (run_loadVars (vs := [.int .i64 0, .int .i64 0, .int .i64 0, .int .i64 0, .string (⟨#[]⟩), .bool false, .bool false, .slice none 0 0, .int .i64 0, .int .i64 0]) Ty.ag76 Ty.sz76 h81 (by kernel_rfl))) (rv_t (by kernel_rfl)) (rv_t (by kernel_rfl))) (by kernel_rfl) ?_
   have h91 := (RIs.up h (Mod.up M83))
   have f84 : (rightB o) = true := v23
   have f85 : o.kind = 1 := p67
   have f86 : (hasI L o.node) = false := v68
   have f87 : (dirI L o.parent) = true := v73
   have f88 : 300 ≤ L.length := by omega
   have f89 : gotI L o.node = x26 := hx26
   have f90 : ¬ x26.node = o.node := by rw [← f89]; exact got_not f86 f84
   have E : doI L o = ((nilI, false, 3), L) := by simp [doI, nowI, f84, f85, f86, f87, f88, f89, f90]
   rw [E]
   exact ⟨.slice none 0 0, rfl, (Dat.nil B _), h91, (to_chg (Mod.up M83) ub)⟩
  refine wl (sp (wf (b := (hasI L ⟨o.node.t, o.node.w⟩)) rfl (by kernel_rfl) v68) ?_)
  refine wl (sp (wf (b := (hasI L ⟨o.node.t, o.node.w⟩)) rfl (by kernel_rfl) v68) ?_)
  refine wl (sp (wf (b := (hasI L ⟨o.node.t, o.node.w⟩)) rfl (by kernel_rfl) v68) ?_)
  refine wl (sp (wf (b := (hasI L ⟨o.node.t, o.node.w⟩)) rfl (by kernel_rfl) v68) ?_)
  refine wl (sp (wf (b := (hasI L ⟨o.node.t, o.node.w⟩)) rfl (by kernel_rfl) v68) ?_)
  refine wl (sv rfl (v := .bool true) (r_pkT (ebool (b := (hasI L ⟨o.node.t, o.node.w⟩)) (by kernel_rfl) v68) (by kernel_rfl)) ?_)
  refine wnil (then_n ?_)
  refine wp_cond_true (by kernel_rfl) ?_
  refine wp_seq (rg_lit ?_)
  have h69 := (chg_ob c61 (Nat.ne_of_lt l56) (up_ob u49 h42))
  refine wl (sv rfl (v := itV x26 (.slice dA26 dn26 dc26)) (r_loads (k := 0) (by kernel_rfl) Ty.ag76 Ty.sz76 h69 (by kernel_rfl)) ?_)
  refine wmv (v := .bool ((hasI L ⟨o.node.t, o.node.w⟩))) ?_
  have h70 := (chg_ob c61 (Nat.ne_of_lt l55) (up_ob u49 h54))
  refine wl (ss rfl (k := 0) (v := itV x26 (.slice dA26 dn26 dc26)) (vs := (itC x26 (.slice dA26 dn26 dc26))) (cs' := (itC x26 (.slice dA26 dn26 dc26))) (by kernel_rfl) (by kernel_rfl) rfl Ty.sz76 h70 rfl (Nat.le_of_ble_eq_true rfl) rfl ?_)
  intro w71 h72 c73
  have M74 := Mod.trans' M62 c73 (fun i hi => by injection hi with hi; rw [← hi]; exact g17)
  refine was (v := .bool ((hasI L ⟨o.node.t, o.node.w⟩))) ?_
  refine was (v := .int .i64 0) ?_
  refine wnil (then_n (wp_ret (then_x (by nofun) (inb_r (then_x (by nofun) ?_)))))
  refine bodyPost_ret (v := .tuple #[itV x26 (.slice dA26 dn26 dc26), .bool ((hasI L ⟨o.node.t, o.node.w⟩)), .int .i64 0]) (res3 rfl (rv_c (p := ⟨b9, 0, none⟩) (by kernel_rfl) (run_loadVars (vs := (itC x26 (.slice dA26 dn26 dc26))) Ty.ag76 Ty.sz76 h72 (by kernel_rfl))) (rv_t (by kernel_rfl)) (rv_t (by kernel_rfl))) (by kernel_rfl) ?_
  have h80 := (Dat.chg (Dat.chg (Dat.up (Dat.chg (Dat.up hD26 u32) c43 ⟨(Nat.le_trans hB g39), NotU8.of h31 (by decide)⟩) u49) c61 ⟨(Nat.le_trans hB g57), NotU8.of h48 (by decide)⟩) c73 ⟨(Nat.le_trans hB g17), NotU8.of h70 (by decide)⟩)
  have h81 := (RIs.up h (Mod.up M74))
  have f75 : (rightB o) = true := v23
  have f76 : o.kind = 1 := p67
  have f77 : (hasI L o.node) = true := v68
  have f78 : gotI L o.node = x26 := hx26
  have f79 : x26.node = o.node := by rw [← f78]; exact gotI_node f77
  have E : doI L o = ((x26, ((hasI L o.node)), 0), L) := by simp [doI, nowI, f75, f76, f77, f78, f79]
  rw [E]
  exact ⟨.slice dA26 dn26 dc26, rfl, h80, h81, (to_chg (Mod.up M74) ub)⟩
end Go.Proofs.YtefhfoioeoijlaaGreat

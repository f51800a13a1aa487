/- GD, GS -/
import Derived.Test.YtefhfoioeoijlaaGreatDoorUah
import Derived.Test.YtefhfoioeoijlaaGreatDoorUan
import Derived.Test.YtefhfoioeoijlaaGreatDoorUao
import Derived.Test.YtefhfoioeoijlaaGreatDoorUap
import Derived.Test.YtefhfoioeoijlaaGreatDoorUba
set_option linter.unusedVariables false
set_option linter.unusedSimpArgs false
namespace Go.Proofs.YtefhfoioeoijlaaGreatDoor
open Go Go.RowKit Go.Sort
set_option maxHeartbeats 2000000 in
theorem rdo_at {B : Nat} {w : World} {ub : Nat} {L : List Item} (h : RIs B w ub L) (hB : B ≤ w.heap.size) (hsrt : Srt L) (o : OpD) (oA : Option Addr) (on oc : Nat) (hDo : Dat B w (.slice oA on oc) o.data) (hs : o.name.size ≤ 9223372036854775807) :
    Calls Tryz.prog 82 #[trP ub, opV o (.slice oA on oc)] w fun e w' => ∃ d, e = .returned (.tuple #[itV (doI L o).1.1 d, .bool (doI L o).1.2.1, .int .i64 (doI L o).1.2.2]) ∧ Dat B w' d (doI L o).1.1.data ∧ RIs B w' ub (doI L o).2 ∧ Chg w w' ub := by
  have hon := hDo.len.1
  have h0 := h
  obtain ⟨huub, v, hv, hl, hne, hL⟩ := h0
  rw [rowI_is] at hl
  obtain ⟨lA, lc, rfl⟩ := hl.form
  go_enter Tryz.func82, Tryz.ntmps82
  refine wp_seq (rg_lit (wl (sn rfl (cs := (opC o (.slice oA on oc)).toArray) (T := 49) (V := fun b => pt b 0) (r_box (v := opV o (.slice oA on oc)) (by kernel_rfl) rfl) fun b1 _ _ h4 u5 => ?_)))
  have M8 := mtu (Mod.refl [] w) u5
  refine wl (sn rfl (cs := #[I_ 0, I_ 0, I_ 0, I_ 0, S_ (⟨#[]⟩), B_ false, B_ false, .slice none 0 0, I_ 0, I_ 0]) (T := 127) (V := fun b => pt b 0) (r_alloc Ty.zv127 rfl) fun b9 _ e11 h12 u13 => ?_)
  have l15 := lsz e11 (md_ob M8 nin0 hv)
  have g17 := gsz e11 M8
  refine was (v := B_ false) (was (v := I_ 0) (wnil (then_n (wp_seq (wp_seq (rg_lit ?_))))))
  have h19 := (up_ob u13 h4)
  refine wlv (v := opV o (.slice oA on oc)) (lds 0 Ty.ag49 Ty.sz49 h19) (wl (sca [opV o (.slice oA on oc)] En.f141 (r15right_any o oA on oc hon hs _) ?_))
  rintro e _ ⟨rfl, u21⟩
  refine ⟨_, rfl, ?_⟩
  have M22 := mtu (mtu M8 u13) u21
  refine wlv (v := B_ (!(rightB o))) (r_not (b := (rightB o)) (by kernel_rfl)) (wnil (then_n ?_))
  refine bcase (rightB o) (fun v23 => ?_) (fun v23 => ?_)
  ·
   refine wp_cond_true (ebk (bneg v23)) (wp_seq (rg_lit (wlv (v := .agg #[I_ 0, I_ 0, I_ 0, I_ 0, S_ (⟨#[]⟩), B_ false, B_ false, .slice none 0 0, I_ 0, I_ 0]) (r_build (ps := []) (cs := [I_ 0, I_ 0, I_ 0, I_ 0, S_ (⟨#[]⟩), B_ false, B_ false, .slice none 0 0, I_ 0, I_ 0]) Ty.un127 Ty.zv127 Ty.pl127 (by kernel_rfl) (by kernel_rfl)) (wl (ss rfl (k := 0) (v := .agg #[I_ 0, I_ 0, I_ 0, I_ 0, S_ (⟨#[]⟩), B_ false, B_ false, .slice none 0 0, I_ 0, I_ 0]) (vs := [I_ 0, I_ 0, I_ 0, I_ 0, S_ (⟨#[]⟩), B_ false, B_ false, .slice none 0 0, I_ 0, I_ 0]) (cs' := [I_ 0, I_ 0, I_ 0, I_ 0, S_ (⟨#[]⟩), B_ false, B_ false, .slice none 0 0, I_ 0, I_ 0]) (by kernel_rfl) (by kernel_rfl) rfl Ty.sz127 (up_ob u21 h12) rfl (Nat.le_of_ble_eq_true rfl) rfl fun _ h26 c27 => ?_)))))
   have M28 := mtn M22 c27 g17
   refine was (v := B_ false) (was (v := I_ 1) (wnil (then_n (wp_ret (then_x (by nofun) ?_)))))
   refine bodyPost_ret (v := .tuple #[.agg #[I_ 0, I_ 0, I_ 0, I_ 0, S_ (⟨#[]⟩), B_ false, B_ false, .slice none 0 0, I_ 0, I_ 0], B_ false, I_ 1]) (res3 rfl (rv_c (p := ⟨b9, 0, none⟩) (by kernel_rfl) (run_loadVars (vs := [I_ 0, I_ 0, I_ 0, I_ 0, S_ (⟨#[]⟩), B_ false, B_ false, .slice none 0 0, I_ 0, I_ 0]) Ty.ag127 Ty.sz127 h26 (by kernel_rfl))) (rv_t (by kernel_rfl)) (rv_t (by kernel_rfl))) (by kernel_rfl) ?_
   have f29 : (rightB o) = false := v23
   have E : doI L o = ((nilI, false, 1), L) := by simp [doI, nowI, f29]
   rw [E]
   exact ⟨.slice none 0 0, rfl, (Dat.nil B _), (RIs.up h (Mod.up M28)), (to_chg (Mod.up M28) ub)⟩
  refine wp_cond_false (ebk (bneg v23)) (wp_skip (then_n (wp_seq (rg_lit (wmv (v := pt ub 0) (wlv (v := pt b1 3) (fa (pt b1 0)) ?_))))))
  have h24 := (up_ob u21 h19)
  refine wlv (v := .agg #[I_ o.node.t, I_ o.node.w]) (lds 3 Ty.ag24 Ty.sz24 h24) ?_
  have h25 := (RIs.up h (Mod.up M22))
  refine wl (sca [pt ub 0, .agg #[I_ o.node.t, I_ o.node.w]] En.f79 (rget_at h25 o.node.t o.node.w) ?_)
  rintro e _ ⟨_, rfl, hD26, hU26⟩
  obtain ⟨dA26, dn26, dc26, rfl⟩ := hD26.form
  obtain ⟨x26, hx26⟩ : ∃ x, gotI L ⟨o.node.t, o.node.w⟩ = x := ⟨_, rfl⟩
  rw [hx26] at hD26
  refine ⟨.tuple #[itV x26 (.slice dA26 dn26 dc26), B_ (hasI L ⟨o.node.t, o.node.w⟩)], by rw [hx26] <;> rfl, ?_⟩
  have M27 := mtu M22 hU26
  refine wmv (v := .tuple #[itV x26 (.slice dA26 dn26 dc26), B_ (hasI L ⟨o.node.t, o.node.w⟩)]) (wlv (v := itV x26 (.slice dA26 dn26 dc26)) (xt [itV x26 (.slice dA26 dn26 dc26), B_ (hasI L ⟨o.node.t, o.node.w⟩)]) (wlv (v := B_ (hasI L ⟨o.node.t, o.node.w⟩)) (xt [itV x26 (.slice dA26 dn26 dc26), B_ (hasI L ⟨o.node.t, o.node.w⟩)]) (wl (sn rfl (cs := #[I_ 0, I_ 0, I_ 0, I_ 0, S_ (⟨#[]⟩), B_ false, B_ false, .slice none 0 0, I_ 0, I_ 0]) (T := 127) (V := fun b => pt b 0) (r_alloc Ty.zv127 rfl) fun b28 _ e30 h31 u32 => ?_))))
  have l34 := lsz e30 (md_ob M27 nin0 hv)
  have h35 := (up_ob hU26 h24)
  have l36 := lsz e30 h35
  have h37 := (up_ob hU26 (up_ob u21 h12))
  have l38 := lsz e30 h37
  have g39 := gsz e30 M27
  refine wl (ss rfl (k := 0) (v := itV x26 (.slice dA26 dn26 dc26)) (vs := (itC x26 (.slice dA26 dn26 dc26))) (cs' := (itC x26 (.slice dA26 dn26 dc26))) (by kernel_rfl) (by kernel_rfl) rfl Ty.sz127 h31 rfl (Nat.le_of_ble_eq_true rfl) rfl fun _ h42 c43 => ?_)
  have M44 := mtn (mtu M27 u32) c43 g39
  refine was (v := B_ (hasI L ⟨o.node.t, o.node.w⟩)) (wnil (then_n (wp_seq (rg_lit (wlv (v := itV x26 (.slice dA26 dn26 dc26)) (lds 0 Ty.ag127 Ty.sz127 h42) (wl (sn rfl (cs := #[I_ 0, I_ 0, I_ 0, I_ 0, S_ (⟨#[]⟩), B_ false, B_ false, .slice none 0 0, I_ 0, I_ 0]) (T := 127) (V := fun b => pt b 0) (r_alloc Ty.zv127 rfl) fun b45 _ e47 h48 u49 => ?_)))))))
  have h52 := (chg_ob c43 (Nat.ne_of_lt l36) (up_ob u32 h35))
  have l53 := lsz e47 h52
  have h54 := (chg_ob c43 (Nat.ne_of_lt l38) (up_ob u32 h37))
  have l55 := lsz e47 h54
  have l56 := lsz e47 h42
  have g57 := gsz e47 M44
  refine wl (ss rfl (k := 0) (v := itV x26 (.slice dA26 dn26 dc26)) (vs := (itC x26 (.slice dA26 dn26 dc26))) (cs' := (itC x26 (.slice dA26 dn26 dc26))) (by kernel_rfl) (by kernel_rfl) rfl Ty.sz127 h48 rfl (Nat.le_of_ble_eq_true rfl) rfl fun _ h60 c61 => ?_)
  have M62 := mtn (mtu M44 u49) c61 g57
  refine wnil (then_n (wp_seq (wp_seq (rg_lit (wlv (v := pt b1 0) (fa (pt b1 0)) ?_)))))
  have h63 := (chg_ob c61 (Nat.ne_of_lt l53) (up_ob u49 h52))
  refine wlv (v := I_ o.kind) (ld 0 Ty.ag3 h63) (wnil (then_n (wp_block (wp_seq (rg_lit (wl (sb rfl (eqI o.kind 1) fun b64 k65 => was (v := B_ b64) (wnil (then_n ?_)))))))))
  refine bcd k65 (fun v66 p67 => ?_) (fun v66 p67 => ?_)
  ·
   refine wp_cond_false (ebk v66) (wp_seq (rg_lit (wl (sb rfl (eqI o.kind 2) fun b68 k69 => was (v := B_ b68) (wnil (then_n ?_))))))
   refine bcd k69 (fun v70 p71 => ?_) (fun v70 p71 => ?_)
   ·
    refine wp_cond_false (ebk v70) (wp_seq (rg_lit (wl (sb rfl (eqI o.kind 3) fun b72 k73 => was (v := B_ b72) (wnil (then_n ?_))))))
    refine bcd k73 (fun v74 p75 => ?_) (fun v74 p75 => ?_)
    ·
     refine wp_cond_false (ebk v74) (wp_seq (rg_lit (wl (sb rfl (eqI o.kind 4) fun b76 k77 => was (v := B_ b76) (wnil (then_n ?_))))))
     refine bcd k77 (fun v78 p79 => ?_) (fun v78 p79 => ?_)
     ·
      rcases right_kinds v23 with e | e | e | e
      · exact absurd e p67
      · exact absurd e p71
      · exact absurd e p75
      · exact absurd e p79
     refine wp_cond_true (ebk v78) (wp_seq (wp_seq (rg_lit (wmv (v := B_ (hasI L ⟨o.node.t, o.node.w⟩)) (wlv (v := B_ (!(hasI L ⟨o.node.t, o.node.w⟩))) (r_not (b := (hasI L ⟨o.node.t, o.node.w⟩)) (by kernel_rfl)) (wmv (v := B_ (!(hasI L ⟨o.node.t, o.node.w⟩))) ?_))))))
     refine bcase (hasI L ⟨o.node.t, o.node.w⟩) (fun v80 => ?_) (fun v80 => ?_)
     ·
      iterate 2 refine wls rfl (bneg v80) ?_
      refine wlv (v := B_ true) (pkT (ebk (bneg v80))) (wnil (then_n (wp_cond_true (by kernel_rfl) (wp_seq (rg_lit (wlv (v := itV x26 (.slice dA26 dn26 dc26)) (lds 0 Ty.ag127 Ty.sz127 (chg_ob c61 (Nat.ne_of_lt l56) (up_ob u49 h42))) (wmv (v := B_ (hasI L ⟨o.node.t, o.node.w⟩)) ?_)))))))
      have h82 := (chg_ob c61 (Nat.ne_of_lt l55) (up_ob u49 h54))
      refine wl (ss rfl (k := 0) (v := itV x26 (.slice dA26 dn26 dc26)) (vs := (itC x26 (.slice dA26 dn26 dc26))) (cs' := (itC x26 (.slice dA26 dn26 dc26))) (by kernel_rfl) (by kernel_rfl) rfl Ty.sz127 h82 rfl (Nat.le_of_ble_eq_true rfl) rfl fun w83 h84 c85 => ?_)
      have M86 := mtn M62 c85 g17
      refine was (v := B_ (hasI L ⟨o.node.t, o.node.w⟩)) (was (v := I_ 0) (wnil (then_n (wp_ret (then_x (by nofun) (inb_r (then_x (by nofun) ?_)))))))
      refine bodyPost_ret (v := .tuple #[itV x26 (.slice dA26 dn26 dc26), B_ (hasI L ⟨o.node.t, o.node.w⟩), I_ 0]) (res3 rfl (rv_c (p := ⟨b9, 0, none⟩) (by kernel_rfl) (run_loadVars (vs := (itC x26 (.slice dA26 dn26 dc26))) Ty.ag127 Ty.sz127 h84 (by kernel_rfl))) (rv_t (by kernel_rfl)) (rv_t (by kernel_rfl))) (by kernel_rfl) ?_
      have h95 := (Dat.chg (Dat.chg (Dat.up (Dat.chg (Dat.up hD26 u32) c43 ⟨(Nat.le_trans hB g39), NotU8.of h31 (by decide)⟩) u49) c61 ⟨(Nat.le_trans hB g57), NotU8.of h48 (by decide)⟩) c85 ⟨(Nat.le_trans hB g17), NotU8.of h82 (by decide)⟩)
      have f87 : (rightB o) = true := v23
      have f88 : ¬ (o.kind = 1) := p67
      have f89 : ¬ (o.kind = 2) := p71
      have f90 : ¬ (o.kind = 3) := p75
      have f91 : o.kind = 4 := p79
      have f92 : (hasI L o.node) = false := v80
      have f93 : gotI L o.node = x26 := hx26
      have f94 : ¬ x26.node = o.node := by rw [← f93]; exact got_not f92 f87
      have E : doI L o = ((x26, (hasI L o.node), 0), L) := by simp [doI, nowI, f87, f88, f89, f90, f91, f92, f93, f94]
      rw [E]
      exact ⟨.slice dA26 dn26 dc26, rfl, h95, (RIs.up h (Mod.up M86)), (to_chg (Mod.up M86) ub)⟩
     refine wlw rfl (bneg v80) (v := pt b28 5) (fa (pt b28 0)) ?_
     have h81 := (chg_ob c61 (Nat.ne_of_lt l56) (up_ob u49 h42))
     refine wlw rfl (bneg v80) (v := B_ x26.dir) (ld 5 Ty.ag4 h81) (wlv (v := B_ x26.dir) (pkF (ebk (bneg v80))) (wnil (then_n ?_)))
     refine bcase x26.dir (fun v82 => ?_) (fun v82 => ?_)
     ·
      refine wp_cond_false (ebk v82) (wp_skip (then_n (wp_seq (rg_lit (wlv (v := pt b1 9) (fa (pt b1 0)) (wlv (v := .slice oA on oc) (ld 9 Ty.ag40 h63) (wlv (v := pt b45 7) (fa (pt b45 0)) (wl (ss rfl (k := 7) (v := .slice oA on oc) (vs := [.slice oA on oc]) (cs' := (itC x26 (.slice oA on oc))) (by kernel_rfl) (by kernel_rfl) rfl Ty.sz40 h60 rfl (Nat.le_of_ble_eq_true rfl) rfl fun w83 h84 c85 => wnil (then_n (rg_lit (wlv (v := pt b1 1) (fa (pt b1 0)) (wlv (v := .agg #[I_ o.at_.t, I_ o.at_.w]) (lds 1 Ty.ag24 Ty.sz24 (chg_ob c85 (Nat.ne_of_lt l53) h63)) ?_)))))))))))))
      refine wlv (v := pt b45 8) (fa (pt b45 0)) (wl (ss rfl (k := 8) (v := .agg #[I_ o.at_.t, I_ o.at_.w]) (vs := [I_ o.at_.t, I_ o.at_.w]) (cs' := [I_ x26.node.t, I_ x26.node.w, I_ x26.parent.t, I_ x26.parent.w, S_ x26.name, B_ x26.dir, B_ x26.gone, .slice oA on oc, I_ o.at_.t, I_ o.at_.w]) (by kernel_rfl) (by kernel_rfl) rfl Ty.sz24 h84 rfl (Nat.le_of_ble_eq_true rfl) rfl fun _ h89 c90 => ?_))
      have M91 := mtn (mtn M62 c85 g57) c90 g57
      refine wnil (inb_n (then_n (wp_seq (rg_lit (wmv (v := pt ub 0) (wlv (v := .agg #[I_ x26.node.t, I_ x26.node.w, I_ x26.parent.t, I_ x26.parent.w, S_ x26.name, B_ x26.dir, B_ x26.gone, .slice oA on oc, I_ o.at_.t, I_ o.at_.w]) (lds 0 Ty.ag127 Ty.sz127 h89) ?_))))))
      have h92 := (RIs.up h (Mod.up M91))
      have hN93 : setI (⟨⟨x26.node.t, x26.node.w⟩, ⟨x26.parent.t, x26.parent.w⟩, x26.name, x26.dir, x26.gone, o.data, ⟨o.at_.t, o.at_.w⟩⟩ : Item) true L = putI ⟨⟨x26.node.t, x26.node.w⟩, ⟨x26.parent.t, x26.parent.w⟩, x26.name, x26.dir, x26.gone, o.data, ⟨o.at_.t, o.at_.w⟩⟩ L := setI_true hsrt
      have hl93 : (setI (⟨⟨x26.node.t, x26.node.w⟩, ⟨x26.parent.t, x26.parent.w⟩, x26.name, x26.dir, x26.gone, o.data, ⟨o.at_.t, o.at_.w⟩⟩ : Item) true L).length ≤ 300 := by rw [hN93]; exact (putI_len_has (it := ⟨⟨x26.node.t, x26.node.w⟩, ⟨x26.parent.t, x26.parent.w⟩, x26.name, x26.dir, x26.gone, o.data, ⟨o.at_.t, o.at_.w⟩⟩) hsrt (show hasI L x26.node = true from by rw [← hx26, gotI_node v80]; exact v80) hL)
      have h96 := (chg_ob c90 (Nat.ne_of_lt l55) (chg_ob c85 (Nat.ne_of_lt l55) (chg_ob c61 (Nat.ne_of_lt l55) (up_ob u49 h54))))
      refine wl (sca [pt ub 0, .agg #[I_ x26.node.t, I_ x26.node.w, I_ x26.parent.t, I_ x26.parent.w, S_ x26.name, B_ x26.dir, B_ x26.gone, .slice oA on oc, I_ o.at_.t, I_ o.at_.w], B_ true] En.f85 (rset_at h92 (Nat.le_trans hB M91.size) ⟨⟨x26.node.t, x26.node.w⟩, ⟨x26.parent.t, x26.parent.w⟩, x26.name, x26.dir, x26.gone, o.data, ⟨o.at_.t, o.at_.w⟩⟩ oA on oc (Dat.up hDo (Mod.up M91)) true hl93) ?_)
      rintro e _ ⟨rfl, hR93, hC93⟩
      refine ⟨_, rfl, ?_⟩
      refine wnil (then_n (wp_seq (rg_lit (wlv (v := itV x26 (.slice dA26 dn26 dc26)) (lds 0 Ty.ag127 Ty.sz127 (chg_ob hC93 (Nat.ne_of_gt l34) (chg_ob c90 (Nat.ne_of_lt l56) (chg_ob c85 (Nat.ne_of_lt l56) h81)))) (wmv (v := B_ (hasI L ⟨o.node.t, o.node.w⟩)) ?_)))))
      have h101 := (chg_ob hC93 (Nat.ne_of_gt l15) h96)
      refine wl (ss rfl (k := 0) (v := itV x26 (.slice dA26 dn26 dc26)) (vs := (itC x26 (.slice dA26 dn26 dc26))) (cs' := (itC x26 (.slice dA26 dn26 dc26))) (by kernel_rfl) (by kernel_rfl) rfl Ty.sz127 h101 rfl (Nat.le_of_ble_eq_true rfl) rfl fun _ h103 c104 => was (v := B_ (hasI L ⟨o.node.t, o.node.w⟩)) (was (v := I_ 0) (wnil (then_n (wp_ret ?_)))))
      refine bodyPost_ret (v := .tuple #[itV x26 (.slice dA26 dn26 dc26), B_ (hasI L ⟨o.node.t, o.node.w⟩), I_ 0]) (res3 rfl (rv_c (p := ⟨b9, 0, none⟩) (by kernel_rfl) (run_loadVars (vs := (itC x26 (.slice dA26 dn26 dc26))) Ty.ag127 Ty.sz127 h103 (by kernel_rfl))) (rv_t (by kernel_rfl)) (rv_t (by kernel_rfl))) (by kernel_rfl) ?_
      have h115 := (RIb.chg hR93 c104 ⟨(Nat.le_trans hB g17), NotU8.of h101 (by decide)⟩ (Nat.ne_of_lt l15) (lt_ob h96))
      have h116 := (Dat.chg (Dat.chg (Dat.chg (Dat.chg (Dat.chg (Dat.up (Dat.chg (Dat.up hD26 u32) c43 ⟨(Nat.le_trans hB g39), NotU8.of h31 (by decide)⟩) u49) c61 ⟨(Nat.le_trans hB g57), NotU8.of h48 (by decide)⟩) c85 ⟨(Nat.le_trans hB g57), NotU8.of h60 (by decide)⟩) c90 ⟨(Nat.le_trans hB g57), NotU8.of h84 (by decide)⟩) hC93 ⟨huub, NotU8.of (md_ob M91 nin0 hv) (by decide)⟩) c104 ⟨(Nat.le_trans hB g17), NotU8.of h101 (by decide)⟩)
      have f106 : (rightB o) = true := v23
      have f107 : ¬ (o.kind = 1) := p67
      have f108 : ¬ (o.kind = 2) := p71
      have f109 : ¬ (o.kind = 3) := p75
      have f110 : o.kind = 4 := p79
      have f111 : (hasI L o.node) = true := v80
      have f112 : x26.dir = false := v82
      have f113 : gotI L o.node = x26 := hx26
      have f114 : x26.node = o.node := by rw [← f113]; exact gotI_node f111
      rw [hN93] at h115
      have E : doI L o = ((x26, (hasI L o.node), 0), putI ⟨⟨x26.node.t, x26.node.w⟩, ⟨x26.parent.t, x26.parent.w⟩, x26.name, x26.dir, x26.gone, o.data, ⟨o.at_.t, o.at_.w⟩⟩ L) := by simp [doI, nowI, f106, f107, f108, f109, f110, f111, f112, f113, f114]; first | done | rfl
      rw [E]
      exact ⟨.slice dA26 dn26 dc26, rfl, h116, (RIb.ris h115 (Nat.le_trans hB M91.size)), (Mod.chg (mtn (md_old M91 hC93) c104 g17))⟩
     refine wp_cond_true (ebk v82) (wp_seq (rg_lit (wlv (v := itV x26 (.slice dA26 dn26 dc26)) (lds 0 Ty.ag127 Ty.sz127 h81) (wmv (v := B_ (hasI L ⟨o.node.t, o.node.w⟩)) ?_))))
     have h83 := (chg_ob c61 (Nat.ne_of_lt l55) (up_ob u49 h54))
     refine wl (ss rfl (k := 0) (v := itV x26 (.slice dA26 dn26 dc26)) (vs := (itC x26 (.slice dA26 dn26 dc26))) (cs' := (itC x26 (.slice dA26 dn26 dc26))) (by kernel_rfl) (by kernel_rfl) rfl Ty.sz127 h83 rfl (Nat.le_of_ble_eq_true rfl) rfl fun _ h85 c86 => ?_)
     have M87 := mtn M62 c86 g17
     refine was (v := B_ (hasI L ⟨o.node.t, o.node.w⟩)) (was (v := I_ 0) (wnil (then_n (wp_ret (then_x (by nofun) (inb_r (then_x (by nofun) ?_)))))))
     refine bodyPost_ret (v := .tuple #[itV x26 (.slice dA26 dn26 dc26), B_ (hasI L ⟨o.node.t, o.node.w⟩), I_ 0]) (res3 rfl (rv_c (p := ⟨b9, 0, none⟩) (by kernel_rfl) (run_loadVars (vs := (itC x26 (.slice dA26 dn26 dc26))) Ty.ag127 Ty.sz127 h85 (by kernel_rfl))) (rv_t (by kernel_rfl)) (rv_t (by kernel_rfl))) (by kernel_rfl) ?_
     have h97 := (Dat.chg (Dat.chg (Dat.up (Dat.chg (Dat.up hD26 u32) c43 ⟨(Nat.le_trans hB g39), NotU8.of h31 (by decide)⟩) u49) c61 ⟨(Nat.le_trans hB g57), NotU8.of h48 (by decide)⟩) c86 ⟨(Nat.le_trans hB g17), NotU8.of h83 (by decide)⟩)
     have f88 : (rightB o) = true := v23
     have f89 : ¬ (o.kind = 1) := p67
     have f90 : ¬ (o.kind = 2) := p71
     have f91 : ¬ (o.kind = 3) := p75
     have f92 : o.kind = 4 := p79
     have f93 : (hasI L o.node) = true := v80
     have f94 : x26.dir = true := v82
     have f95 : gotI L o.node = x26 := hx26
     have f96 : x26.node = o.node := by rw [← f95]; exact gotI_node f93
     have E : doI L o = ((x26, (hasI L o.node), 0), L) := by simp [doI, nowI, f88, f89, f90, f91, f92, f93, f94, f95, f96]
     rw [E]
     exact ⟨.slice dA26 dn26 dc26, rfl, h97, (RIs.up h (Mod.up M87)), (to_chg (Mod.up M87) ub)⟩
    refine wp_cond_true (ebk v74) (wp_seq (wp_seq (rg_lit (wmv (v := B_ (hasI L ⟨o.node.t, o.node.w⟩)) (wlv (v := B_ (!(hasI L ⟨o.node.t, o.node.w⟩))) (r_not (b := (hasI L ⟨o.node.t, o.node.w⟩)) (by kernel_rfl)) (wnil (then_n ?_)))))))
    refine bcase (hasI L ⟨o.node.t, o.node.w⟩) (fun v76 => ?_) (fun v76 => ?_)
    ·
     refine wp_cond_true (ebk (bneg v76)) (wp_seq (rg_lit (wlv (v := itV x26 (.slice dA26 dn26 dc26)) (lds 0 Ty.ag127 Ty.sz127 (chg_ob c61 (Nat.ne_of_lt l56) (up_ob u49 h42))) (wmv (v := B_ (hasI L ⟨o.node.t, o.node.w⟩)) ?_))))
     have h78 := (chg_ob c61 (Nat.ne_of_lt l55) (up_ob u49 h54))
     refine wl (ss rfl (k := 0) (v := itV x26 (.slice dA26 dn26 dc26)) (vs := (itC x26 (.slice dA26 dn26 dc26))) (cs' := (itC x26 (.slice dA26 dn26 dc26))) (by kernel_rfl) (by kernel_rfl) rfl Ty.sz127 h78 rfl (Nat.le_of_ble_eq_true rfl) rfl fun _ h80 c81 => ?_)
     have M82 := mtn M62 c81 g17
     refine was (v := B_ (hasI L ⟨o.node.t, o.node.w⟩)) (was (v := I_ 0) (wnil (then_n (wp_ret (then_x (by nofun) (inb_r (then_x (by nofun) ?_)))))))
     refine bodyPost_ret (v := .tuple #[itV x26 (.slice dA26 dn26 dc26), B_ (hasI L ⟨o.node.t, o.node.w⟩), I_ 0]) (res3 rfl (rv_c (p := ⟨b9, 0, none⟩) (by kernel_rfl) (run_loadVars (vs := (itC x26 (.slice dA26 dn26 dc26))) Ty.ag127 Ty.sz127 h80 (by kernel_rfl))) (rv_t (by kernel_rfl)) (rv_t (by kernel_rfl))) (by kernel_rfl) ?_
     have h90 := (Dat.chg (Dat.chg (Dat.up (Dat.chg (Dat.up hD26 u32) c43 ⟨(Nat.le_trans hB g39), NotU8.of h31 (by decide)⟩) u49) c61 ⟨(Nat.le_trans hB g57), NotU8.of h48 (by decide)⟩) c81 ⟨(Nat.le_trans hB g17), NotU8.of h78 (by decide)⟩)
     have f83 : (rightB o) = true := v23
     have f84 : ¬ (o.kind = 1) := p67
     have f85 : ¬ (o.kind = 2) := p71
     have f86 : o.kind = 3 := p75
     have f87 : (hasI L o.node) = false := v76
     have f88 : gotI L o.node = x26 := hx26
     have f89 : ¬ x26.node = o.node := by rw [← f88]; exact got_not f87 f83
     have E : doI L o = ((x26, (hasI L o.node), 0), L) := by simp [doI, nowI, f83, f84, f85, f86, f87, f88, f89]
     rw [E]
     exact ⟨.slice dA26 dn26 dc26, rfl, h90, (RIs.up h (Mod.up M82)), (to_chg (Mod.up M82) ub)⟩
    refine wp_cond_false (ebk (bneg v76)) (wp_skip (then_n (rg_lit (wlv (v := pt b45 6) (fa (pt b45 0)) (wl (ss rfl (k := 6) (v := B_ true) (vs := [B_ true]) (cs' := [I_ x26.node.t, I_ x26.node.w, I_ x26.parent.t, I_ x26.parent.w, S_ x26.name, B_ x26.dir, B_ true, .slice dA26 dn26 dc26, I_ x26.by_.t, I_ x26.by_.w]) (by kernel_rfl) (by kernel_rfl) rfl Ty.sz4 h60 rfl (Nat.le_of_ble_eq_true rfl) rfl fun _ h78 c79 => ?_))))))
    have M80 := mtn M62 c79 g57
    refine wnil (inb_n (then_n (wp_seq (rg_lit (wmv (v := pt ub 0) (wlv (v := .agg #[I_ x26.node.t, I_ x26.node.w, I_ x26.parent.t, I_ x26.parent.w, S_ x26.name, B_ x26.dir, B_ true, .slice dA26 dn26 dc26, I_ x26.by_.t, I_ x26.by_.w]) (lds 0 Ty.ag127 Ty.sz127 h78) ?_))))))
    have h81 := (RIs.up h (Mod.up M80))
    have hN82 : setI (⟨⟨x26.node.t, x26.node.w⟩, ⟨x26.parent.t, x26.parent.w⟩, x26.name, x26.dir, true, x26.data, ⟨x26.by_.t, x26.by_.w⟩⟩ : Item) true L = putI ⟨⟨x26.node.t, x26.node.w⟩, ⟨x26.parent.t, x26.parent.w⟩, x26.name, x26.dir, true, x26.data, ⟨x26.by_.t, x26.by_.w⟩⟩ L := setI_true hsrt
    have hl82 : (setI (⟨⟨x26.node.t, x26.node.w⟩, ⟨x26.parent.t, x26.parent.w⟩, x26.name, x26.dir, true, x26.data, ⟨x26.by_.t, x26.by_.w⟩⟩ : Item) true L).length ≤ 300 := by rw [hN82]; exact (putI_len_has (it := ⟨⟨x26.node.t, x26.node.w⟩, ⟨x26.parent.t, x26.parent.w⟩, x26.name, x26.dir, true, x26.data, ⟨x26.by_.t, x26.by_.w⟩⟩) hsrt (show hasI L x26.node = true from by rw [← hx26, gotI_node v76]; exact v76) hL)
    have h85 := (chg_ob c79 (Nat.ne_of_lt l55) (chg_ob c61 (Nat.ne_of_lt l55) (up_ob u49 h54)))
    have h87 := (Dat.chg (Dat.chg (Dat.up (Dat.chg (Dat.up hD26 u32) c43 ⟨(Nat.le_trans hB g39), NotU8.of h31 (by decide)⟩) u49) c61 ⟨(Nat.le_trans hB g57), NotU8.of h48 (by decide)⟩) c79 ⟨(Nat.le_trans hB g57), NotU8.of h60 (by decide)⟩)
    refine wl (sca [pt ub 0, .agg #[I_ x26.node.t, I_ x26.node.w, I_ x26.parent.t, I_ x26.parent.w, S_ x26.name, B_ x26.dir, B_ true, .slice dA26 dn26 dc26, I_ x26.by_.t, I_ x26.by_.w], B_ true] En.f85 (rset_at h81 (Nat.le_trans hB M80.size) ⟨⟨x26.node.t, x26.node.w⟩, ⟨x26.parent.t, x26.parent.w⟩, x26.name, x26.dir, true, x26.data, ⟨x26.by_.t, x26.by_.w⟩⟩ dA26 dn26 dc26 h87 true hl82) ?_)
    rintro e _ ⟨rfl, hR82, hC82⟩
    refine ⟨_, rfl, ?_⟩
    refine wnil (then_n (wp_seq (rg_lit (wlv (v := itV x26 (.slice dA26 dn26 dc26)) (lds 0 Ty.ag127 Ty.sz127 (chg_ob hC82 (Nat.ne_of_gt l34) (chg_ob c79 (Nat.ne_of_lt l56) (chg_ob c61 (Nat.ne_of_lt l56) (up_ob u49 h42))))) (wmv (v := B_ (hasI L ⟨o.node.t, o.node.w⟩)) ?_)))))
    have h90 := (chg_ob hC82 (Nat.ne_of_gt l15) h85)
    refine wl (ss rfl (k := 0) (v := itV x26 (.slice dA26 dn26 dc26)) (vs := (itC x26 (.slice dA26 dn26 dc26))) (cs' := (itC x26 (.slice dA26 dn26 dc26))) (by kernel_rfl) (by kernel_rfl) rfl Ty.sz127 h90 rfl (Nat.le_of_ble_eq_true rfl) rfl fun w91 h92 c93 => was (v := B_ (hasI L ⟨o.node.t, o.node.w⟩)) (was (v := I_ 0) (wnil (then_n (wp_ret ?_)))))
    refine bodyPost_ret (v := .tuple #[itV x26 (.slice dA26 dn26 dc26), B_ (hasI L ⟨o.node.t, o.node.w⟩), I_ 0]) (res3 rfl (rv_c (p := ⟨b9, 0, none⟩) (by kernel_rfl) (run_loadVars (vs := (itC x26 (.slice dA26 dn26 dc26))) Ty.ag127 Ty.sz127 h92 (by kernel_rfl))) (rv_t (by kernel_rfl)) (rv_t (by kernel_rfl))) (by kernel_rfl) ?_
    have h102 := (RIb.chg hR82 c93 ⟨(Nat.le_trans hB g17), NotU8.of h90 (by decide)⟩ (Nat.ne_of_lt l15) (lt_ob h85))
    have h103 := (Dat.chg (Dat.chg h87 hC82 ⟨huub, NotU8.of (md_ob M80 nin0 hv) (by decide)⟩) c93 ⟨(Nat.le_trans hB g17), NotU8.of h90 (by decide)⟩)
    have f95 : (rightB o) = true := v23
    have f96 : ¬ (o.kind = 1) := p67
    have f97 : ¬ (o.kind = 2) := p71
    have f98 : o.kind = 3 := p75
    have f99 : (hasI L o.node) = true := v76
    have f100 : gotI L o.node = x26 := hx26
    have f101 : x26.node = o.node := by rw [← f100]; exact gotI_node f99
    rw [hN82] at h102
    have E : doI L o = ((x26, (hasI L o.node), 0), putI ⟨⟨x26.node.t, x26.node.w⟩, ⟨x26.parent.t, x26.parent.w⟩, x26.name, x26.dir, true, x26.data, ⟨x26.by_.t, x26.by_.w⟩⟩ L) := by simp [doI, nowI, f95, f96, f97, f98, f99, f100, f101]; first | done | rfl
    rw [E]
    exact ⟨.slice dA26 dn26 dc26, rfl, h103, (RIb.ris h102 (Nat.le_trans hB M80.size)), (Mod.chg (mtn (md_old M80 hC82) c93 g17))⟩
   refine wp_cond_true (ebk v70) (wp_seq (wp_seq (rg_lit (wmv (v := B_ (hasI L ⟨o.node.t, o.node.w⟩)) (wlv (v := B_ (!(hasI L ⟨o.node.t, o.node.w⟩))) (r_not (b := (hasI L ⟨o.node.t, o.node.w⟩)) (by kernel_rfl)) (wmv (v := B_ (!(hasI L ⟨o.node.t, o.node.w⟩))) ?_))))))
   refine bcase (hasI L ⟨o.node.t, o.node.w⟩) (fun v72 => ?_) (fun v72 => ?_)
   ·
    iterate 5 refine wls rfl (bneg v72) ?_
    refine wlv (v := B_ true) (pkT (ebk (bneg v72))) (wmv (v := B_ true) ?_)
    iterate 6 refine wsp ?_
    refine wlv (v := B_ true) (pkT (by kernel_rfl)) (wnil (then_n (wp_cond_true (by kernel_rfl) (wp_seq (rg_lit (wlv (v := itV x26 (.slice dA26 dn26 dc26)) (lds 0 Ty.ag127 Ty.sz127 (chg_ob c61 (Nat.ne_of_lt l56) (up_ob u49 h42))) (wmv (v := B_ (hasI L ⟨o.node.t, o.node.w⟩)) ?_)))))))
    have h74 := (chg_ob c61 (Nat.ne_of_lt l55) (up_ob u49 h54))
    refine wl (ss rfl (k := 0) (v := itV x26 (.slice dA26 dn26 dc26)) (vs := (itC x26 (.slice dA26 dn26 dc26))) (cs' := (itC x26 (.slice dA26 dn26 dc26))) (by kernel_rfl) (by kernel_rfl) rfl Ty.sz127 h74 rfl (Nat.le_of_ble_eq_true rfl) rfl fun _ h76 c77 => ?_)
    have M78 := mtn M62 c77 g17
    refine was (v := B_ (hasI L ⟨o.node.t, o.node.w⟩)) (was (v := I_ 0) (wnil (then_n (wp_ret (then_x (by nofun) (inb_r (then_x (by nofun) ?_)))))))
    refine bodyPost_ret (v := .tuple #[itV x26 (.slice dA26 dn26 dc26), B_ (hasI L ⟨o.node.t, o.node.w⟩), I_ 0]) (res3 rfl (rv_c (p := ⟨b9, 0, none⟩) (by kernel_rfl) (run_loadVars (vs := (itC x26 (.slice dA26 dn26 dc26))) Ty.ag127 Ty.sz127 h76 (by kernel_rfl))) (rv_t (by kernel_rfl)) (rv_t (by kernel_rfl))) (by kernel_rfl) ?_
    have h85 := (Dat.chg (Dat.chg (Dat.up (Dat.chg (Dat.up hD26 u32) c43 ⟨(Nat.le_trans hB g39), NotU8.of h31 (by decide)⟩) u49) c61 ⟨(Nat.le_trans hB g57), NotU8.of h48 (by decide)⟩) c77 ⟨(Nat.le_trans hB g17), NotU8.of h74 (by decide)⟩)
    have f79 : (rightB o) = true := v23
    have f80 : ¬ (o.kind = 1) := p67
    have f81 : o.kind = 2 := p71
    have f82 : (hasI L o.node) = false := v72
    have f83 : gotI L o.node = x26 := hx26
    have f84 : ¬ x26.node = o.node := by rw [← f83]; exact got_not f82 f79
    have E : doI L o = ((x26, (hasI L o.node), 0), L) := by simp [doI, nowI, f79, f80, f81, f82, f83, f84]
    rw [E]
    exact ⟨.slice dA26 dn26 dc26, rfl, h85, (RIs.up h (Mod.up M78)), (to_chg (Mod.up M78) ub)⟩
   refine wlw rfl (bneg v72) (v := pt ub 0) (mv) (wlw rfl (bneg v72) (v := pt b1 5) (fa (pt b1 0)) (wlw rfl (bneg v72) (v := .agg #[I_ o.parent.t, I_ o.parent.w]) (lds 5 Ty.ag24 Ty.sz24 h63) ?_))
   have h73 := (RIs.up h (Mod.up M62))
   refine wl (sc (wt (b := !(hasI L ⟨o.node.t, o.node.w⟩)) rfl (by kernel_rfl) (bneg v72)) (r_callv (caps := []) (all := [pt ub 0, .agg #[I_ o.parent.t, I_ o.parent.w]]) En.f142 (by kernel_rfl) (by kernel_rfl)) (rdir_at h73 o.parent.t o.parent.w) ?_)
   rintro e _ ⟨rfl, u75⟩
   refine ⟨_, rfl, ?_⟩
   have M76 := mtu M62 u75
   refine wlw rfl (bneg v72) (v := B_ (!(dirI L ⟨o.parent.t, o.parent.w⟩))) (r_not (b := (dirI L ⟨o.parent.t, o.parent.w⟩)) (by kernel_rfl)) (wlv (v := B_ (!(dirI L ⟨o.parent.t, o.parent.w⟩))) (pkF (ebk (bneg v72))) (wmv (v := B_ (!(dirI L ⟨o.parent.t, o.parent.w⟩))) ?_))
   refine bcase (dirI L ⟨o.parent.t, o.parent.w⟩) (fun v77 => ?_) (fun v77 => ?_)
   ·
    iterate 6 refine wls rfl (bneg v77) ?_
    refine wlv (v := B_ true) (pkT (ebk (bneg v77))) (wnil (then_n (wp_cond_true (by kernel_rfl) (wp_seq (rg_lit (wlv (v := itV x26 (.slice dA26 dn26 dc26)) (lds 0 Ty.ag127 Ty.sz127 (up_ob u75 (chg_ob c61 (Nat.ne_of_lt l56) (up_ob u49 h42)))) (wmv (v := B_ (hasI L ⟨o.node.t, o.node.w⟩)) ?_)))))))
    have h79 := (up_ob u75 (chg_ob c61 (Nat.ne_of_lt l55) (up_ob u49 h54)))
    refine wl (ss rfl (k := 0) (v := itV x26 (.slice dA26 dn26 dc26)) (vs := (itC x26 (.slice dA26 dn26 dc26))) (cs' := (itC x26 (.slice dA26 dn26 dc26))) (by kernel_rfl) (by kernel_rfl) rfl Ty.sz127 h79 rfl (Nat.le_of_ble_eq_true rfl) rfl fun w80 h81 c82 => ?_)
    have M83 := mtn M76 c82 g17
    refine was (v := B_ (hasI L ⟨o.node.t, o.node.w⟩)) (was (v := I_ 0) (wnil (then_n (wp_ret (then_x (by nofun) (inb_r (then_x (by nofun) ?_)))))))
    refine bodyPost_ret (v := .tuple #[itV x26 (.slice dA26 dn26 dc26), B_ (hasI L ⟨o.node.t, o.node.w⟩), I_ 0]) (res3 rfl (rv_c (p := ⟨b9, 0, none⟩) (by kernel_rfl) (run_loadVars (vs := (itC x26 (.slice dA26 dn26 dc26))) Ty.ag127 Ty.sz127 h81 (by kernel_rfl))) (rv_t (by kernel_rfl)) (rv_t (by kernel_rfl))) (by kernel_rfl) ?_
    have h91 := (Dat.chg (Dat.up (Dat.chg (Dat.up (Dat.chg (Dat.up hD26 u32) c43 ⟨(Nat.le_trans hB g39), NotU8.of h31 (by decide)⟩) u49) c61 ⟨(Nat.le_trans hB g57), NotU8.of h48 (by decide)⟩) u75) c82 ⟨(Nat.le_trans hB g17), NotU8.of h79 (by decide)⟩)
    have f84 : (rightB o) = true := v23
    have f85 : ¬ (o.kind = 1) := p67
    have f86 : o.kind = 2 := p71
    have f87 : (hasI L o.node) = true := v72
    have f88 : (dirI L o.parent) = false := v77
    have f89 : gotI L o.node = x26 := hx26
    have f90 : x26.node = o.node := by rw [← f89]; exact gotI_node f87
    have E : doI L o = ((x26, (hasI L o.node), 0), L) := by simp [doI, nowI, f84, f85, f86, f87, f88, f89, f90]
    rw [E]
    exact ⟨.slice dA26 dn26 dc26, rfl, h91, (RIs.up h (Mod.up M83)), (to_chg (Mod.up M83) ub)⟩
   refine wlw rfl (bneg v77) (v := pt ub 0) (mv) (wlw rfl (bneg v77) (v := pt b1 3) (fa (pt b1 0)) ?_)
   have h78 := (up_ob u75 h63)
   refine wlw rfl (bneg v77) (v := .agg #[I_ o.node.t, I_ o.node.w]) (lds 3 Ty.ag24 Ty.sz24 h78) (wlw rfl (bneg v77) (v := pt b1 5) (fa (pt b1 0)) (wlw rfl (bneg v77) (v := .agg #[I_ o.parent.t, I_ o.parent.w]) (lds 5 Ty.ag24 Ty.sz24 h78) ?_))
   have h79 := (RIs.up h (Mod.up M76))
   refine wl (sc (wt (b := !(dirI L ⟨o.parent.t, o.parent.w⟩)) rfl (by kernel_rfl) (bneg v77)) (r_callv (caps := []) (all := [pt ub 0, .agg #[I_ o.node.t, I_ o.node.w], .agg #[I_ o.parent.t, I_ o.parent.w]]) En.f143 (by kernel_rfl) (by kernel_rfl)) (rwithin_at h79 o.node.t o.node.w o.parent.t o.parent.w) ?_)
   rintro e w80 ⟨rfl, u81⟩
   refine ⟨_, rfl, ?_⟩
   have M82 := mtu M76 u81
   refine wlv (v := B_ (withinI L ⟨o.node.t, o.node.w⟩ 301 ⟨o.parent.t, o.parent.w⟩)) (pkF (ebk (bneg v77))) (wnil (then_n ?_))
   refine bcase (withinI L ⟨o.node.t, o.node.w⟩ 301 ⟨o.parent.t, o.parent.w⟩) (fun v83 => ?_) (fun v83 => ?_)
   ·
    refine wp_cond_false (ebk v83) (wp_skip (then_n (wp_seq (rg_lit (wlv (v := pt b1 5) (fa (pt b1 0)) ?_)))))
    have h84 := (up_ob u81 h78)
    refine wlv (v := .agg #[I_ o.parent.t, I_ o.parent.w]) (lds 5 Ty.ag24 Ty.sz24 h84) (wlv (v := pt b45 2) (fa (pt b45 0)) ?_)
    have h85 := (up_ob u81 (up_ob u75 h60))
    refine wl (ss rfl (k := 2) (v := .agg #[I_ o.parent.t, I_ o.parent.w]) (vs := [I_ o.parent.t, I_ o.parent.w]) (cs' := [I_ x26.node.t, I_ x26.node.w, I_ o.parent.t, I_ o.parent.w, S_ x26.name, B_ x26.dir, B_ x26.gone, .slice dA26 dn26 dc26, I_ x26.by_.t, I_ x26.by_.w]) (by kernel_rfl) (by kernel_rfl) rfl Ty.sz24 h85 rfl (Nat.le_of_ble_eq_true rfl) rfl fun w86 h87 c88 => wnil (then_n (wp_seq (rg_lit (wlv (v := pt b1 8) (fa (pt b1 0)) (wlv (v := S_ o.name) (ld 8 Ty.ag9 (chg_ob c88 (Nat.ne_of_lt l53) h84)) (wlv (v := pt b45 4) (fa (pt b45 0)) (wl (ss rfl (k := 4) (v := S_ o.name) (vs := [S_ o.name]) (cs' := [I_ x26.node.t, I_ x26.node.w, I_ o.parent.t, I_ o.parent.w, S_ o.name, B_ x26.dir, B_ x26.gone, .slice dA26 dn26 dc26, I_ x26.by_.t, I_ x26.by_.w]) (by kernel_rfl) (by kernel_rfl) rfl Ty.sz9 h87 rfl (Nat.le_of_ble_eq_true rfl) rfl fun w91 h92 c93 => wnil (then_n (rg_lit (wlv (v := pt b45 6) (fa (pt b45 0)) (wl (ss rfl (k := 6) (v := B_ false) (vs := [B_ false]) (cs' := [I_ x26.node.t, I_ x26.node.w, I_ o.parent.t, I_ o.parent.w, S_ o.name, B_ x26.dir, B_ false, .slice dA26 dn26 dc26, I_ x26.by_.t, I_ x26.by_.w]) (by kernel_rfl) (by kernel_rfl) rfl Ty.sz4 h92 rfl (Nat.le_of_ble_eq_true rfl) rfl fun _ h96 c97 => ?_))))))))))))))
    have M98 := mtn (mtn (mtn M82 c88 g57) c93 g57) c97 g57
    refine wnil (inb_n (then_n (wp_seq (rg_lit (wmv (v := pt ub 0) (wlv (v := .agg #[I_ x26.node.t, I_ x26.node.w, I_ o.parent.t, I_ o.parent.w, S_ o.name, B_ x26.dir, B_ false, .slice dA26 dn26 dc26, I_ x26.by_.t, I_ x26.by_.w]) (lds 0 Ty.ag127 Ty.sz127 h96) ?_))))))
    have h99 := (RIs.up h (Mod.up M98))
    have hN100 : setI (⟨⟨x26.node.t, x26.node.w⟩, ⟨o.parent.t, o.parent.w⟩, o.name, x26.dir, false, x26.data, ⟨x26.by_.t, x26.by_.w⟩⟩ : Item) true L = putI ⟨⟨x26.node.t, x26.node.w⟩, ⟨o.parent.t, o.parent.w⟩, o.name, x26.dir, false, x26.data, ⟨x26.by_.t, x26.by_.w⟩⟩ L := setI_true hsrt
    have hl100 : (setI (⟨⟨x26.node.t, x26.node.w⟩, ⟨o.parent.t, o.parent.w⟩, o.name, x26.dir, false, x26.data, ⟨x26.by_.t, x26.by_.w⟩⟩ : Item) true L).length ≤ 300 := by rw [hN100]; exact (putI_len_has (it := ⟨⟨x26.node.t, x26.node.w⟩, ⟨o.parent.t, o.parent.w⟩, o.name, x26.dir, false, x26.data, ⟨x26.by_.t, x26.by_.w⟩⟩) hsrt (show hasI L x26.node = true from by rw [← hx26, gotI_node v72]; exact v72) hL)
    have h103 := (chg_ob c97 (Nat.ne_of_lt l55) (chg_ob c93 (Nat.ne_of_lt l55) (chg_ob c88 (Nat.ne_of_lt l55) (up_ob u81 (up_ob u75 (chg_ob c61 (Nat.ne_of_lt l55) (up_ob u49 h54)))))))
    have h105 := (Dat.chg (Dat.chg (Dat.chg (Dat.up (Dat.up (Dat.chg (Dat.up (Dat.chg (Dat.up hD26 u32) c43 ⟨(Nat.le_trans hB g39), NotU8.of h31 (by decide)⟩) u49) c61 ⟨(Nat.le_trans hB g57), NotU8.of h48 (by decide)⟩) u75) u81) c88 ⟨(Nat.le_trans hB g57), NotU8.of h85 (by decide)⟩) c93 ⟨(Nat.le_trans hB g57), NotU8.of h87 (by decide)⟩) c97 ⟨(Nat.le_trans hB g57), NotU8.of h92 (by decide)⟩)
    refine wl (sca [pt ub 0, .agg #[I_ x26.node.t, I_ x26.node.w, I_ o.parent.t, I_ o.parent.w, S_ o.name, B_ x26.dir, B_ false, .slice dA26 dn26 dc26, I_ x26.by_.t, I_ x26.by_.w], B_ true] En.f85 (rset_at h99 (Nat.le_trans hB M98.size) ⟨⟨x26.node.t, x26.node.w⟩, ⟨o.parent.t, o.parent.w⟩, o.name, x26.dir, false, x26.data, ⟨x26.by_.t, x26.by_.w⟩⟩ dA26 dn26 dc26 h105 true hl100) ?_)
    rintro e _ ⟨rfl, hR100, hC100⟩
    refine ⟨_, rfl, ?_⟩
    refine wnil (then_n (wp_seq (rg_lit (wlv (v := itV x26 (.slice dA26 dn26 dc26)) (lds 0 Ty.ag127 Ty.sz127 (chg_ob hC100 (Nat.ne_of_gt l34) (chg_ob c97 (Nat.ne_of_lt l56) (chg_ob c93 (Nat.ne_of_lt l56) (chg_ob c88 (Nat.ne_of_lt l56) (up_ob u81 (up_ob u75 (chg_ob c61 (Nat.ne_of_lt l56) (up_ob u49 h42))))))))) (wmv (v := B_ (hasI L ⟨o.node.t, o.node.w⟩)) ?_)))))
    have h108 := (chg_ob hC100 (Nat.ne_of_gt l15) h103)
    refine wl (ss rfl (k := 0) (v := itV x26 (.slice dA26 dn26 dc26)) (vs := (itC x26 (.slice dA26 dn26 dc26))) (cs' := (itC x26 (.slice dA26 dn26 dc26))) (by kernel_rfl) (by kernel_rfl) rfl Ty.sz127 h108 rfl (Nat.le_of_ble_eq_true rfl) rfl fun _ h110 c111 => was (v := B_ (hasI L ⟨o.node.t, o.node.w⟩)) (was (v := I_ 0) (wnil (then_n (wp_ret ?_)))))
    refine bodyPost_ret (v := .tuple #[itV x26 (.slice dA26 dn26 dc26), B_ (hasI L ⟨o.node.t, o.node.w⟩), I_ 0]) (res3 rfl (rv_c (p := ⟨b9, 0, none⟩) (by kernel_rfl) (run_loadVars (vs := (itC x26 (.slice dA26 dn26 dc26))) Ty.ag127 Ty.sz127 h110 (by kernel_rfl))) (rv_t (by kernel_rfl)) (rv_t (by kernel_rfl))) (by kernel_rfl) ?_
    have h121 := (RIb.chg hR100 c111 ⟨(Nat.le_trans hB g17), NotU8.of h108 (by decide)⟩ (Nat.ne_of_lt l15) (lt_ob h103))
    have h122 := (Dat.chg (Dat.chg h105 hC100 ⟨huub, NotU8.of (md_ob M98 nin0 hv) (by decide)⟩) c111 ⟨(Nat.le_trans hB g17), NotU8.of h108 (by decide)⟩)
    have f113 : (rightB o) = true := v23
    have f114 : ¬ (o.kind = 1) := p67
    have f115 : o.kind = 2 := p71
    have f116 : (hasI L o.node) = true := v72
    have f117 : (dirI L o.parent) = true := v77
    have f118 : (withinI L o.node 301 o.parent) = false := v83
    have f119 : gotI L o.node = x26 := hx26
    have f120 : x26.node = o.node := by rw [← f119]; exact gotI_node f116
    rw [hN100] at h121
    have E : doI L o = ((x26, (hasI L o.node), 0), putI ⟨⟨x26.node.t, x26.node.w⟩, ⟨o.parent.t, o.parent.w⟩, o.name, x26.dir, false, x26.data, ⟨x26.by_.t, x26.by_.w⟩⟩ L) := by simp [doI, nowI, f113, f114, f115, f116, f117, f118, f119, f120]; first | done | rfl
    rw [E]
    exact ⟨.slice dA26 dn26 dc26, rfl, h122, (RIb.ris h121 (Nat.le_trans hB M98.size)), (Mod.chg (mtn (md_old M98 hC100) c111 g17))⟩
   refine wp_cond_true (ebk v83) (wp_seq (rg_lit (wlv (v := itV x26 (.slice dA26 dn26 dc26)) (lds 0 Ty.ag127 Ty.sz127 (up_ob u81 (up_ob u75 (chg_ob c61 (Nat.ne_of_lt l56) (up_ob u49 h42))))) (wmv (v := B_ (hasI L ⟨o.node.t, o.node.w⟩)) ?_))))
   have h85 := (up_ob u81 (up_ob u75 (chg_ob c61 (Nat.ne_of_lt l55) (up_ob u49 h54))))
   refine wl (ss rfl (k := 0) (v := itV x26 (.slice dA26 dn26 dc26)) (vs := (itC x26 (.slice dA26 dn26 dc26))) (cs' := (itC x26 (.slice dA26 dn26 dc26))) (by kernel_rfl) (by kernel_rfl) rfl Ty.sz127 h85 rfl (Nat.le_of_ble_eq_true rfl) rfl fun w86 h87 c88 => ?_)
   have M89 := mtn M82 c88 g17
   refine was (v := B_ (hasI L ⟨o.node.t, o.node.w⟩)) (was (v := I_ 0) (wnil (then_n (wp_ret (then_x (by nofun) (inb_r (then_x (by nofun) ?_)))))))
   refine bodyPost_ret (v := .tuple #[itV x26 (.slice dA26 dn26 dc26), B_ (hasI L ⟨o.node.t, o.node.w⟩), I_ 0]) (res3 rfl (rv_c (p := ⟨b9, 0, none⟩) (by kernel_rfl) (run_loadVars (vs := (itC x26 (.slice dA26 dn26 dc26))) Ty.ag127 Ty.sz127 h87 (by kernel_rfl))) (rv_t (by kernel_rfl)) (rv_t (by kernel_rfl))) (by kernel_rfl) ?_
   have h98 := (Dat.chg (Dat.up (Dat.up (Dat.chg (Dat.up (Dat.chg (Dat.up hD26 u32) c43 ⟨(Nat.le_trans hB g39), NotU8.of h31 (by decide)⟩) u49) c61 ⟨(Nat.le_trans hB g57), NotU8.of h48 (by decide)⟩) u75) u81) c88 ⟨(Nat.le_trans hB g17), NotU8.of h85 (by decide)⟩)
   have f90 : (rightB o) = true := v23
   have f91 : ¬ (o.kind = 1) := p67
   have f92 : o.kind = 2 := p71
   have f93 : (hasI L o.node) = true := v72
   have f94 : (dirI L o.parent) = true := v77
   have f95 : (withinI L o.node 301 o.parent) = true := v83
   have f96 : gotI L o.node = x26 := hx26
   have f97 : x26.node = o.node := by rw [← f96]; exact gotI_node f93
   have E : doI L o = ((x26, (hasI L o.node), 0), L) := by simp [doI, nowI, f90, f91, f92, f93, f94, f95, f96, f97]
   rw [E]
   exact ⟨.slice dA26 dn26 dc26, rfl, h98, (RIs.up h (Mod.up M89)), (to_chg (Mod.up M89) ub)⟩
  refine wp_cond_true (ebk v66) (wp_seq (wp_seq (rg_lit ?_)))
  iterate 2 refine wmv (v := B_ (hasI L ⟨o.node.t, o.node.w⟩)) ?_
  refine bcase (hasI L ⟨o.node.t, o.node.w⟩) (fun v68 => ?_) (fun v68 => ?_)
  ·
   refine wlw rfl v68 (v := pt ub 0) (mv) (wlw rfl v68 (v := pt b1 5) (fa (pt b1 0)) (wlw rfl v68 (v := .agg #[I_ o.parent.t, I_ o.parent.w]) (lds 5 Ty.ag24 Ty.sz24 h63) ?_))
   have h69 := (RIs.up h (Mod.up M62))
   refine wl (sc (wt (b := (hasI L ⟨o.node.t, o.node.w⟩)) rfl (by kernel_rfl) v68) (r_callv (caps := []) (all := [pt ub 0, .agg #[I_ o.parent.t, I_ o.parent.w]]) En.f142 (by kernel_rfl) (by kernel_rfl)) (rdir_at h69 o.parent.t o.parent.w) ?_)
   rintro e _ ⟨rfl, u71⟩
   refine ⟨_, rfl, ?_⟩
   have M72 := mtu M62 u71
   refine wlw rfl v68 (v := B_ (!(dirI L ⟨o.parent.t, o.parent.w⟩))) (r_not (b := (dirI L ⟨o.parent.t, o.parent.w⟩)) (by kernel_rfl)) (wlv (v := B_ (!(dirI L ⟨o.parent.t, o.parent.w⟩))) (pkF (ebk v68)) (wnil (then_n ?_)))
   refine bcase (dirI L ⟨o.parent.t, o.parent.w⟩) (fun v73 => ?_) (fun v73 => ?_)
   ·
    refine wp_cond_true (ebk (bneg v73)) (wp_seq (rg_lit (wlv (v := itV x26 (.slice dA26 dn26 dc26)) (lds 0 Ty.ag127 Ty.sz127 (up_ob u71 (chg_ob c61 (Nat.ne_of_lt l56) (up_ob u49 h42)))) (wmv (v := B_ (hasI L ⟨o.node.t, o.node.w⟩)) ?_))))
    have h75 := (up_ob u71 (chg_ob c61 (Nat.ne_of_lt l55) (up_ob u49 h54)))
    refine wl (ss rfl (k := 0) (v := itV x26 (.slice dA26 dn26 dc26)) (vs := (itC x26 (.slice dA26 dn26 dc26))) (cs' := (itC x26 (.slice dA26 dn26 dc26))) (by kernel_rfl) (by kernel_rfl) rfl Ty.sz127 h75 rfl (Nat.le_of_ble_eq_true rfl) rfl fun _ h77 c78 => ?_)
    have M79 := mtn M72 c78 g17
    refine was (v := B_ (hasI L ⟨o.node.t, o.node.w⟩)) (was (v := I_ 0) (wnil (then_n (wp_ret (then_x (by nofun) (inb_r (then_x (by nofun) ?_)))))))
    refine bodyPost_ret (v := .tuple #[itV x26 (.slice dA26 dn26 dc26), B_ (hasI L ⟨o.node.t, o.node.w⟩), I_ 0]) (res3 rfl (rv_c (p := ⟨b9, 0, none⟩) (by kernel_rfl) (run_loadVars (vs := (itC x26 (.slice dA26 dn26 dc26))) Ty.ag127 Ty.sz127 h77 (by kernel_rfl))) (rv_t (by kernel_rfl)) (rv_t (by kernel_rfl))) (by kernel_rfl) ?_
    have h86 := (Dat.chg (Dat.up (Dat.chg (Dat.up (Dat.chg (Dat.up hD26 u32) c43 ⟨(Nat.le_trans hB g39), NotU8.of h31 (by decide)⟩) u49) c61 ⟨(Nat.le_trans hB g57), NotU8.of h48 (by decide)⟩) u71) c78 ⟨(Nat.le_trans hB g17), NotU8.of h75 (by decide)⟩)
    have f80 : (rightB o) = true := v23
    have f81 : o.kind = 1 := p67
    have f82 : (hasI L o.node) = false := v68
    have f83 : (dirI L o.parent) = false := v73
    have f84 : gotI L o.node = x26 := hx26
    have f85 : ¬ x26.node = o.node := by rw [← f84]; exact got_not f82 f80
    have E : doI L o = ((x26, (hasI L o.node), 0), L) := by simp [doI, nowI, f80, f81, f82, f83, f84, f85]
    rw [E]
    exact ⟨.slice dA26 dn26 dc26, rfl, h86, (RIs.up h (Mod.up M79)), (to_chg (Mod.up M79) ub)⟩
   refine wp_cond_false (ebk (bneg v73)) (wp_skip (then_n (wp_seq (wp_seq (rg_lit (wmv (v := pt ub 0) (wlv (v := pt ub 0) (nck) (wlv (v := pt ub 0) (fa (pt ub 0)) (wlv (v := .slice lA L.length lc) (ld 0 Ty.ag64 (md_ob M72 nin0 hv)) (wlv (v := I_ L.length) (ln lA L.length lc Ty.un64) (wl (sb rfl (r_ge (k := .i64) (m := (L.length : Int)) (n := 300) (by kernel_rfl) (by kernel_rfl)) fun _ k76 => wnil (then_n ?_)))))))))))))
   refine bcd k76 (fun v77 p78 => ?_) (fun v77 p78 => ?_)
   ·
    refine wp_cond_false (ebk v77) (wp_skip (then_n (rg_lit (wlv (v := pt b1 3) (fa (pt b1 0)) ?_))))
    have h79 := (up_ob u71 h63)
    refine wlv (v := .agg #[I_ o.node.t, I_ o.node.w]) (lds 3 Ty.ag24 Ty.sz24 h79) (wlv (v := pt b1 5) (fa (pt b1 0)) (wlv (v := .agg #[I_ o.parent.t, I_ o.parent.w]) (lds 5 Ty.ag24 Ty.sz24 h79) (wlv (v := pt b1 8) (fa (pt b1 0)) (wlv (v := S_ o.name) (ld 8 Ty.ag9 h79) (wlv (v := pt b1 7) (fa (pt b1 0)) (wlv (v := B_ o.dir) (ld 7 Ty.ag4 h79) (wlv (v := .agg #[I_ o.node.t, I_ o.node.w, I_ o.parent.t, I_ o.parent.w, S_ o.name, B_ o.dir, B_ false, .slice none 0 0, I_ 0, I_ 0]) (r_build (ps := [(0, .agg #[I_ o.node.t, I_ o.node.w]), (1, .agg #[I_ o.parent.t, I_ o.parent.w]), (2, S_ o.name), (3, B_ o.dir)]) (cs := [I_ o.node.t, I_ o.node.w, I_ o.parent.t, I_ o.parent.w, S_ o.name, B_ o.dir, B_ false, .slice none 0 0, I_ 0, I_ 0]) Ty.un127 Ty.zv127 Ty.pl127 (by kernel_rfl) (by kernel_rfl)) ?_)))))))
    have h80 := (up_ob u71 h60)
    refine wl (ss rfl (k := 0) (v := .agg #[I_ o.node.t, I_ o.node.w, I_ o.parent.t, I_ o.parent.w, S_ o.name, B_ o.dir, B_ false, .slice none 0 0, I_ 0, I_ 0]) (vs := [I_ o.node.t, I_ o.node.w, I_ o.parent.t, I_ o.parent.w, S_ o.name, B_ o.dir, B_ false, .slice none 0 0, I_ 0, I_ 0]) (cs' := [I_ o.node.t, I_ o.node.w, I_ o.parent.t, I_ o.parent.w, S_ o.name, B_ o.dir, B_ false, .slice none 0 0, I_ 0, I_ 0]) (by kernel_rfl) (by kernel_rfl) rfl Ty.sz127 h80 rfl (Nat.le_of_ble_eq_true rfl) rfl fun _ h82 c83 => ?_)
    have M84 := mtn M72 c83 g57
    refine wnil (inb_n (then_n (wp_seq (rg_lit (wmv (v := pt ub 0) (wlv (v := .agg #[I_ o.node.t, I_ o.node.w, I_ o.parent.t, I_ o.parent.w, S_ o.name, B_ o.dir, B_ false, .slice none 0 0, I_ 0, I_ 0]) (lds 0 Ty.ag127 Ty.sz127 h82) ?_))))))
    have h85 := (RIs.up h (Mod.up M84))
    have hN86 : setI (⟨⟨o.node.t, o.node.w⟩, ⟨o.parent.t, o.parent.w⟩, o.name, o.dir, false, [], ⟨0, 0⟩⟩ : Item) true L = putI ⟨⟨o.node.t, o.node.w⟩, ⟨o.parent.t, o.parent.w⟩, o.name, o.dir, false, [], ⟨0, 0⟩⟩ L := setI_true hsrt
    have hl86 : (setI (⟨⟨o.node.t, o.node.w⟩, ⟨o.parent.t, o.parent.w⟩, o.name, o.dir, false, [], ⟨0, 0⟩⟩ : Item) true L).length ≤ 300 := by rw [hN86]; exact (putI_len_new (it := ⟨⟨o.node.t, o.node.w⟩, ⟨o.parent.t, o.parent.w⟩, o.name, o.dir, false, [], ⟨0, 0⟩⟩) (by omega))
    have h89 := (chg_ob c83 (Nat.ne_of_lt l55) (up_ob u71 (chg_ob c61 (Nat.ne_of_lt l55) (up_ob u49 h54))))
    refine wl (sca [pt ub 0, .agg #[I_ o.node.t, I_ o.node.w, I_ o.parent.t, I_ o.parent.w, S_ o.name, B_ o.dir, B_ false, .slice none 0 0, I_ 0, I_ 0], B_ true] En.f85 (rset_at h85 (Nat.le_trans hB M84.size) ⟨⟨o.node.t, o.node.w⟩, ⟨o.parent.t, o.parent.w⟩, o.name, o.dir, false, [], ⟨0, 0⟩⟩ none 0 0 (Dat.nil B _) true hl86) ?_)
    rintro e w86 ⟨rfl, hR86, hC86⟩
    refine ⟨_, rfl, ?_⟩
    refine wnil (then_n (wp_seq (rg_lit (wlv (v := itV x26 (.slice dA26 dn26 dc26)) (lds 0 Ty.ag127 Ty.sz127 (chg_ob hC86 (Nat.ne_of_gt l34) (chg_ob c83 (Nat.ne_of_lt l56) (up_ob u71 (chg_ob c61 (Nat.ne_of_lt l56) (up_ob u49 h42)))))) (wmv (v := B_ (hasI L ⟨o.node.t, o.node.w⟩)) ?_)))))
    have h93 := (chg_ob hC86 (Nat.ne_of_gt l15) h89)
    refine wl (ss rfl (k := 0) (v := itV x26 (.slice dA26 dn26 dc26)) (vs := (itC x26 (.slice dA26 dn26 dc26))) (cs' := (itC x26 (.slice dA26 dn26 dc26))) (by kernel_rfl) (by kernel_rfl) rfl Ty.sz127 h93 rfl (Nat.le_of_ble_eq_true rfl) rfl fun _ h95 c96 => was (v := B_ (hasI L ⟨o.node.t, o.node.w⟩)) (was (v := I_ 0) (wnil (then_n (wp_ret ?_)))))
    refine bodyPost_ret (v := .tuple #[itV x26 (.slice dA26 dn26 dc26), B_ (hasI L ⟨o.node.t, o.node.w⟩), I_ 0]) (res3 rfl (rv_c (p := ⟨b9, 0, none⟩) (by kernel_rfl) (run_loadVars (vs := (itC x26 (.slice dA26 dn26 dc26))) Ty.ag127 Ty.sz127 h95 (by kernel_rfl))) (rv_t (by kernel_rfl)) (rv_t (by kernel_rfl))) (by kernel_rfl) ?_
    have h105 := (RIb.chg hR86 c96 ⟨(Nat.le_trans hB g17), NotU8.of h93 (by decide)⟩ (Nat.ne_of_lt l15) (lt_ob h89))
    have h106 := (Dat.chg (Dat.chg (Dat.chg (Dat.up (Dat.chg (Dat.up (Dat.chg (Dat.up hD26 u32) c43 ⟨(Nat.le_trans hB g39), NotU8.of h31 (by decide)⟩) u49) c61 ⟨(Nat.le_trans hB g57), NotU8.of h48 (by decide)⟩) u71) c83 ⟨(Nat.le_trans hB g57), NotU8.of h80 (by decide)⟩) hC86 ⟨huub, NotU8.of (md_ob M84 nin0 hv) (by decide)⟩) c96 ⟨(Nat.le_trans hB g17), NotU8.of h93 (by decide)⟩)
    have f98 : (rightB o) = true := v23
    have f99 : o.kind = 1 := p67
    have f100 : (hasI L o.node) = false := v68
    have f101 : (dirI L o.parent) = true := v73
    have f102 : ¬ 300 ≤ L.length := by omega
    have f103 : gotI L o.node = x26 := hx26
    have f104 : ¬ x26.node = o.node := by rw [← f103]; exact got_not f100 f98
    rw [hN86] at h105
    have E : doI L o = ((x26, (hasI L o.node), 0), putI ⟨⟨o.node.t, o.node.w⟩, ⟨o.parent.t, o.parent.w⟩, o.name, o.dir, false, [], ⟨0, 0⟩⟩ L) := by simp [doI, nowI, f98, f99, f100, f101, f102, f103, f104]; first | done | rfl
    rw [E]
    exact ⟨.slice dA26 dn26 dc26, rfl, h106, (RIb.ris h105 (Nat.le_trans hB M84.size)), (Mod.chg (mtn (md_old M84 hC86) c96 g17))⟩
   refine wp_cond_true (ebk v77) (wp_seq (rg_lit (wlv (v := .agg #[I_ 0, I_ 0, I_ 0, I_ 0, S_ (⟨#[]⟩), B_ false, B_ false, .slice none 0 0, I_ 0, I_ 0]) (r_build (ps := []) (cs := [I_ 0, I_ 0, I_ 0, I_ 0, S_ (⟨#[]⟩), B_ false, B_ false, .slice none 0 0, I_ 0, I_ 0]) Ty.un127 Ty.zv127 Ty.pl127 (by kernel_rfl) (by kernel_rfl)) (wl (ss rfl (k := 0) (v := .agg #[I_ 0, I_ 0, I_ 0, I_ 0, S_ (⟨#[]⟩), B_ false, B_ false, .slice none 0 0, I_ 0, I_ 0]) (vs := [I_ 0, I_ 0, I_ 0, I_ 0, S_ (⟨#[]⟩), B_ false, B_ false, .slice none 0 0, I_ 0, I_ 0]) (cs' := [I_ 0, I_ 0, I_ 0, I_ 0, S_ (⟨#[]⟩), B_ false, B_ false, .slice none 0 0, I_ 0, I_ 0]) (by kernel_rfl) (by kernel_rfl) rfl Ty.sz127 (up_ob u71 (chg_ob c61 (Nat.ne_of_lt l55) (up_ob u49 h54))) rfl (Nat.le_of_ble_eq_true rfl) rfl fun w80 h81 c82 => ?_)))))
   have M83 := mtn M72 c82 g17
   refine was (v := B_ false) (was (v := I_ 3) (wnil (then_n (wp_ret (then_x (by nofun) (inb_r (then_x (by nofun) ?_)))))))
   refine bodyPost_ret (v := .tuple #[.agg #[I_ 0, I_ 0, I_ 0, I_ 0, S_ (⟨#[]⟩), B_ false, B_ false, .slice none 0 0, I_ 0, I_ 0], B_ false, I_ 3]) (res3 rfl (rv_c (p := ⟨b9, 0, none⟩) (by kernel_rfl) (run_loadVars (vs := [I_ 0, I_ 0, I_ 0, I_ 0, S_ (⟨#[]⟩), B_ false, B_ false, .slice none 0 0, I_ 0, I_ 0]) Ty.ag127 Ty.sz127 h81 (by kernel_rfl))) (rv_t (by kernel_rfl)) (rv_t (by kernel_rfl))) (by kernel_rfl) ?_
   have f84 : (rightB o) = true := v23
   have f85 : o.kind = 1 := p67
   have f86 : (hasI L o.node) = false := v68
   have f87 : (dirI L o.parent) = true := v73
   have f88 : 300 ≤ L.length := by omega
   have f89 : gotI L o.node = x26 := hx26
   have f90 : ¬ x26.node = o.node := by rw [← f89]; exact got_not f86 f84
   have E : doI L o = ((nilI, false, 3), L) := by simp [doI, nowI, f84, f85, f86, f87, f88, f89, f90]
   rw [E]
   exact ⟨.slice none 0 0, rfl, (Dat.nil B _), (RIs.up h (Mod.up M83)), (to_chg (Mod.up M83) ub)⟩
  iterate 5 refine wls rfl v68 ?_
  refine wlv (v := B_ true) (pkT (ebk v68)) (wnil (then_n (wp_cond_true (by kernel_rfl) (wp_seq (rg_lit (wlv (v := itV x26 (.slice dA26 dn26 dc26)) (lds 0 Ty.ag127 Ty.sz127 (chg_ob c61 (Nat.ne_of_lt l56) (up_ob u49 h42))) (wmv (v := B_ (hasI L ⟨o.node.t, o.node.w⟩)) ?_)))))))
  have h70 := (chg_ob c61 (Nat.ne_of_lt l55) (up_ob u49 h54))
  refine wl (ss rfl (k := 0) (v := itV x26 (.slice dA26 dn26 dc26)) (vs := (itC x26 (.slice dA26 dn26 dc26))) (cs' := (itC x26 (.slice dA26 dn26 dc26))) (by kernel_rfl) (by kernel_rfl) rfl Ty.sz127 h70 rfl (Nat.le_of_ble_eq_true rfl) rfl fun _ h72 c73 => ?_)
  have M74 := mtn M62 c73 g17
  refine was (v := B_ (hasI L ⟨o.node.t, o.node.w⟩)) (was (v := I_ 0) (wnil (then_n (wp_ret (then_x (by nofun) (inb_r (then_x (by nofun) ?_)))))))
  refine bodyPost_ret (v := .tuple #[itV x26 (.slice dA26 dn26 dc26), B_ (hasI L ⟨o.node.t, o.node.w⟩), I_ 0]) (res3 rfl (rv_c (p := ⟨b9, 0, none⟩) (by kernel_rfl) (run_loadVars (vs := (itC x26 (.slice dA26 dn26 dc26))) Ty.ag127 Ty.sz127 h72 (by kernel_rfl))) (rv_t (by kernel_rfl)) (rv_t (by kernel_rfl))) (by kernel_rfl) ?_
  have h80 := (Dat.chg (Dat.chg (Dat.up (Dat.chg (Dat.up hD26 u32) c43 ⟨(Nat.le_trans hB g39), NotU8.of h31 (by decide)⟩) u49) c61 ⟨(Nat.le_trans hB g57), NotU8.of h48 (by decide)⟩) c73 ⟨(Nat.le_trans hB g17), NotU8.of h70 (by decide)⟩)
  have f75 : (rightB o) = true := v23
  have f76 : o.kind = 1 := p67
  have f77 : (hasI L o.node) = true := v68
  have f78 : gotI L o.node = x26 := hx26
  have f79 : x26.node = o.node := by rw [← f78]; exact gotI_node f77
  have E : doI L o = ((x26, (hasI L o.node), 0), L) := by simp [doI, nowI, f75, f76, f77, f78, f79]
  rw [E]
  exact ⟨.slice dA26 dn26 dc26, rfl, h80, (RIs.up h (Mod.up M74)), (to_chg (Mod.up M74) ub)⟩
end Go.Proofs.YtefhfoioeoijlaaGreatDoor
set_option linter.unusedVariables false
set_option linter.unusedSimpArgs false
namespace Go.Proofs.YtefhfoioeoijlaaGreatDoor
open Go Go.RowKit Go.Sort
set_option maxHeartbeats 2000000 in
theorem rbuild_at {B : Nat} {w : World} {lA : Option Addr} {lc : Nat} {os : List OpD} (h : OpRow B w lA os) (hB : B ≤ w.heap.size) (hn : os.length ≤ 100000) :
    Calls Tryz.prog 28 #[.slice lA os.length lc] w fun e w' => ∃ ub, e = .returned (trP ub) ∧ RIs B w' ub (buildI os) ∧ Up w w' ∧ w.heap.size ≤ ub := by
  have hnm := h.names
  have hsl := sortO_len os
  go_enter Tryz.func28, Tryz.ntmps28
  refine wp_seq (rg_lit (was (v := .pointer none) (wnil (then_n (wp_seq (rg_lit (wlv (v := .agg #[.slice none 0 0]) (r_build (ps := []) (cs := [.slice none 0 0]) Ty.un126 Ty.zv126 Ty.pl126 (by kernel_rfl) (by kernel_rfl)) (wl (sn rfl (cs := #[.slice none 0 0]) (T := 126) (V := fun b => pt b 0) (r_box (v := .agg #[.slice none 0 0]) (by kernel_rfl) rfl) fun ub w1 e2 h3 u4 => ?_)))))))))
  have g5 := gsz e2 (Mod.refl [] w)
  have M6 := mtu (Mod.refl [] w) u4
  have h7 : RIs B w1 ub [] := ⟨Nat.le_trans hB g5, _, h3, RowI.nil _ _ _, (by nofun), (by simp)⟩
  refine was (v := pt ub 0) (wnil (then_n (wp_seq (rg_lit (wmv (v := .slice lA os.length lc) ?_)))))
  have h8 := (OpRow.up h (Mod.up M6))
  refine wl (sca [.slice lA os.length lc] En.f81 (orow_sl (rsort_at h8 (Nat.le_trans hB M6.size) hn)) ?_)
  rintro e w9 ⟨A10, c11, rfl, h12, u13⟩
  refine ⟨_, rfl, ?_⟩
  refine was (v := .slice A10 ((sortO os).length) c11) (wnil (then_n (wp_seq (wp_seq (rg_lit (was (v := I_ 0) (wnil (then_n (wp_block ?_)))))))))
  have h17 := (RIs.up h7 u13)
  refine lp (fun n a r1 => ∃ (kk : Nat) (Lc : List Item), (n = (sortO os).length - kk) ∧ (HasFr a 23 [(0, .slice lA os.length lc), (2, .pointer none), (3, pt ub 0), (4, .slice A10 ((sortO os).length) c11), (5, I_ kk)] []) ∧ (Mod [ub] w9 r1) ∧ (kk ≤ (sortO os).length) ∧ (Lc = ((sortO os).take kk).foldl playI []) ∧ (RIs B r1 ub Lc)) ⟨_, 0, [], rfl, hmk, Mod.refl _ _, (Nat.zero_le _), rfl, h17⟩ ?_
  rintro _ _ r1 ⟨kk, Lc, rfl, h18, hM1, _, hF1_1, hF1_2⟩
  obtain ⟨_, rfl⟩ := h18
  have M19 := Mod.thin (mtu M6 u13) hM1 (fun y hy => by simp only [List.mem_cons, List.not_mem_nil, or_false] at hy; subst hy; exact .inr g5)
  have hsr : Srt Lc := by rw [hF1_1]; exact (fold_wf Wf.nil (by simp)).1.srt
  have hhu20 := hF1_2
  obtain ⟨_, _, _, hlu20, _, _⟩ := hhu20
  rw [rowI_is] at hlu20
  obtain ⟨_, _, rfl⟩ := hlu20.form
  refine wp_seq (wp_seq (rg_lit (wmv (v := I_ kk) (wmv (v := .slice A10 ((sortO os).length) c11) (wlv (v := I_ (((sortO os).length) : Int)) (ln A10 ((sortO os).length) c11 Ty.un22) (wl (sb rfl (ltI kk (((sortO os).length) : Int)) fun _ k22 => wnil (then_n ?_))))))))
  refine bcd k22 (fun v23 p24 => ?_) (fun v23 p24 => ?_)
  ·
   refine wp_cond_false (ebk v23) (wp_exit (then_x (by nofun) (then_x (by nofun) (inb_hit (then_n (wp_seq (rg_lit (wmv (v := pt ub 0) (was (v := pt ub 0) (wnil (then_n (wp_ret ?_))))))))))))
   refine br1 (v := pt ub 0) rfl ?_
   refine ⟨ub, rfl, ?_, (Mod.up M19), g5⟩
   have h0 := hF1_2
   rw [hF1_1, List.take_of_length_le (by omega)] at h0
   exact h0
  refine wp_cond_true (ebk v23) (wp_skip (then_n (wp_seq (wp_block (rg_lit (wmv (v := pt ub 0) (wmv (v := .slice A10 ((sortO os).length) c11) (wmv (v := I_ kk) ?_))))))))
  have h25 := (ORow.chgn h12 (Mod.chg hM1) ⟨h17.1, NotU8.of (up_ob u13 h3) (by decide)⟩ (ORow.ne_old h12 (lt_ob h3)))
  obtain ⟨o26, ho26⟩ : ∃ x, (sortO os)[kk]? = some x := ⟨_, List.getElem?_eq_getElem (by omega)⟩
  obtain ⟨g26, _, cu26, dA26, dn26, dc26, hA26, _, hb26, he26, hD26⟩ := ORow.get h25 ho26
  injection hA26 with hA26 _ _
  replace he26 : (cu26.toList.drop (0 + kk * 10)).take 10 = opC o26 (.slice dA26 dn26 dc26) := by rw [Nat.zero_add]; exact he26
  refine wlv (v := pt g26 (0 + kk * 10)) (ixa ((sortO os).length) c11 10 kk hA26 Ty.un22 Ty.sz49) (wlv (v := opV o26 (.slice dA26 dn26 dc26)) (r_loads (k := 0 + kk * 10) (by kernel_rfl) Ty.ag49 Ty.sz49 hb26 (el_sub0 he26 rfl)) (wl (sca [pt ub 0, opV o26 (.slice dA26 dn26 dc26)] En.f82 (rdo_x hF1_2 (Nat.le_trans hB M19.size) hsr o26 dA26 dn26 dc26 hD26 (hnm _ (List.mem_of_getElem? ho26)) (rdo_at hF1_2 (Nat.le_trans hB M19.size) hsr o26 dA26 dn26 dc26 hD26 (hnm _ (List.mem_of_getElem? ho26)))) ?_)))
  rintro e _ ⟨_, _, _, rfl, _, h32, u33⟩
  refine ⟨_, rfl, ?_⟩
  have hhu36 := h32
  obtain ⟨_, _, _, hlu36, _, _⟩ := hhu36
  rw [rowI_is] at hlu36
  obtain ⟨_, _, rfl⟩ := hlu36.form
  refine wnil (inb_n (then_n (rg_lit (wmv (v := I_ kk) (wlv (v := N_ (kk + 1)) (adN kk 1) (was (v := N_ (kk + 1)) (wnil (then_n ?_))))))))
  refine ⟨(sortO os).length - (kk + 1), ?_, (kk + 1), (playI Lc o26), rfl, hmk, (mtx hM1 u33), (by omega), (by rw [tkO ho26, List.foldl_append, ← hF1_1]; rfl), h32⟩
  · omega
end Go.Proofs.YtefhfoioeoijlaaGreatDoor

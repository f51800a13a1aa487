/- GP: printed by gen.py -/
import Derived.Test.YtefhfoioeoijlaaGOL
import Derived.Test.YtefhfoioeoijlaaUndoLaw
import Derived.Test.YtefhfoioeoijlaaGB
import Derived.Test.YtefhfoioeoijlaaOpArg
import Derived.Test.YtefhfoioeoijlaaGI
set_option linter.unusedVariables false
set_option linter.unusedSimpArgs false
namespace Go.Proofs.Ytefhfoioeoijlaa
open Go Go.RowKit Go.Sort
theorem right_node {o : OpD} (h : rightB o = true) : stR o.node = true := by unfold rightB at h; simp only [Bool.and_eq_true] at h; exact h.2.1
set_option maxHeartbeats 2000000 in
theorem treeUndoes_at {B : Nat} {w : World} {lA : Option Addr} {lc : Nat} {os : List OpD} (h0 : OpRow0 w lA os) (hfull : Small os → OpRow B w lA os) (hB : B ≤ w.heap.size) (hn : os.length ≤ 9223372036854775807) (o : OpD) (oA : Option Addr) (on oc : Nat) (hol : o.data.length = on) (hos : o.name.size ≤ 9223372036854775807) (hdo : on ≤ 500 → Dat B w (.slice oA on oc) o.data) :
    Calls Try.prog 6 #[.slice lA os.length lc, opV o (.slice oA on oc)] w fun e w' => e = .returned (.bool true) ∧ Up w w' := by
  go_enter Try.func6, Try.ntmps6
  refine wp_seq ?_
  refine rg_lit ?_
  refine wl (sn rfl (cs := #[.int .i64 o.kind, .int .i64 o.at_.t, .int .i64 o.at_.w, .int .i64 o.node.t, .int .i64 o.node.w, .int .i64 o.parent.t, .int .i64 o.parent.w, .bool o.dir, .string o.name, .slice oA on oc]) (T := 40) (V := fun b => .pointer (some ⟨b, 0, none⟩)) (r_box (v := .agg #[.int .i64 o.kind, .int .i64 o.at_.t, .int .i64 o.at_.w, .int .i64 o.node.t, .int .i64 o.node.w, .int .i64 o.parent.t, .int .i64 o.parent.w, .bool o.dir, .string o.name, .slice oA on oc]) (by kernel_rfl) rfl) ?_)
  intro b1 w2 e3 h4 u5
  have g6 : w.heap.size ≤ b1 := by rw [e3]; exact (Mod.refl [] w).size
  have M7 := Mod.trans (Mod.refl [] w) (Mod.of_up u5)
  refine wl (sv rfl (v := .bool false) (r_assign (by kernel_rfl)) ?_)
  refine wnil ?_
  refine then_n ?_
  refine wp_seq ?_
  refine wp_seq ?_
  refine rg_lit ?_
  refine wl (sv rfl (v := .slice lA os.length lc) (r_move (by kernel_rfl)) ?_)
  refine wl (sc rfl (r_callv (caps := []) (all := [.slice lA os.length lc, .int .i64 40]) En.f12 (by kernel_rfl) (by kernel_rfl)) (light2_at (OpRow0.up h0 (Mod.up M7)) hn 40) ?_)
  rintro e w8 ⟨lb9, rfl, h10, u11⟩
  refine ⟨.bool lb9, rfl, ?_⟩
  have M12 := Mod.trans M7 (Mod.of_up u11)
  refine wl (sv rfl (v := .bool (!lb9)) (r_not (b := lb9) (by kernel_rfl)) ?_)
  refine wl (sv rfl (v := .bool (!lb9)) (r_move (by kernel_rfl)) ?_)
  refine bcase lb9 (fun v13 => ?_) (fun v13 => ?_)
  · refine wl (sp (wf (b := !lb9) rfl (by kernel_rfl) (bneg v13)) ?_)
    refine wl (sp (wf (b := !lb9) rfl (by kernel_rfl) (bneg v13)) ?_)
    refine wl (sp (wf (b := !lb9) rfl (by kernel_rfl) (bneg v13)) ?_)
    refine wl (sp (wf (b := !lb9) rfl (by kernel_rfl) (bneg v13)) ?_)
    refine wl (sv rfl (v := .bool true) (r_pick (b := true) (u := .bool true) (v := undef) (ebool (b := !lb9) (by kernel_rfl) (bneg v13)) (by kernel_rfl) (by kernel_rfl)) ?_)
    refine wnil ?_
    refine then_n ?_
    refine wp_cond_true (by kernel_rfl) ?_
    refine wp_seq ?_
    refine rg_lit ?_
    refine wl (sc rfl (r_callv (caps := []) (all := []) En.f13 (by kernel_rfl) (by kernel_rfl)) (alive_at) ?_)
    rintro e w14 ⟨rfl, u15⟩
    refine ⟨.bool true, rfl, ?_⟩
    have M16 := Mod.trans M12 (Mod.of_up u15)
    refine wl (sv rfl (v := .bool true) (r_assign (by kernel_rfl)) ?_)
    refine wnil ?_
    refine then_n ?_
    refine wp_ret ?_
    refine then_x (by nofun) ?_
    refine bodyPost_ret (v := .bool true) (res1 rfl (rv_t (by kernel_rfl))) (by kernel_rfl) ?_
    exact ⟨rfl, (Mod.up M16)⟩
  · obtain ⟨hsm14, hle14⟩ := h10 v13
    have hops := hfull hsm14
    have h15 := (up_ob u11 h4)
    refine wl (sv (wt (b := !lb9) rfl (by kernel_rfl) (bneg v13)) (v := .agg #[.int .i64 o.kind, .int .i64 o.at_.t, .int .i64 o.at_.w, .int .i64 o.node.t, .int .i64 o.node.w, .int .i64 o.parent.t, .int .i64 o.parent.w, .bool o.dir, .string o.name, .slice oA on oc]) (r_loads (k := 0) (vs := [.int .i64 o.kind, .int .i64 o.at_.t, .int .i64 o.at_.w, .int .i64 o.node.t, .int .i64 o.node.w, .int .i64 o.parent.t, .int .i64 o.parent.w, .bool o.dir, .string o.name, .slice oA on oc]) (by kernel_rfl) Ty.ag40 Ty.sz40 h15 (by kernel_rfl)) ?_)
    refine wl (sn (wt (b := !lb9) rfl (by kernel_rfl) (bneg v13)) (cs := #[.int .i64 o.kind, .int .i64 o.at_.t, .int .i64 o.at_.w, .int .i64 o.node.t, .int .i64 o.node.w, .int .i64 o.parent.t, .int .i64 o.parent.w, .bool o.dir, .string o.name, .slice oA on oc]) (T := 40) (V := fun b => .slice (some ⟨b, 0, none⟩) 1 1) (r_buildSlice (n := 1) (ps := [(0, .agg #[.int .i64 o.kind, .int .i64 o.at_.t, .int .i64 o.at_.w, .int .i64 o.node.t, .int .i64 o.node.w, .int .i64 o.parent.t, .int .i64 o.parent.w, .bool o.dir, .string o.name, .slice oA on oc])]) Ty.un22 Ty.sz40 Ty.zv40 (by decide) (by decide) (by kernel_rfl) (by kernel_rfl)) ?_)
    intro b16 w17 e18 h19 u20
    have l21 : b1 < b16 := by rw [e18]; exact lt_ob h15
    have g22 : w.heap.size ≤ b16 := by rw [e18]; exact M12.size
    have M23 := Mod.trans M12 (Mod.of_up u20)
    refine wl (sc (wt (b := !lb9) rfl (by kernel_rfl) (bneg v13)) (r_callv (caps := []) (all := [.slice (some ⟨b16, 0, none⟩) 1 1, .int .i64 1]) En.f12 (by kernel_rfl) (by kernel_rfl)) (light2_at (lit_row0 h19 hol hos) (by simp) 1) ?_)
    rintro e w24 ⟨lb25, rfl, h26, u27⟩
    refine ⟨.bool lb25, rfl, ?_⟩
    have M28 := Mod.trans M23 (Mod.of_up u27)
    refine wl (sv (wt (b := !lb9) rfl (by kernel_rfl) (bneg v13)) (v := .bool (!lb25)) (r_not (b := lb25) (by kernel_rfl)) ?_)
    refine wl (sv rfl (v := .bool (!lb25)) (r_pick (b := false) (u := .bool true) (v := .bool (!lb25)) (ebool (b := !lb9) (by kernel_rfl) (bneg v13)) (by kernel_rfl) (by kernel_rfl)) ?_)
    refine wnil ?_
    refine then_n ?_
    refine bcase lb25 (fun v29 => ?_) (fun v29 => ?_)
    · refine wp_cond_true (ebool (b := !lb25) (by kernel_rfl) (bneg v29)) ?_
      refine wp_seq ?_
      refine rg_lit ?_
      refine wl (sc rfl (r_callv (caps := []) (all := []) En.f13 (by kernel_rfl) (by kernel_rfl)) (alive_at) ?_)
      rintro e w30 ⟨rfl, u31⟩
      refine ⟨.bool true, rfl, ?_⟩
      have M32 := Mod.trans M28 (Mod.of_up u31)
      refine wl (sv rfl (v := .bool true) (r_assign (by kernel_rfl)) ?_)
      refine wnil ?_
      refine then_n ?_
      refine wp_ret ?_
      refine then_x (by nofun) ?_
      refine bodyPost_ret (v := .bool true) (res1 rfl (rv_t (by kernel_rfl))) (by kernel_rfl) ?_
      exact ⟨rfl, (Mod.up M32)⟩
    · obtain ⟨hsm30, hle30⟩ := h26 v29
      have hDo := hdo (by have := hsm30 0 o rfl; omega)
      refine wp_cond_false (ebool (b := !lb25) (by kernel_rfl) (bneg v29)) ?_
      refine wp_skip ?_
      refine then_n ?_
      refine wp_seq ?_
      refine rg_lit ?_
      refine wl (sv rfl (v := .slice lA os.length lc) (r_move (by kernel_rfl)) ?_)
      have h31 := (OpRow.up hops (Mod.up M28))
      have h37 := (up_ob u27 (up_ob u20 h15))
      have h38 := (up_ob u27 h19)
      refine wl (sc rfl (r_callv (caps := []) (all := [.slice lA os.length lc]) En.f36 (by kernel_rfl) (by kernel_rfl)) (build_at h31 (Nat.le_trans hB M28.size) (by omega)) ?_)
      rintro e w32 ⟨tb, r, rfl, h33, u34, z35, z36⟩
      refine ⟨.pointer (some ⟨tb, 0, none⟩), rfl, ?_⟩
      have l39 : b1 < r := Nat.lt_of_lt_of_le (lt_ob h37) z36
      have l40 : b16 < r := Nat.lt_of_lt_of_le (lt_ob h38) z36
      have l41 : b1 < tb := Nat.lt_of_lt_of_le (lt_ob h37) z35
      have l42 : b16 < tb := Nat.lt_of_lt_of_le (lt_ob h38) z35
      have M43 := Mod.trans M28 (Mod.of_up u34)
      obtain ⟨hwf, hlen⟩ := buildI_wf os
      obtain ⟨L0, hL0⟩ : ∃ L, buildI os = L := ⟨_, rfl⟩
      rw [hL0] at hwf hlen h33
      obtain ⟨eshr44, clhr44, xshr44, hr44, _⟩ := h33.2.2.2.1
      refine wl (sv rfl (v := .pointer (some ⟨tb, 0, none⟩)) (r_assign (by kernel_rfl)) ?_)
      refine wnil ?_
      refine then_n ?_
      refine wp_seq ?_
      refine rg_lit ?_
      refine wl (sv rfl (v := .pointer (some ⟨tb, 0, none⟩)) (r_move (by kernel_rfl)) ?_)
      have h45 := (up_ob u34 h37)
      have h46 := (up_ob u34 h38)
      refine wl (sc rfl (r_callv (caps := []) (all := [.pointer (some ⟨tb, 0, none⟩)]) En.f21 (by kernel_rfl) (by kernel_rfl)) (row_sl (all_at h33 (Nat.le_trans hB M43.size))) ?_)
      rintro e w47 ⟨A48, c49, rfl, h50, u51⟩
      refine ⟨.slice A48 L0.length c49, rfl, ?_⟩
      have M52 := Mod.trans M43 (Mod.of_up u51)
      refine wl (sv rfl (v := .slice A48 L0.length c49) (r_assign (by kernel_rfl)) ?_)
      refine wnil ?_
      refine then_n ?_
      refine wp_seq ?_
      refine rg_lit ?_
      refine wl (sv rfl (v := .pointer (some ⟨tb, 0, none⟩)) (r_move (by kernel_rfl)) ?_)
      have h53 := (up_ob u51 h45)
      refine wl (sv rfl (v := .agg #[.int .i64 o.kind, .int .i64 o.at_.t, .int .i64 o.at_.w, .int .i64 o.node.t, .int .i64 o.node.w, .int .i64 o.parent.t, .int .i64 o.parent.w, .bool o.dir, .string o.name, .slice oA on oc]) (r_loads (k := 0) (vs := [.int .i64 o.kind, .int .i64 o.at_.t, .int .i64 o.at_.w, .int .i64 o.node.t, .int .i64 o.node.w, .int .i64 o.parent.t, .int .i64 o.parent.w, .bool o.dir, .string o.name, .slice oA on oc]) (by kernel_rfl) Ty.ag40 Ty.sz40 h53 (by kernel_rfl)) ?_)
      have h54 := (TreeIs.up h33 u51)
      have h55 := (Dat.up hDo (Mod.up M52))
      have h63 := (up_ob u51 h46)
      have h64 := (up_ob u51 hr44)
      have h65 := (up_ob u51 h33.1)
      refine wl (sc rfl (r_callv (caps := []) (all := [.pointer (some ⟨tb, 0, none⟩), .agg #[.int .i64 o.kind, .int .i64 o.at_.t, .int .i64 o.at_.w, .int .i64 o.node.t, .int .i64 o.node.w, .int .i64 o.parent.t, .int .i64 o.parent.w, .bool o.dir, .string o.name, .slice oA on oc]]) En.f15 (by kernel_rfl) (by kernel_rfl)) (do_x (L' := (doI L0 o).2) h54 (Nat.le_trans hB M52.size) o oA on oc h55 hos rfl) ?_)
      rintro e w56 ⟨A57, n58, c59, rfl, h60, h61, u62⟩
      refine ⟨.tuple #[.agg #[.int .i64 ((doI L0 o).1.1.node.t), .int .i64 ((doI L0 o).1.1.node.w), .int .i64 ((doI L0 o).1.1.parent.t), .int .i64 ((doI L0 o).1.1.parent.w), .string ((doI L0 o).1.1.name), .bool ((doI L0 o).1.1.dir), .bool ((doI L0 o).1.1.gone), .slice A57 n58 c59, .int .i64 ((doI L0 o).1.1.by_.t), .int .i64 ((doI L0 o).1.1.by_.w)], .bool ((doI L0 o).1.2.1), .int .i64 ((doI L0 o).1.2.2)], rfl, ?_⟩
      have M66 := Mod.trans' M52 u62 (fun i hi => by injection hi with hi; rw [← hi]; exact (Nat.le_trans M28.size z36))
      obtain ⟨eshr67, clhr67, xshr67, hr67, _⟩ := h61.2.2.2.1
      refine wl (sv rfl (v := .tuple #[.agg #[.int .i64 ((doI L0 o).1.1.node.t), .int .i64 ((doI L0 o).1.1.node.w), .int .i64 ((doI L0 o).1.1.parent.t), .int .i64 ((doI L0 o).1.1.parent.w), .string ((doI L0 o).1.1.name), .bool ((doI L0 o).1.1.dir), .bool ((doI L0 o).1.1.gone), .slice A57 n58 c59, .int .i64 ((doI L0 o).1.1.by_.t), .int .i64 ((doI L0 o).1.1.by_.w)], .bool ((doI L0 o).1.2.1), .int .i64 ((doI L0 o).1.2.2)]) (r_move (by kernel_rfl)) ?_)
      refine wl (sv rfl (v := .agg #[.int .i64 ((doI L0 o).1.1.node.t), .int .i64 ((doI L0 o).1.1.node.w), .int .i64 ((doI L0 o).1.1.parent.t), .int .i64 ((doI L0 o).1.1.parent.w), .string ((doI L0 o).1.1.name), .bool ((doI L0 o).1.1.dir), .bool ((doI L0 o).1.1.gone), .slice A57 n58 c59, .int .i64 ((doI L0 o).1.1.by_.t), .int .i64 ((doI L0 o).1.1.by_.w)]) (r_extract (vs := [.agg #[.int .i64 ((doI L0 o).1.1.node.t), .int .i64 ((doI L0 o).1.1.node.w), .int .i64 ((doI L0 o).1.1.parent.t), .int .i64 ((doI L0 o).1.1.parent.w), .string ((doI L0 o).1.1.name), .bool ((doI L0 o).1.1.dir), .bool ((doI L0 o).1.1.gone), .slice A57 n58 c59, .int .i64 ((doI L0 o).1.1.by_.t), .int .i64 ((doI L0 o).1.1.by_.w)], .bool ((doI L0 o).1.2.1), .int .i64 ((doI L0 o).1.2.2)]) (by kernel_rfl) rfl) ?_)
      refine wl (sv rfl (v := .bool ((doI L0 o).1.2.1)) (r_extract (vs := [.agg #[.int .i64 ((doI L0 o).1.1.node.t), .int .i64 ((doI L0 o).1.1.node.w), .int .i64 ((doI L0 o).1.1.parent.t), .int .i64 ((doI L0 o).1.1.parent.w), .string ((doI L0 o).1.1.name), .bool ((doI L0 o).1.1.dir), .bool ((doI L0 o).1.1.gone), .slice A57 n58 c59, .int .i64 ((doI L0 o).1.1.by_.t), .int .i64 ((doI L0 o).1.1.by_.w)], .bool ((doI L0 o).1.2.1), .int .i64 ((doI L0 o).1.2.2)]) (by kernel_rfl) rfl) ?_)
      refine wl (sv rfl (v := .int .i64 ((doI L0 o).1.2.2)) (r_extract (vs := [.agg #[.int .i64 ((doI L0 o).1.1.node.t), .int .i64 ((doI L0 o).1.1.node.w), .int .i64 ((doI L0 o).1.1.parent.t), .int .i64 ((doI L0 o).1.1.parent.w), .string ((doI L0 o).1.1.name), .bool ((doI L0 o).1.1.dir), .bool ((doI L0 o).1.1.gone), .slice A57 n58 c59, .int .i64 ((doI L0 o).1.1.by_.t), .int .i64 ((doI L0 o).1.1.by_.w)], .bool ((doI L0 o).1.2.1), .int .i64 ((doI L0 o).1.2.2)]) (by kernel_rfl) rfl) ?_)
      refine wl (sn rfl (cs := #[.int .i64 0, .int .i64 0, .int .i64 0, .int .i64 0, .string (⟨#[]⟩), .bool false, .bool false, .slice none 0 0, .int .i64 0, .int .i64 0]) (T := 35) (V := fun b => .pointer (some ⟨b, 0, none⟩)) (r_alloc Ty.zv35 rfl) ?_)
      intro b68 w69 e70 h71 u72
      have h73 := (chg_ob u62 (Nat.ne_of_lt l39) h53)
      have l74 : b1 < b68 := by rw [e70]; exact lt_ob h73
      have h75 := (chg_ob u62 (Nat.ne_of_lt l40) h63)
      have l76 : b16 < b68 := by rw [e70]; exact lt_ob h75
      have l77 : r < b68 := by rw [e70]; exact lt_ob hr67
      have l78 : tb < b68 := by rw [e70]; exact lt_ob h61.1
      have g79 : w.heap.size ≤ b68 := by rw [e70]; exact M66.size
      have M80 := Mod.trans M66 (Mod.of_up u72)
      refine wl (ss rfl (k := 0) (v := .agg #[.int .i64 ((doI L0 o).1.1.node.t), .int .i64 ((doI L0 o).1.1.node.w), .int .i64 ((doI L0 o).1.1.parent.t), .int .i64 ((doI L0 o).1.1.parent.w), .string ((doI L0 o).1.1.name), .bool ((doI L0 o).1.1.dir), .bool ((doI L0 o).1.1.gone), .slice A57 n58 c59, .int .i64 ((doI L0 o).1.1.by_.t), .int .i64 ((doI L0 o).1.1.by_.w)]) (vs := [.int .i64 ((doI L0 o).1.1.node.t), .int .i64 ((doI L0 o).1.1.node.w), .int .i64 ((doI L0 o).1.1.parent.t), .int .i64 ((doI L0 o).1.1.parent.w), .string ((doI L0 o).1.1.name), .bool ((doI L0 o).1.1.dir), .bool ((doI L0 o).1.1.gone), .slice A57 n58 c59, .int .i64 ((doI L0 o).1.1.by_.t), .int .i64 ((doI L0 o).1.1.by_.w)]) (cs' := [.int .i64 ((doI L0 o).1.1.node.t), .int .i64 ((doI L0 o).1.1.node.w), .int .i64 ((doI L0 o).1.1.parent.t), .int .i64 ((doI L0 o).1.1.parent.w), .string ((doI L0 o).1.1.name), .bool ((doI L0 o).1.1.dir), .bool ((doI L0 o).1.1.gone), .slice A57 n58 c59, .int .i64 ((doI L0 o).1.1.by_.t), .int .i64 ((doI L0 o).1.1.by_.w)]) (by kernel_rfl) (by kernel_rfl) rfl Ty.sz35 h71 rfl (Nat.le_of_ble_eq_true rfl) rfl ?_)
      intro w81 h82 c83
      have M84 := Mod.trans' M80 c83 (fun i hi => by injection hi with hi; rw [← hi]; exact g79)
      refine wl (sv rfl (v := .bool ((doI L0 o).1.2.1)) (r_assign (by kernel_rfl)) ?_)
      refine wl (sv rfl (v := .int .i64 ((doI L0 o).1.2.2)) (r_assign (by kernel_rfl)) ?_)
      refine wnil ?_
      refine then_n ?_
      refine wp_seq ?_
      refine wp_seq ?_
      refine rg_lit ?_
      refine wl (sv rfl (v := .int .i64 ((doI L0 o).1.2.2)) (r_move (by kernel_rfl)) ?_)
      refine wl (sb rfl (r_ne (k := .i64) (m := ((doI L0 o).1.2.2)) (n := 0) (by kernel_rfl) (by kernel_rfl)) ?_)
      intro b85 k86
      refine wnil ?_
      refine then_n ?_
      refine bcase b85 (fun v87 => ?_) (fun v87 => ?_)
      · have p88 := of_decide_eq_false (k86.trans v87)
        obtain ⟨hu1, hu2, hu3, hu4⟩ := undo_is hwf.srt (Decidable.not_not.1 p88)
        refine wp_cond_false (ebool (b := b85) (by kernel_rfl) v87) ?_
        refine wp_skip ?_
        refine then_n ?_
        refine wp_seq ?_
        refine wp_seq ?_
        refine rg_lit ?_
        refine wl (sv rfl (v := .bool ((doI L0 o).1.2.1)) (r_move (by kernel_rfl)) ?_)
        refine wl (sv rfl (v := .bool (!((doI L0 o).1.2.1))) (r_not (b := ((doI L0 o).1.2.1)) (by kernel_rfl)) ?_)
        refine wnil ?_
        refine then_n ?_
        refine bcase ((doI L0 o).1.2.1) (fun v89 => ?_) (fun v89 => ?_)
        · refine wp_cond_true (ebool (b := !((doI L0 o).1.2.1)) (by kernel_rfl) (bneg v89)) ?_
          refine rg_lit ?_
          refine wl (sv rfl (v := .pointer (some ⟨b1, 3, none⟩)) (r_fieldAddr (u := .pointer (some ⟨b1, 0, none⟩)) (v := .pointer (some ⟨b1, 3, none⟩)) (by kernel_rfl) (fun _ => (by kernel_rfl))) ?_)
          have h90 := (chg_ob c83 (Nat.ne_of_lt l74) (up_ob u72 h73))
          refine wl (sv rfl (v := .agg #[.int .i64 o.node.t, .int .i64 o.node.w]) (r_loads (k := 3) (vs := [.int .i64 o.node.t, .int .i64 o.node.w]) (by kernel_rfl) Ty.ag24 Ty.sz24 h90 (by kernel_rfl)) ?_)
          refine wl (sv rfl (v := .pointer (some ⟨b68, 0, none⟩)) (r_fieldAddr (u := .pointer (some ⟨b68, 0, none⟩)) (v := .pointer (some ⟨b68, 0, none⟩)) (by kernel_rfl) (fun _ => (by kernel_rfl))) ?_)
          refine wl (ss rfl (k := 0) (v := .agg #[.int .i64 o.node.t, .int .i64 o.node.w]) (vs := [.int .i64 o.node.t, .int .i64 o.node.w]) (cs' := [.int .i64 o.node.t, .int .i64 o.node.w, .int .i64 ((doI L0 o).1.1.parent.t), .int .i64 ((doI L0 o).1.1.parent.w), .string ((doI L0 o).1.1.name), .bool ((doI L0 o).1.1.dir), .bool ((doI L0 o).1.1.gone), .slice A57 n58 c59, .int .i64 ((doI L0 o).1.1.by_.t), .int .i64 ((doI L0 o).1.1.by_.w)]) (by kernel_rfl) (by kernel_rfl) rfl Ty.sz24 h82 rfl (Nat.le_of_ble_eq_true rfl) rfl ?_)
          intro w91 h92 c93
          have M94 := Mod.trans' M84 c93 (fun i hi => by injection hi with hi; rw [← hi]; exact g79)
          refine wnil ?_
          refine then_n ?_
          refine wp_seq ?_
          refine wp_seq ?_
          refine rg_lit ?_
          refine wl (sv rfl (v := .pointer (some ⟨tb, 0, none⟩)) (r_move (by kernel_rfl)) ?_)
          refine wl (sv rfl (v := .agg #[.int .i64 o.node.t, .int .i64 o.node.w, .int .i64 ((doI L0 o).1.1.parent.t), .int .i64 ((doI L0 o).1.1.parent.w), .string ((doI L0 o).1.1.name), .bool ((doI L0 o).1.1.dir), .bool ((doI L0 o).1.1.gone), .slice A57 n58 c59, .int .i64 ((doI L0 o).1.1.by_.t), .int .i64 ((doI L0 o).1.1.by_.w)]) (r_loads (k := 0) (vs := [.int .i64 o.node.t, .int .i64 o.node.w, .int .i64 ((doI L0 o).1.1.parent.t), .int .i64 ((doI L0 o).1.1.parent.w), .string ((doI L0 o).1.1.name), .bool ((doI L0 o).1.1.dir), .bool ((doI L0 o).1.1.gone), .slice A57 n58 c59, .int .i64 ((doI L0 o).1.1.by_.t), .int .i64 ((doI L0 o).1.1.by_.w)]) (by kernel_rfl) Ty.ag35 Ty.sz35 h92 (by kernel_rfl)) ?_)
          refine wl (sv rfl (v := .bool ((doI L0 o).1.2.1)) (r_move (by kernel_rfl)) ?_)
          have h95 := (TreeIs.up h61 (up_chgn (up_chgn u72 c83 (by rw [e70]; exact Nat.le_refl _)) c93 (by rw [e70]; exact Nat.le_refl _)))
          have h96 := (chg_ob c93 (Nat.ne_of_lt l74) h90)
          have h97 := (chg_ob c93 (Nat.ne_of_lt l76) (chg_ob c83 (Nat.ne_of_lt l76) (up_ob u72 h75)))
          have h98 := (chg_ob c93 (Nat.ne_of_lt l77) (chg_ob c83 (Nat.ne_of_lt l77) (up_ob u72 hr67)))
          have h99 := (chg_ob c93 (Nat.ne_of_lt l78) (chg_ob c83 (Nat.ne_of_lt l78) (up_ob u72 h61.1)))
          have h100 := (Dat.up h60 (up_chgn (up_chgn u72 c83 (by rw [e70]; exact Nat.le_refl _)) c93 (by rw [e70]; exact Nat.le_refl _)))
          have hn101 : ({ (doI L0 o).1.1 with node := o.node } : Item).node = o.node := rfl
          have hS101 : setT ({ (doI L0 o).1.1 with node := o.node } : Item) (doI L0 o).1.2.1 (doI L0 o).2 = L0 := by rw [hu1]; exact hu4 _ hn101 (fun e => absurd ((hu1.symm.trans v89).symm.trans e) (by decide))
          have hr101 : stR ({ (doI L0 o).1.1 with node := o.node } : Item).node = true := by rw [hn101]; exact right_node hu3
          refine wl (sc rfl (r_callv (caps := []) (all := [.pointer (some ⟨tb, 0, none⟩), .agg #[.int .i64 o.node.t, .int .i64 o.node.w, .int .i64 ((doI L0 o).1.1.parent.t), .int .i64 ((doI L0 o).1.1.parent.w), .string ((doI L0 o).1.1.name), .bool ((doI L0 o).1.1.dir), .bool ((doI L0 o).1.1.gone), .slice A57 n58 c59, .int .i64 ((doI L0 o).1.1.by_.t), .int .i64 ((doI L0 o).1.1.by_.w)], .bool ((doI L0 o).1.2.1)]) En.f44 (by kernel_rfl) (by kernel_rfl)) (tset_at h95 (Nat.le_trans hB M94.size) ({ (doI L0 o).1.1 with node := o.node } : Item) A57 n58 c59 h100 (doI L0 o).1.2.1 (by rw [hS101]; exact hlen)) ?_)
          rintro e w102 ⟨rfl, h103, c104⟩
          rw [if_pos hr101, hS101] at h103
          refine ⟨.int .i64 0, by rw [if_pos hr101], ?_⟩
          have M105 := Mod.trans' M94 c104 (fun i hi => by injection hi with hi; rw [← hi]; exact (Nat.le_trans M28.size z36))
          obtain ⟨eshr106, clhr106, xshr106, hr106, _⟩ := h103.2.2.2.1
          refine wl (sv (w' := w102) rfl (v := .bool false) (by kernel_rfl) ?_)
          refine wnil ?_
          refine then_n ?_
          refine wp_cond_false (by kernel_rfl) ?_
          refine wp_skip ?_
          refine then_n ?_
          refine wp_seq ?_
          refine rg_lit ?_
          refine wl (sv rfl (v := .pointer (some ⟨tb, 0, none⟩)) (r_move (by kernel_rfl)) ?_)
          have h107 := (chg_ob c104 (Nat.ne_of_lt l39) h96)
          have h108 := (chg_ob c104 (Nat.ne_of_lt l40) h97)
          have h109 := (chg_ob c104 (Nat.ne_of_gt l77) h92)
          refine wl (sc rfl (r_callv (caps := []) (all := [.pointer (some ⟨tb, 0, none⟩)]) En.f21 (by kernel_rfl) (by kernel_rfl)) (row_sl (all_at h103 (Nat.le_trans hB M105.size))) ?_)
          rintro e w110 ⟨A111, c112, rfl, h113, u114⟩
          refine ⟨.slice A111 L0.length c112, rfl, ?_⟩
          have M115 := Mod.trans M105 (Mod.of_up u114)
          have h116 := (up_ob u114 h107)
          have h117 := (up_ob u114 h108)
          have h118 := (up_ob u114 hr106)
          have h119 := (up_ob u114 h103.1)
          have h120 := (up_ob u114 h109)
          refine wl (sc rfl (r_callv (caps := []) (all := [.slice A111 L0.length c112]) En.f20 (by kernel_rfl) (by kernel_rfl)) (row_sl (litems_at h113 (Nat.le_trans hB M115.size) (Nat.le_trans hlen (by decide)))) ?_)
          rintro e w121 ⟨A122, c123, rfl, h124, u125⟩
          refine ⟨.slice A122 L0.length c123, rfl, ?_⟩
          have M126 := Mod.trans M115 (Mod.of_up u125)
          refine wl (sv rfl (v := .slice A48 L0.length c49) (r_move (by kernel_rfl)) ?_)
          have h127 := (up_ob u125 h116)
          have h128 := (up_ob u125 h117)
          have h129 := (up_ob u125 h118)
          have h130 := (up_ob u125 h119)
          have h131 := (up_ob u125 h120)
          have h137 := (IRow.up (IRow.chgn (IRow.up (IRow.chgn h50 u62 ⟨h54.2.2.1, NotU8.map h64⟩ (IRow.ne_old h50 (lt_ob hr44))) (up_chgn (up_chgn u72 c83 (by rw [e70]; exact Nat.le_refl _)) c93 (by rw [e70]; exact Nat.le_refl _))) c104 ⟨h95.2.2.1, NotU8.map h98⟩ (IRow.ne_old (IRow.up (IRow.chgn h50 u62 ⟨h54.2.2.1, NotU8.map h64⟩ (IRow.ne_old h50 (lt_ob hr44))) (up_chgn (up_chgn u72 c83 (by rw [e70]; exact Nat.le_refl _)) c93 (by rw [e70]; exact Nat.le_refl _))) (lt_ob hr44))) (up_up u114 u125))
          refine wl (sc rfl (r_callv (caps := []) (all := [.slice A48 L0.length c49]) En.f20 (by kernel_rfl) (by kernel_rfl)) (row_sl (litems_at h137 (Nat.le_trans hB M126.size) (Nat.le_trans hlen (by decide)))) ?_)
          rintro e w132 ⟨A133, c134, rfl, h135, u136⟩
          refine ⟨.slice A133 L0.length c134, rfl, ?_⟩
          have M138 := Mod.trans M126 (Mod.of_up u136)
          have h139 := (IRow.up h124 u136)
          refine wl (sc rfl (r_callv (caps := []) (all := [.slice A122 L0.length c123, .slice A133 L0.length c134]) En.f19 (by kernel_rfl) (by kernel_rfl)) (bool_true rfl (rsame_at h139 h135 (Nat.le_trans hlen (by decide)))) ?_)
          rintro e w140 ⟨rfl, u141⟩
          refine ⟨.bool true, rfl, ?_⟩
          have M142 := Mod.trans M138 (Mod.of_up u141)
          refine wl (sv rfl (v := .bool true) (r_move (by kernel_rfl)) ?_)
          refine wl (sc (by kernel_rfl) (r_callv (caps := []) (all := []) En.f13 (by kernel_rfl) (by kernel_rfl)) (alive_at) ?_)
          rintro e w143 ⟨rfl, u144⟩
          refine ⟨.bool true, rfl, ?_⟩
          have M145 := Mod.trans M142 (Mod.of_up u144)
          refine wl (sv rfl (v := .bool true) (r_pick (b := true) (u := .bool true) (v := .bool false) (by kernel_rfl) (by kernel_rfl) (by kernel_rfl)) ?_)
          refine wl (sv rfl (v := .bool true) (r_assign (by kernel_rfl)) ?_)
          refine wnil ?_
          refine then_n ?_
          refine wp_ret ?_
          refine bodyPost_ret (v := .bool true) (res1 rfl (rv_t (by kernel_rfl))) (by kernel_rfl) ?_
          exact ⟨rfl, (Mod.up M145)⟩
        · refine wp_cond_false (ebool (b := !((doI L0 o).1.2.1)) (by kernel_rfl) (bneg v89)) ?_
          refine wp_skip ?_
          refine then_n ?_
          refine wp_seq ?_
          refine wp_seq ?_
          refine rg_lit ?_
          refine wl (sv rfl (v := .pointer (some ⟨tb, 0, none⟩)) (r_move (by kernel_rfl)) ?_)
          refine wl (sv rfl (v := .agg #[.int .i64 ((doI L0 o).1.1.node.t), .int .i64 ((doI L0 o).1.1.node.w), .int .i64 ((doI L0 o).1.1.parent.t), .int .i64 ((doI L0 o).1.1.parent.w), .string ((doI L0 o).1.1.name), .bool ((doI L0 o).1.1.dir), .bool ((doI L0 o).1.1.gone), .slice A57 n58 c59, .int .i64 ((doI L0 o).1.1.by_.t), .int .i64 ((doI L0 o).1.1.by_.w)]) (r_loads (k := 0) (vs := [.int .i64 ((doI L0 o).1.1.node.t), .int .i64 ((doI L0 o).1.1.node.w), .int .i64 ((doI L0 o).1.1.parent.t), .int .i64 ((doI L0 o).1.1.parent.w), .string ((doI L0 o).1.1.name), .bool ((doI L0 o).1.1.dir), .bool ((doI L0 o).1.1.gone), .slice A57 n58 c59, .int .i64 ((doI L0 o).1.1.by_.t), .int .i64 ((doI L0 o).1.1.by_.w)]) (by kernel_rfl) Ty.ag35 Ty.sz35 h82 (by kernel_rfl)) ?_)
          refine wl (sv rfl (v := .bool ((doI L0 o).1.2.1)) (r_move (by kernel_rfl)) ?_)
          have h90 := (TreeIs.up h61 (up_chgn u72 c83 (by rw [e70]; exact Nat.le_refl _)))
          have h91 := (chg_ob c83 (Nat.ne_of_lt l74) (up_ob u72 h73))
          have h92 := (chg_ob c83 (Nat.ne_of_lt l76) (up_ob u72 h75))
          have h93 := (chg_ob c83 (Nat.ne_of_lt l77) (up_ob u72 hr67))
          have h94 := (chg_ob c83 (Nat.ne_of_lt l78) (up_ob u72 h61.1))
          have h95 := (Dat.up h60 (up_chgn u72 c83 (by rw [e70]; exact Nat.le_refl _)))
          have hn96 : (doI L0 o).1.1.node = o.node := (by rw [hu2]; exact gotI_node (hu1.symm.trans v89))
          have hS96 : setT (doI L0 o).1.1 (doI L0 o).1.2.1 (doI L0 o).2 = L0 := by rw [hu1]; exact hu4 _ hn96 (fun _ => hu2)
          have hr96 : stR (doI L0 o).1.1.node = true := by rw [hn96]; exact right_node hu3
          refine wl (sc rfl (r_callv (caps := []) (all := [.pointer (some ⟨tb, 0, none⟩), .agg #[.int .i64 ((doI L0 o).1.1.node.t), .int .i64 ((doI L0 o).1.1.node.w), .int .i64 ((doI L0 o).1.1.parent.t), .int .i64 ((doI L0 o).1.1.parent.w), .string ((doI L0 o).1.1.name), .bool ((doI L0 o).1.1.dir), .bool ((doI L0 o).1.1.gone), .slice A57 n58 c59, .int .i64 ((doI L0 o).1.1.by_.t), .int .i64 ((doI L0 o).1.1.by_.w)], .bool ((doI L0 o).1.2.1)]) En.f44 (by kernel_rfl) (by kernel_rfl)) (tset_at h90 (Nat.le_trans hB M84.size) (doI L0 o).1.1 A57 n58 c59 h95 (doI L0 o).1.2.1 (by rw [hS96]; exact hlen)) ?_)
          rintro e w97 ⟨rfl, h98, c99⟩
          rw [if_pos hr96, hS96] at h98
          refine ⟨.int .i64 0, by rw [if_pos hr96], ?_⟩
          have M100 := Mod.trans' M84 c99 (fun i hi => by injection hi with hi; rw [← hi]; exact (Nat.le_trans M28.size z36))
          obtain ⟨eshr101, clhr101, xshr101, hr101, _⟩ := h98.2.2.2.1
          refine wl (sv (w' := w97) rfl (v := .bool false) (by kernel_rfl) ?_)
          refine wnil ?_
          refine then_n ?_
          refine wp_cond_false (by kernel_rfl) ?_
          refine wp_skip ?_
          refine then_n ?_
          refine wp_seq ?_
          refine rg_lit ?_
          refine wl (sv rfl (v := .pointer (some ⟨tb, 0, none⟩)) (r_move (by kernel_rfl)) ?_)
          have h102 := (chg_ob c99 (Nat.ne_of_lt l39) h91)
          have h103 := (chg_ob c99 (Nat.ne_of_lt l40) h92)
          have h104 := (chg_ob c99 (Nat.ne_of_gt l77) h82)
          refine wl (sc rfl (r_callv (caps := []) (all := [.pointer (some ⟨tb, 0, none⟩)]) En.f21 (by kernel_rfl) (by kernel_rfl)) (row_sl (all_at h98 (Nat.le_trans hB M100.size))) ?_)
          rintro e w105 ⟨A106, c107, rfl, h108, u109⟩
          refine ⟨.slice A106 L0.length c107, rfl, ?_⟩
          have M110 := Mod.trans M100 (Mod.of_up u109)
          have h111 := (up_ob u109 h102)
          have h112 := (up_ob u109 h103)
          have h113 := (up_ob u109 hr101)
          have h114 := (up_ob u109 h98.1)
          have h115 := (up_ob u109 h104)
          refine wl (sc rfl (r_callv (caps := []) (all := [.slice A106 L0.length c107]) En.f20 (by kernel_rfl) (by kernel_rfl)) (row_sl (litems_at h108 (Nat.le_trans hB M110.size) (Nat.le_trans hlen (by decide)))) ?_)
          rintro e w116 ⟨A117, c118, rfl, h119, u120⟩
          refine ⟨.slice A117 L0.length c118, rfl, ?_⟩
          have M121 := Mod.trans M110 (Mod.of_up u120)
          refine wl (sv rfl (v := .slice A48 L0.length c49) (r_move (by kernel_rfl)) ?_)
          have h122 := (up_ob u120 h111)
          have h123 := (up_ob u120 h112)
          have h124 := (up_ob u120 h113)
          have h125 := (up_ob u120 h114)
          have h126 := (up_ob u120 h115)
          have h132 := (IRow.up (IRow.chgn (IRow.up (IRow.chgn h50 u62 ⟨h54.2.2.1, NotU8.map h64⟩ (IRow.ne_old h50 (lt_ob hr44))) (up_chgn u72 c83 (by rw [e70]; exact Nat.le_refl _))) c99 ⟨h90.2.2.1, NotU8.map h93⟩ (IRow.ne_old (IRow.up (IRow.chgn h50 u62 ⟨h54.2.2.1, NotU8.map h64⟩ (IRow.ne_old h50 (lt_ob hr44))) (up_chgn u72 c83 (by rw [e70]; exact Nat.le_refl _))) (lt_ob hr44))) (up_up u109 u120))
          refine wl (sc rfl (r_callv (caps := []) (all := [.slice A48 L0.length c49]) En.f20 (by kernel_rfl) (by kernel_rfl)) (row_sl (litems_at h132 (Nat.le_trans hB M121.size) (Nat.le_trans hlen (by decide)))) ?_)
          rintro e w127 ⟨A128, c129, rfl, h130, u131⟩
          refine ⟨.slice A128 L0.length c129, rfl, ?_⟩
          have M133 := Mod.trans M121 (Mod.of_up u131)
          have h134 := (IRow.up h119 u131)
          refine wl (sc rfl (r_callv (caps := []) (all := [.slice A117 L0.length c118, .slice A128 L0.length c129]) En.f19 (by kernel_rfl) (by kernel_rfl)) (bool_true rfl (rsame_at h134 h130 (Nat.le_trans hlen (by decide)))) ?_)
          rintro e w135 ⟨rfl, u136⟩
          refine ⟨.bool true, rfl, ?_⟩
          have M137 := Mod.trans M133 (Mod.of_up u136)
          refine wl (sv rfl (v := .bool true) (r_move (by kernel_rfl)) ?_)
          refine wl (sc (by kernel_rfl) (r_callv (caps := []) (all := []) En.f13 (by kernel_rfl) (by kernel_rfl)) (alive_at) ?_)
          rintro e w138 ⟨rfl, u139⟩
          refine ⟨.bool true, rfl, ?_⟩
          have M140 := Mod.trans M137 (Mod.of_up u139)
          refine wl (sv rfl (v := .bool true) (r_pick (b := true) (u := .bool true) (v := .bool false) (by kernel_rfl) (by kernel_rfl) (by kernel_rfl)) ?_)
          refine wl (sv rfl (v := .bool true) (r_assign (by kernel_rfl)) ?_)
          refine wnil ?_
          refine then_n ?_
          refine wp_ret ?_
          refine bodyPost_ret (v := .bool true) (res1 rfl (rv_t (by kernel_rfl))) (by kernel_rfl) ?_
          exact ⟨rfl, (Mod.up M140)⟩
      · have p88 := of_decide_eq_true (k86.trans v87)
        have h89 := (TreeIs.up h61 (up_chgn u72 c83 (by rw [e70]; exact Nat.le_refl _)))
        have h90 := h89
        rw [doI_kind p88] at h90
        refine wp_cond_true (ebool (b := b85) (by kernel_rfl) v87) ?_
        refine wp_seq ?_
        refine rg_lit ?_
        refine wl (sv rfl (v := .pointer (some ⟨tb, 0, none⟩)) (r_move (by kernel_rfl)) ?_)
        have h91 := (chg_ob c83 (Nat.ne_of_lt l74) (up_ob u72 h73))
        have h92 := (chg_ob c83 (Nat.ne_of_lt l76) (up_ob u72 h75))
        have h93 := (chg_ob c83 (Nat.ne_of_lt l77) (up_ob u72 hr67))
        have h94 := (chg_ob c83 (Nat.ne_of_lt l78) (up_ob u72 h61.1))
        refine wl (sc rfl (r_callv (caps := []) (all := [.pointer (some ⟨tb, 0, none⟩)]) En.f21 (by kernel_rfl) (by kernel_rfl)) (row_sl (all_at h90 (Nat.le_trans hB M84.size))) ?_)
        rintro e w95 ⟨A96, c97, rfl, h98, u99⟩
        refine ⟨.slice A96 L0.length c97, rfl, ?_⟩
        have M100 := Mod.trans M84 (Mod.of_up u99)
        have h101 := (up_ob u99 h91)
        have h102 := (up_ob u99 h92)
        have h103 := (up_ob u99 h93)
        have h104 := (up_ob u99 h94)
        have h105 := (up_ob u99 h82)
        refine wl (sc rfl (r_callv (caps := []) (all := [.slice A96 L0.length c97]) En.f20 (by kernel_rfl) (by kernel_rfl)) (row_sl (litems_at h98 (Nat.le_trans hB M100.size) (Nat.le_trans hlen (by decide)))) ?_)
        rintro e w106 ⟨A107, c108, rfl, h109, u110⟩
        refine ⟨.slice A107 L0.length c108, rfl, ?_⟩
        have M111 := Mod.trans M100 (Mod.of_up u110)
        refine wl (sv rfl (v := .slice A48 L0.length c49) (r_move (by kernel_rfl)) ?_)
        have h112 := (up_ob u110 h101)
        have h113 := (up_ob u110 h102)
        have h114 := (up_ob u110 h103)
        have h115 := (up_ob u110 h104)
        have h116 := (up_ob u110 h105)
        have h122 := (IRow.up (IRow.chgn h50 u62 ⟨h54.2.2.1, NotU8.map h64⟩ (IRow.ne_old h50 (lt_ob hr44))) (up_up (up_up (up_chgn u72 c83 (by rw [e70]; exact Nat.le_refl _)) u99) u110))
        refine wl (sc rfl (r_callv (caps := []) (all := [.slice A48 L0.length c49]) En.f20 (by kernel_rfl) (by kernel_rfl)) (row_sl (litems_at h122 (Nat.le_trans hB M111.size) (Nat.le_trans hlen (by decide)))) ?_)
        rintro e w117 ⟨A118, c119, rfl, h120, u121⟩
        refine ⟨.slice A118 L0.length c119, rfl, ?_⟩
        have M123 := Mod.trans M111 (Mod.of_up u121)
        have h124 := (IRow.up h109 u121)
        refine wl (sc rfl (r_callv (caps := []) (all := [.slice A107 L0.length c108, .slice A118 L0.length c119]) En.f19 (by kernel_rfl) (by kernel_rfl)) (bool_true rfl (rsame_at h124 h120 (Nat.le_trans hlen (by decide)))) ?_)
        rintro e w125 ⟨rfl, u126⟩
        refine ⟨.bool true, rfl, ?_⟩
        have M127 := Mod.trans M123 (Mod.of_up u126)
        refine wl (sv rfl (v := .bool true) (r_move (by kernel_rfl)) ?_)
        refine wl (sc (by kernel_rfl) (r_callv (caps := []) (all := []) En.f13 (by kernel_rfl) (by kernel_rfl)) (alive_at) ?_)
        rintro e w128 ⟨rfl, u129⟩
        refine ⟨.bool true, rfl, ?_⟩
        have M130 := Mod.trans M127 (Mod.of_up u129)
        refine wl (sv rfl (v := .bool true) (r_pick (b := true) (u := .bool true) (v := .bool false) (by kernel_rfl) (by kernel_rfl) (by kernel_rfl)) ?_)
        refine wl (sv rfl (v := .bool true) (r_assign (by kernel_rfl)) ?_)
        refine wnil ?_
        refine then_n ?_
        refine wp_ret ?_
        refine then_x (by nofun) ?_
        refine bodyPost_ret (v := .bool true) (res1 rfl (rv_t (by kernel_rfl))) (by kernel_rfl) ?_
        exact ⟨rfl, (Mod.up M130)⟩
end Go.Proofs.Ytefhfoioeoijlaa

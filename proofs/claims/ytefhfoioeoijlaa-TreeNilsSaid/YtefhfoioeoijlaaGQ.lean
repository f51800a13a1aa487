/- GQ: printed by gen.py -/
import Derived.Test.YtefhfoioeoijlaaGOL
import Derived.Test.YtefhfoioeoijlaaTreeLaw
import Derived.Test.YtefhfoioeoijlaaGB
import Derived.Test.YtefhfoioeoijlaaOpArg
import Derived.Test.YtefhfoioeoijlaaGQN
import Derived.Test.YtefhfoioeoijlaaGQF
set_option linter.unusedVariables false
set_option linter.unusedSimpArgs false
namespace Go.Proofs.Ytefhfoioeoijlaa
open Go Go.RowKit Go.Sort
set_option maxHeartbeats 2000000 in
theorem treeNils_at {B : Nat} {w : World} {lA : Option Addr} {lc : Nat} {os : List OpD} (h0 : OpRow0 w lA os) (hfull : Small os → OpRow B w lA os) (hB : B ≤ w.heap.size) (hn : os.length ≤ 9223372036854775807) (o : OpD) (oA : Option Addr) (on oc : Nat) (hol : o.data.length = on) (hos : o.name.size ≤ 9223372036854775807) (hdo : on ≤ 500 → Dat B w (.slice oA on oc) o.data) :
    Calls Try.prog 9 #[.slice lA os.length lc, opV o (.slice oA on oc)] w fun e w' => e = .returned (.bool true) ∧ Up w w' := by
  go_enter Try.func9, Try.ntmps9
  refine wp_seq ?_
  refine rg_lit ?_
  refine wl (sn rfl (cs := #[.int .i64 o.kind, .int .i64 o.at_.t, .int .i64 o.at_.w, .int .i64 o.node.t, .int .i64 o.node.w, .int .i64 o.parent.t, .int .i64 o.parent.w, .bool o.dir, .string o.name, .slice oA on oc]) (T := 40) (V := fun b => .pointer (some ⟨b, 0, none⟩)) (r_box (v := .agg #[.int .i64 o.kind, .int .i64 o.at_.t, .int .i64 o.at_.w, .int .i64 o.node.t, .int .i64 o.node.w, .int .i64 o.parent.t, .int .i64 o.parent.w, .bool o.dir, .string o.name, .slice oA on oc]) (by kernel_rfl) rfl) ?_)
  intro b1 w2 e3 h4 u5
  have g6 : w.heap.size ≤ b1 := by rw [e3]; exact (Mod.refl [] w).size
  have M7 := Mod.trans (Mod.refl [] w) (Mod.of_up u5)
  refine wl (sv rfl (v := .bool false) (r_assign (by kernel_rfl)) ?_)
  refine wnil ?_
  refine then_n ?_
  refine wp_seq ?_
  refine wp_seq ?_
  refine rg_lit ?_
  refine wl (sv rfl (v := .slice lA os.length lc) (r_move (by kernel_rfl)) ?_)
  refine wl (sc rfl (r_callv (caps := []) (all := [.slice lA os.length lc, .int .i64 30]) En.f12 (by kernel_rfl) (by kernel_rfl)) (light2_at (OpRow0.up h0 (Mod.up M7)) hn 30) ?_)
  rintro e w8 ⟨lb9, rfl, h10, u11⟩
  refine ⟨.bool lb9, rfl, ?_⟩
  have M12 := Mod.trans M7 (Mod.of_up u11)
  refine wl (sv rfl (v := .bool (!lb9)) (r_not (b := lb9) (by kernel_rfl)) ?_)
  refine wl (sv rfl (v := .bool (!lb9)) (r_move (by kernel_rfl)) ?_)
  refine bcase lb9 (fun v13 => ?_) (fun v13 => ?_)
  · refine wl (sp (wf (b := !lb9) rfl (by kernel_rfl) (bneg v13)) ?_)
    refine wl (sp (wf (b := !lb9) rfl (by kernel_rfl) (bneg v13)) ?_)
    refine wl (sp (wf (b := !lb9) rfl (by kernel_rfl) (bneg v13)) ?_)
    refine wl (sp (wf (b := !lb9) rfl (by kernel_rfl) (bneg v13)) ?_)
    refine wl (sv rfl (v := .bool true) (r_pick (b := true) (u := .bool true) (v := undef) (ebool (b := !lb9) (by kernel_rfl) (bneg v13)) (by kernel_rfl) (by kernel_rfl)) ?_)
    refine wnil ?_
    refine then_n ?_
    refine wp_cond_true (by kernel_rfl) ?_
    refine wp_seq ?_
    refine rg_lit ?_
    refine wl (sc rfl (r_callv (caps := []) (all := []) En.f13 (by kernel_rfl) (by kernel_rfl)) (alive_at) ?_)
    rintro e w14 ⟨rfl, u15⟩
    refine ⟨.bool true, rfl, ?_⟩
    have M16 := Mod.trans M12 (Mod.of_up u15)
    refine wl (sv rfl (v := .bool true) (r_assign (by kernel_rfl)) ?_)
    refine wnil ?_
    refine then_n ?_
    refine wp_ret ?_
    refine then_x (by nofun) ?_
    refine bodyPost_ret (v := .bool true) (res1 rfl (rv_t (by kernel_rfl))) (by kernel_rfl) ?_
    exact ⟨rfl, (Mod.up M16)⟩
  · obtain ⟨hsm14, hle14⟩ := h10 v13
    have hops := hfull hsm14
    have h15 := (up_ob u11 h4)
    refine wl (sv (wt (b := !lb9) rfl (by kernel_rfl) (bneg v13)) (v := .agg #[.int .i64 o.kind, .int .i64 o.at_.t, .int .i64 o.at_.w, .int .i64 o.node.t, .int .i64 o.node.w, .int .i64 o.parent.t, .int .i64 o.parent.w, .bool o.dir, .string o.name, .slice oA on oc]) (r_loads (k := 0) (vs := [.int .i64 o.kind, .int .i64 o.at_.t, .int .i64 o.at_.w, .int .i64 o.node.t, .int .i64 o.node.w, .int .i64 o.parent.t, .int .i64 o.parent.w, .bool o.dir, .string o.name, .slice oA on oc]) (by kernel_rfl) Ty.ag40 Ty.sz40 h15 (by kernel_rfl)) ?_)
    refine wl (sn (wt (b := !lb9) rfl (by kernel_rfl) (bneg v13)) (cs := #[.int .i64 o.kind, .int .i64 o.at_.t, .int .i64 o.at_.w, .int .i64 o.node.t, .int .i64 o.node.w, .int .i64 o.parent.t, .int .i64 o.parent.w, .bool o.dir, .string o.name, .slice oA on oc]) (T := 40) (V := fun b => .slice (some ⟨b, 0, none⟩) 1 1) (r_buildSlice (n := 1) (ps := [(0, .agg #[.int .i64 o.kind, .int .i64 o.at_.t, .int .i64 o.at_.w, .int .i64 o.node.t, .int .i64 o.node.w, .int .i64 o.parent.t, .int .i64 o.parent.w, .bool o.dir, .string o.name, .slice oA on oc])]) Ty.un22 Ty.sz40 Ty.zv40 (by decide) (by decide) (by kernel_rfl) (by kernel_rfl)) ?_)
    intro b16 w17 e18 h19 u20
    have l21 : b1 < b16 := by rw [e18]; exact lt_ob h15
    have g22 : w.heap.size ≤ b16 := by rw [e18]; exact M12.size
    have M23 := Mod.trans M12 (Mod.of_up u20)
    refine wl (sc (wt (b := !lb9) rfl (by kernel_rfl) (bneg v13)) (r_callv (caps := []) (all := [.slice (some ⟨b16, 0, none⟩) 1 1, .int .i64 1]) En.f12 (by kernel_rfl) (by kernel_rfl)) (light2_at (lit_row0 h19 hol hos) (by simp) 1) ?_)
    rintro e w24 ⟨lb25, rfl, h26, u27⟩
    refine ⟨.bool lb25, rfl, ?_⟩
    have M28 := Mod.trans M23 (Mod.of_up u27)
    refine wl (sv (wt (b := !lb9) rfl (by kernel_rfl) (bneg v13)) (v := .bool (!lb25)) (r_not (b := lb25) (by kernel_rfl)) ?_)
    refine wl (sv rfl (v := .bool (!lb25)) (r_pick (b := false) (u := .bool true) (v := .bool (!lb25)) (ebool (b := !lb9) (by kernel_rfl) (bneg v13)) (by kernel_rfl) (by kernel_rfl)) ?_)
    refine wnil ?_
    refine then_n ?_
    refine bcase lb25 (fun v29 => ?_) (fun v29 => ?_)
    · refine wp_cond_true (ebool (b := !lb25) (by kernel_rfl) (bneg v29)) ?_
      refine wp_seq ?_
      refine rg_lit ?_
      refine wl (sc rfl (r_callv (caps := []) (all := []) En.f13 (by kernel_rfl) (by kernel_rfl)) (alive_at) ?_)
      rintro e w30 ⟨rfl, u31⟩
      refine ⟨.bool true, rfl, ?_⟩
      have M32 := Mod.trans M28 (Mod.of_up u31)
      refine wl (sv rfl (v := .bool true) (r_assign (by kernel_rfl)) ?_)
      refine wnil ?_
      refine then_n ?_
      refine wp_ret ?_
      refine then_x (by nofun) ?_
      refine bodyPost_ret (v := .bool true) (res1 rfl (rv_t (by kernel_rfl))) (by kernel_rfl) ?_
      exact ⟨rfl, (Mod.up M32)⟩
    · obtain ⟨hsm30, hle30⟩ := h26 v29
      have hDo := hdo (by have := hsm30 0 o rfl; omega)
      refine wp_cond_false (ebool (b := !lb25) (by kernel_rfl) (bneg v29)) ?_
      refine wp_skip ?_
      refine then_n ?_
      refine wp_seq ?_
      refine rg_lit ?_
      refine wl (sv rfl (v := .pointer none) (r_assign (by kernel_rfl)) ?_)
      refine wnil ?_
      refine then_n ?_
      refine wp_seq ?_
      refine rg_lit ?_
      refine wl (sv rfl (v := .pointer none) (r_move (by kernel_rfl)) ?_)
      have h31 := (up_ob u27 (up_ob u20 h15))
      refine wl (sv rfl (v := .agg #[.int .i64 o.kind, .int .i64 o.at_.t, .int .i64 o.at_.w, .int .i64 o.node.t, .int .i64 o.node.w, .int .i64 o.parent.t, .int .i64 o.parent.w, .bool o.dir, .string o.name, .slice oA on oc]) (r_loads (k := 0) (vs := [.int .i64 o.kind, .int .i64 o.at_.t, .int .i64 o.at_.w, .int .i64 o.node.t, .int .i64 o.node.w, .int .i64 o.parent.t, .int .i64 o.parent.w, .bool o.dir, .string o.name, .slice oA on oc]) (by kernel_rfl) Ty.ag40 Ty.sz40 h31 (by kernel_rfl)) ?_)
      refine wl (sc rfl (r_callv (caps := []) (all := [.pointer none, .agg #[.int .i64 o.kind, .int .i64 o.at_.t, .int .i64 o.at_.w, .int .i64 o.node.t, .int .i64 o.node.w, .int .i64 o.parent.t, .int .i64 o.parent.w, .bool o.dir, .string o.name, .slice oA on oc]]) En.f15 (by kernel_rfl) (by kernel_rfl)) (tdo_nil o oA on oc) ?_)
      rintro e w32 ⟨rfl, u33⟩
      refine ⟨.tuple #[.agg #[.int .i64 0, .int .i64 0, .int .i64 0, .int .i64 0, .string (⟨#[]⟩), .bool false, .bool false, .slice none 0 0, .int .i64 0, .int .i64 0], .bool false, .int .i64 23], rfl, ?_⟩
      have M34 := Mod.trans M28 (Mod.of_up u33)
      refine wl (sv rfl (v := .tuple #[.agg #[.int .i64 0, .int .i64 0, .int .i64 0, .int .i64 0, .string (⟨#[]⟩), .bool false, .bool false, .slice none 0 0, .int .i64 0, .int .i64 0], .bool false, .int .i64 23]) (r_move (by kernel_rfl)) ?_)
      refine wl (sv rfl (v := .agg #[.int .i64 0, .int .i64 0, .int .i64 0, .int .i64 0, .string (⟨#[]⟩), .bool false, .bool false, .slice none 0 0, .int .i64 0, .int .i64 0]) (r_extract (vs := [.agg #[.int .i64 0, .int .i64 0, .int .i64 0, .int .i64 0, .string (⟨#[]⟩), .bool false, .bool false, .slice none 0 0, .int .i64 0, .int .i64 0], .bool false, .int .i64 23]) (by kernel_rfl) rfl) ?_)
      refine wl (sv rfl (v := .bool false) (r_extract (vs := [.agg #[.int .i64 0, .int .i64 0, .int .i64 0, .int .i64 0, .string (⟨#[]⟩), .bool false, .bool false, .slice none 0 0, .int .i64 0, .int .i64 0], .bool false, .int .i64 23]) (by kernel_rfl) rfl) ?_)
      refine wl (sv rfl (v := .int .i64 23) (r_extract (vs := [.agg #[.int .i64 0, .int .i64 0, .int .i64 0, .int .i64 0, .string (⟨#[]⟩), .bool false, .bool false, .slice none 0 0, .int .i64 0, .int .i64 0], .bool false, .int .i64 23]) (by kernel_rfl) rfl) ?_)
      refine wl (sn rfl (cs := #[.int .i64 0, .int .i64 0, .int .i64 0, .int .i64 0, .string (⟨#[]⟩), .bool false, .bool false, .slice none 0 0, .int .i64 0, .int .i64 0]) (T := 35) (V := fun b => .pointer (some ⟨b, 0, none⟩)) (r_alloc Ty.zv35 rfl) ?_)
      intro b35 w36 e37 h38 u39
      have h40 := (up_ob u33 h31)
      have l41 : b1 < b35 := by rw [e37]; exact lt_ob h40
      have h42 := (up_ob u33 (up_ob u27 h19))
      have l43 : b16 < b35 := by rw [e37]; exact lt_ob h42
      have g44 : w.heap.size ≤ b35 := by rw [e37]; exact M34.size
      have M45 := Mod.trans M34 (Mod.of_up u39)
      refine wl (ss rfl (k := 0) (v := .agg #[.int .i64 0, .int .i64 0, .int .i64 0, .int .i64 0, .string (⟨#[]⟩), .bool false, .bool false, .slice none 0 0, .int .i64 0, .int .i64 0]) (vs := [.int .i64 0, .int .i64 0, .int .i64 0, .int .i64 0, .string (⟨#[]⟩), .bool false, .bool false, .slice none 0 0, .int .i64 0, .int .i64 0]) (cs' := [.int .i64 0, .int .i64 0, .int .i64 0, .int .i64 0, .string (⟨#[]⟩), .bool false, .bool false, .slice none 0 0, .int .i64 0, .int .i64 0]) (by kernel_rfl) (by kernel_rfl) rfl Ty.sz35 h38 rfl (Nat.le_of_ble_eq_true rfl) rfl ?_)
      intro w46 h47 c48
      have M49 := Mod.trans' M45 c48 (fun i hi => by injection hi with hi; rw [← hi]; exact g44)
      refine wl (sv rfl (v := .bool false) (r_assign (by kernel_rfl)) ?_)
      refine wl (sv rfl (v := .int .i64 23) (r_assign (by kernel_rfl)) ?_)
      refine wnil ?_
      refine then_n ?_
      refine wp_seq ?_
      refine rg_lit ?_
      refine wl (sv rfl (v := .pointer none) (r_move (by kernel_rfl)) ?_)
      refine wl (sv rfl (v := .pointer (some ⟨b1, 3, none⟩)) (r_fieldAddr (u := .pointer (some ⟨b1, 0, none⟩)) (v := .pointer (some ⟨b1, 3, none⟩)) (by kernel_rfl) (fun _ => (by kernel_rfl))) ?_)
      have h50 := (chg_ob c48 (Nat.ne_of_lt l41) (up_ob u39 h40))
      refine wl (sv rfl (v := .agg #[.int .i64 o.node.t, .int .i64 o.node.w]) (r_loads (k := 3) (vs := [.int .i64 o.node.t, .int .i64 o.node.w]) (by kernel_rfl) Ty.ag24 Ty.sz24 h50 (by kernel_rfl)) ?_)
      refine wl (sc rfl (r_callv (caps := []) (all := [.pointer none, .agg #[.int .i64 o.node.t, .int .i64 o.node.w]]) En.f23 (by kernel_rfl) (by kernel_rfl)) (tget_nil o.node.t o.node.w) ?_)
      rintro e w51 ⟨rfl, u52⟩
      refine ⟨.tuple #[.agg #[.int .i64 0, .int .i64 0, .int .i64 0, .int .i64 0, .string (⟨#[]⟩), .bool false, .bool false, .slice none 0 0, .int .i64 0, .int .i64 0], .bool false], rfl, ?_⟩
      have M53 := Mod.trans M49 (Mod.of_up u52)
      refine wl (sv rfl (v := .tuple #[.agg #[.int .i64 0, .int .i64 0, .int .i64 0, .int .i64 0, .string (⟨#[]⟩), .bool false, .bool false, .slice none 0 0, .int .i64 0, .int .i64 0], .bool false]) (r_move (by kernel_rfl)) ?_)
      refine wl (sv rfl (v := .agg #[.int .i64 0, .int .i64 0, .int .i64 0, .int .i64 0, .string (⟨#[]⟩), .bool false, .bool false, .slice none 0 0, .int .i64 0, .int .i64 0]) (r_extract (vs := [.agg #[.int .i64 0, .int .i64 0, .int .i64 0, .int .i64 0, .string (⟨#[]⟩), .bool false, .bool false, .slice none 0 0, .int .i64 0, .int .i64 0], .bool false]) (by kernel_rfl) rfl) ?_)
      refine wl (sv rfl (v := .bool false) (r_extract (vs := [.agg #[.int .i64 0, .int .i64 0, .int .i64 0, .int .i64 0, .string (⟨#[]⟩), .bool false, .bool false, .slice none 0 0, .int .i64 0, .int .i64 0], .bool false]) (by kernel_rfl) rfl) ?_)
      refine wl (sn rfl (cs := #[.int .i64 0, .int .i64 0, .int .i64 0, .int .i64 0, .string (⟨#[]⟩), .bool false, .bool false, .slice none 0 0, .int .i64 0, .int .i64 0]) (T := 35) (V := fun b => .pointer (some ⟨b, 0, none⟩)) (r_alloc Ty.zv35 rfl) ?_)
      intro b54 w55 e56 h57 u58
      have h59 := (up_ob u52 h50)
      have l60 : b1 < b54 := by rw [e56]; exact lt_ob h59
      have h61 := (up_ob u52 (chg_ob c48 (Nat.ne_of_lt l43) (up_ob u39 h42)))
      have l62 : b16 < b54 := by rw [e56]; exact lt_ob h61
      have h63 := (up_ob u52 h47)
      have l64 : b35 < b54 := by rw [e56]; exact lt_ob h63
      have g65 : w.heap.size ≤ b54 := by rw [e56]; exact M53.size
      have M66 := Mod.trans M53 (Mod.of_up u58)
      refine wl (ss rfl (k := 0) (v := .agg #[.int .i64 0, .int .i64 0, .int .i64 0, .int .i64 0, .string (⟨#[]⟩), .bool false, .bool false, .slice none 0 0, .int .i64 0, .int .i64 0]) (vs := [.int .i64 0, .int .i64 0, .int .i64 0, .int .i64 0, .string (⟨#[]⟩), .bool false, .bool false, .slice none 0 0, .int .i64 0, .int .i64 0]) (cs' := [.int .i64 0, .int .i64 0, .int .i64 0, .int .i64 0, .string (⟨#[]⟩), .bool false, .bool false, .slice none 0 0, .int .i64 0, .int .i64 0]) (by kernel_rfl) (by kernel_rfl) rfl Ty.sz35 h57 rfl (Nat.le_of_ble_eq_true rfl) rfl ?_)
      intro w67 h68 c69
      have M70 := Mod.trans' M66 c69 (fun i hi => by injection hi with hi; rw [← hi]; exact g65)
      refine wl (sv rfl (v := .bool false) (r_assign (by kernel_rfl)) ?_)
      refine wnil ?_
      refine then_n ?_
      refine wp_seq ?_
      refine wp_seq ?_
      refine rg_held [] (n := 43) (by kernel_rfl) rfl ?_
      intro w71 u72
      have M73 := Mod.trans M70 (Mod.of_up u72)
      refine hv (i := 0) (fuel := 42) rfl (by kernel_rfl) (by kernel_rfl) (by kernel_rfl) (fun _ _ _ h => h) (Mod.refl _ _) rfl (v := .bool false) (fun _ _ => r_move (by kernel_rfl)) ?_
      refine hv (i := 1) (fuel := 41) rfl (by kernel_rfl) (by kernel_rfl) (by kernel_rfl) (fun _ _ _ h => h) (Mod.refl _ _) rfl (v := .bool false) (fun _ _ => r_move (by kernel_rfl)) ?_
      refine hv (i := 2) (fuel := 40) rfl (by kernel_rfl) (by kernel_rfl) (by kernel_rfl) (fun _ _ _ h => h) (Mod.refl _ _) (by kernel_rfl) (v := .bool false) (fun _ _ => r_move (by kernel_rfl)) ?_
      refine hv (i := 3) (fuel := 39) rfl (by kernel_rfl) (by kernel_rfl) (by kernel_rfl) (fun _ _ _ h => h) (Mod.refl _ _) rfl (v := .bool false) (fun _ _ => r_pick (b := false) (u := .bool true) (v := .bool false) (by kernel_rfl) (by kernel_rfl) (by kernel_rfl)) ?_
      refine hv (i := 4) (fuel := 38) rfl (by kernel_rfl) (by kernel_rfl) (by kernel_rfl) (fun _ _ _ h => h) (Mod.refl _ _) rfl (v := .bool false) (fun _ _ => r_move (by kernel_rfl)) ?_
      refine hv (i := 5) (fuel := 37) rfl (by kernel_rfl) (by kernel_rfl) (by kernel_rfl) (fun _ _ _ h => h) (Mod.refl _ _) (by kernel_rfl) (v := .int .i64 23) (fun _ _ => r_move (by kernel_rfl)) ?_
      refine hv (i := 6) (fuel := 36) rfl (by kernel_rfl) (by kernel_rfl) (by kernel_rfl) (fun _ _ _ h => h) (Mod.refl _ _) (by kernel_rfl) (v := .bool false) (fun _ _ => by kernel_rfl) ?_
      refine hv (i := 7) (fuel := 35) rfl (by kernel_rfl) (by kernel_rfl) (by kernel_rfl) (fun _ _ _ h => h) (Mod.refl _ _) rfl (v := .bool false) (fun _ _ => r_pick (b := false) (u := .bool true) (v := .bool false) (by kernel_rfl) (by kernel_rfl) (by kernel_rfl)) ?_
      refine hv (i := 8) (fuel := 34) rfl (by kernel_rfl) (by kernel_rfl) (by kernel_rfl) (fun _ _ _ h => h) (Mod.refl _ _) rfl (v := .bool false) (fun _ _ => r_move (by kernel_rfl)) ?_
      refine hv (i := 9) (fuel := 33) rfl (by kernel_rfl) (by kernel_rfl) (by kernel_rfl) (fun _ _ _ h => h) (Mod.refl _ _) (by kernel_rfl) (v := .pointer none) (fun _ _ => r_move (by kernel_rfl)) ?_
      refine hv (i := 10) (fuel := 32) rfl (by kernel_rfl) (by kernel_rfl) (by kernel_rfl) (fun _ _ _ h => h) (Mod.refl _ _) (by kernel_rfl) (v := .agg #[.int .i64 0, .int .i64 0, .int .i64 0, .int .i64 0, .string (⟨#[]⟩), .bool false, .bool false, .slice none 0 0, .int .i64 0, .int .i64 0]) (fun _ _ => r_build (ps := []) (cs := [.int .i64 0, .int .i64 0, .int .i64 0, .int .i64 0, .string (⟨#[]⟩), .bool false, .bool false, .slice none 0 0, .int .i64 0, .int .i64 0]) Ty.un35 Ty.zv35 Ty.pl35 (by kernel_rfl) (by kernel_rfl)) ?_
      refine h1 (i := 11) (fuel := 31) (by kernel_rfl) rfl (sc (by kernel_rfl) (r_callv (caps := []) (all := [.pointer none, .agg #[.int .i64 0, .int .i64 0, .int .i64 0, .int .i64 0, .string (⟨#[]⟩), .bool false, .bool false, .slice none 0 0, .int .i64 0, .int .i64 0], .bool true]) En.f44 (by kernel_rfl) (by kernel_rfl)) (tset_nil nilI none 0 0 true) ?_)
      rintro e w74 ⟨rfl, u75⟩
      refine ⟨.int .i64 23, rfl, ?_⟩
      have M76 := Mod.trans M73 (Mod.of_up u75)
      refine hx (Y := []) (Mod.of_up u75) (fun y hy => .inl hy) ?_
      refine hv (i := 12) (fuel := 30) rfl (by kernel_rfl) (by kernel_rfl) (by kernel_rfl) (fun _ _ _ h => h) (Mod.refl _ _) (by kernel_rfl) (v := .bool false) (fun _ _ => by kernel_rfl) ?_
      refine hv (i := 13) (fuel := 29) rfl (by kernel_rfl) (by kernel_rfl) (by kernel_rfl) (fun _ _ _ h => h) (Mod.refl _ _) rfl (v := .bool false) (fun _ _ => r_pick (b := false) (u := .bool true) (v := .bool false) (by kernel_rfl) (by kernel_rfl) (by kernel_rfl)) ?_
      refine hv (i := 14) (fuel := 28) rfl (by kernel_rfl) (by kernel_rfl) (by kernel_rfl) (fun _ _ _ h => h) (Mod.refl _ _) rfl (v := .bool false) (fun _ _ => r_move (by kernel_rfl)) ?_
      refine hv (i := 15) (fuel := 27) rfl (by kernel_rfl) (by kernel_rfl) (by kernel_rfl) (fun _ _ _ h => h) (Mod.refl _ _) (by kernel_rfl) (v := .pointer none) (fun _ _ => r_move (by kernel_rfl)) ?_
      refine hv (i := 17) (fuel := 26) rfl (by kernel_rfl) (by kernel_rfl) (by kernel_rfl) (fun _ _ _ h => h) (Mod.refl _ _) (by kernel_rfl) (v := .pointer none) (fun _ _ => r_move (by kernel_rfl)) ?_
      refine hv (i := 21) (fuel := 25) rfl (by kernel_rfl) (by kernel_rfl) (by kernel_rfl) (fun _ _ _ h => h) (Mod.refl _ _) (by kernel_rfl) (v := .pointer none) (fun _ _ => r_move (by kernel_rfl)) ?_
      refine hv (i := 22) (fuel := 24) rfl (by kernel_rfl) (by kernel_rfl) (by kernel_rfl) (fun _ _ _ h => h) (Mod.refl _ _) (by kernel_rfl) (v := .pointer (some ⟨b1, 3, none⟩)) (fun _ _ => r_fieldAddr (u := .pointer (some ⟨b1, 0, none⟩)) (v := .pointer (some ⟨b1, 3, none⟩)) (by kernel_rfl) (fun _ => (by kernel_rfl))) ?_
      have h77 := (up_ob u75 (up_ob u72 (chg_ob c69 (Nat.ne_of_lt l60) (up_ob u58 h59))))
      refine hv (i := 23) (fuel := 23) rfl (by kernel_rfl) (by kernel_rfl) (by kernel_rfl) (fun _ _ _ h => h) (Mod.refl _ _) (by kernel_rfl) (v := .agg #[.int .i64 o.node.t, .int .i64 o.node.w]) (fun _ uz => r_loads (k := 3) (vs := [.int .i64 o.node.t, .int .i64 o.node.w]) (by kernel_rfl) Ty.ag24 Ty.sz24 (md_ob uz nin0 h77) (by kernel_rfl)) ?_
      refine h1 (i := 16) (fuel := 22) (by kernel_rfl) rfl (sc (by kernel_rfl) (r_callv (caps := []) (all := [.pointer none]) En.f22 (by kernel_rfl) (by kernel_rfl)) (tlen_nil) ?_)
      rintro e w78 ⟨rfl, u79⟩
      refine ⟨.int .i64 0, rfl, ?_⟩
      have M80 := Mod.trans M76 (Mod.of_up u79)
      refine hx (Y := []) (Mod.of_up u79) (fun y hy => .inl hy) ?_
      refine h1 (i := 18) (fuel := 21) (by kernel_rfl) rfl (sc (by kernel_rfl) (r_callv (caps := []) (all := [.pointer none]) En.f21 (by kernel_rfl) (by kernel_rfl)) (tall_nil) ?_)
      rintro e w81 ⟨rfl, u82⟩
      refine ⟨.slice none 0 0, rfl, ?_⟩
      have M83 := Mod.trans M80 (Mod.of_up u82)
      refine hx (Y := []) (Mod.of_up u82) (fun y hy => .inl hy) ?_
      refine hv (i := 19) (fuel := 20) rfl (by kernel_rfl) (by kernel_rfl) (by kernel_rfl) (fun _ _ _ h => h) (Mod.refl _ _) (by kernel_rfl) (v := .int .i64 0) (fun _ _ => r_len Ty.un48 (ad := none) (n := 0) (c := 0) (by kernel_rfl)) ?_
      refine hv (i := 20) (fuel := 19) rfl (by kernel_rfl) (by kernel_rfl) (by kernel_rfl) (fun _ _ _ h => h) (Mod.refl _ _) (by kernel_rfl) (v := .int .i64 0) (fun _ _ => by kernel_rfl) ?_
      refine h1 (i := 24) (fuel := 18) (by kernel_rfl) rfl (sc (by kernel_rfl) (r_callv (caps := []) (all := [.pointer none, .agg #[.int .i64 o.node.t, .int .i64 o.node.w]]) En.f29 (by kernel_rfl) (by kernel_rfl)) (tkids_nil o.node.t o.node.w) ?_)
      rintro e w84 ⟨rfl, u85⟩
      refine ⟨.slice none 0 0, rfl, ?_⟩
      have M86 := Mod.trans M83 (Mod.of_up u85)
      refine hx (Y := []) (Mod.of_up u85) (fun y hy => .inl hy) ?_
      refine hv (i := 25) (fuel := 17) rfl (by kernel_rfl) (by kernel_rfl) (by kernel_rfl) (fun _ _ _ h => h) (Mod.refl _ _) (by kernel_rfl) (v := .int .i64 0) (fun _ _ => r_len Ty.un48 (ad := none) (n := 0) (c := 0) (by kernel_rfl)) ?_
      refine hv (i := 26) (fuel := 16) rfl (by kernel_rfl) (by kernel_rfl) (by kernel_rfl) (fun _ _ _ h => h) (Mod.refl _ _) (by kernel_rfl) (v := .int .i64 0) (fun _ _ => by kernel_rfl) ?_
      refine hv (i := 27) (fuel := 15) rfl (by kernel_rfl) (by kernel_rfl) (by kernel_rfl) (fun _ _ _ h => h) (Mod.refl _ _) (by kernel_rfl) (v := .bool false) (fun _ _ => by kernel_rfl) ?_
      refine hv (i := 28) (fuel := 14) rfl (by kernel_rfl) (by kernel_rfl) (by kernel_rfl) (fun _ _ _ h => h) (Mod.refl _ _) rfl (v := .bool false) (fun _ _ => r_pick (b := false) (u := .bool true) (v := .bool false) (by kernel_rfl) (by kernel_rfl) (by kernel_rfl)) ?_
      refine hv (i := 29) (fuel := 13) rfl (by kernel_rfl) (by kernel_rfl) (by kernel_rfl) (fun _ _ _ h => h) (Mod.refl _ _) rfl (v := .bool false) (fun _ _ => r_move (by kernel_rfl)) ?_
      refine hv (i := 30) (fuel := 12) rfl (by kernel_rfl) (by kernel_rfl) (by kernel_rfl) (fun _ _ _ h => h) (Mod.refl _ _) (by kernel_rfl) (v := .pointer none) (fun _ _ => r_move (by kernel_rfl)) ?_
      refine hv (i := 31) (fuel := 11) rfl (by kernel_rfl) (by kernel_rfl) (by kernel_rfl) (fun _ _ _ h => h) (Mod.refl _ _) (by kernel_rfl) (v := .pointer (some ⟨b1, 3, none⟩)) (fun _ _ => r_fieldAddr (u := .pointer (some ⟨b1, 0, none⟩)) (v := .pointer (some ⟨b1, 3, none⟩)) (by kernel_rfl) (fun _ => (by kernel_rfl))) ?_
      have h87 := (up_ob u85 (up_ob u82 (up_ob u79 h77)))
      refine hv (i := 32) (fuel := 10) rfl (by kernel_rfl) (by kernel_rfl) (by kernel_rfl) (fun _ _ _ h => h) (Mod.refl _ _) (by kernel_rfl) (v := .agg #[.int .i64 o.node.t, .int .i64 o.node.w]) (fun _ uz => r_loads (k := 3) (vs := [.int .i64 o.node.t, .int .i64 o.node.w]) (by kernel_rfl) Ty.ag24 Ty.sz24 (md_ob uz nin0 h87) (by kernel_rfl)) ?_
      refine hv (i := 33) (fuel := 9) rfl (by kernel_rfl) (by kernel_rfl) (by kernel_rfl) (fun _ _ _ h => h) (Mod.refl _ _) (by kernel_rfl) (v := .pointer (some ⟨b1, 3, none⟩)) (fun _ _ => r_fieldAddr (u := .pointer (some ⟨b1, 0, none⟩)) (v := .pointer (some ⟨b1, 3, none⟩)) (by kernel_rfl) (fun _ => (by kernel_rfl))) ?_
      refine hv (i := 34) (fuel := 8) rfl (by kernel_rfl) (by kernel_rfl) (by kernel_rfl) (fun _ _ _ h => h) (Mod.refl _ _) (by kernel_rfl) (v := .agg #[.int .i64 o.node.t, .int .i64 o.node.w]) (fun _ uz => r_loads (k := 3) (vs := [.int .i64 o.node.t, .int .i64 o.node.w]) (by kernel_rfl) Ty.ag24 Ty.sz24 (md_ob uz nin0 h87) (by kernel_rfl)) ?_
      refine h1 (i := 35) (fuel := 7) (by kernel_rfl) rfl (sc (by kernel_rfl) (r_callv (caps := []) (all := [.pointer none, .agg #[.int .i64 o.node.t, .int .i64 o.node.w], .agg #[.int .i64 o.node.t, .int .i64 o.node.w]]) En.f25 (by kernel_rfl) (by kernel_rfl)) (twithin_nil o.node.t o.node.w o.node.t o.node.w) ?_)
      rintro e w88 ⟨rfl, u89⟩
      refine ⟨.bool false, rfl, ?_⟩
      have M90 := Mod.trans M86 (Mod.of_up u89)
      refine hx (Y := []) (Mod.of_up u89) (fun y hy => .inl hy) ?_
      refine hv (i := 36) (fuel := 6) rfl (by kernel_rfl) (by kernel_rfl) (by kernel_rfl) (fun _ _ _ h => h) (Mod.refl _ _) rfl (v := .bool false) (fun _ _ => r_pick (b := false) (u := .bool true) (v := .bool false) (by kernel_rfl) (by kernel_rfl) (by kernel_rfl)) ?_
      refine hv (i := 37) (fuel := 5) rfl (by kernel_rfl) (by kernel_rfl) (by kernel_rfl) (fun _ _ _ h => h) (Mod.refl _ _) rfl (v := .bool false) (fun _ _ => r_move (by kernel_rfl)) ?_
      refine hv (i := 38) (fuel := 4) rfl (by kernel_rfl) (by kernel_rfl) (by kernel_rfl) (fun _ _ _ h => h) (Mod.refl _ _) (by kernel_rfl) (v := .pointer none) (fun _ _ => r_move (by kernel_rfl)) ?_
      refine hv (i := 39) (fuel := 3) rfl (by kernel_rfl) (by kernel_rfl) (by kernel_rfl) (fun _ _ _ h => h) (Mod.refl _ _) (by kernel_rfl) (v := .pointer (some ⟨b1, 3, none⟩)) (fun _ _ => r_fieldAddr (u := .pointer (some ⟨b1, 0, none⟩)) (v := .pointer (some ⟨b1, 3, none⟩)) (by kernel_rfl) (fun _ => (by kernel_rfl))) ?_
      have h91 := (up_ob u89 h87)
      refine hv (i := 40) (fuel := 2) rfl (by kernel_rfl) (by kernel_rfl) (by kernel_rfl) (fun _ _ _ h => h) (Mod.refl _ _) (by kernel_rfl) (v := .agg #[.int .i64 o.node.t, .int .i64 o.node.w]) (fun _ uz => r_loads (k := 3) (vs := [.int .i64 o.node.t, .int .i64 o.node.w]) (by kernel_rfl) Ty.ag24 Ty.sz24 (md_ob uz nin0 h91) (by kernel_rfl)) ?_
      refine h1 (i := 41) (fuel := 1) (by kernel_rfl) rfl (sc (by kernel_rfl) (r_callv (caps := []) (all := [.pointer none, .agg #[.int .i64 o.node.t, .int .i64 o.node.w]]) En.f27 (by kernel_rfl) (by kernel_rfl)) (thangs_nil o.node.t o.node.w) ?_)
      rintro e w92 ⟨rfl, u93⟩
      refine ⟨.bool false, rfl, ?_⟩
      have M94 := Mod.trans M90 (Mod.of_up u93)
      refine hx (Y := []) (Mod.of_up u93) (fun y hy => .inl hy) ?_
      refine hv (i := 42) (fuel := 0) rfl (by kernel_rfl) (by kernel_rfl) (by kernel_rfl) (fun _ _ _ h => h) (Mod.refl _ _) rfl (v := .bool false) (fun _ _ => r_pick (b := false) (u := .bool true) (v := .bool false) (by kernel_rfl) (by kernel_rfl) (by kernel_rfl)) ?_
      refine hend (by kernel_rfl) ?_
      refine then_n ?_
      refine wp_cond_false (by kernel_rfl) ?_
      refine wp_skip ?_
      refine then_n ?_
      refine wp_seq ?_
      refine rg_lit ?_
      refine wl (sv rfl (v := .slice lA os.length lc) (r_move (by kernel_rfl)) ?_)
      have h95 := (OpRow.up hops (Mod.up M94))
      have h101 := (up_ob u93 h91)
      have h102 := (up_ob u93 (up_ob u89 (up_ob u85 (up_ob u82 (up_ob u79 (up_ob u75 (up_ob u72 (chg_ob c69 (Nat.ne_of_lt l62) (up_ob u58 h61)))))))))
      have h103 := (up_ob u93 (up_ob u89 (up_ob u85 (up_ob u82 (up_ob u79 (up_ob u75 (up_ob u72 (chg_ob c69 (Nat.ne_of_lt l64) (up_ob u58 h63)))))))))
      have h104 := (up_ob u93 (up_ob u89 (up_ob u85 (up_ob u82 (up_ob u79 (up_ob u75 (up_ob u72 h68)))))))
      refine wl (sc rfl (r_callv (caps := []) (all := [.slice lA os.length lc]) En.f36 (by kernel_rfl) (by kernel_rfl)) (build_at h95 (Nat.le_trans hB M94.size) (by omega)) ?_)
      rintro e w96 ⟨tb, r, rfl, h97, u98, z99, z100⟩
      refine ⟨.pointer (some ⟨tb, 0, none⟩), rfl, ?_⟩
      have l105 : b1 < r := Nat.lt_of_lt_of_le (lt_ob h101) z100
      have l106 : b16 < r := Nat.lt_of_lt_of_le (lt_ob h102) z100
      have l107 : b35 < r := Nat.lt_of_lt_of_le (lt_ob h103) z100
      have l108 : b54 < r := Nat.lt_of_lt_of_le (lt_ob h104) z100
      have l109 : b1 < tb := Nat.lt_of_lt_of_le (lt_ob h101) z99
      have l110 : b16 < tb := Nat.lt_of_lt_of_le (lt_ob h102) z99
      have l111 : b35 < tb := Nat.lt_of_lt_of_le (lt_ob h103) z99
      have l112 : b54 < tb := Nat.lt_of_lt_of_le (lt_ob h104) z99
      have M113 := Mod.trans M94 (Mod.of_up u98)
      obtain ⟨hwf, hlen⟩ := buildI_wf os
      obtain ⟨L0, hL0⟩ : ∃ L, buildI os = L := ⟨_, rfl⟩
      rw [hL0] at hwf hlen h97
      obtain ⟨eshr114, clhr114, xshr114, hr114, _⟩ := h97.2.2.2.1
      refine wl (sv rfl (v := .pointer (some ⟨tb, 0, none⟩)) (r_assign (by kernel_rfl)) ?_)
      refine wnil ?_
      refine then_n ?_
      refine wp_seq ?_
      refine rg_lit ?_
      refine wl (sv rfl (v := .slice lA os.length lc) (r_move (by kernel_rfl)) ?_)
      have h115 := (OpRow.up hops (Mod.up M113))
      refine wl (sc rfl (r_callv (caps := []) (all := [.slice lA os.length lc]) En.f36 (by kernel_rfl) (by kernel_rfl)) (build_at h115 (Nat.le_trans hB M113.size) (by omega)) ?_)
      rintro e w116 ⟨tb2, r2, rfl, h117, u118, z119, z120⟩
      refine ⟨.pointer (some ⟨tb2, 0, none⟩), rfl, ?_⟩
      rw [hL0] at h117
      have M121 := Mod.trans M113 (Mod.of_up u118)
      have h122 := (up_ob u118 (up_ob u98 h101))
      have h123 := (up_ob u118 (up_ob u98 h102))
      have h124 := (up_ob u118 (up_ob u98 h103))
      have h125 := (up_ob u118 (up_ob u98 h104))
      have h126 := (up_ob u118 hr114)
      have h127 := (up_ob u118 h97.1)
      refine wl (sc rfl (r_callv (caps := []) (all := [.pointer (some ⟨tb2, 0, none⟩)]) En.f21 (by kernel_rfl) (by kernel_rfl)) (row_sl (all_at h117 (Nat.le_trans hB M121.size))) ?_)
      rintro e w128 ⟨A129, c130, rfl, h131, u132⟩
      refine ⟨.slice A129 L0.length c130, rfl, ?_⟩
      have M133 := Mod.trans M121 (Mod.of_up u132)
      have h134 := (up_ob u132 h122)
      have h135 := (up_ob u132 h123)
      have h136 := (up_ob u132 h124)
      have h137 := (up_ob u132 h125)
      have h138 := (up_ob u132 h126)
      have h139 := (up_ob u132 h127)
      refine wl (sc rfl (r_callv (caps := []) (all := [.slice A129 L0.length c130]) En.f20 (by kernel_rfl) (by kernel_rfl)) (row_sl (litems_at h131 (Nat.le_trans hB M133.size) (Nat.le_trans hlen (by decide)))) ?_)
      rintro e w140 ⟨A141, c142, rfl, h143, u144⟩
      refine ⟨.slice A141 L0.length c142, rfl, ?_⟩
      have M145 := Mod.trans M133 (Mod.of_up u144)
      refine wl (sv rfl (v := .slice A141 L0.length c142) (r_assign (by kernel_rfl)) ?_)
      refine wnil ?_
      refine then_n ?_
      refine wp_seq ?_
      refine rg_lit ?_
      refine wl (sv rfl (v := .pointer (some ⟨tb, 0, none⟩)) (r_move (by kernel_rfl)) ?_)
      have h146 := (up_ob u144 h134)
      have h147 := (up_ob u144 h135)
      have h148 := (up_ob u144 h136)
      have h149 := (up_ob u144 h137)
      have h150 := (up_ob u144 h138)
      have h151 := (up_ob u144 h139)
      have h152 := (TreeIs.up h97 (up_up (up_up u118 u132) u144))
      have h153 := (TreeIs.up h117 (up_up u132 u144))
      have h154 := (IRow.up h131 u144)
      refine wl (sc rfl (r_callv (caps := []) (all := [.pointer (some ⟨tb, 0, none⟩)]) En.f21 (by kernel_rfl) (by kernel_rfl)) (frow_sl (all_w_at h152 (Nat.le_trans hB M145.size))) ?_)
      rintro e w155 ⟨A156, c157, rfl, h158, u159⟩
      refine ⟨.slice A156 L0.length c157, rfl, ?_⟩
      have M160 := Mod.trans M145 (Mod.of_up u159)
      have M161 := Mod.trans (Mod.refl [] w140) (Mod.of_up u159)
      refine wl (sv rfl (v := .slice A156 L0.length c157) (r_assign (by kernel_rfl)) ?_)
      refine wnil ?_
      refine then_n ?_
      refine wp_seq ?_
      refine wp_seq ?_
      refine rg_lit ?_
      refine wl (sv rfl (v := .int .i64 0) (r_assign (by kernel_rfl)) ?_)
      refine wnil ?_
      refine then_n ?_
      refine wp_block ?_
      refine lp (fun n a r1 => ∃ (k : Nat) (z90 z91 z92 z93 z94 z95 z96 z97 z98 z99 z100 z101 z102 z103 z104 z105 z106 z107 z108 z109 z110 z111 z112 z113 z114 z115 z116 : Value), (n = L0.length - k) ∧ (a = ⟨#[.slice lA os.length lc, .agg #[.int .i64 o.kind, .int .i64 o.at_.t, .int .i64 o.at_.w, .int .i64 o.node.t, .int .i64 o.node.w, .int .i64 o.parent.t, .int .i64 o.parent.w, .bool o.dir, .string o.name, .slice oA on oc], undef, .pointer (some ⟨b1, 0, none⟩), .bool false, .pointer none, .pointer (some ⟨b35, 0, none⟩), .bool false, .int .i64 23, .pointer (some ⟨b54, 0, none⟩), .bool false, .pointer (some ⟨tb, 0, none⟩), .slice A141 L0.length c142, .slice A156 L0.length c157, .int .i64 ((k : Int)), .slice lA os.length lc, .bool lb9, .bool (!lb9), .bool (!lb9), .agg #[.int .i64 o.kind, .int .i64 o.at_.t, .int .i64 o.at_.w, .int .i64 o.node.t, .int .i64 o.node.w, .int .i64 o.parent.t, .int .i64 o.parent.w, .bool o.dir, .string o.name, .slice oA on oc], .slice (some ⟨b16, 0, none⟩) 1 1, .bool lb25, .bool (!lb25), .bool (!lb25), undef, .tuple #[.agg #[.int .i64 0, .int .i64 0, .int .i64 0, .int .i64 0, .string (⟨#[]⟩), .bool false, .bool false, .slice none 0 0, .int .i64 0, .int .i64 0], .bool false, .int .i64 23], .pointer none, .agg #[.int .i64 o.kind, .int .i64 o.at_.t, .int .i64 o.at_.w, .int .i64 o.node.t, .int .i64 o.node.w, .int .i64 o.parent.t, .int .i64 o.parent.w, .bool o.dir, .string o.name, .slice oA on oc], .tuple #[.agg #[.int .i64 0, .int .i64 0, .int .i64 0, .int .i64 0, .string (⟨#[]⟩), .bool false, .bool false, .slice none 0 0, .int .i64 0, .int .i64 0], .bool false, .int .i64 23], .agg #[.int .i64 0, .int .i64 0, .int .i64 0, .int .i64 0, .string (⟨#[]⟩), .bool false, .bool false, .slice none 0 0, .int .i64 0, .int .i64 0], .bool false, .int .i64 23, .tuple #[.agg #[.int .i64 0, .int .i64 0, .int .i64 0, .int .i64 0, .string (⟨#[]⟩), .bool false, .bool false, .slice none 0 0, .int .i64 0, .int .i64 0], .bool false], .pointer none, .pointer (some ⟨b1, 3, none⟩), .agg #[.int .i64 o.node.t, .int .i64 o.node.w], .tuple #[.agg #[.int .i64 0, .int .i64 0, .int .i64 0, .int .i64 0, .string (⟨#[]⟩), .bool false, .bool false, .slice none 0 0, .int .i64 0, .int .i64 0], .bool false], .agg #[.int .i64 0, .int .i64 0, .int .i64 0, .int .i64 0, .string (⟨#[]⟩), .bool false, .bool false, .slice none 0 0, .int .i64 0, .int .i64 0], .bool false, .bool false, .bool false, .bool false, .bool false, .bool false, .int .i64 23, .bool false, .bool false, .bool false, .pointer none, .agg #[.int .i64 0, .int .i64 0, .int .i64 0, .int .i64 0, .string (⟨#[]⟩), .bool false, .bool false, .slice none 0 0, .int .i64 0, .int .i64 0], .int .i64 23, .bool false, .bool false, .bool false, .pointer none, .int .i64 0, .pointer none, .slice none 0 0, .int .i64 0, .int .i64 0, .pointer none, .pointer (some ⟨b1, 3, none⟩), .agg #[.int .i64 o.node.t, .int .i64 o.node.w], .slice none 0 0, .int .i64 0, .int .i64 0, .bool false, .bool false, .bool false, .pointer none, .pointer (some ⟨b1, 3, none⟩), .agg #[.int .i64 o.node.t, .int .i64 o.node.w], .pointer (some ⟨b1, 3, none⟩), .agg #[.int .i64 o.node.t, .int .i64 o.node.w], .bool false, .bool false, .bool false, .pointer none, .pointer (some ⟨b1, 3, none⟩), .agg #[.int .i64 o.node.t, .int .i64 o.node.w], .bool false, .bool false, .slice lA os.length lc, .pointer (some ⟨tb, 0, none⟩), .slice lA os.length lc, .pointer (some ⟨tb2, 0, none⟩), .slice A129 L0.length c130, .slice A141 L0.length c142, .pointer (some ⟨tb, 0, none⟩), .slice A156 L0.length c157, z90, z91, z92, z93, z94, z95, z96, z97, z98, z99, z100, z101, z102, z103, z104, z105, z106, z107, z108, z109, z110, z111, z112, z113, z114, z115, z116, undef, undef, undef, undef, undef, undef, undef, undef], []⟩) ∧ (Mod [] w140 r1) ∧ (k ≤ L0.length) ∧ (FRow 35 w140.heap.size w140.heap.size r1 (.slice A156 L0.length c157) L0)) ⟨_, 0, undef, undef, undef, undef, undef, undef, undef, undef, undef, undef, undef, undef, undef, undef, undef, undef, undef, undef, undef, undef, undef, undef, undef, undef, undef, undef, undef, rfl, (by kernel_rfl), M161, Nat.zero_le _, h158⟩ ?_
      rintro _ _ r1 ⟨k, z90, z91, z92, z93, z94, z95, z96, z97, z98, z99, z100, z101, z102, z103, z104, z105, z106, z107, z108, z109, z110, z111, z112, z113, z114, z115, z116, rfl, rfl, hM1, hk1, hF1⟩
      have M162 := Mod.trans M145 hM1
      refine wp_seq ?_
      refine wp_seq ?_
      refine rg_lit ?_
      refine wl (sv rfl (v := .int .i64 ((k : Int))) (r_move (by kernel_rfl)) ?_)
      refine wl (sv rfl (v := .slice A156 L0.length c157) (r_move (by kernel_rfl)) ?_)
      refine wl (sv rfl (v := .int .i64 ((L0.length : Int))) (r_len Ty.un48 (ad := A156) (n := L0.length) (c := c157) (by kernel_rfl)) ?_)
      refine wl (sb rfl (r_lt (k := .i64) (m := ((k : Int))) (n := ((L0.length : Int))) (by kernel_rfl) (by kernel_rfl)) ?_)
      intro b163 k164
      refine wnil ?_
      refine then_n ?_
      refine bcase b163 (fun v165 => ?_) (fun v165 => ?_)
      · have p166 := of_decide_eq_false (k164.trans v165)
        refine wp_cond_false (ebool (b := b163) (by kernel_rfl) v165) ?_
        refine wp_exit ?_
        refine then_x (by nofun) ?_
        refine then_x (by nofun) ?_
        refine inb_hit ?_
        refine then_n ?_
        refine wp_seq ?_
        refine rg_lit ?_
        refine wl (sv rfl (v := .pointer (some ⟨tb, 0, none⟩)) (r_move (by kernel_rfl)) ?_)
        have h167 := md_ob hM1 nin0 h146
        have h168 := md_ob hM1 nin0 h147
        have h169 := md_ob hM1 nin0 h148
        have h170 := md_ob hM1 nin0 h149
        have h171 := md_ob hM1 nin0 h150
        have h172 := md_ob hM1 nin0 h151
        have h178 := (TreeIs.up h152 (Mod.up hM1))
        refine wl (sc rfl (r_callv (caps := []) (all := [.pointer (some ⟨tb, 0, none⟩)]) En.f21 (by kernel_rfl) (by kernel_rfl)) (row_sl (all_at h178 (Nat.le_trans hB M162.size))) ?_)
        rintro e w173 ⟨A174, c175, rfl, h176, u177⟩
        refine ⟨.slice A174 L0.length c175, rfl, ?_⟩
        have M179 := Mod.trans M162 (Mod.of_up u177)
        have M180 := Mod.trans hM1 (Mod.of_up u177)
        have M181 := Mod.trans hM1 (Mod.of_up u177)
        have h182 := md_ob M180 nin0 h146
        have h183 := md_ob M180 nin0 h147
        have h184 := md_ob M180 nin0 h148
        have h185 := md_ob M180 nin0 h149
        have h186 := md_ob M180 nin0 h150
        have h187 := md_ob M180 nin0 h151
        refine wl (sc rfl (r_callv (caps := []) (all := [.slice A174 L0.length c175]) En.f20 (by kernel_rfl) (by kernel_rfl)) (row_sl (litems_at h176 (Nat.le_trans hB M179.size) (Nat.le_trans hlen (by decide)))) ?_)
        rintro e w188 ⟨A189, c190, rfl, h191, u192⟩
        refine ⟨.slice A189 L0.length c190, rfl, ?_⟩
        have M193 := Mod.trans M179 (Mod.of_up u192)
        have M194 := Mod.trans M180 (Mod.of_up u192)
        have M195 := Mod.trans M181 (Mod.of_up u192)
        refine wl (sv rfl (v := .slice A141 L0.length c142) (r_move (by kernel_rfl)) ?_)
        have h196 := (IRow.up h143 (Mod.up M194))
        refine wl (sc rfl (r_callv (caps := []) (all := [.slice A189 L0.length c190, .slice A141 L0.length c142]) En.f19 (by kernel_rfl) (by kernel_rfl)) (bool_true rfl (rsame_at h191 h196 (Nat.le_trans hlen (by decide)))) ?_)
        rintro e w197 ⟨rfl, u198⟩
        refine ⟨.bool true, rfl, ?_⟩
        have M199 := Mod.trans M193 (Mod.of_up u198)
        have M200 := Mod.trans M194 (Mod.of_up u198)
        have M201 := Mod.trans M195 (Mod.of_up u198)
        refine wl (sv rfl (v := .bool true) (r_move (by kernel_rfl)) ?_)
        refine wl (sc (by kernel_rfl) (r_callv (caps := []) (all := []) En.f13 (by kernel_rfl) (by kernel_rfl)) (alive_at) ?_)
        rintro e w202 ⟨rfl, u203⟩
        refine ⟨.bool true, rfl, ?_⟩
        have M204 := Mod.trans M199 (Mod.of_up u203)
        have M205 := Mod.trans M200 (Mod.of_up u203)
        have M206 := Mod.trans M201 (Mod.of_up u203)
        refine wl (sv rfl (v := .bool true) (r_pick (b := true) (u := .bool true) (v := .bool false) (by kernel_rfl) (by kernel_rfl) (by kernel_rfl)) ?_)
        refine wl (sv rfl (v := .bool true) (r_assign (by kernel_rfl)) ?_)
        refine wnil ?_
        refine then_n ?_
        refine wp_ret ?_
        refine bodyPost_ret (v := .bool true) (res1 rfl (rv_t (by kernel_rfl))) (by kernel_rfl) ?_
        exact ⟨rfl, (Mod.up M204)⟩
      · have p166 := of_decide_eq_true (k164.trans v165)
        have q167 : k < L0.length := by omega
        have q168 : k < L0.length := by omega
        refine wp_cond_true (ebool (b := b163) (by kernel_rfl) v165) ?_
        refine wp_skip ?_
        refine then_n ?_
        refine wp_seq ?_
        refine wp_block ?_
        refine wp_seq ?_
        refine rg_lit ?_
        refine wl (sv rfl (v := .slice A156 L0.length c157) (r_move (by kernel_rfl)) ?_)
        refine wl (sv rfl (v := .int .i64 ((k : Int))) (r_move (by kernel_rfl)) ?_)
        obtain ⟨x169, hx169⟩ : ∃ x, L0[k]? = some x := ⟨_, List.getElem?_eq_getElem (by omega)⟩
        obtain ⟨g169, cp169, cu169, dA169, dn169, dc169, hA169, hg169, hb169, he169, hD169⟩ := FRow.get hF1 hx169
        injection hA169 with hA169 _ _
        replace he169 : (cu169.toList.drop (0 + k * 10)).take 10 = [.int .i64 x169.node.t, .int .i64 x169.node.w, .int .i64 x169.parent.t, .int .i64 x169.parent.w, .string x169.name, .bool x169.dir, .bool x169.gone, .slice dA169 dn169 dc169, .int .i64 x169.by_.t, .int .i64 x169.by_.w] := by rw [Nat.zero_add]; exact he169
        refine wl (sv rfl (v := .pointer (some ⟨g169, 0 + k * 10, none⟩)) (r_ixaddr' (A := A156) (b := g169) (o := 0) (n := L0.length) (c := c157) (sz := 10) (j := (k : Int)) (by kernel_rfl) hA169 (by kernel_rfl) Ty.un48 Ty.sz35 (by omega) (by omega) (by simp)) ?_)
        refine wl (sv rfl (v := .pointer (some ⟨g169, 0 + k * 10 + 7, none⟩)) (r_fieldAddr (u := .pointer (some ⟨g169, 0 + k * 10, none⟩)) (v := .pointer (some ⟨g169, 0 + k * 10 + 7, none⟩)) (by kernel_rfl) (fun _ => (by kernel_rfl))) ?_)
        refine wl (sv rfl (v := .slice dA169 dn169 dc169) (r_load (k := 0 + k * 10 + 7) (v := .slice dA169 dn169 dc169) (by kernel_rfl) Ty.ag33 hb169 (el_get he169 7 rfl)) ?_)
        refine wl (sv rfl (v := .int .i64 ((dn169 : Int))) (r_len Ty.un33 (ad := dA169) (n := dn169) (c := dc169) (by kernel_rfl)) ?_)
        refine wl (sb rfl (r_gt (k := .i64) (m := ((dn169 : Int))) (n := 0) (by kernel_rfl) (by kernel_rfl)) ?_)
        intro b170 k171
        refine wnil ?_
        refine then_n ?_
        refine bcase b170 (fun v172 => ?_) (fun v172 => ?_)
        · have p173 := of_decide_eq_false (k171.trans v172)
          refine wp_cond_false (ebool (b := b170) (by kernel_rfl) v172) ?_
          refine wp_skip ?_
          refine inb_n ?_
          refine then_n ?_
          refine rg_lit ?_
          refine wl (sv rfl (v := .int .i64 ((k : Int))) (r_move (by kernel_rfl)) ?_)
          refine wl (sv rfl (v := .int .i64 (((k : Int)) + 1)) (r_add (k := .i64) (m := ((k : Int))) (n := 1) (by kernel_rfl) (by kernel_rfl) (IntWalk.i64_in _ (by omega))) ?_)
          refine wl (sv rfl (v := .int .i64 (((k : Int)) + 1)) (r_assign (by kernel_rfl)) ?_)
          refine wnil ?_
          refine then_n ?_
          refine ⟨L0.length - (k + 1), ?_, (k + 1), .int .i64 ((k : Int)), .slice A156 L0.length c157, .int .i64 ((L0.length : Int)), .bool b163, .int .i64 ((k : Int)), .int .i64 (((k : Int)) + 1), .slice A156 L0.length c157, .int .i64 ((k : Int)), .pointer (some ⟨g169, 0 + k * 10, none⟩), .pointer (some ⟨g169, 0 + k * 10 + 7, none⟩), .slice dA169 dn169 dc169, .int .i64 ((dn169 : Int)), .bool b170, z103, z104, z105, z106, z107, z108, z109, z110, z111, z112, z113, z114, z115, z116, rfl, (by kernel_rfl), hM1, (by omega), hF1⟩
          · omega
        · have p173 := of_decide_eq_true (k171.trans v172)
          obtain ⟨bD, csD, zD, hAD, hgeD, hbD, hzD, hlD⟩ := WDat.bytes hD169 (by omega)
          have hne169 := row_ne_bytes hb169 hbD (by decide)
          refine wp_cond_true (ebool (b := b170) (by kernel_rfl) v172) ?_
          refine rg_tail 14 (by kernel_rfl) (by kernel_rfl) rfl rfl ?_
          refine qv rfl (v := .slice A156 L0.length c157) (fun _ _ => r_move (by kernel_rfl)) ?_
          refine qv rfl (v := .int .i64 ((k : Int))) (fun _ _ => r_move (by kernel_rfl)) ?_
          refine qv rfl (v := .pointer (some ⟨g169, 0 + k * 10, none⟩)) (fun _ _ => r_ixaddr' (A := A156) (b := g169) (o := 0) (n := L0.length) (c := c157) (sz := 10) (j := (k : Int)) (by kernel_rfl) hA169 (by kernel_rfl) Ty.un48 Ty.sz35 (by omega) (by omega) (by simp)) ?_
          refine qv rfl (v := .pointer (some ⟨g169, 0 + k * 10 + 7, none⟩)) (fun _ _ => r_fieldAddr (u := .pointer (some ⟨g169, 0 + k * 10, none⟩)) (v := .pointer (some ⟨g169, 0 + k * 10 + 7, none⟩)) (by kernel_rfl) (fun _ => (by kernel_rfl))) ?_
          refine qv rfl (v := .slice dA169 dn169 dc169) (fun _ uz => r_load (k := 0 + k * 10 + 7) (v := .slice dA169 dn169 dc169) (by kernel_rfl) Ty.ag33 (up_ob uz hb169) (el_get he169 7 rfl)) ?_
          refine qv rfl (v := .slice A156 L0.length c157) (fun _ _ => r_move (by kernel_rfl)) ?_
          refine qv rfl (v := .int .i64 ((k : Int))) (fun _ _ => r_move (by kernel_rfl)) ?_
          refine qv rfl (v := .pointer (some ⟨g169, 0 + k * 10, none⟩)) (fun _ _ => r_ixaddr' (A := A156) (b := g169) (o := 0) (n := L0.length) (c := c157) (sz := 10) (j := (k : Int)) (by kernel_rfl) hA169 (by kernel_rfl) Ty.un48 Ty.sz35 (by omega) (by omega) (by simp)) ?_
          refine qv rfl (v := .pointer (some ⟨g169, 0 + k * 10 + 7, none⟩)) (fun _ _ => r_fieldAddr (u := .pointer (some ⟨g169, 0 + k * 10, none⟩)) (v := .pointer (some ⟨g169, 0 + k * 10 + 7, none⟩)) (by kernel_rfl) (fun _ => (by kernel_rfl))) ?_
          refine qv rfl (v := .slice dA169 dn169 dc169) (fun _ uz => r_load (k := 0 + k * 10 + 7) (v := .slice dA169 dn169 dc169) (by kernel_rfl) Ty.ag33 (up_ob uz hb169) (el_get he169 7 rfl)) ?_
          refine qv rfl (v := .pointer (some ⟨bD, 0, none⟩)) (fun _ _ => r_ixaddr' (A := dA169) (b := bD) (o := 0) (n := dn169) (c := dc169) (sz := 1) (j := 0) (m := 0) (by kernel_rfl) hAD (by kernel_rfl) Ty.un33 Ty.sz5 (by omega) (by omega) (by simp)) ?_
          refine qv rfl (v := .int .u8 zD) (fun _ uz => r_load (k := 0) (v := .int .u8 zD) (by kernel_rfl) Ty.ag5 (up_ob uz hbD) hzD) ?_
          refine qv rfl (v := .int .u8 ((IntKind.u8.wrap (zD + 1)))) (fun _ _ => r_add (k := .u8) (m := zD) (n := 1) (c := IntKind.u8.wrap (zD + 1)) (by kernel_rfl) (by kernel_rfl) rfl) ?_
          refine qv rfl (v := .pointer (some ⟨bD, 0, none⟩)) (fun _ _ => r_ixaddr' (A := dA169) (b := bD) (o := 0) (n := dn169) (c := dc169) (sz := 1) (j := 0) (m := 0) (by kernel_rfl) hAD (by kernel_rfl) Ty.un33 Ty.sz5 (by omega) (by omega) (by simp)) ?_
          refine qnil ?_
          intro w175 u176
          have M177 := Mod.trans M162 (Mod.of_up u176)
          have M178 := Mod.trans hM1 (Mod.of_up u176)
          have M179 := Mod.trans hM1 (Mod.of_up u176)
          have h180 := (up_ob u176 hbD)
          have h181 := (FRow.up hF1 u176)
          refine wl (ss rfl (k := 0) (v := .int .u8 ((IntKind.u8.wrap (zD + 1)))) (vs := [.int .u8 ((IntKind.u8.wrap (zD + 1)))]) (cs' := _) (by kernel_rfl) (by kernel_rfl) rfl Ty.sz5 h180 rfl hlD rfl ?_)
          intro w182 h183 c184
          have h185 := FRow.poke h181 h180 c184 h183 (poke_ok hlD).1 (poke_ok hlD).2 (by decide)
          have M186 := Mod.trans' M177 c184 (fun i hi => by injection hi with hi; rw [← hi]; exact (Nat.le_trans M145.size hgeD))
          have M187 := Mod.trans' M178 c184 (fun i hi => by injection hi with hi; rw [← hi]; exact hgeD)
          have M188 := Mod.trans' M179 c184 (fun i hi => by injection hi with hi; rw [← hi]; exact hgeD)
          refine wnil ?_
          refine inb_n ?_
          refine then_n ?_
          refine rg_lit ?_
          refine wl (sv rfl (v := .int .i64 ((k : Int))) (r_move (by kernel_rfl)) ?_)
          refine wl (sv rfl (v := .int .i64 (((k : Int)) + 1)) (r_add (k := .i64) (m := ((k : Int))) (n := 1) (by kernel_rfl) (by kernel_rfl) (IntWalk.i64_in _ (by omega))) ?_)
          refine wl (sv rfl (v := .int .i64 (((k : Int)) + 1)) (r_assign (by kernel_rfl)) ?_)
          refine wnil ?_
          refine then_n ?_
          refine ⟨L0.length - (k + 1), ?_, (k + 1), .int .i64 ((k : Int)), .slice A156 L0.length c157, .int .i64 ((L0.length : Int)), .bool b163, .int .i64 ((k : Int)), .int .i64 (((k : Int)) + 1), .slice A156 L0.length c157, .int .i64 ((k : Int)), .pointer (some ⟨g169, 0 + k * 10, none⟩), .pointer (some ⟨g169, 0 + k * 10 + 7, none⟩), .slice dA169 dn169 dc169, .int .i64 ((dn169 : Int)), .bool b170, .slice A156 L0.length c157, .int .i64 ((k : Int)), .pointer (some ⟨g169, 0 + k * 10, none⟩), .pointer (some ⟨g169, 0 + k * 10 + 7, none⟩), .slice dA169 dn169 dc169, .slice A156 L0.length c157, .int .i64 ((k : Int)), .pointer (some ⟨g169, 0 + k * 10, none⟩), .pointer (some ⟨g169, 0 + k * 10 + 7, none⟩), .slice dA169 dn169 dc169, .pointer (some ⟨bD, 0, none⟩), .int .u8 zD, .int .u8 ((IntKind.u8.wrap (zD + 1))), .pointer (some ⟨bD, 0, none⟩), rfl, (by kernel_rfl), M188, (by omega), h185⟩
          · omega
end Go.Proofs.Ytefhfoioeoijlaa

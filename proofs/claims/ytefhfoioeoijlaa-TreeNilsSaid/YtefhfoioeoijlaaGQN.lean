/- GQN: printed by gen.py -/
import Derived.Test.YtefhfoioeoijlaaPlayArg
import Derived.Test.YtefhfoioeoijlaaGE
set_option linter.unusedVariables false
set_option linter.unusedSimpArgs false
namespace Go.Proofs.Ytefhfoioeoijlaa
open Go Go.RowKit Go.Sort
set_option maxHeartbeats 2000000 in
theorem tdo_nil {w : World} (o : OpD) (oA : Option Addr) (on oc : Nat) : Calls Try.prog 15 #[.pointer none, .agg #[.int .i64 o.kind, .int .i64 o.at_.t, .int .i64 o.at_.w, .int .i64 o.node.t, .int .i64 o.node.w, .int .i64 o.parent.t, .int .i64 o.parent.w, .bool o.dir, .string o.name, .slice oA on oc]] w fun e w' => e = .returned (.tuple #[.agg #[.int .i64 0, .int .i64 0, .int .i64 0, .int .i64 0, .string ⟨#[]⟩, .bool false, .bool false, .slice none 0 0, .int .i64 0, .int .i64 0], .bool false, .int .i64 23]) ∧ Up w w' := by
  go_enter Try.func15, Try.ntmps15
  refine wp_seq ?_
  refine rg_lit ?_
  refine wl (sn rfl (cs := #[.int .i64 o.kind, .int .i64 o.at_.t, .int .i64 o.at_.w, .int .i64 o.node.t, .int .i64 o.node.w, .int .i64 o.parent.t, .int .i64 o.parent.w, .bool o.dir, .string o.name, .slice oA on oc]) (T := 40) (V := fun b => .pointer (some ⟨b, 0, none⟩)) (r_box (v := .agg #[.int .i64 o.kind, .int .i64 o.at_.t, .int .i64 o.at_.w, .int .i64 o.node.t, .int .i64 o.node.w, .int .i64 o.parent.t, .int .i64 o.parent.w, .bool o.dir, .string o.name, .slice oA on oc]) (by kernel_rfl) rfl) ?_)
  intro b1 w2 e3 h4 u5
  have g6 : w.heap.size ≤ b1 := by rw [e3]; exact (Mod.refl [] w).size
  have M7 := Mod.trans (Mod.refl [] w) (Mod.of_up u5)
  refine wl (sn rfl (cs := #[.int .i64 0, .int .i64 0, .int .i64 0, .int .i64 0, .string (⟨#[]⟩), .bool false, .bool false, .slice none 0 0, .int .i64 0, .int .i64 0]) (T := 35) (V := fun b => .pointer (some ⟨b, 0, none⟩)) (r_alloc Ty.zv35 rfl) ?_)
  intro b8 w9 e10 h11 u12
  have l13 : b1 < b8 := by rw [e10]; exact lt_ob h4
  have g14 : w.heap.size ≤ b8 := by rw [e10]; exact M7.size
  have M15 := Mod.trans M7 (Mod.of_up u12)
  refine wl (sv rfl (v := .bool false) (r_assign (by kernel_rfl)) ?_)
  refine wl (sv rfl (v := .int .i64 0) (r_assign (by kernel_rfl)) ?_)
  refine wnil ?_
  refine then_n ?_
  refine wp_seq ?_
  refine wp_seq ?_
  refine rg_lit ?_
  refine wl (sv rfl (v := .pointer none) (r_move (by kernel_rfl)) ?_)
  refine wl (sv (w' := w9) rfl (v := .bool true) (by kernel_rfl) ?_)
  refine wnil ?_
  refine then_n ?_
  refine wp_cond_true (by kernel_rfl) ?_
  refine wp_seq ?_
  refine rg_lit ?_
  refine wl (sv rfl (v := .agg #[.int .i64 0, .int .i64 0, .int .i64 0, .int .i64 0, .string (⟨#[]⟩), .bool false, .bool false, .slice none 0 0, .int .i64 0, .int .i64 0]) (r_build (ps := []) (cs := [.int .i64 0, .int .i64 0, .int .i64 0, .int .i64 0, .string (⟨#[]⟩), .bool false, .bool false, .slice none 0 0, .int .i64 0, .int .i64 0]) Ty.un35 Ty.zv35 Ty.pl35 (by kernel_rfl) (by kernel_rfl)) ?_)
  refine wl (ss rfl (k := 0) (v := .agg #[.int .i64 0, .int .i64 0, .int .i64 0, .int .i64 0, .string (⟨#[]⟩), .bool false, .bool false, .slice none 0 0, .int .i64 0, .int .i64 0]) (vs := [.int .i64 0, .int .i64 0, .int .i64 0, .int .i64 0, .string (⟨#[]⟩), .bool false, .bool false, .slice none 0 0, .int .i64 0, .int .i64 0]) (cs' := [.int .i64 0, .int .i64 0, .int .i64 0, .int .i64 0, .string (⟨#[]⟩), .bool false, .bool false, .slice none 0 0, .int .i64 0, .int .i64 0]) (by kernel_rfl) (by kernel_rfl) rfl Ty.sz35 h11 rfl (Nat.le_of_ble_eq_true rfl) rfl ?_)
  intro w16 h17 c18
  have M19 := Mod.trans' M15 c18 (fun i hi => by injection hi with hi; rw [← hi]; exact g14)
  refine wl (sv rfl (v := .bool false) (r_assign (by kernel_rfl)) ?_)
  refine wl (sv rfl (v := .int .i64 23) (r_assign (by kernel_rfl)) ?_)
  refine wnil ?_
  refine then_n ?_
  refine wp_ret ?_
  refine then_x (by nofun) ?_
  refine bodyPost_ret (v := .tuple #[.agg #[.int .i64 0, .int .i64 0, .int .i64 0, .int .i64 0, .string (⟨#[]⟩), .bool false, .bool false, .slice none 0 0, .int .i64 0, .int .i64 0], .bool false, .int .i64 23]) (res3 rfl (rv_c (p := ⟨b8, 0, none⟩) (by kernel_rfl) (run_loadVars (vs := [.int .i64 0, .int .i64 0, .int .i64 0, .int .i64 0, .string (⟨#[]⟩), .bool false, .bool false, .slice none 0 0, .int .i64 0, .int .i64 0]) Ty.ag35 Ty.sz35 h17 (by kernel_rfl))) (rv_t (by kernel_rfl)) (rv_t (by kernel_rfl))) (by kernel_rfl) ?_
  exact ⟨rfl, (Mod.up M19)⟩
set_option maxHeartbeats 2000000 in
theorem tget_nil {w : World} (m1 m2 : Int) : Calls Try.prog 23 #[.pointer none, .agg #[.int .i64 m1, .int .i64 m2]] w fun e w' => e = .returned (.tuple #[.agg #[.int .i64 0, .int .i64 0, .int .i64 0, .int .i64 0, .string ⟨#[]⟩, .bool false, .bool false, .slice none 0 0, .int .i64 0, .int .i64 0], .bool false]) ∧ Up w w' := by
  go_enter Try.func23, Try.ntmps23
  refine wp_seq ?_
  refine rg_lit ?_
  refine wl (sn rfl (cs := #[.int .i64 m1, .int .i64 m2]) (T := 24) (V := fun b => .pointer (some ⟨b, 0, none⟩)) (r_box (v := .agg #[.int .i64 m1, .int .i64 m2]) (by kernel_rfl) rfl) ?_)
  intro b1 w2 e3 h4 u5
  have g6 : w.heap.size ≤ b1 := by rw [e3]; exact (Mod.refl [] w).size
  have M7 := Mod.trans (Mod.refl [] w) (Mod.of_up u5)
  refine wl (sn rfl (cs := #[.int .i64 0, .int .i64 0, .int .i64 0, .int .i64 0, .string (⟨#[]⟩), .bool false, .bool false, .slice none 0 0, .int .i64 0, .int .i64 0]) (T := 35) (V := fun b => .pointer (some ⟨b, 0, none⟩)) (r_alloc Ty.zv35 rfl) ?_)
  intro b8 w9 e10 h11 u12
  have l13 : b1 < b8 := by rw [e10]; exact lt_ob h4
  have g14 : w.heap.size ≤ b8 := by rw [e10]; exact M7.size
  have M15 := Mod.trans M7 (Mod.of_up u12)
  refine wl (sv rfl (v := .bool false) (r_assign (by kernel_rfl)) ?_)
  refine wnil ?_
  refine then_n ?_
  refine wp_seq ?_
  refine wp_seq ?_
  refine rg_lit ?_
  refine wl (sv rfl (v := .pointer none) (r_move (by kernel_rfl)) ?_)
  refine wl (sv (w' := w9) rfl (v := .bool true) (by kernel_rfl) ?_)
  refine wnil ?_
  refine then_n ?_
  refine wp_cond_true (by kernel_rfl) ?_
  refine wp_seq ?_
  refine rg_lit ?_
  refine wl (sv rfl (v := .agg #[.int .i64 0, .int .i64 0, .int .i64 0, .int .i64 0, .string (⟨#[]⟩), .bool false, .bool false, .slice none 0 0, .int .i64 0, .int .i64 0]) (r_build (ps := []) (cs := [.int .i64 0, .int .i64 0, .int .i64 0, .int .i64 0, .string (⟨#[]⟩), .bool false, .bool false, .slice none 0 0, .int .i64 0, .int .i64 0]) Ty.un35 Ty.zv35 Ty.pl35 (by kernel_rfl) (by kernel_rfl)) ?_)
  refine wl (ss rfl (k := 0) (v := .agg #[.int .i64 0, .int .i64 0, .int .i64 0, .int .i64 0, .string (⟨#[]⟩), .bool false, .bool false, .slice none 0 0, .int .i64 0, .int .i64 0]) (vs := [.int .i64 0, .int .i64 0, .int .i64 0, .int .i64 0, .string (⟨#[]⟩), .bool false, .bool false, .slice none 0 0, .int .i64 0, .int .i64 0]) (cs' := [.int .i64 0, .int .i64 0, .int .i64 0, .int .i64 0, .string (⟨#[]⟩), .bool false, .bool false, .slice none 0 0, .int .i64 0, .int .i64 0]) (by kernel_rfl) (by kernel_rfl) rfl Ty.sz35 h11 rfl (Nat.le_of_ble_eq_true rfl) rfl ?_)
  intro w16 h17 c18
  have M19 := Mod.trans' M15 c18 (fun i hi => by injection hi with hi; rw [← hi]; exact g14)
  refine wl (sv rfl (v := .bool false) (r_assign (by kernel_rfl)) ?_)
  refine wnil ?_
  refine then_n ?_
  refine wp_ret ?_
  refine then_x (by nofun) ?_
  refine bodyPost_ret (v := .tuple #[.agg #[.int .i64 0, .int .i64 0, .int .i64 0, .int .i64 0, .string (⟨#[]⟩), .bool false, .bool false, .slice none 0 0, .int .i64 0, .int .i64 0], .bool false]) (res2 rfl (rv_c (p := ⟨b8, 0, none⟩) (by kernel_rfl) (run_loadVars (vs := [.int .i64 0, .int .i64 0, .int .i64 0, .int .i64 0, .string (⟨#[]⟩), .bool false, .bool false, .slice none 0 0, .int .i64 0, .int .i64 0]) Ty.ag35 Ty.sz35 h17 (by kernel_rfl))) (rv_t (by kernel_rfl))) (by kernel_rfl) ?_
  exact ⟨rfl, (Mod.up M19)⟩
set_option maxHeartbeats 2000000 in
theorem tset_nil {w : World} (x : Item) (xA : Option Addr) (xn xc : Nat) (there : Bool) : Calls Try.prog 44 #[.pointer none, .agg #[.int .i64 x.node.t, .int .i64 x.node.w, .int .i64 x.parent.t, .int .i64 x.parent.w, .string x.name, .bool x.dir, .bool x.gone, .slice xA xn xc, .int .i64 x.by_.t, .int .i64 x.by_.w], .bool there] w fun e w' => e = .returned (.int .i64 23) ∧ Up w w' := by
  go_enter Try.func44, Try.ntmps44
  refine wp_seq ?_
  refine rg_lit ?_
  refine wl (sn rfl (cs := #[.int .i64 x.node.t, .int .i64 x.node.w, .int .i64 x.parent.t, .int .i64 x.parent.w, .string x.name, .bool x.dir, .bool x.gone, .slice xA xn xc, .int .i64 x.by_.t, .int .i64 x.by_.w]) (T := 35) (V := fun b => .pointer (some ⟨b, 0, none⟩)) (r_box (v := .agg #[.int .i64 x.node.t, .int .i64 x.node.w, .int .i64 x.parent.t, .int .i64 x.parent.w, .string x.name, .bool x.dir, .bool x.gone, .slice xA xn xc, .int .i64 x.by_.t, .int .i64 x.by_.w]) (by kernel_rfl) rfl) ?_)
  intro b1 w2 e3 h4 u5
  have g6 : w.heap.size ≤ b1 := by rw [e3]; exact (Mod.refl [] w).size
  have M7 := Mod.trans (Mod.refl [] w) (Mod.of_up u5)
  refine wl (sv rfl (v := .int .i64 0) (r_assign (by kernel_rfl)) ?_)
  refine wnil ?_
  refine then_n ?_
  refine wp_seq ?_
  refine wp_block ?_
  refine wp_seq ?_
  refine rg_lit ?_
  refine wl (sv rfl (v := .pointer none) (r_move (by kernel_rfl)) ?_)
  refine wl (sv (w' := w2) rfl (v := .bool true) (by kernel_rfl) ?_)
  refine wl (sv rfl (v := .bool true) (r_assign (by kernel_rfl)) ?_)
  refine wnil ?_
  refine then_n ?_
  refine wp_cond_true (by kernel_rfl) ?_
  refine wp_seq ?_
  refine rg_lit ?_
  refine wl (sv rfl (v := .int .i64 23) (r_assign (by kernel_rfl)) ?_)
  refine wnil ?_
  refine then_n ?_
  refine wp_ret ?_
  refine inb_r ?_
  refine then_x (by nofun) ?_
  refine bodyPost_ret (v := .int .i64 23) (res1 rfl (rv_t (by kernel_rfl))) (by kernel_rfl) ?_
  exact ⟨rfl, (Mod.up M7)⟩
set_option maxHeartbeats 2000000 in
theorem tlen_nil {w : World}  : Calls Try.prog 22 #[.pointer none] w fun e w' => e = .returned (.int .i64 0) ∧ Up w w' := by
  go_enter Try.func22, Try.ntmps22
  refine wp_seq ?_
  refine rg_lit ?_
  refine wl (sv rfl (v := .int .i64 0) (r_assign (by kernel_rfl)) ?_)
  refine wnil ?_
  refine then_n ?_
  refine wp_seq ?_
  refine wp_seq ?_
  refine rg_lit ?_
  refine wl (sv rfl (v := .pointer none) (r_move (by kernel_rfl)) ?_)
  refine wl (sv (w' := w) rfl (v := .bool true) (by kernel_rfl) ?_)
  refine wnil ?_
  refine then_n ?_
  refine wp_cond_true (by kernel_rfl) ?_
  refine wp_seq ?_
  refine rg_lit ?_
  refine wl (sv rfl (v := .int .i64 0) (r_assign (by kernel_rfl)) ?_)
  refine wnil ?_
  refine then_n ?_
  refine wp_ret ?_
  refine then_x (by nofun) ?_
  refine bodyPost_ret (v := .int .i64 0) (res1 rfl (rv_t (by kernel_rfl))) (by kernel_rfl) ?_
  exact ⟨rfl, (Mod.up (Mod.refl [] w))⟩
set_option maxHeartbeats 2000000 in
theorem tsome_nil1 {w : World}  : Calls Try.prog 61 #[.pointer none, .func (.func 62) #[] #[]] w fun e w' => e = .returned (.slice none 0 0) ∧ Up w w' := by
  go_enter Try.func61, Try.ntmps61
  refine wp_seq ?_
  refine rg_lit ?_
  refine wl (sv rfl (v := .slice none 0 0) (r_assign (by kernel_rfl)) ?_)
  refine wnil ?_
  refine then_n ?_
  refine wp_seq ?_
  refine wp_seq ?_
  refine rg_lit ?_
  refine wl (sv rfl (v := .pointer none) (r_move (by kernel_rfl)) ?_)
  refine wl (sv (w' := w) rfl (v := .bool true) (by kernel_rfl) ?_)
  refine wnil ?_
  refine then_n ?_
  refine wp_cond_true (by kernel_rfl) ?_
  refine wp_seq ?_
  refine rg_lit ?_
  refine wl (sv rfl (v := .slice none 0 0) (r_assign (by kernel_rfl)) ?_)
  refine wnil ?_
  refine then_n ?_
  refine wp_ret ?_
  refine then_x (by nofun) ?_
  refine bodyPost_ret (v := .slice none 0 0) (res1 rfl (rv_t (by kernel_rfl))) (by kernel_rfl) ?_
  exact ⟨rfl, (Mod.up (Mod.refl [] w))⟩
set_option maxHeartbeats 2000000 in
theorem tsome_nil2 {w : World} (kb : Nat) : Calls Try.prog 61 #[.pointer none, .func (.func 65) #[] #[.pointer (some ⟨kb, 0, none⟩)]] w fun e w' => e = .returned (.slice none 0 0) ∧ Up w w' := by
  go_enter Try.func61, Try.ntmps61
  refine wp_seq ?_
  refine rg_lit ?_
  refine wl (sv rfl (v := .slice none 0 0) (r_assign (by kernel_rfl)) ?_)
  refine wnil ?_
  refine then_n ?_
  refine wp_seq ?_
  refine wp_seq ?_
  refine rg_lit ?_
  refine wl (sv rfl (v := .pointer none) (r_move (by kernel_rfl)) ?_)
  refine wl (sv (w' := w) rfl (v := .bool true) (by kernel_rfl) ?_)
  refine wnil ?_
  refine then_n ?_
  refine wp_cond_true (by kernel_rfl) ?_
  refine wp_seq ?_
  refine rg_lit ?_
  refine wl (sv rfl (v := .slice none 0 0) (r_assign (by kernel_rfl)) ?_)
  refine wnil ?_
  refine then_n ?_
  refine wp_ret ?_
  refine then_x (by nofun) ?_
  refine bodyPost_ret (v := .slice none 0 0) (res1 rfl (rv_t (by kernel_rfl))) (by kernel_rfl) ?_
  exact ⟨rfl, (Mod.up (Mod.refl [] w))⟩
set_option maxHeartbeats 2000000 in
theorem tall_nil {w : World}  : Calls Try.prog 21 #[.pointer none] w fun e w' => e = .returned (.slice none 0 0) ∧ Up w w' := by
  go_enter Try.func21, Try.ntmps21
  refine wp_seq ?_
  refine rg_lit ?_
  refine wl (sv rfl (v := .slice none 0 0) (r_assign (by kernel_rfl)) ?_)
  refine wnil ?_
  refine then_n ?_
  refine wp_seq ?_
  refine rg_lit ?_
  refine wl (sv rfl (v := .pointer none) (r_move (by kernel_rfl)) ?_)
  refine wl (sc rfl (r_callv (caps := []) (all := [.pointer none, .func (.func 62) #[] #[]]) En.f61 (by kernel_rfl) (by kernel_rfl)) (tsome_nil1) ?_)
  rintro e w1 ⟨rfl, u2⟩
  refine ⟨.slice none 0 0, rfl, ?_⟩
  have M3 := Mod.trans (Mod.refl [] w) (Mod.of_up u2)
  refine wl (sv rfl (v := .slice none 0 0) (r_assign (by kernel_rfl)) ?_)
  refine wnil ?_
  refine then_n ?_
  refine wp_ret ?_
  refine bodyPost_ret (v := .slice none 0 0) (res1 rfl (rv_t (by kernel_rfl))) (by kernel_rfl) ?_
  exact ⟨rfl, (Mod.up M3)⟩
set_option maxHeartbeats 2000000 in
theorem tkids_nil {w : World} (m1 m2 : Int) : Calls Try.prog 29 #[.pointer none, .agg #[.int .i64 m1, .int .i64 m2]] w fun e w' => e = .returned (.slice none 0 0) ∧ Up w w' := by
  go_enter Try.func29, Try.ntmps29
  refine wp_seq ?_
  refine rg_lit ?_
  refine wl (sn rfl (cs := #[.int .i64 m1, .int .i64 m2]) (T := 24) (V := fun b => .pointer (some ⟨b, 0, none⟩)) (r_box (v := .agg #[.int .i64 m1, .int .i64 m2]) (by kernel_rfl) rfl) ?_)
  intro b1 w2 e3 h4 u5
  have g6 : w.heap.size ≤ b1 := by rw [e3]; exact (Mod.refl [] w).size
  have M7 := Mod.trans (Mod.refl [] w) (Mod.of_up u5)
  refine wl (sv rfl (v := .slice none 0 0) (r_assign (by kernel_rfl)) ?_)
  refine wnil ?_
  refine then_n ?_
  refine wp_seq ?_
  refine rg_lit ?_
  refine wl (sv rfl (v := .pointer none) (r_move (by kernel_rfl)) ?_)
  refine wl (sv rfl (v := .func (.func 65) #[] #[.pointer (some ⟨b1, 0, none⟩)]) (r_makeFunc (us := []) (vs := [.pointer (some ⟨b1, 0, none⟩)]) rfl (by kernel_rfl)) ?_)
  refine wl (sc rfl (r_callv (caps := []) (all := [.pointer none, .func (.func 65) #[] #[.pointer (some ⟨b1, 0, none⟩)]]) En.f61 (by kernel_rfl) (by kernel_rfl)) (tsome_nil2 b1) ?_)
  rintro e w8 ⟨rfl, u9⟩
  refine ⟨.slice none 0 0, rfl, ?_⟩
  have M10 := Mod.trans M7 (Mod.of_up u9)
  refine wl (sv rfl (v := .slice none 0 0) (r_assign (by kernel_rfl)) ?_)
  refine wnil ?_
  refine then_n ?_
  refine wp_ret ?_
  refine bodyPost_ret (v := .slice none 0 0) (res1 rfl (rv_t (by kernel_rfl))) (by kernel_rfl) ?_
  exact ⟨rfl, (Mod.up M10)⟩
set_option maxHeartbeats 2000000 in
theorem twithin_nil {w : World} (n1 n2 m1 m2 : Int) : Calls Try.prog 25 #[.pointer none, .agg #[.int .i64 n1, .int .i64 n2], .agg #[.int .i64 m1, .int .i64 m2]] w fun e w' => e = .returned (.bool false) ∧ Up w w' := by
  go_enter Try.func25, Try.ntmps25
  refine wp_seq ?_
  refine rg_lit ?_
  refine wl (sn rfl (cs := #[.int .i64 n1, .int .i64 n2]) (T := 24) (V := fun b => .pointer (some ⟨b, 0, none⟩)) (r_box (v := .agg #[.int .i64 n1, .int .i64 n2]) (by kernel_rfl) rfl) ?_)
  intro b1 w2 e3 h4 u5
  have g6 : w.heap.size ≤ b1 := by rw [e3]; exact (Mod.refl [] w).size
  have M7 := Mod.trans (Mod.refl [] w) (Mod.of_up u5)
  refine wl (sn rfl (cs := #[.int .i64 m1, .int .i64 m2]) (T := 24) (V := fun b => .pointer (some ⟨b, 0, none⟩)) (r_box (v := .agg #[.int .i64 m1, .int .i64 m2]) (by kernel_rfl) rfl) ?_)
  intro b8 w9 e10 h11 u12
  have l13 : b1 < b8 := by rw [e10]; exact lt_ob h4
  have g14 : w.heap.size ≤ b8 := by rw [e10]; exact M7.size
  have M15 := Mod.trans M7 (Mod.of_up u12)
  refine wl (sv rfl (v := .bool false) (r_assign (by kernel_rfl)) ?_)
  refine wnil ?_
  refine then_n ?_
  refine wp_seq ?_
  refine wp_seq ?_
  refine rg_lit ?_
  refine wl (sv rfl (v := .pointer none) (r_move (by kernel_rfl)) ?_)
  refine wl (sv (w' := w9) rfl (v := .bool true) (by kernel_rfl) ?_)
  refine wnil ?_
  refine then_n ?_
  refine wp_cond_true (by kernel_rfl) ?_
  refine wp_seq ?_
  refine rg_lit ?_
  refine wl (sv rfl (v := .bool false) (r_assign (by kernel_rfl)) ?_)
  refine wnil ?_
  refine then_n ?_
  refine wp_ret ?_
  refine then_x (by nofun) ?_
  refine bodyPost_ret (v := .bool false) (res1 rfl (rv_t (by kernel_rfl))) (by kernel_rfl) ?_
  exact ⟨rfl, (Mod.up M15)⟩
set_option maxHeartbeats 2000000 in
theorem thangs_nil {w : World} (m1 m2 : Int) : Calls Try.prog 27 #[.pointer none, .agg #[.int .i64 m1, .int .i64 m2]] w fun e w' => e = .returned (.bool false) ∧ Up w w' := by
  go_enter Try.func27, Try.ntmps27
  refine wp_seq ?_
  refine rg_lit ?_
  refine wl (sn rfl (cs := #[.int .i64 m1, .int .i64 m2]) (T := 24) (V := fun b => .pointer (some ⟨b, 0, none⟩)) (r_box (v := .agg #[.int .i64 m1, .int .i64 m2]) (by kernel_rfl) rfl) ?_)
  intro b1 w2 e3 h4 u5
  have g6 : w.heap.size ≤ b1 := by rw [e3]; exact (Mod.refl [] w).size
  have M7 := Mod.trans (Mod.refl [] w) (Mod.of_up u5)
  refine wl (sv rfl (v := .bool false) (r_assign (by kernel_rfl)) ?_)
  refine wnil ?_
  refine then_n ?_
  refine wp_seq ?_
  refine wp_seq ?_
  refine rg_lit ?_
  refine wl (sv rfl (v := .pointer none) (r_move (by kernel_rfl)) ?_)
  refine wl (sv (w' := w2) rfl (v := .bool true) (by kernel_rfl) ?_)
  refine wnil ?_
  refine then_n ?_
  refine wp_cond_true (by kernel_rfl) ?_
  refine wp_seq ?_
  refine rg_lit ?_
  refine wl (sv rfl (v := .bool false) (r_assign (by kernel_rfl)) ?_)
  refine wnil ?_
  refine then_n ?_
  refine wp_ret ?_
  refine then_x (by nofun) ?_
  refine bodyPost_ret (v := .bool false) (res1 rfl (rv_t (by kernel_rfl))) (by kernel_rfl) ?_
  exact ⟨rfl, (Mod.up M7)⟩
end Go.Proofs.Ytefhfoioeoijlaa

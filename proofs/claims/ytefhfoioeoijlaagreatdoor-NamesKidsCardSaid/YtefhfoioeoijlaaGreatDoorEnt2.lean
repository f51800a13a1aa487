/- Ent2: printed by gen.py -/
import Derived.Test.YtefhfoioeoijlaaGreatDoorEnt
set_option linter.unusedVariables false
set_option linter.unusedSimpArgs false
namespace Go.Proofs.YtefhfoioeoijlaaGreatDoor
open Go Go.RowKit Go.Sort
set_option maxHeartbeats 2000000 in
theorem isNaNs_at (a : ByteArray) {w : World} : Calls Tryz.prog 119 #[.string a] w fun e w' => e = .returned (.bool false) ∧ Up w w' := by
  go_enter Tryz.func119, Tryz.ntmps119
  refine wp_seq (rg_lit ?_)
  refine was (v := .bool false) ?_
  refine wnil (then_n (wp_seq (rg_lit ?_)))
  refine wmv (v := .string a) ?_
  refine wmv (v := .string a) ?_
  refine wl (sv rfl (v := .bool false) (nes_same (r_nes (m := a) (n := a) (by kernel_rfl) (by kernel_rfl))) ?_)
  refine was (v := .bool false) ?_
  refine wnil (then_n (wp_ret ?_))
  refine bodyPost_ret (v := .bool false) (res1 rfl (rv_t (by kernel_rfl))) (by kernel_rfl) ?_
  exact ⟨rfl, (Mod.up (Mod.refl [] w))⟩
set_option maxHeartbeats 2000000 in
theorem compares_at (a b : ByteArray) {w : World} : Calls Tryz.prog 61 #[.string a, .string b] w fun e w' => e = .returned (.int .i64 (if Op.bytesLess a.toList b.toList = true then (-1 : Int) else if Op.bytesLess b.toList a.toList = true then 1 else 0)) ∧ Up w w' := by
  go_enter Tryz.func61, Tryz.ntmps61
  refine wp_seq (rg_lit ?_)
  refine was (v := .int .i64 0) ?_
  refine wnil (then_n (wp_seq (rg_lit ?_)))
  refine wmv (v := .string a) ?_
  refine wl (sc rfl (r_callv (caps := []) (all := [.string a]) En.f119 (by kernel_rfl) (by kernel_rfl)) (isNaNs_at a) ?_)
  rintro e w1 ⟨rfl, u2⟩
  refine ⟨.bool false, rfl, ?_⟩
  have M3 := Mod.trans (Mod.refl [] w) (Mod.of_up u2)
  refine was (v := .bool false) ?_
  refine wnil (then_n (wp_seq (rg_lit ?_)))
  refine wmv (v := .string b) ?_
  refine wl (sc rfl (r_callv (caps := []) (all := [.string b]) En.f119 (by kernel_rfl) (by kernel_rfl)) (isNaNs_at b) ?_)
  rintro e w4 ⟨rfl, u5⟩
  refine ⟨.bool false, rfl, ?_⟩
  have M6 := Mod.trans M3 (Mod.of_up u5)
  refine was (v := .bool false) ?_
  refine wnil (then_n (wp_seq (wp_seq (rg_lit ?_))))
  refine wmv (v := .bool false) ?_
  refine wnil (then_n ?_)
  refine wp_cond_false (by kernel_rfl) ?_
  refine wp_skip (then_n (wp_seq (wp_seq (rg_lit ?_))))
  refine wmv (v := .bool false) ?_
  refine wnil (then_n ?_)
  refine wp_cond_false (by kernel_rfl) ?_
  refine wp_skip (then_n (wp_seq (wp_seq (rg_lit ?_))))
  refine wmv (v := .string a) ?_
  refine wmv (v := .string b) ?_
  refine wl (sv rfl (v := .bool ((Op.bytesLess a.toList b.toList))) (r_lts (m := a) (n := b) (by kernel_rfl) (by kernel_rfl)) ?_)
  refine wnil (then_n ?_)
  refine bcase ((Op.bytesLess a.toList b.toList)) (fun v7 => ?_) (fun v7 => ?_)
  ·
   refine wp_cond_false (ebool (b := (Op.bytesLess a.toList b.toList)) (by kernel_rfl) v7) ?_
   refine wp_skip (then_n (wp_seq (wp_seq (rg_lit ?_))))
   refine wmv (v := .string a) ?_
   refine wmv (v := .string b) ?_
   refine wl (sv rfl (v := .bool ((Op.bytesLess b.toList a.toList))) (r_gts (m := a) (n := b) (by kernel_rfl) (by kernel_rfl)) ?_)
   refine wnil (then_n ?_)
   refine bcase ((Op.bytesLess b.toList a.toList)) (fun v8 => ?_) (fun v8 => ?_)
   ·
    refine wp_cond_false (ebool (b := (Op.bytesLess b.toList a.toList)) (by kernel_rfl) v8) ?_
    refine wp_skip (then_n (wp_seq (rg_lit ?_)))
    refine was (v := .int .i64 0) ?_
    refine wnil (then_n (wp_ret ?_))
    refine bodyPost_ret (v := .int .i64 0) (res1 rfl (rv_t (by kernel_rfl))) (by kernel_rfl) ?_
    exact ⟨by rw [v7]; rw [v8]; rfl, (Mod.up M6)⟩
   refine wp_cond_true (ebool (b := (Op.bytesLess b.toList a.toList)) (by kernel_rfl) v8) ?_
   refine wp_seq (rg_lit ?_)
   refine was (v := .int .i64 1) ?_
   refine wnil (then_n (wp_ret (then_x (by nofun) ?_)))
   refine bodyPost_ret (v := .int .i64 1) (res1 rfl (rv_t (by kernel_rfl))) (by kernel_rfl) ?_
   exact ⟨by rw [v7]; rw [v8]; rfl, (Mod.up M6)⟩
  refine wp_cond_true (ebool (b := (Op.bytesLess a.toList b.toList)) (by kernel_rfl) v7) ?_
  refine wp_seq (rg_lit ?_)
  refine was (v := .int .i64 (-1)) ?_
  refine wnil (then_n (wp_ret (then_x (by nofun) ?_)))
  refine bodyPost_ret (v := .int .i64 (-1)) (res1 rfl (rv_t (by kernel_rfl))) (by kernel_rfl) ?_
  exact ⟨by rw [v7]; rfl, (Mod.up M6)⟩
set_option maxHeartbeats 2000000 in
theorem ecompare_at {N : Nat} (x y : EntD) (hx : x.name.data.toList.length ≤ N) (hy : y.name.data.toList.length ≤ N) {w : World} : Calls Tryz.prog 60 #[enV x, enV y] w fun e w' => e = .returned (.int .i64 (cmpS (keyE N x).at_ (keyE N y).at_)) ∧ Up w w' := by
  go_enter Tryz.func60, Tryz.ntmps60
  refine wp_seq (rg_lit ?_)
  refine wl (sn rfl (cs := #[.string x.name, .int .i64 x.node.t, .int .i64 x.node.w, .bool x.dir, .int .i64 x.size]) (T := 35) (V := fun b => .pointer (some ⟨b, 0, none⟩)) (r_box (v := .agg #[.string x.name, .int .i64 x.node.t, .int .i64 x.node.w, .bool x.dir, .int .i64 x.size]) (by kernel_rfl) rfl) ?_)
  intro b1 w2 e3 h4 u5
  have g6 : w.heap.size ≤ b1 := by rw [e3]; exact (Mod.refl [] w).size
  have M7 := Mod.trans (Mod.refl [] w) (Mod.of_up u5)
  refine wl (sn rfl (cs := #[.string y.name, .int .i64 y.node.t, .int .i64 y.node.w, .bool y.dir, .int .i64 y.size]) (T := 35) (V := fun b => .pointer (some ⟨b, 0, none⟩)) (r_box (v := .agg #[.string y.name, .int .i64 y.node.t, .int .i64 y.node.w, .bool y.dir, .int .i64 y.size]) (by kernel_rfl) rfl) ?_)
  intro b8 w9 e10 h11 u12
  have l13 : b1 < b8 := by rw [e10]; exact lt_ob h4
  have g14 : w.heap.size ≤ b8 := by rw [e10]; exact M7.size
  have M15 := Mod.trans M7 (Mod.of_up u12)
  refine was (v := .int .i64 0) ?_
  refine wnil (then_n (wp_seq (rg_lit ?_)))
  refine wl (sv rfl (v := .pointer (some ⟨b1, 0, none⟩)) (r_fieldAddr (u := .pointer (some ⟨b1, 0, none⟩)) (by kernel_rfl) (fun _ => (by kernel_rfl))) ?_)
  have h16 := (up_ob u12 h4)
  refine wl (sv rfl (v := .string x.name) (r_load (k := 0) (by kernel_rfl) Ty.ag9 h16 (by kernel_rfl)) ?_)
  refine wl (sv rfl (v := .pointer (some ⟨b8, 0, none⟩)) (r_fieldAddr (u := .pointer (some ⟨b8, 0, none⟩)) (by kernel_rfl) (fun _ => (by kernel_rfl))) ?_)
  refine wl (sv rfl (v := .string y.name) (r_load (k := 0) (by kernel_rfl) Ty.ag9 h11 (by kernel_rfl)) ?_)
  refine wl (sc rfl (r_callv (caps := []) (all := [.string x.name, .string y.name]) En.f61 (by kernel_rfl) (by kernel_rfl)) (compares_at x.name y.name) ?_)
  rintro e w17 ⟨rfl, u18⟩
  refine ⟨.int .i64 ((if Op.bytesLess x.name.toList y.name.toList = true then (-1 : Int) else if Op.bytesLess y.name.toList x.name.toList = true then 1 else 0)), rfl, ?_⟩
  have M19 := Mod.trans M15 (Mod.of_up u18)
  refine was (v := .int .i64 ((if Op.bytesLess x.name.toList y.name.toList = true then (-1 : Int) else if Op.bytesLess y.name.toList x.name.toList = true then 1 else 0))) ?_
  refine wnil (then_n (wp_ret ?_))
  refine bodyPost_ret (v := .int .i64 ((if Op.bytesLess x.name.toList y.name.toList = true then (-1 : Int) else if Op.bytesLess y.name.toList x.name.toList = true then 1 else 0))) (res1 rfl (rv_t (by kernel_rfl))) (by kernel_rfl) ?_
  exact ⟨by rw [← cmp_code hx hy], (Mod.up M19)⟩
end Go.Proofs.YtefhfoioeoijlaaGreatDoor

/- NE: printed by gen.py -/
import Derived.Test.YtefhfoioeoijlaaGreatDoorNm5
import Derived.Test.YtefhfoioeoijlaaGreatDoorTyC
set_option linter.unusedVariables false
set_option linter.unusedSimpArgs false
namespace Go.Proofs.YtefhfoioeoijlaaGreatDoor
open Go Go.RowKit Go.Sort
set_option maxHeartbeats 2000000 in
theorem kidsNil_at {w : World} (n1 n2 : Int) : Calls Tryz.prog 57 #[.pointer none, .agg #[.int .i64 n1, .int .i64 n2]] w fun e w' => e = .returned (.tuple #[.slice none 0 0, .int .i64 23]) ∧ Up w w' := by
  go_enter Tryz.func57, Tryz.ntmps57
  refine wp_seq (rg_lit ?_)
  refine wl (sn rfl (cs := #[.int .i64 n1, .int .i64 n2]) (T := 24) (V := fun b => .pointer (some ⟨b, 0, none⟩)) (r_box (v := .agg #[.int .i64 n1, .int .i64 n2]) (by kernel_rfl) rfl) ?_)
  intro b1 w2 e3 h4 u5
  have g6 : w.heap.size ≤ b1 := by rw [e3]; exact (Mod.refl [] w).size
  have M7 := Mod.trans (Mod.refl [] w) (Mod.of_up u5)
  refine was (v := .slice none 0 0) ?_
  refine was (v := .int .i64 0) ?_
  refine wnil (then_n (wp_seq (wp_seq (rg_lit ?_))))
  refine wmv (v := .pointer none) ?_
  refine wl (sv (w' := w2) rfl (v := .bool true) (by kernel_rfl) ?_)
  refine wnil (then_n ?_)
  refine wp_cond_true (by kernel_rfl) ?_
  refine wp_seq (rg_lit ?_)
  refine was (v := .slice none 0 0) ?_
  refine was (v := .int .i64 23) ?_
  refine wnil (then_n (wp_ret (then_x (by nofun) ?_)))
  refine bodyPost_ret (v := .tuple #[.slice none 0 0, .int .i64 23]) (res2 rfl (rv_t (by kernel_rfl)) (rv_t (by kernel_rfl))) (by kernel_rfl) ?_
  exact ⟨rfl, (Mod.up M7)⟩
set_option maxHeartbeats 2000000 in
theorem listNil_at {w : World} (n1 n2 : Int) : Calls Tryz.prog 16 #[.pointer none, .agg #[.int .i64 n1, .int .i64 n2]] w fun e w' => e = .returned (.tuple #[.slice none 0 0, .int .i64 23]) ∧ Up w w' := by
  go_enter Tryz.func16, Tryz.ntmps16
  refine wp_seq (rg_lit ?_)
  refine wl (sn rfl (cs := #[.int .i64 n1, .int .i64 n2]) (T := 24) (V := fun b => .pointer (some ⟨b, 0, none⟩)) (r_box (v := .agg #[.int .i64 n1, .int .i64 n2]) (by kernel_rfl) rfl) ?_)
  intro b1 w2 e3 h4 u5
  have g6 : w.heap.size ≤ b1 := by rw [e3]; exact (Mod.refl [] w).size
  have M7 := Mod.trans (Mod.refl [] w) (Mod.of_up u5)
  refine was (v := .slice none 0 0) ?_
  refine was (v := .int .i64 0) ?_
  refine wnil (then_n (wp_seq (rg_lit ?_)))
  refine wmv (v := .pointer none) ?_
  refine wl (sv rfl (v := .agg #[.int .i64 n1, .int .i64 n2]) (r_loads (k := 0) (by kernel_rfl) Ty.ag24 Ty.sz24 h4 (by kernel_rfl)) ?_)
  refine wl (sc rfl (r_callv (caps := []) (all := [.pointer none, .agg #[.int .i64 n1, .int .i64 n2]]) En.f57 (by kernel_rfl) (by kernel_rfl)) (kidsNil_at n1 n2) ?_)
  rintro e w8 ⟨rfl, u9⟩
  refine ⟨.tuple #[.slice none 0 0, .int .i64 23], rfl, ?_⟩
  have M10 := Mod.trans M7 (Mod.of_up u9)
  refine wmv (v := .tuple #[.slice none 0 0, .int .i64 23]) ?_
  refine wl (sv rfl (v := .slice none 0 0) (r_extract (vs := [.slice none 0 0, .int .i64 23]) (by kernel_rfl) rfl) ?_)
  refine wl (sv rfl (v := .int .i64 23) (r_extract (vs := [.slice none 0 0, .int .i64 23]) (by kernel_rfl) rfl) ?_)
  refine was (v := .slice none 0 0) ?_
  refine was (v := .int .i64 23) ?_
  refine wnil (then_n (wp_seq (wp_seq (rg_lit ?_))))
  refine wmv (v := .int .i64 23) ?_
  refine wl (sv (w' := w8) rfl (v := .bool true) (by kernel_rfl) ?_)
  refine wnil (then_n ?_)
  refine wp_cond_true (by kernel_rfl) ?_
  refine wp_seq (rg_lit ?_)
  refine wmv (v := .int .i64 23) ?_
  refine was (v := .slice none 0 0) ?_
  refine was (v := .int .i64 23) ?_
  refine wnil (then_n (wp_ret (then_x (by nofun) ?_)))
  refine bodyPost_ret (v := .tuple #[.slice none 0 0, .int .i64 23]) (res2 rfl (rv_t (by kernel_rfl)) (rv_t (by kernel_rfl))) (by kernel_rfl) ?_
  exact ⟨rfl, (Mod.up M10)⟩
set_option maxHeartbeats 2000000 in
theorem shownNil_at {w : World} (m1 m2 : Int) : Calls Tryz.prog 19 #[.pointer none, .agg #[.int .i64 m1, .int .i64 m2]] w fun e w' => e = .returned (.tuple #[.string ⟨#[]⟩, .int .i64 23]) ∧ Up w w' := by
  go_enter Tryz.func19, Tryz.ntmps19
  refine wp_seq (rg_lit ?_)
  refine wl (sn rfl (cs := #[.int .i64 m1, .int .i64 m2]) (T := 24) (V := fun b => .pointer (some ⟨b, 0, none⟩)) (r_box (v := .agg #[.int .i64 m1, .int .i64 m2]) (by kernel_rfl) rfl) ?_)
  intro b1 w2 e3 h4 u5
  have g6 : w.heap.size ≤ b1 := by rw [e3]; exact (Mod.refl [] w).size
  have M7 := Mod.trans (Mod.refl [] w) (Mod.of_up u5)
  refine was (v := .string (⟨#[]⟩)) ?_
  refine was (v := .int .i64 0) ?_
  refine wnil (then_n (wp_seq (wp_seq (rg_lit ?_))))
  refine wmv (v := .pointer none) ?_
  refine wl (sv (w' := w2) rfl (v := .bool true) (by kernel_rfl) ?_)
  refine wnil (then_n ?_)
  refine wp_cond_true (by kernel_rfl) ?_
  refine wp_seq (rg_lit ?_)
  refine was (v := .string (⟨#[]⟩)) ?_
  refine was (v := .int .i64 23) ?_
  refine wnil (then_n (wp_ret (then_x (by nofun) ?_)))
  refine bodyPost_ret (v := .tuple #[.string (⟨#[]⟩), .int .i64 23]) (res2 rfl (rv_t (by kernel_rfl)) (rv_t (by kernel_rfl))) (by kernel_rfl) ?_
  exact ⟨rfl, (Mod.up M7)⟩
set_option maxHeartbeats 2000000 in
theorem freeNil_at {w : World} (n1 n2 : Int) (nm : ByteArray) : Calls Tryz.prog 17 #[.pointer none, .agg #[.int .i64 n1, .int .i64 n2], .string nm] w fun e w' => e = .returned (.bool false) ∧ Up w w' := by
  go_enter Tryz.func17, Tryz.ntmps17
  refine wp_seq (rg_lit ?_)
  refine wl (sn rfl (cs := #[.int .i64 n1, .int .i64 n2]) (T := 24) (V := fun b => .pointer (some ⟨b, 0, none⟩)) (r_box (v := .agg #[.int .i64 n1, .int .i64 n2]) (by kernel_rfl) rfl) ?_)
  intro b1 w2 e3 h4 u5
  have g6 : w.heap.size ≤ b1 := by rw [e3]; exact (Mod.refl [] w).size
  have M7 := Mod.trans (Mod.refl [] w) (Mod.of_up u5)
  refine was (v := .bool false) ?_
  refine wnil (then_n (wp_seq (rg_lit ?_)))
  refine wmv (v := .pointer none) ?_
  refine wl (sv rfl (v := .agg #[.int .i64 n1, .int .i64 n2]) (r_loads (k := 0) (by kernel_rfl) Ty.ag24 Ty.sz24 h4 (by kernel_rfl)) ?_)
  refine wl (sc rfl (r_callv (caps := []) (all := [.pointer none, .agg #[.int .i64 n1, .int .i64 n2]]) En.f57 (by kernel_rfl) (by kernel_rfl)) (kidsNil_at n1 n2) ?_)
  rintro e w8 ⟨rfl, u9⟩
  refine ⟨.tuple #[.slice none 0 0, .int .i64 23], rfl, ?_⟩
  have M10 := Mod.trans M7 (Mod.of_up u9)
  refine wmv (v := .tuple #[.slice none 0 0, .int .i64 23]) ?_
  refine wl (sv rfl (v := .slice none 0 0) (r_extract (vs := [.slice none 0 0, .int .i64 23]) (by kernel_rfl) rfl) ?_)
  refine wl (sv rfl (v := .int .i64 23) (r_extract (vs := [.slice none 0 0, .int .i64 23]) (by kernel_rfl) rfl) ?_)
  refine was (v := .slice none 0 0) ?_
  refine was (v := .int .i64 23) ?_
  refine wnil (then_n (wp_seq (rg_lit ?_)))
  refine wmv (v := .int .i64 23) ?_
  refine wl (sv (w' := w8) rfl (v := .bool false) (by kernel_rfl) ?_)
  refine wmv (v := .bool false) ?_
  refine wsp ?_
  refine wsp ?_
  refine wl (sv rfl (v := .bool false) (r_pkF (by kernel_rfl) (by kernel_rfl)) ?_)
  refine wmv (v := .bool false) ?_
  refine wsp ?_
  refine wsp ?_
  refine wsp ?_
  refine wsp ?_
  refine wsp ?_
  refine wl (sv rfl (v := .bool false) (r_pkF (by kernel_rfl) (by kernel_rfl)) ?_)
  refine was (v := .bool false) ?_
  refine wnil (then_n (wp_ret ?_))
  refine bodyPost_ret (v := .bool false) (res1 rfl (rv_t (by kernel_rfl))) (by kernel_rfl) ?_
  exact ⟨rfl, (Mod.up M10)⟩
set_option maxHeartbeats 2000000 in
theorem clashesNil_at {w : World} (n1 n2 : Int) : Calls Tryz.prog 34 #[.pointer none, .agg #[.int .i64 n1, .int .i64 n2]] w fun e w' => e = .returned (.slice none 0 0) ∧ Up w w' := by
  go_enter Tryz.func34, Tryz.ntmps34
  refine wp_seq (rg_lit ?_)
  refine wl (sn rfl (cs := #[.int .i64 n1, .int .i64 n2]) (T := 24) (V := fun b => .pointer (some ⟨b, 0, none⟩)) (r_box (v := .agg #[.int .i64 n1, .int .i64 n2]) (by kernel_rfl) rfl) ?_)
  intro b1 w2 e3 h4 u5
  have g6 : w.heap.size ≤ b1 := by rw [e3]; exact (Mod.refl [] w).size
  have M7 := Mod.trans (Mod.refl [] w) (Mod.of_up u5)
  refine was (v := .slice none 0 0) ?_
  refine wnil (then_n (wp_seq (rg_lit ?_)))
  refine wmv (v := .pointer none) ?_
  refine wl (sv rfl (v := .agg #[.int .i64 n1, .int .i64 n2]) (r_loads (k := 0) (by kernel_rfl) Ty.ag24 Ty.sz24 h4 (by kernel_rfl)) ?_)
  refine wl (sc rfl (r_callv (caps := []) (all := [.pointer none, .agg #[.int .i64 n1, .int .i64 n2]]) En.f57 (by kernel_rfl) (by kernel_rfl)) (kidsNil_at n1 n2) ?_)
  rintro e w8 ⟨rfl, u9⟩
  refine ⟨.tuple #[.slice none 0 0, .int .i64 23], rfl, ?_⟩
  have M10 := Mod.trans M7 (Mod.of_up u9)
  refine wmv (v := .tuple #[.slice none 0 0, .int .i64 23]) ?_
  refine wl (sv rfl (v := .slice none 0 0) (r_extract (vs := [.slice none 0 0, .int .i64 23]) (by kernel_rfl) rfl) ?_)
  refine wl (sv rfl (v := .int .i64 23) (r_extract (vs := [.slice none 0 0, .int .i64 23]) (by kernel_rfl) rfl) ?_)
  refine was (v := .slice none 0 0) ?_
  refine was (v := .int .i64 23) ?_
  refine wnil (then_n (wp_seq (rg_lit ?_)))
  refine wmv (v := .slice none 0 0) ?_
  refine wl (sc rfl (r_callv (caps := []) (all := [.slice none 0 0]) En.f63 (by kernel_rfl) (by kernel_rfl)) (count_at (l := []) (IRow.nil _ 0 0 _) (Nat.zero_le _) (Nat.zero_le _)) ?_)
  rintro e w11 ⟨mp, rfl, h12, u13⟩
  obtain ⟨cm, hcm⟩ := SMap.empty h12 (fun _ => rfl)
  refine ⟨.map (some mp), rfl, ?_⟩
  have M14 := Mod.trans M10 (Mod.of_up u13)
  refine was (v := .map (some mp)) ?_
  refine wnil (then_n (wp_seq (rg_lit ?_)))
  refine wmv (v := .map (some mp)) ?_
  refine wl (sc rfl (r_callv (caps := []) (all := [.map (some mp), .func (.func 90) #[] #[]]) En.f89 (by kernel_rfl) (by kernel_rfl)) (del0_at hcm) ?_)
  rintro e w15 ⟨rfl, u16⟩
  refine ⟨.tuple #[], rfl, ?_⟩
  have M17 := Mod.trans M14 (Mod.of_up u16)
  refine wnil (then_n (wp_seq (rg_lit ?_)))
  refine wmv (v := .map (some mp)) ?_
  refine wl (sc rfl (r_callv (caps := []) (all := [.map (some mp)]) En.f92 (by kernel_rfl) (by kernel_rfl)) (mkeysS_at mp) ?_)
  rintro e w18 ⟨b19, rfl, h20, u21⟩
  refine ⟨.func (.func 146) #[] #[.pointer (some ⟨b19, 0, none⟩)], rfl, ?_⟩
  have M22 := Mod.trans M17 (Mod.of_up u21)
  have h23 := (up_ob (up_up u16 u21) hcm)
  refine wl (sc rfl (r_callv (caps := []) (all := [.func (.func 146) #[] #[.pointer (some ⟨b19, 0, none⟩)]]) En.f91 (by kernel_rfl) (by kernel_rfl)) (sorted0_at h23 h20) ?_)
  rintro e w24 ⟨rfl, u25⟩
  refine ⟨.slice none 0 0, rfl, ?_⟩
  have M26 := Mod.trans M22 (Mod.of_up u25)
  refine was (v := .slice none 0 0) ?_
  refine wnil (then_n (wp_ret ?_))
  refine bodyPost_ret (v := .slice none 0 0) (res1 rfl (rv_t (by kernel_rfl))) (by kernel_rfl) ?_
  exact ⟨rfl, (Mod.up M26)⟩
end Go.Proofs.YtefhfoioeoijlaaGreatDoor

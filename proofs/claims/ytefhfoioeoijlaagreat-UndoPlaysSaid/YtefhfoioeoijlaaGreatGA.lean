/- GA: printed by gen.py -/
import Derived.Test.YtefhfoioeoijlaaGreatGA0
set_option linter.unusedVariables false
set_option linter.unusedSimpArgs false
namespace Go.Proofs.YtefhfoioeoijlaaGreat
open Go Go.RowKit Go.Sort
set_option maxHeartbeats 2000000 in
theorem rsameItem_at {B B' : Nat} {w : World} (x y : Item) (xA : Option Addr) (xn xc : Nat) (yA : Option Addr) (yn yc : Nat) (hx : Dat B w (.slice xA xn xc) x.data) (hy : Dat B' w (.slice yA yn yc) y.data) :
    Calls Tryz.prog 29 #[itV x (.slice xA xn xc), itV y (.slice yA yn yc)] w fun e w' => e = .returned (.bool (decide (x = y))) ∧ Up w w' := by
  go_enter Tryz.func29, Tryz.ntmps29
  refine wp_seq (rg_lit ?_)
  refine wl (sn rfl (cs := (itC x (.slice xA xn xc)).toArray) (T := 76) (V := fun b => .pointer (some ⟨b, 0, none⟩)) (r_box (v := itV x (.slice xA xn xc)) (by kernel_rfl) rfl) ?_)
  intro b1 w2 e3 h4 u5
  have g6 : w.heap.size ≤ b1 := by rw [e3]; exact (Mod.refl [] w).size
  have M7 := Mod.trans (Mod.refl [] w) (Mod.of_up u5)
  refine wl (sn rfl (cs := (itC y (.slice yA yn yc)).toArray) (T := 76) (V := fun b => .pointer (some ⟨b, 0, none⟩)) (r_box (v := itV y (.slice yA yn yc)) (by kernel_rfl) rfl) ?_)
  intro b8 w9 e10 h11 u12
  have l13 : b1 < b8 := by rw [e10]; exact lt_ob h4
  have g14 : w.heap.size ≤ b8 := by rw [e10]; exact M7.size
  have M15 := Mod.trans M7 (Mod.of_up u12)
  refine was (v := .bool false) ?_
  refine wnil (then_n (wp_seq (rg_lit ?_)))
  refine wl (sv rfl (v := .pointer (some ⟨b1, 0, none⟩)) (r_fieldAddr (u := .pointer (some ⟨b1, 0, none⟩)) (by kernel_rfl) (fun _ => (by kernel_rfl))) ?_)
  have h16 := (up_ob u12 h4)
  refine wl (sv rfl (v := .agg #[.int .i64 x.node.t, .int .i64 x.node.w]) (r_loads (k := 0) (by kernel_rfl) Ty.ag35 Ty.sz35 h16 (by kernel_rfl)) ?_)
  refine wl (sv rfl (v := .pointer (some ⟨b8, 0, none⟩)) (r_fieldAddr (u := .pointer (some ⟨b8, 0, none⟩)) (by kernel_rfl) (fun _ => (by kernel_rfl))) ?_)
  refine wl (sv rfl (v := .agg #[.int .i64 y.node.t, .int .i64 y.node.w]) (r_loads (k := 0) (by kernel_rfl) Ty.ag35 Ty.sz35 h11 (by kernel_rfl)) ?_)
  refine wl (sb rfl (r_eqS (a := x.node.t) (b := x.node.w) (c := y.node.t) (e := y.node.w) (by kernel_rfl) (by kernel_rfl)) ?_)
  intro b17 k18
  refine wmv (v := .bool b17) ?_
  refine bcase b17 (fun v19 => ?_) (fun v19 => ?_)
  ·
   have p20 := of_decide_eq_false (k18.trans v19)
   refine wl (sp (wf (b := b17) rfl (by kernel_rfl) v19) ?_)
   refine wl (sp (wf (b := b17) rfl (by kernel_rfl) v19) ?_)
   refine wl (sp (wf (b := b17) rfl (by kernel_rfl) v19) ?_)
   refine wl (sp (wf (b := b17) rfl (by kernel_rfl) v19) ?_)
   refine wl (sp (wf (b := b17) rfl (by kernel_rfl) v19) ?_)
   refine wl (sv rfl (v := .bool false) (r_pkF (ebool (b := b17) (by kernel_rfl) v19) (by kernel_rfl)) ?_)
   refine wmv (v := .bool false) ?_
   refine wsp ?_
   refine wsp ?_
   refine wsp ?_
   refine wsp ?_
   refine wsp ?_
   refine wl (sv rfl (v := .bool false) (r_pkF (by kernel_rfl) (by kernel_rfl)) ?_)
   refine wmv (v := .bool false) ?_
   refine wsp ?_
   refine wsp ?_
   refine wsp ?_
   refine wsp ?_
   refine wsp ?_
   refine wl (sv rfl (v := .bool false) (r_pkF (by kernel_rfl) (by kernel_rfl)) ?_)
   refine wmv (v := .bool false) ?_
   refine wsp ?_
   refine wsp ?_
   refine wsp ?_
   refine wsp ?_
   refine wsp ?_
   refine wl (sv rfl (v := .bool false) (r_pkF (by kernel_rfl) (by kernel_rfl)) ?_)
   refine wmv (v := .bool false) ?_
   refine wsp ?_
   refine wsp ?_
   refine wsp ?_
   refine wsp ?_
   refine wsp ?_
   refine wl (sv rfl (v := .bool false) (r_pkF (by kernel_rfl) (by kernel_rfl)) ?_)
   refine wmv (v := .bool false) ?_
   refine wsp ?_
   refine wsp ?_
   refine wsp ?_
   refine wsp ?_
   refine wsp ?_
   refine wl (sv rfl (v := .bool false) (r_pkF (by kernel_rfl) (by kernel_rfl)) ?_)
   refine was (v := .bool false) ?_
   refine wnil (then_n (wp_ret ?_))
   refine bodyPost_ret (v := .bool false) (res1 rfl (rv_t (by kernel_rfl))) (by kernel_rfl) ?_
   exact ⟨ret_bool (decide_eq_false (fun e => p20 (by rw [e]))).symm, (Mod.up M15)⟩
  have p20 := of_decide_eq_true (k18.trans v19)
  refine wl (sv (wt (b := b17) rfl (by kernel_rfl) v19) (v := .pointer (some ⟨b1, 2, none⟩)) (r_fieldAddr (u := .pointer (some ⟨b1, 0, none⟩)) (by kernel_rfl) (fun _ => (by kernel_rfl))) ?_)
  refine wl (sv (wt (b := b17) rfl (by kernel_rfl) v19) (v := .agg #[.int .i64 x.parent.t, .int .i64 x.parent.w]) (r_loads (k := 2) (by kernel_rfl) Ty.ag35 Ty.sz35 h16 (by kernel_rfl)) ?_)
  refine wl (sv (wt (b := b17) rfl (by kernel_rfl) v19) (v := .pointer (some ⟨b8, 2, none⟩)) (r_fieldAddr (u := .pointer (some ⟨b8, 0, none⟩)) (by kernel_rfl) (fun _ => (by kernel_rfl))) ?_)
  refine wl (sv (wt (b := b17) rfl (by kernel_rfl) v19) (v := .agg #[.int .i64 y.parent.t, .int .i64 y.parent.w]) (r_loads (k := 2) (by kernel_rfl) Ty.ag35 Ty.sz35 h11 (by kernel_rfl)) ?_)
  refine wl (sb (wt (b := b17) rfl (by kernel_rfl) v19) (r_eqS (a := x.parent.t) (b := x.parent.w) (c := y.parent.t) (e := y.parent.w) (by kernel_rfl) (by kernel_rfl)) ?_)
  intro b21 k22
  refine wl (sv rfl (v := .bool b21) (r_pkT (ebool (b := b17) (by kernel_rfl) v19) (by kernel_rfl)) ?_)
  refine wmv (v := .bool b21) ?_
  refine bcase b21 (fun v23 => ?_) (fun v23 => ?_)
  ·
   have p24 := of_decide_eq_false (k22.trans v23)
   refine wl (sp (wf (b := b21) rfl (by kernel_rfl) v23) ?_)
   refine wl (sp (wf (b := b21) rfl (by kernel_rfl) v23) ?_)
   refine wl (sp (wf (b := b21) rfl (by kernel_rfl) v23) ?_)
   refine wl (sp (wf (b := b21) rfl (by kernel_rfl) v23) ?_)
   refine wl (sp (wf (b := b21) rfl (by kernel_rfl) v23) ?_)
   refine wl (sv rfl (v := .bool false) (r_pkF (ebool (b := b21) (by kernel_rfl) v23) (by kernel_rfl)) ?_)
   refine wmv (v := .bool false) ?_
   refine wsp ?_
   refine wsp ?_
   refine wsp ?_
   refine wsp ?_
   refine wsp ?_
   refine wl (sv rfl (v := .bool false) (r_pkF (by kernel_rfl) (by kernel_rfl)) ?_)
   refine wmv (v := .bool false) ?_
   refine wsp ?_
   refine wsp ?_
   refine wsp ?_
   refine wsp ?_
   refine wsp ?_
   refine wl (sv rfl (v := .bool false) (r_pkF (by kernel_rfl) (by kernel_rfl)) ?_)
   refine wmv (v := .bool false) ?_
   refine wsp ?_
   refine wsp ?_
   refine wsp ?_
   refine wsp ?_
   refine wsp ?_
   refine wl (sv rfl (v := .bool false) (r_pkF (by kernel_rfl) (by kernel_rfl)) ?_)
   refine wmv (v := .bool false) ?_
   refine wsp ?_
   refine wsp ?_
   refine wsp ?_
   refine wsp ?_
   refine wsp ?_
   refine wl (sv rfl (v := .bool false) (r_pkF (by kernel_rfl) (by kernel_rfl)) ?_)
   refine was (v := .bool false) ?_
   refine wnil (then_n (wp_ret ?_))
   refine bodyPost_ret (v := .bool false) (res1 rfl (rv_t (by kernel_rfl))) (by kernel_rfl) ?_
   exact ⟨ret_bool (decide_eq_false (fun e => p24 (by rw [e]))).symm, (Mod.up M15)⟩
  have p24 := of_decide_eq_true (k22.trans v23)
  refine wl (sv (wt (b := b21) rfl (by kernel_rfl) v23) (v := .pointer (some ⟨b1, 4, none⟩)) (r_fieldAddr (u := .pointer (some ⟨b1, 0, none⟩)) (by kernel_rfl) (fun _ => (by kernel_rfl))) ?_)
  refine wl (sv (wt (b := b21) rfl (by kernel_rfl) v23) (v := .string x.name) (r_load (k := 4) (by kernel_rfl) Ty.ag9 h16 (by kernel_rfl)) ?_)
  refine wl (sv (wt (b := b21) rfl (by kernel_rfl) v23) (v := .pointer (some ⟨b8, 4, none⟩)) (r_fieldAddr (u := .pointer (some ⟨b8, 0, none⟩)) (by kernel_rfl) (fun _ => (by kernel_rfl))) ?_)
  refine wl (sv (wt (b := b21) rfl (by kernel_rfl) v23) (v := .string y.name) (r_load (k := 4) (by kernel_rfl) Ty.ag9 h11 (by kernel_rfl)) ?_)
  refine wl (sb (wt (b := b21) rfl (by kernel_rfl) v23) (r_eqs (m := x.name) (n := y.name) (by kernel_rfl) (by kernel_rfl)) ?_)
  intro b25 k26
  refine wl (sv rfl (v := .bool b25) (r_pkT (ebool (b := b21) (by kernel_rfl) v23) (by kernel_rfl)) ?_)
  refine wmv (v := .bool b25) ?_
  refine bcase b25 (fun v27 => ?_) (fun v27 => ?_)
  ·
   have p28 := of_decide_eq_false (k26.trans v27)
   refine wl (sp (wf (b := b25) rfl (by kernel_rfl) v27) ?_)
   refine wl (sp (wf (b := b25) rfl (by kernel_rfl) v27) ?_)
   refine wl (sp (wf (b := b25) rfl (by kernel_rfl) v27) ?_)
   refine wl (sp (wf (b := b25) rfl (by kernel_rfl) v27) ?_)
   refine wl (sp (wf (b := b25) rfl (by kernel_rfl) v27) ?_)
   refine wl (sv rfl (v := .bool false) (r_pkF (ebool (b := b25) (by kernel_rfl) v27) (by kernel_rfl)) ?_)
   refine wmv (v := .bool false) ?_
   refine wsp ?_
   refine wsp ?_
   refine wsp ?_
   refine wsp ?_
   refine wsp ?_
   refine wl (sv rfl (v := .bool false) (r_pkF (by kernel_rfl) (by kernel_rfl)) ?_)
   refine wmv (v := .bool false) ?_
   refine wsp ?_
   refine wsp ?_
   refine wsp ?_
   refine wsp ?_
   refine wsp ?_
   refine wl (sv rfl (v := .bool false) (r_pkF (by kernel_rfl) (by kernel_rfl)) ?_)
   refine wmv (v := .bool false) ?_
   refine wsp ?_
   refine wsp ?_
   refine wsp ?_
   refine wsp ?_
   refine wsp ?_
   refine wl (sv rfl (v := .bool false) (r_pkF (by kernel_rfl) (by kernel_rfl)) ?_)
   refine was (v := .bool false) ?_
   refine wnil (then_n (wp_ret ?_))
   refine bodyPost_ret (v := .bool false) (res1 rfl (rv_t (by kernel_rfl))) (by kernel_rfl) ?_
   exact ⟨ret_bool (decide_eq_false (fun e => p28 (by rw [e]))).symm, (Mod.up M15)⟩
  have p28 := of_decide_eq_true (k26.trans v27)
  refine wl (sv (wt (b := b25) rfl (by kernel_rfl) v27) (v := .pointer (some ⟨b1, 5, none⟩)) (r_fieldAddr (u := .pointer (some ⟨b1, 0, none⟩)) (by kernel_rfl) (fun _ => (by kernel_rfl))) ?_)
  refine wl (sv (wt (b := b25) rfl (by kernel_rfl) v27) (v := .bool x.dir) (r_load (k := 5) (by kernel_rfl) Ty.ag4 h16 (by kernel_rfl)) ?_)
  refine wl (sv (wt (b := b25) rfl (by kernel_rfl) v27) (v := .pointer (some ⟨b8, 5, none⟩)) (r_fieldAddr (u := .pointer (some ⟨b8, 0, none⟩)) (by kernel_rfl) (fun _ => (by kernel_rfl))) ?_)
  refine wl (sv (wt (b := b25) rfl (by kernel_rfl) v27) (v := .bool y.dir) (r_load (k := 5) (by kernel_rfl) Ty.ag4 h11 (by kernel_rfl)) ?_)
  refine bcase x.dir (fun v29 => ?_) (fun v29 => ?_)
  ·
   refine bcase y.dir (fun v30 => ?_) (fun v30 => ?_)
   ·
    refine wl (sv (wt (b := b25) rfl (by kernel_rfl) v27) (v := .bool true) (r_eqb (a := false) (b := false) Tryz.underlying4 (ebool (b := x.dir) (by kernel_rfl) v29) (ebool (b := y.dir) (by kernel_rfl) v30)) ?_)
    refine wl (sv rfl (v := .bool true) (r_pkT (ebool (b := b25) (by kernel_rfl) v27) (by kernel_rfl)) ?_)
    refine wmv (v := .bool true) ?_
    refine wl (sv (by kernel_rfl) (v := .pointer (some ⟨b1, 6, none⟩)) (r_fieldAddr (u := .pointer (some ⟨b1, 0, none⟩)) (by kernel_rfl) (fun _ => (by kernel_rfl))) ?_)
    refine wl (sv (by kernel_rfl) (v := .bool x.gone) (r_load (k := 6) (by kernel_rfl) Ty.ag4 h16 (by kernel_rfl)) ?_)
    refine wl (sv (by kernel_rfl) (v := .pointer (some ⟨b8, 6, none⟩)) (r_fieldAddr (u := .pointer (some ⟨b8, 0, none⟩)) (by kernel_rfl) (fun _ => (by kernel_rfl))) ?_)
    refine wl (sv (by kernel_rfl) (v := .bool y.gone) (r_load (k := 6) (by kernel_rfl) Ty.ag4 h11 (by kernel_rfl)) ?_)
    refine bcase x.gone (fun v31 => ?_) (fun v31 => ?_)
    ·
     refine bcase y.gone (fun v32 => ?_) (fun v32 => ?_)
     ·
      refine wl (sv (by kernel_rfl) (v := .bool true) (r_eqb (a := false) (b := false) Tryz.underlying4 (ebool (b := x.gone) (by kernel_rfl) v31) (ebool (b := y.gone) (by kernel_rfl) v32)) ?_)
      refine wl (sv rfl (v := .bool true) (r_pkT (by kernel_rfl) (by kernel_rfl)) ?_)
      refine wmv (v := .bool true) ?_
      refine wl (sv (by kernel_rfl) (v := .pointer (some ⟨b1, 8, none⟩)) (r_fieldAddr (u := .pointer (some ⟨b1, 0, none⟩)) (by kernel_rfl) (fun _ => (by kernel_rfl))) ?_)
      refine wl (sv (by kernel_rfl) (v := .agg #[.int .i64 x.by_.t, .int .i64 x.by_.w]) (r_loads (k := 8) (by kernel_rfl) Ty.ag35 Ty.sz35 h16 (by kernel_rfl)) ?_)
      refine wl (sv (by kernel_rfl) (v := .pointer (some ⟨b8, 8, none⟩)) (r_fieldAddr (u := .pointer (some ⟨b8, 0, none⟩)) (by kernel_rfl) (fun _ => (by kernel_rfl))) ?_)
      refine wl (sv (by kernel_rfl) (v := .agg #[.int .i64 y.by_.t, .int .i64 y.by_.w]) (r_loads (k := 8) (by kernel_rfl) Ty.ag35 Ty.sz35 h11 (by kernel_rfl)) ?_)
      refine wl (sb (by kernel_rfl) (r_eqS (a := x.by_.t) (b := x.by_.w) (c := y.by_.t) (e := y.by_.w) (by kernel_rfl) (by kernel_rfl)) ?_)
      intro b33 k34
      refine wl (sv rfl (v := .bool b33) (r_pkT (by kernel_rfl) (by kernel_rfl)) ?_)
      refine wmv (v := .bool b33) ?_
      refine bcase b33 (fun v35 => ?_) (fun v35 => ?_)
      ·
       have p36 := of_decide_eq_false (k34.trans v35)
       refine wl (sp (wf (b := b33) rfl (by kernel_rfl) v35) ?_)
       refine wl (sp (wf (b := b33) rfl (by kernel_rfl) v35) ?_)
       refine wl (sp (wf (b := b33) rfl (by kernel_rfl) v35) ?_)
       refine wl (sp (wf (b := b33) rfl (by kernel_rfl) v35) ?_)
       refine wl (sp (wf (b := b33) rfl (by kernel_rfl) v35) ?_)
       refine wl (sv rfl (v := .bool false) (r_pkF (ebool (b := b33) (by kernel_rfl) v35) (by kernel_rfl)) ?_)
       refine was (v := .bool false) ?_
       refine wnil (then_n (wp_ret ?_))
       refine bodyPost_ret (v := .bool false) (res1 rfl (rv_t (by kernel_rfl))) (by kernel_rfl) ?_
       exact ⟨ret_bool (decide_eq_false (fun e => p36 (by rw [e]))).symm, (Mod.up M15)⟩
      have p36 := of_decide_eq_true (k34.trans v35)
      refine wl (sv (wt (b := b33) rfl (by kernel_rfl) v35) (v := .pointer (some ⟨b1, 7, none⟩)) (r_fieldAddr (u := .pointer (some ⟨b1, 0, none⟩)) (by kernel_rfl) (fun _ => (by kernel_rfl))) ?_)
      refine wl (sv (wt (b := b33) rfl (by kernel_rfl) v35) (v := .slice xA xn xc) (r_load (k := 7) (by kernel_rfl) Ty.ag36 h16 (by kernel_rfl)) ?_)
      refine wl (sv (wt (b := b33) rfl (by kernel_rfl) v35) (v := .pointer (some ⟨b8, 7, none⟩)) (r_fieldAddr (u := .pointer (some ⟨b8, 0, none⟩)) (by kernel_rfl) (fun _ => (by kernel_rfl))) ?_)
      refine wl (sv (wt (b := b33) rfl (by kernel_rfl) v35) (v := .slice yA yn yc) (r_load (k := 7) (by kernel_rfl) Ty.ag36 h11 (by kernel_rfl)) ?_)
      have h37 := (Dat.up hx (Mod.up M15))
      have h38 := (Dat.up hy (Mod.up M15))
      refine wl (sc (wt (b := b33) rfl (by kernel_rfl) v35) (r_callv (caps := []) (all := [.slice xA xn xc, .slice yA yn yc]) En.f46 (by kernel_rfl) (by kernel_rfl)) (r01same_at h37 h38) ?_)
      rintro e w39 ⟨rfl, u40⟩
      refine ⟨.bool ((decide (x.data = y.data))), rfl, ?_⟩
      have M41 := Mod.trans M15 (Mod.of_up u40)
      refine wl (sv rfl (v := .bool ((decide (x.data = y.data)))) (r_pkT (ebool (b := b33) (by kernel_rfl) v35) (by kernel_rfl)) ?_)
      refine was (v := .bool ((decide (x.data = y.data)))) ?_
      refine wnil (then_n (wp_ret ?_))
      refine bodyPost_ret (v := .bool ((decide (x.data = y.data)))) (res1 rfl (rv_t (by kernel_rfl))) (by kernel_rfl) ?_
      exact ⟨ret_bool (item_dec x y p20 p24 p28 (v29.trans v30.symm) (v31.trans v32.symm) p36), (Mod.up M41)⟩
     refine wl (sv (by kernel_rfl) (v := .bool false) (r_eqb (a := false) (b := true) Tryz.underlying4 (ebool (b := x.gone) (by kernel_rfl) v31) (ebool (b := y.gone) (by kernel_rfl) v32)) ?_)
     refine wl (sv rfl (v := .bool false) (r_pkT (by kernel_rfl) (by kernel_rfl)) ?_)
     refine wmv (v := .bool false) ?_
     refine wsp ?_
     refine wsp ?_
     refine wsp ?_
     refine wsp ?_
     refine wsp ?_
     refine wl (sv rfl (v := .bool false) (r_pkF (by kernel_rfl) (by kernel_rfl)) ?_)
     refine wmv (v := .bool false) ?_
     refine wsp ?_
     refine wsp ?_
     refine wsp ?_
     refine wsp ?_
     refine wsp ?_
     refine wl (sv rfl (v := .bool false) (r_pkF (by kernel_rfl) (by kernel_rfl)) ?_)
     refine was (v := .bool false) ?_
     refine wnil (then_n (wp_ret ?_))
     refine bodyPost_ret (v := .bool false) (res1 rfl (rv_t (by kernel_rfl))) (by kernel_rfl) ?_
     refine ⟨ret_bool (decide_eq_false (fun e => ?_)).symm, (Mod.up M15)⟩
     rw [e, v32] at v31; cases v31
    refine bcase y.gone (fun v32 => ?_) (fun v32 => ?_)
    ·
     refine wl (sv (by kernel_rfl) (v := .bool false) (r_eqb (a := true) (b := false) Tryz.underlying4 (ebool (b := x.gone) (by kernel_rfl) v31) (ebool (b := y.gone) (by kernel_rfl) v32)) ?_)
     refine wl (sv rfl (v := .bool false) (r_pkT (by kernel_rfl) (by kernel_rfl)) ?_)
     refine wmv (v := .bool false) ?_
     refine wsp ?_
     refine wsp ?_
     refine wsp ?_
     refine wsp ?_
     refine wsp ?_
     refine wl (sv rfl (v := .bool false) (r_pkF (by kernel_rfl) (by kernel_rfl)) ?_)
     refine wmv (v := .bool false) ?_
     refine wsp ?_
     refine wsp ?_
     refine wsp ?_
     refine wsp ?_
     refine wsp ?_
     refine wl (sv rfl (v := .bool false) (r_pkF (by kernel_rfl) (by kernel_rfl)) ?_)
     refine was (v := .bool false) ?_
     refine wnil (then_n (wp_ret ?_))
     refine bodyPost_ret (v := .bool false) (res1 rfl (rv_t (by kernel_rfl))) (by kernel_rfl) ?_
     refine ⟨ret_bool (decide_eq_false (fun e => ?_)).symm, (Mod.up M15)⟩
     rw [e, v32] at v31; cases v31
    refine wl (sv (by kernel_rfl) (v := .bool true) (r_eqb (a := true) (b := true) Tryz.underlying4 (ebool (b := x.gone) (by kernel_rfl) v31) (ebool (b := y.gone) (by kernel_rfl) v32)) ?_)
    refine wl (sv rfl (v := .bool true) (r_pkT (by kernel_rfl) (by kernel_rfl)) ?_)
    refine wmv (v := .bool true) ?_
    refine wl (sv (by kernel_rfl) (v := .pointer (some ⟨b1, 8, none⟩)) (r_fieldAddr (u := .pointer (some ⟨b1, 0, none⟩)) (by kernel_rfl) (fun _ => (by kernel_rfl))) ?_)
    refine wl (sv (by kernel_rfl) (v := .agg #[.int .i64 x.by_.t, .int .i64 x.by_.w]) (r_loads (k := 8) (by kernel_rfl) Ty.ag35 Ty.sz35 h16 (by kernel_rfl)) ?_)
    refine wl (sv (by kernel_rfl) (v := .pointer (some ⟨b8, 8, none⟩)) (r_fieldAddr (u := .pointer (some ⟨b8, 0, none⟩)) (by kernel_rfl) (fun _ => (by kernel_rfl))) ?_)
    refine wl (sv (by kernel_rfl) (v := .agg #[.int .i64 y.by_.t, .int .i64 y.by_.w]) (r_loads (k := 8) (by kernel_rfl) Ty.ag35 Ty.sz35 h11 (by kernel_rfl)) ?_)
    refine wl (sb (by kernel_rfl) (r_eqS (a := x.by_.t) (b := x.by_.w) (c := y.by_.t) (e := y.by_.w) (by kernel_rfl) (by kernel_rfl)) ?_)
    intro b33 k34
    refine wl (sv rfl (v := .bool b33) (r_pkT (by kernel_rfl) (by kernel_rfl)) ?_)
    refine wmv (v := .bool b33) ?_
    refine bcase b33 (fun v35 => ?_) (fun v35 => ?_)
    ·
     have p36 := of_decide_eq_false (k34.trans v35)
     refine wl (sp (wf (b := b33) rfl (by kernel_rfl) v35) ?_)
     refine wl (sp (wf (b := b33) rfl (by kernel_rfl) v35) ?_)
     refine wl (sp (wf (b := b33) rfl (by kernel_rfl) v35) ?_)
     refine wl (sp (wf (b := b33) rfl (by kernel_rfl) v35) ?_)
     refine wl (sp (wf (b := b33) rfl (by kernel_rfl) v35) ?_)
     refine wl (sv rfl (v := .bool false) (r_pkF (ebool (b := b33) (by kernel_rfl) v35) (by kernel_rfl)) ?_)
     refine was (v := .bool false) ?_
     refine wnil (then_n (wp_ret ?_))
     refine bodyPost_ret (v := .bool false) (res1 rfl (rv_t (by kernel_rfl))) (by kernel_rfl) ?_
     exact ⟨ret_bool (decide_eq_false (fun e => p36 (by rw [e]))).symm, (Mod.up M15)⟩
    have p36 := of_decide_eq_true (k34.trans v35)
    refine wl (sv (wt (b := b33) rfl (by kernel_rfl) v35) (v := .pointer (some ⟨b1, 7, none⟩)) (r_fieldAddr (u := .pointer (some ⟨b1, 0, none⟩)) (by kernel_rfl) (fun _ => (by kernel_rfl))) ?_)
    refine wl (sv (wt (b := b33) rfl (by kernel_rfl) v35) (v := .slice xA xn xc) (r_load (k := 7) (by kernel_rfl) Ty.ag36 h16 (by kernel_rfl)) ?_)
    refine wl (sv (wt (b := b33) rfl (by kernel_rfl) v35) (v := .pointer (some ⟨b8, 7, none⟩)) (r_fieldAddr (u := .pointer (some ⟨b8, 0, none⟩)) (by kernel_rfl) (fun _ => (by kernel_rfl))) ?_)
    refine wl (sv (wt (b := b33) rfl (by kernel_rfl) v35) (v := .slice yA yn yc) (r_load (k := 7) (by kernel_rfl) Ty.ag36 h11 (by kernel_rfl)) ?_)
    have h37 := (Dat.up hx (Mod.up M15))
    have h38 := (Dat.up hy (Mod.up M15))
    refine wl (sc (wt (b := b33) rfl (by kernel_rfl) v35) (r_callv (caps := []) (all := [.slice xA xn xc, .slice yA yn yc]) En.f46 (by kernel_rfl) (by kernel_rfl)) (r01same_at h37 h38) ?_)
    rintro e w39 ⟨rfl, u40⟩
    refine ⟨.bool ((decide (x.data = y.data))), rfl, ?_⟩
    have M41 := Mod.trans M15 (Mod.of_up u40)
    refine wl (sv rfl (v := .bool ((decide (x.data = y.data)))) (r_pkT (ebool (b := b33) (by kernel_rfl) v35) (by kernel_rfl)) ?_)
    refine was (v := .bool ((decide (x.data = y.data)))) ?_
    refine wnil (then_n (wp_ret ?_))
    refine bodyPost_ret (v := .bool ((decide (x.data = y.data)))) (res1 rfl (rv_t (by kernel_rfl))) (by kernel_rfl) ?_
    exact ⟨ret_bool (item_dec x y p20 p24 p28 (v29.trans v30.symm) (v31.trans v32.symm) p36), (Mod.up M41)⟩
   refine wl (sv (wt (b := b25) rfl (by kernel_rfl) v27) (v := .bool false) (r_eqb (a := false) (b := true) Tryz.underlying4 (ebool (b := x.dir) (by kernel_rfl) v29) (ebool (b := y.dir) (by kernel_rfl) v30)) ?_)
   refine wl (sv rfl (v := .bool false) (r_pkT (ebool (b := b25) (by kernel_rfl) v27) (by kernel_rfl)) ?_)
   refine wmv (v := .bool false) ?_
   refine wsp ?_
   refine wsp ?_
   refine wsp ?_
   refine wsp ?_
   refine wsp ?_
   refine wl (sv rfl (v := .bool false) (r_pkF (by kernel_rfl) (by kernel_rfl)) ?_)
   refine wmv (v := .bool false) ?_
   refine wsp ?_
   refine wsp ?_
   refine wsp ?_
   refine wsp ?_
   refine wsp ?_
   refine wl (sv rfl (v := .bool false) (r_pkF (by kernel_rfl) (by kernel_rfl)) ?_)
   refine wmv (v := .bool false) ?_
   refine wsp ?_
   refine wsp ?_
   refine wsp ?_
   refine wsp ?_
   refine wsp ?_
   refine wl (sv rfl (v := .bool false) (r_pkF (by kernel_rfl) (by kernel_rfl)) ?_)
   refine was (v := .bool false) ?_
   refine wnil (then_n (wp_ret ?_))
   refine bodyPost_ret (v := .bool false) (res1 rfl (rv_t (by kernel_rfl))) (by kernel_rfl) ?_
   refine ⟨ret_bool (decide_eq_false (fun e => ?_)).symm, (Mod.up M15)⟩
   rw [e, v30] at v29; cases v29
  refine bcase y.dir (fun v30 => ?_) (fun v30 => ?_)
  ·
   refine wl (sv (wt (b := b25) rfl (by kernel_rfl) v27) (v := .bool false) (r_eqb (a := true) (b := false) Tryz.underlying4 (ebool (b := x.dir) (by kernel_rfl) v29) (ebool (b := y.dir) (by kernel_rfl) v30)) ?_)
   refine wl (sv rfl (v := .bool false) (r_pkT (ebool (b := b25) (by kernel_rfl) v27) (by kernel_rfl)) ?_)
   refine wmv (v := .bool false) ?_
   refine wsp ?_
   refine wsp ?_
   refine wsp ?_
   refine wsp ?_
   refine wsp ?_
   refine wl (sv rfl (v := .bool false) (r_pkF (by kernel_rfl) (by kernel_rfl)) ?_)
   refine wmv (v := .bool false) ?_
   refine wsp ?_
   refine wsp ?_
   refine wsp ?_
   refine wsp ?_
   refine wsp ?_
   refine wl (sv rfl (v := .bool false) (r_pkF (by kernel_rfl) (by kernel_rfl)) ?_)
   refine wmv (v := .bool false) ?_
   refine wsp ?_
   refine wsp ?_
   refine wsp ?_
   refine wsp ?_
   refine wsp ?_
   refine wl (sv rfl (v := .bool false) (r_pkF (by kernel_rfl) (by kernel_rfl)) ?_)
   refine was (v := .bool false) ?_
   refine wnil (then_n (wp_ret ?_))
   refine bodyPost_ret (v := .bool false) (res1 rfl (rv_t (by kernel_rfl))) (by kernel_rfl) ?_
   refine ⟨ret_bool (decide_eq_false (fun e => ?_)).symm, (Mod.up M15)⟩
   rw [e, v30] at v29; cases v29
  refine wl (sv (wt (b := b25) rfl (by kernel_rfl) v27) (v := .bool true) (r_eqb (a := true) (b := true) Tryz.underlying4 (ebool (b := x.dir) (by kernel_rfl) v29) (ebool (b := y.dir) (by kernel_rfl) v30)) ?_)
  refine wl (sv rfl (v := .bool true) (r_pkT (ebool (b := b25) (by kernel_rfl) v27) (by kernel_rfl)) ?_)
  refine wmv (v := .bool true) ?_
  refine wl (sv (by kernel_rfl) (v := .pointer (some ⟨b1, 6, none⟩)) (r_fieldAddr (u := .pointer (some ⟨b1, 0, none⟩)) (by kernel_rfl) (fun _ => (by kernel_rfl))) ?_)
  refine wl (sv (by kernel_rfl) (v := .bool x.gone) (r_load (k := 6) (by kernel_rfl) Ty.ag4 h16 (by kernel_rfl)) ?_)
  refine wl (sv (by kernel_rfl) (v := .pointer (some ⟨b8, 6, none⟩)) (r_fieldAddr (u := .pointer (some ⟨b8, 0, none⟩)) (by kernel_rfl) (fun _ => (by kernel_rfl))) ?_)
  refine wl (sv (by kernel_rfl) (v := .bool y.gone) (r_load (k := 6) (by kernel_rfl) Ty.ag4 h11 (by kernel_rfl)) ?_)
  refine bcase x.gone (fun v31 => ?_) (fun v31 => ?_)
  ·
   refine bcase y.gone (fun v32 => ?_) (fun v32 => ?_)
   ·
    refine wl (sv (by kernel_rfl) (v := .bool true) (r_eqb (a := false) (b := false) Tryz.underlying4 (ebool (b := x.gone) (by kernel_rfl) v31) (ebool (b := y.gone) (by kernel_rfl) v32)) ?_)
    refine wl (sv rfl (v := .bool true) (r_pkT (by kernel_rfl) (by kernel_rfl)) ?_)
    refine wmv (v := .bool true) ?_
    refine wl (sv (by kernel_rfl) (v := .pointer (some ⟨b1, 8, none⟩)) (r_fieldAddr (u := .pointer (some ⟨b1, 0, none⟩)) (by kernel_rfl) (fun _ => (by kernel_rfl))) ?_)
    refine wl (sv (by kernel_rfl) (v := .agg #[.int .i64 x.by_.t, .int .i64 x.by_.w]) (r_loads (k := 8) (by kernel_rfl) Ty.ag35 Ty.sz35 h16 (by kernel_rfl)) ?_)
    refine wl (sv (by kernel_rfl) (v := .pointer (some ⟨b8, 8, none⟩)) (r_fieldAddr (u := .pointer (some ⟨b8, 0, none⟩)) (by kernel_rfl) (fun _ => (by kernel_rfl))) ?_)
    refine wl (sv (by kernel_rfl) (v := .agg #[.int .i64 y.by_.t, .int .i64 y.by_.w]) (r_loads (k := 8) (by kernel_rfl) Ty.ag35 Ty.sz35 h11 (by kernel_rfl)) ?_)
    refine wl (sb (by kernel_rfl) (r_eqS (a := x.by_.t) (b := x.by_.w) (c := y.by_.t) (e := y.by_.w) (by kernel_rfl) (by kernel_rfl)) ?_)
    intro b33 k34
    refine wl (sv rfl (v := .bool b33) (r_pkT (by kernel_rfl) (by kernel_rfl)) ?_)
    refine wmv (v := .bool b33) ?_
    refine bcase b33 (fun v35 => ?_) (fun v35 => ?_)
    ·
     have p36 := of_decide_eq_false (k34.trans v35)
     refine wl (sp (wf (b := b33) rfl (by kernel_rfl) v35) ?_)
     refine wl (sp (wf (b := b33) rfl (by kernel_rfl) v35) ?_)
     refine wl (sp (wf (b := b33) rfl (by kernel_rfl) v35) ?_)
     refine wl (sp (wf (b := b33) rfl (by kernel_rfl) v35) ?_)
     refine wl (sp (wf (b := b33) rfl (by kernel_rfl) v35) ?_)
     refine wl (sv rfl (v := .bool false) (r_pkF (ebool (b := b33) (by kernel_rfl) v35) (by kernel_rfl)) ?_)
     refine was (v := .bool false) ?_
     refine wnil (then_n (wp_ret ?_))
     refine bodyPost_ret (v := .bool false) (res1 rfl (rv_t (by kernel_rfl))) (by kernel_rfl) ?_
     exact ⟨ret_bool (decide_eq_false (fun e => p36 (by rw [e]))).symm, (Mod.up M15)⟩
    have p36 := of_decide_eq_true (k34.trans v35)
    refine wl (sv (wt (b := b33) rfl (by kernel_rfl) v35) (v := .pointer (some ⟨b1, 7, none⟩)) (r_fieldAddr (u := .pointer (some ⟨b1, 0, none⟩)) (by kernel_rfl) (fun _ => (by kernel_rfl))) ?_)
    refine wl (sv (wt (b := b33) rfl (by kernel_rfl) v35) (v := .slice xA xn xc) (r_load (k := 7) (by kernel_rfl) Ty.ag36 h16 (by kernel_rfl)) ?_)
    refine wl (sv (wt (b := b33) rfl (by kernel_rfl) v35) (v := .pointer (some ⟨b8, 7, none⟩)) (r_fieldAddr (u := .pointer (some ⟨b8, 0, none⟩)) (by kernel_rfl) (fun _ => (by kernel_rfl))) ?_)
    refine wl (sv (wt (b := b33) rfl (by kernel_rfl) v35) (v := .slice yA yn yc) (r_load (k := 7) (by kernel_rfl) Ty.ag36 h11 (by kernel_rfl)) ?_)
    have h37 := (Dat.up hx (Mod.up M15))
    have h38 := (Dat.up hy (Mod.up M15))
    refine wl (sc (wt (b := b33) rfl (by kernel_rfl) v35) (r_callv (caps := []) (all := [.slice xA xn xc, .slice yA yn yc]) En.f46 (by kernel_rfl) (by kernel_rfl)) (r01same_at h37 h38) ?_)
    rintro e w39 ⟨rfl, u40⟩
    refine ⟨.bool ((decide (x.data = y.data))), rfl, ?_⟩
    have M41 := Mod.trans M15 (Mod.of_up u40)
    refine wl (sv rfl (v := .bool ((decide (x.data = y.data)))) (r_pkT (ebool (b := b33) (by kernel_rfl) v35) (by kernel_rfl)) ?_)
    refine was (v := .bool ((decide (x.data = y.data)))) ?_
    refine wnil (then_n (wp_ret ?_))
    refine bodyPost_ret (v := .bool ((decide (x.data = y.data)))) (res1 rfl (rv_t (by kernel_rfl))) (by kernel_rfl) ?_
    exact ⟨ret_bool (item_dec x y p20 p24 p28 (v29.trans v30.symm) (v31.trans v32.symm) p36), (Mod.up M41)⟩
   refine wl (sv (by kernel_rfl) (v := .bool false) (r_eqb (a := false) (b := true) Tryz.underlying4 (ebool (b := x.gone) (by kernel_rfl) v31) (ebool (b := y.gone) (by kernel_rfl) v32)) ?_)
   refine wl (sv rfl (v := .bool false) (r_pkT (by kernel_rfl) (by kernel_rfl)) ?_)
   refine wmv (v := .bool false) ?_
   refine wsp ?_
   refine wsp ?_
   refine wsp ?_
   refine wsp ?_
   refine wsp ?_
   refine wl (sv rfl (v := .bool false) (r_pkF (by kernel_rfl) (by kernel_rfl)) ?_)
   refine wmv (v := .bool false) ?_
   refine wsp ?_
   refine wsp ?_
   refine wsp ?_
   refine wsp ?_
   refine wsp ?_
   refine wl (sv rfl (v := .bool false) (r_pkF (by kernel_rfl) (by kernel_rfl)) ?_)
   refine was (v := .bool false) ?_
   refine wnil (then_n (wp_ret ?_))
   refine bodyPost_ret (v := .bool false) (res1 rfl (rv_t (by kernel_rfl))) (by kernel_rfl) ?_
   refine ⟨ret_bool (decide_eq_false (fun e => ?_)).symm, (Mod.up M15)⟩
   rw [e, v32] at v31; cases v31
  refine bcase y.gone (fun v32 => ?_) (fun v32 => ?_)
  ·
   refine wl (sv (by kernel_rfl) (v := .bool false) (r_eqb (a := true) (b := false) Tryz.underlying4 (ebool (b := x.gone) (by kernel_rfl) v31) (ebool (b := y.gone) (by kernel_rfl) v32)) ?_)
   refine wl (sv rfl (v := .bool false) (r_pkT (by kernel_rfl) (by kernel_rfl)) ?_)
   refine wmv (v := .bool false) ?_
   refine wsp ?_
   refine wsp ?_
   refine wsp ?_
   refine wsp ?_
   refine wsp ?_
   refine wl (sv rfl (v := .bool false) (r_pkF (by kernel_rfl) (by kernel_rfl)) ?_)
   refine wmv (v := .bool false) ?_
   refine wsp ?_
   refine wsp ?_
   refine wsp ?_
   refine wsp ?_
   refine wsp ?_
   refine wl (sv rfl (v := .bool false) (r_pkF (by kernel_rfl) (by kernel_rfl)) ?_)
   refine was (v := .bool false) ?_
   refine wnil (then_n (wp_ret ?_))
   refine bodyPost_ret (v := .bool false) (res1 rfl (rv_t (by kernel_rfl))) (by kernel_rfl) ?_
   refine ⟨ret_bool (decide_eq_false (fun e => ?_)).symm, (Mod.up M15)⟩
   rw [e, v32] at v31; cases v31
  refine wl (sv (by kernel_rfl) (v := .bool true) (r_eqb (a := true) (b := true) Tryz.underlying4 (ebool (b := x.gone) (by kernel_rfl) v31) (ebool (b := y.gone) (by kernel_rfl) v32)) ?_)
  refine wl (sv rfl (v := .bool true) (r_pkT (by kernel_rfl) (by kernel_rfl)) ?_)
  refine wmv (v := .bool true) ?_
  refine wl (sv (by kernel_rfl) (v := .pointer (some ⟨b1, 8, none⟩)) (r_fieldAddr (u := .pointer (some ⟨b1, 0, none⟩)) (by kernel_rfl) (fun _ => (by kernel_rfl))) ?_)
  refine wl (sv (by kernel_rfl) (v := .agg #[.int .i64 x.by_.t, .int .i64 x.by_.w]) (r_loads (k := 8) (by kernel_rfl) Ty.ag35 Ty.sz35 h16 (by kernel_rfl)) ?_)
  refine wl (sv (by kernel_rfl) (v := .pointer (some ⟨b8, 8, none⟩)) (r_fieldAddr (u := .pointer (some ⟨b8, 0, none⟩)) (by kernel_rfl) (fun _ => (by kernel_rfl))) ?_)
  refine wl (sv (by kernel_rfl) (v := .agg #[.int .i64 y.by_.t, .int .i64 y.by_.w]) (r_loads (k := 8) (by kernel_rfl) Ty.ag35 Ty.sz35 h11 (by kernel_rfl)) ?_)
  refine wl (sb (by kernel_rfl) (r_eqS (a := x.by_.t) (b := x.by_.w) (c := y.by_.t) (e := y.by_.w) (by kernel_rfl) (by kernel_rfl)) ?_)
  intro b33 k34
  refine wl (sv rfl (v := .bool b33) (r_pkT (by kernel_rfl) (by kernel_rfl)) ?_)
  refine wmv (v := .bool b33) ?_
  refine bcase b33 (fun v35 => ?_) (fun v35 => ?_)
  ·
   have p36 := of_decide_eq_false (k34.trans v35)
   refine wl (sp (wf (b := b33) rfl (by kernel_rfl) v35) ?_)
   refine wl (sp (wf (b := b33) rfl (by kernel_rfl) v35) ?_)
   refine wl (sp (wf (b := b33) rfl (by kernel_rfl) v35) ?_)
   refine wl (sp (wf (b := b33) rfl (by kernel_rfl) v35) ?_)
   refine wl (sp (wf (b := b33) rfl (by kernel_rfl) v35) ?_)
   refine wl (sv rfl (v := .bool false) (r_pkF (ebool (b := b33) (by kernel_rfl) v35) (by kernel_rfl)) ?_)
   refine was (v := .bool false) ?_
   refine wnil (then_n (wp_ret ?_))
   refine bodyPost_ret (v := .bool false) (res1 rfl (rv_t (by kernel_rfl))) (by kernel_rfl) ?_
   exact ⟨ret_bool (decide_eq_false (fun e => p36 (by rw [e]))).symm, (Mod.up M15)⟩
  have p36 := of_decide_eq_true (k34.trans v35)
  refine wl (sv (wt (b := b33) rfl (by kernel_rfl) v35) (v := .pointer (some ⟨b1, 7, none⟩)) (r_fieldAddr (u := .pointer (some ⟨b1, 0, none⟩)) (by kernel_rfl) (fun _ => (by kernel_rfl))) ?_)
  refine wl (sv (wt (b := b33) rfl (by kernel_rfl) v35) (v := .slice xA xn xc) (r_load (k := 7) (by kernel_rfl) Ty.ag36 h16 (by kernel_rfl)) ?_)
  refine wl (sv (wt (b := b33) rfl (by kernel_rfl) v35) (v := .pointer (some ⟨b8, 7, none⟩)) (r_fieldAddr (u := .pointer (some ⟨b8, 0, none⟩)) (by kernel_rfl) (fun _ => (by kernel_rfl))) ?_)
  refine wl (sv (wt (b := b33) rfl (by kernel_rfl) v35) (v := .slice yA yn yc) (r_load (k := 7) (by kernel_rfl) Ty.ag36 h11 (by kernel_rfl)) ?_)
  have h37 := (Dat.up hx (Mod.up M15))
  have h38 := (Dat.up hy (Mod.up M15))
  refine wl (sc (wt (b := b33) rfl (by kernel_rfl) v35) (r_callv (caps := []) (all := [.slice xA xn xc, .slice yA yn yc]) En.f46 (by kernel_rfl) (by kernel_rfl)) (r01same_at h37 h38) ?_)
  rintro e w39 ⟨rfl, u40⟩
  refine ⟨.bool ((decide (x.data = y.data))), rfl, ?_⟩
  have M41 := Mod.trans M15 (Mod.of_up u40)
  refine wl (sv rfl (v := .bool ((decide (x.data = y.data)))) (r_pkT (ebool (b := b33) (by kernel_rfl) v35) (by kernel_rfl)) ?_)
  refine was (v := .bool ((decide (x.data = y.data)))) ?_
  refine wnil (then_n (wp_ret ?_))
  refine bodyPost_ret (v := .bool ((decide (x.data = y.data)))) (res1 rfl (rv_t (by kernel_rfl))) (by kernel_rfl) ?_
  exact ⟨ret_bool (item_dec x y p20 p24 p28 (v29.trans v30.symm) (v31.trans v32.symm) p36), (Mod.up M41)⟩
end Go.Proofs.YtefhfoioeoijlaaGreat

/- GT: printed by gen.py -/
import Derived.Test.YtefhfoioeoijlaaEqM
set_option linter.unusedVariables false
set_option linter.unusedSimpArgs false
namespace Go.Proofs.Ytefhfoioeoijlaa
open Go Go.RowKit Go.Sort
set_option maxHeartbeats 2000000 in
theorem isame_at {B B' : Nat} {w : World} (x y : Item) (xA : Option Addr) (xn xc : Nat) (yA : Option Addr) (yn yc : Nat) (hx : Dat B w (.slice xA xn xc) x.data) (hy : Dat B' w (.slice yA yn yc) y.data) :
    Calls Try.prog 74 #[itV x (.slice xA xn xc), itV y (.slice yA yn yc)] w fun e w' => e = .returned (.bool (decide (x = y))) ∧ Up w w' := by
  go_enter Try.func74, Try.ntmps74
  refine wp_seq (rg_lit ?_)
  refine wl (sn rfl (cs := (itC x (.slice xA xn xc)).toArray) (T := 35) (V := fun b => .pointer (some ⟨b, 0, none⟩)) (r_box (v := itV x (.slice xA xn xc)) (by kernel_rfl) rfl) ?_)
  intro b1 w2 e3 h4 u5
  have g6 : w.heap.size ≤ b1 := by rw [e3]; exact (Mod.refl [] w).size
  have M7 := Mod.trans (Mod.refl [] w) (Mod.of_up u5)
  refine wl (sn rfl (cs := (itC y (.slice yA yn yc)).toArray) (T := 35) (V := fun b => .pointer (some ⟨b, 0, none⟩)) (r_box (v := itV y (.slice yA yn yc)) (by kernel_rfl) rfl) ?_)
  intro b8 w9 e10 h11 u12
  have l13 : b1 < b8 := by rw [e10]; exact lt_ob h4
  have g14 : w.heap.size ≤ b8 := by rw [e10]; exact M7.size
  have M15 := Mod.trans M7 (Mod.of_up u12)
  refine was (v := .bool false) ?_
  refine wnil (then_n (wp_seq (rg_lit ?_)))
  refine wl (sv rfl (v := .pointer (some ⟨b1, 0, none⟩)) (r_fieldAddr (u := .pointer (some ⟨b1, 0, none⟩)) (by kernel_rfl) (fun _ => (by kernel_rfl))) ?_)
  have h16 := (up_ob u12 h4)
  refine wl (sv rfl (v := .agg #[.int .i64 x.node.t, .int .i64 x.node.w]) (r_loads (k := 0) (by kernel_rfl) Ty.ag24 Ty.sz24 h16 (by kernel_rfl)) ?_)
  refine wl (sv rfl (v := .pointer (some ⟨b8, 0, none⟩)) (r_fieldAddr (u := .pointer (some ⟨b8, 0, none⟩)) (by kernel_rfl) (fun _ => (by kernel_rfl))) ?_)
  refine wl (sv rfl (v := .agg #[.int .i64 y.node.t, .int .i64 y.node.w]) (r_loads (k := 0) (by kernel_rfl) Ty.ag24 Ty.sz24 h11 (by kernel_rfl)) ?_)
  refine wl (sb rfl (r_eqS (a := x.node.t) (b := x.node.w) (c := y.node.t) (e := y.node.w) (by kernel_rfl) (by kernel_rfl)) ?_)
  intro b17 k18
  refine wmv (v := .bool b17) ?_
  refine bcase b17 (fun v19 => ?_) (fun v19 => ?_)
  ·
   have p20 := of_decide_eq_false (k18.trans v19)
   refine wl (sp (wf (b := b17) rfl (by kernel_rfl) v19) ?_)
   refine wl (sp (wf (b := b17) rfl (by kernel_rfl) v19) ?_)
   refine wl (sp (wf (b := b17) rfl (by kernel_rfl) v19) ?_)
   refine wl (sp (wf (b := b17) rfl (by kernel_rfl) v19) ?_)
   refine wl (sp (wf (b := b17) rfl (by kernel_rfl) v19) ?_)
   refine wl (sv rfl (v := .bool false) (r_pkF (ebool (b := b17) (by kernel_rfl) v19) (by kernel_rfl)) ?_)
   refine wmv (v := .bool false) ?_
   refine wsp ?_
   refine wsp ?_
   refine wsp ?_
   refine wsp ?_
   refine wsp ?_
   refine wl (sv rfl (v := .bool false) (r_pkF (by kernel_rfl) (by kernel_rfl)) ?_)
   refine wmv (v := .bool false) ?_
   refine wsp ?_
   refine wsp ?_
   refine wsp ?_
   refine wsp ?_
   refine wsp ?_
   refine wl (sv rfl (v := .bool false) (r_pkF (by kernel_rfl) (by kernel_rfl)) ?_)
   refine wmv (v := .bool false) ?_
   refine wsp ?_
   refine wsp ?_
   refine wsp ?_
   refine wsp ?_
   refine wsp ?_
   refine wl (sv rfl (v := .bool false) (r_pkF (by kernel_rfl) (by kernel_rfl)) ?_)
   refine wmv (v := .bool false) ?_
   refine wsp ?_
   refine wsp ?_
   refine wsp ?_
   refine wsp ?_
   refine wsp ?_
   refine wl (sv rfl (v := .bool false) (r_pkF (by kernel_rfl) (by kernel_rfl)) ?_)
   refine wmv (v := .bool false) ?_
   refine wsp ?_
   refine wsp ?_
   refine wsp ?_
   refine wsp ?_
   refine wsp ?_
   refine wl (sv rfl (v := .bool false) (r_pkF (by kernel_rfl) (by kernel_rfl)) ?_)
   refine was (v := .bool false) ?_
   refine wnil (then_n (wp_ret ?_))
   refine bodyPost_ret (v := .bool false) (res1 rfl (rv_t (by kernel_rfl))) (by kernel_rfl) ?_
   exact ⟨ret_bool (decide_eq_false (fun e => p20 (by rw [e]))).symm, (Mod.up M15)⟩
  have p20 := of_decide_eq_true (k18.trans v19)
  refine wl (sv (wt (b := b17) rfl (by kernel_rfl) v19) (v := .pointer (some ⟨b1, 2, none⟩)) (r_fieldAddr (u := .pointer (some ⟨b1, 0, none⟩)) (by kernel_rfl) (fun _ => (by kernel_rfl))) ?_)
  refine wl (sv (wt (b := b17) rfl (by kernel_rfl) v19) (v := .agg #[.int .i64 x.parent.t, .int .i64 x.parent.w]) (r_loads (k := 2) (by kernel_rfl) Ty.ag24 Ty.sz24 h16 (by kernel_rfl)) ?_)
  refine wl (sv (wt (b := b17) rfl (by kernel_rfl) v19) (v := .pointer (some ⟨b8, 2, none⟩)) (r_fieldAddr (u := .pointer (some ⟨b8, 0, none⟩)) (by kernel_rfl) (fun _ => (by kernel_rfl))) ?_)
  refine wl (sv (wt (b := b17) rfl (by kernel_rfl) v19) (v := .agg #[.int .i64 y.parent.t, .int .i64 y.parent.w]) (r_loads (k := 2) (by kernel_rfl) Ty.ag24 Ty.sz24 h11 (by kernel_rfl)) ?_)
  refine wl (sb (wt (b := b17) rfl (by kernel_rfl) v19) (r_eqS (a := x.parent.t) (b := x.parent.w) (c := y.parent.t) (e := y.parent.w) (by kernel_rfl) (by kernel_rfl)) ?_)
  intro b21 k22
  refine wl (sv rfl (v := .bool b21) (r_pkT (ebool (b := b17) (by kernel_rfl) v19) (by kernel_rfl)) ?_)
  refine wmv (v := .bool b21) ?_
  refine bcase b21 (fun v23 => ?_) (fun v23 => ?_)
  ·
   have p24 := of_decide_eq_false (k22.trans v23)
   refine wl (sp (wf (b := b21) rfl (by kernel_rfl) v23) ?_)
   refine wl (sp (wf (b := b21) rfl (by kernel_rfl) v23) ?_)
   refine wl (sp (wf (b := b21) rfl (by kernel_rfl) v23) ?_)
   refine wl (sp (wf (b := b21) rfl (by kernel_rfl) v23) ?_)
   refine wl (sp (wf (b := b21) rfl (by kernel_rfl) v23) ?_)
   refine wl (sv rfl (v := .bool false) (r_pkF (ebool (b := b21) (by kernel_rfl) v23) (by kernel_rfl)) ?_)
   refine wmv (v := .bool false) ?_
   refine wsp ?_
   refine wsp ?_
   refine wsp ?_
   refine wsp ?_
   refine wsp ?_
   refine wl (sv rfl (v := .bool false) (r_pkF (by kernel_rfl) (by kernel_rfl)) ?_)
   refine wmv (v := .bool false) ?_
   refine wsp ?_
   refine wsp ?_
   refine wsp ?_
   refine wsp ?_
   refine wsp ?_
   refine wl (sv rfl (v := .bool false) (r_pkF (by kernel_rfl) (by kernel_rfl)) ?_)
   refine wmv (v := .bool false) ?_
   refine wsp ?_
   refine wsp ?_
   refine wsp ?_
   refine wsp ?_
   refine wsp ?_
   refine wl (sv rfl (v := .bool false) (r_pkF (by kernel_rfl) (by kernel_rfl)) ?_)
   refine wmv (v := .bool false) ?_
   refine wsp ?_
   refine wsp ?_
   refine wsp ?_
   refine wsp ?_
   refine wsp ?_
   refine wl (sv rfl (v := .bool false) (r_pkF (by kernel_rfl) (by kernel_rfl)) ?_)
   refine was (v := .bool false) ?_
   refine wnil (then_n (wp_ret ?_))
   refine bodyPost_ret (v := .bool false) (res1 rfl (rv_t (by kernel_rfl))) (by kernel_rfl) ?_
   exact ⟨ret_bool (decide_eq_false (fun e => p24 (by rw [e]))).symm, (Mod.up M15)⟩
  have p24 := of_decide_eq_true (k22.trans v23)
  refine wl (sv (wt (b := b21) rfl (by kernel_rfl) v23) (v := .pointer (some ⟨b1, 4, none⟩)) (r_fieldAddr (u := .pointer (some ⟨b1, 0, none⟩)) (by kernel_rfl) (fun _ => (by kernel_rfl))) ?_)
  refine wl (sv (wt (b := b21) rfl (by kernel_rfl) v23) (v := .string x.name) (r_load (k := 4) (by kernel_rfl) Ty.ag9 h16 (by kernel_rfl)) ?_)
  refine wl (sv (wt (b := b21) rfl (by kernel_rfl) v23) (v := .pointer (some ⟨b8, 4, none⟩)) (r_fieldAddr (u := .pointer (some ⟨b8, 0, none⟩)) (by kernel_rfl) (fun _ => (by kernel_rfl))) ?_)
  refine wl (sv (wt (b := b21) rfl (by kernel_rfl) v23) (v := .string y.name) (r_load (k := 4) (by kernel_rfl) Ty.ag9 h11 (by kernel_rfl)) ?_)
  refine wl (sb (wt (b := b21) rfl (by kernel_rfl) v23) (r_eqs (m := x.name) (n := y.name) (by kernel_rfl) (by kernel_rfl)) ?_)
  intro b25 k26
  refine wl (sv rfl (v := .bool b25) (r_pkT (ebool (b := b21) (by kernel_rfl) v23) (by kernel_rfl)) ?_)
  refine wmv (v := .bool b25) ?_
  refine bcase b25 (fun v27 => ?_) (fun v27 => ?_)
  ·
   have p28 := of_decide_eq_false (k26.trans v27)
   refine wl (sp (wf (b := b25) rfl (by kernel_rfl) v27) ?_)
   refine wl (sp (wf (b := b25) rfl (by kernel_rfl) v27) ?_)
   refine wl (sp (wf (b := b25) rfl (by kernel_rfl) v27) ?_)
   refine wl (sp (wf (b := b25) rfl (by kernel_rfl) v27) ?_)
   refine wl (sp (wf (b := b25) rfl (by kernel_rfl) v27) ?_)
   refine wl (sv rfl (v := .bool false) (r_pkF (ebool (b := b25) (by kernel_rfl) v27) (by kernel_rfl)) ?_)
   refine wmv (v := .bool false) ?_
   refine wsp ?_
   refine wsp ?_
   refine wsp ?_
   refine wsp ?_
   refine wsp ?_
   refine wl (sv rfl (v := .bool false) (r_pkF (by kernel_rfl) (by kernel_rfl)) ?_)
   refine wmv (v := .bool false) ?_
   refine wsp ?_
   refine wsp ?_
   refine wsp ?_
   refine wsp ?_
   refine wsp ?_
   refine wl (sv rfl (v := .bool false) (r_pkF (by kernel_rfl) (by kernel_rfl)) ?_)
   refine wmv (v := .bool false) ?_
   refine wsp ?_
   refine wsp ?_
   refine wsp ?_
   refine wsp ?_
   refine wsp ?_
   refine wl (sv rfl (v := .bool false) (r_pkF (by kernel_rfl) (by kernel_rfl)) ?_)
   refine was (v := .bool false) ?_
   refine wnil (then_n (wp_ret ?_))
   refine bodyPost_ret (v := .bool false) (res1 rfl (rv_t (by kernel_rfl))) (by kernel_rfl) ?_
   exact ⟨ret_bool (decide_eq_false (fun e => p28 (by rw [e]))).symm, (Mod.up M15)⟩
  have p28 := of_decide_eq_true (k26.trans v27)
  refine wl (sv (wt (b := b25) rfl (by kernel_rfl) v27) (v := .pointer (some ⟨b1, 5, none⟩)) (r_fieldAddr (u := .pointer (some ⟨b1, 0, none⟩)) (by kernel_rfl) (fun _ => (by kernel_rfl))) ?_)
  refine wl (sv (wt (b := b25) rfl (by kernel_rfl) v27) (v := .bool x.dir) (r_load (k := 5) (by kernel_rfl) Ty.ag4 h16 (by kernel_rfl)) ?_)
  refine wl (sv (wt (b := b25) rfl (by kernel_rfl) v27) (v := .pointer (some ⟨b8, 5, none⟩)) (r_fieldAddr (u := .pointer (some ⟨b8, 0, none⟩)) (by kernel_rfl) (fun _ => (by kernel_rfl))) ?_)
  refine wl (sv (wt (b := b25) rfl (by kernel_rfl) v27) (v := .bool y.dir) (r_load (k := 5) (by kernel_rfl) Ty.ag4 h11 (by kernel_rfl)) ?_)
  refine bcase x.dir (fun v29 => ?_) (fun v29 => ?_)
  ·
   refine bcase y.dir (fun v30 => ?_) (fun v30 => ?_)
   ·
    refine wl (sv (wt (b := b25) rfl (by kernel_rfl) v27) (v := .bool true) (r_eqb (a := false) (b := false) Try.underlying4 (ebool (b := x.dir) (by kernel_rfl) v29) (ebool (b := y.dir) (by kernel_rfl) v30)) ?_)
    refine wl (sv rfl (v := .bool true) (r_pkT (ebool (b := b25) (by kernel_rfl) v27) (by kernel_rfl)) ?_)
    refine wmv (v := .bool true) ?_
    refine wl (sv (by kernel_rfl) (v := .pointer (some ⟨b1, 6, none⟩)) (r_fieldAddr (u := .pointer (some ⟨b1, 0, none⟩)) (by kernel_rfl) (fun _ => (by kernel_rfl))) ?_)
    refine wl (sv (by kernel_rfl) (v := .bool x.gone) (r_load (k := 6) (by kernel_rfl) Ty.ag4 h16 (by kernel_rfl)) ?_)
    refine wl (sv (by kernel_rfl) (v := .pointer (some ⟨b8, 6, none⟩)) (r_fieldAddr (u := .pointer (some ⟨b8, 0, none⟩)) (by kernel_rfl) (fun _ => (by kernel_rfl))) ?_)
    refine wl (sv (by kernel_rfl) (v := .bool y.gone) (r_load (k := 6) (by kernel_rfl) Ty.ag4 h11 (by kernel_rfl)) ?_)
    refine bcase x.gone (fun v31 => ?_) (fun v31 => ?_)
    ·
     refine bcase y.gone (fun v32 => ?_) (fun v32 => ?_)
     ·
      refine wl (sv (by kernel_rfl) (v := .bool true) (r_eqb (a := false) (b := false) Try.underlying4 (ebool (b := x.gone) (by kernel_rfl) v31) (ebool (b := y.gone) (by kernel_rfl) v32)) ?_)
      refine wl (sv rfl (v := .bool true) (r_pkT (by kernel_rfl) (by kernel_rfl)) ?_)
      refine wmv (v := .bool true) ?_
      refine wl (sv (by kernel_rfl) (v := .pointer (some ⟨b1, 8, none⟩)) (r_fieldAddr (u := .pointer (some ⟨b1, 0, none⟩)) (by kernel_rfl) (fun _ => (by kernel_rfl))) ?_)
      refine wl (sv (by kernel_rfl) (v := .agg #[.int .i64 x.by_.t, .int .i64 x.by_.w]) (r_loads (k := 8) (by kernel_rfl) Ty.ag24 Ty.sz24 h16 (by kernel_rfl)) ?_)
      refine wl (sv (by kernel_rfl) (v := .pointer (some ⟨b8, 8, none⟩)) (r_fieldAddr (u := .pointer (some ⟨b8, 0, none⟩)) (by kernel_rfl) (fun _ => (by kernel_rfl))) ?_)
      refine wl (sv (by kernel_rfl) (v := .agg #[.int .i64 y.by_.t, .int .i64 y.by_.w]) (r_loads (k := 8) (by kernel_rfl) Ty.ag24 Ty.sz24 h11 (by kernel_rfl)) ?_)
      refine wl (sb (by kernel_rfl) (r_eqS (a := x.by_.t) (b := x.by_.w) (c := y.by_.t) (e := y.by_.w) (by kernel_rfl) (by kernel_rfl)) ?_)
      intro b33 k34
      refine wl (sv rfl (v := .bool b33) (r_pkT (by kernel_rfl) (by kernel_rfl)) ?_)
      refine wmv (v := .bool b33) ?_
      refine bcase b33 (fun v35 => ?_) (fun v35 => ?_)
      ·
       have p36 := of_decide_eq_false (k34.trans v35)
       refine wl (sp (wf (b := b33) rfl (by kernel_rfl) v35) ?_)
       refine wl (sp (wf (b := b33) rfl (by kernel_rfl) v35) ?_)
       refine wl (sp (wf (b := b33) rfl (by kernel_rfl) v35) ?_)
       refine wl (sp (wf (b := b33) rfl (by kernel_rfl) v35) ?_)
       refine wl (sp (wf (b := b33) rfl (by kernel_rfl) v35) ?_)
       refine wl (sv rfl (v := .bool false) (r_pkF (ebool (b := b33) (by kernel_rfl) v35) (by kernel_rfl)) ?_)
       refine was (v := .bool false) ?_
       refine wnil (then_n (wp_ret ?_))
       refine bodyPost_ret (v := .bool false) (res1 rfl (rv_t (by kernel_rfl))) (by kernel_rfl) ?_
       exact ⟨ret_bool (decide_eq_false (fun e => p36 (by rw [e]))).symm, (Mod.up M15)⟩
      have p36 := of_decide_eq_true (k34.trans v35)
      refine wl (sv (wt (b := b33) rfl (by kernel_rfl) v35) (v := .pointer (some ⟨b1, 7, none⟩)) (r_fieldAddr (u := .pointer (some ⟨b1, 0, none⟩)) (by kernel_rfl) (fun _ => (by kernel_rfl))) ?_)
      refine wl (sv (wt (b := b33) rfl (by kernel_rfl) v35) (v := .slice xA xn xc) (r_load (k := 7) (by kernel_rfl) Ty.ag33 h16 (by kernel_rfl)) ?_)
      refine wl (sv (wt (b := b33) rfl (by kernel_rfl) v35) (v := .pointer (some ⟨b8, 7, none⟩)) (r_fieldAddr (u := .pointer (some ⟨b8, 0, none⟩)) (by kernel_rfl) (fun _ => (by kernel_rfl))) ?_)
      refine wl (sv (wt (b := b33) rfl (by kernel_rfl) v35) (v := .slice yA yn yc) (r_load (k := 7) (by kernel_rfl) Ty.ag33 h11 (by kernel_rfl)) ?_)
      have h37 := (Dat.up hx (Mod.up M15))
      have h38 := (Dat.up hy (Mod.up M15))
      refine wl (sc (wt (b := b33) rfl (by kernel_rfl) v35) (r_callv (caps := []) (all := [.slice xA xn xc, .slice yA yn yc]) En.f102 (by kernel_rfl) (by kernel_rfl)) (bequal_at h37 h38) ?_)
      rintro e w39 ⟨rfl, u40⟩
      refine ⟨.bool ((decide (x.data = y.data))), rfl, ?_⟩
      have M41 := Mod.trans M15 (Mod.of_up u40)
      refine wl (sv rfl (v := .bool ((decide (x.data = y.data)))) (r_pkT (ebool (b := b33) (by kernel_rfl) v35) (by kernel_rfl)) ?_)
      refine was (v := .bool ((decide (x.data = y.data)))) ?_
      refine wnil (then_n (wp_ret ?_))
      refine bodyPost_ret (v := .bool ((decide (x.data = y.data)))) (res1 rfl (rv_t (by kernel_rfl))) (by kernel_rfl) ?_
      exact ⟨ret_bool (item_dec x y p20 p24 p28 (v29.trans v30.symm) (v31.trans v32.symm) p36), (Mod.up M41)⟩
     refine wl (sv (by kernel_rfl) (v := .bool false) (r_eqb (a := false) (b := true) Try.underlying4 (ebool (b := x.gone) (by kernel_rfl) v31) (ebool (b := y.gone) (by kernel_rfl) v32)) ?_)
     refine wl (sv rfl (v := .bool false) (r_pkT (by kernel_rfl) (by kernel_rfl)) ?_)
     refine wmv (v := .bool false) ?_
     refine wsp ?_
     refine wsp ?_
     refine wsp ?_
     refine wsp ?_
     refine wsp ?_
     refine wl (sv rfl (v := .bool false) (r_pkF (by kernel_rfl) (by kernel_rfl)) ?_)
     refine wmv (v := .bool false) ?_
     refine wsp ?_
     refine wsp ?_
     refine wsp ?_
     refine wsp ?_
     refine wsp ?_
     refine wl (sv rfl (v := .bool false) (r_pkF (by kernel_rfl) (by kernel_rfl)) ?_)
     refine was (v := .bool false) ?_
     refine wnil (then_n (wp_ret ?_))
     refine bodyPost_ret (v := .bool false) (res1 rfl (rv_t (by kernel_rfl))) (by kernel_rfl) ?_
     refine ⟨ret_bool (decide_eq_false (fun e => ?_)).symm, (Mod.up M15)⟩
     rw [e, v32] at v31; cases v31
    refine bcase y.gone (fun v32 => ?_) (fun v32 => ?_)
    ·
     refine wl (sv (by kernel_rfl) (v := .bool false) (r_eqb (a := true) (b := false) Try.underlying4 (ebool (b := x.gone) (by kernel_rfl) v31) (ebool (b := y.gone) (by kernel_rfl) v32)) ?_)
     refine wl (sv rfl (v := .bool false) (r_pkT (by kernel_rfl) (by kernel_rfl)) ?_)
     refine wmv (v := .bool false) ?_
     refine wsp ?_
     refine wsp ?_
     refine wsp ?_
     refine wsp ?_
     refine wsp ?_
     refine wl (sv rfl (v := .bool false) (r_pkF (by kernel_rfl) (by kernel_rfl)) ?_)
     refine wmv (v := .bool false) ?_
     refine wsp ?_
     refine wsp ?_
     refine wsp ?_
     refine wsp ?_
     refine wsp ?_
     refine wl (sv rfl (v := .bool false) (r_pkF (by kernel_rfl) (by kernel_rfl)) ?_)
     refine was (v := .bool false) ?_
     refine wnil (then_n (wp_ret ?_))
     refine bodyPost_ret (v := .bool false) (res1 rfl (rv_t (by kernel_rfl))) (by kernel_rfl) ?_
     refine ⟨ret_bool (decide_eq_false (fun e => ?_)).symm, (Mod.up M15)⟩
     rw [e, v32] at v31; cases v31
    refine wl (sv (by kernel_rfl) (v := .bool true) (r_eqb (a := true) (b := true) Try.underlying4 (ebool (b := x.gone) (by kernel_rfl) v31) (ebool (b := y.gone) (by kernel_rfl) v32)) ?_)
    refine wl (sv rfl (v := .bool true) (r_pkT (by kernel_rfl) (by kernel_rfl)) ?_)
    refine wmv (v := .bool true) ?_
    refine wl (sv (by kernel_rfl) (v := .pointer (some ⟨b1, 8, none⟩)) (r_fieldAddr (u := .pointer (some ⟨b1, 0, none⟩)) (by kernel_rfl) (fun _ => (by kernel_rfl))) ?_)
    refine wl (sv (by kernel_rfl) (v := .agg #[.int .i64 x.by_.t, .int .i64 x.by_.w]) (r_loads (k := 8) (by kernel_rfl) Ty.ag24 Ty.sz24 h16 (by kernel_rfl)) ?_)
    refine wl (sv (by kernel_rfl) (v := .pointer (some ⟨b8, 8, none⟩)) (r_fieldAddr (u := .pointer (some ⟨b8, 0, none⟩)) (by kernel_rfl) (fun _ => (by kernel_rfl))) ?_)
    refine wl (sv (by kernel_rfl) (v := .agg #[.int .i64 y.by_.t, .int .i64 y.by_.w]) (r_loads (k := 8) (by kernel_rfl) Ty.ag24 Ty.sz24 h11 (by kernel_rfl)) ?_)
    refine wl (sb (by kernel_rfl) (r_eqS (a := x.by_.t) (b := x.by_.w) (c := y.by_.t) (e := y.by_.w) (by kernel_rfl) (by kernel_rfl)) ?_)
    intro b33 k34
    refine wl (sv rfl (v := .bool b33) (r_pkT (by kernel_rfl) (by kernel_rfl)) ?_)
    refine wmv (v := .bool b33) ?_
    refine bcase b33 (fun v35 => ?_) (fun v35 => ?_)
    ·
     have p36 := of_decide_eq_false (k34.trans v35)
     refine wl (sp (wf (b := b33) rfl (by kernel_rfl) v35) ?_)
     refine wl (sp (wf (b := b33) rfl (by kernel_rfl) v35) ?_)
     refine wl (sp (wf (b := b33) rfl (by kernel_rfl) v35) ?_)
     refine wl (sp (wf (b := b33) rfl (by kernel_rfl) v35) ?_)
     refine wl (sp (wf (b := b33) rfl (by kernel_rfl) v35) ?_)
     refine wl (sv rfl (v := .bool false) (r_pkF (ebool (b := b33) (by kernel_rfl) v35) (by kernel_rfl)) ?_)
     refine was (v := .bool false) ?_
     refine wnil (then_n (wp_ret ?_))
     refine bodyPost_ret (v := .bool false) (res1 rfl (rv_t (by kernel_rfl))) (by kernel_rfl) ?_
     exact ⟨ret_bool (decide_eq_false (fun e => p36 (by rw [e]))).symm, (Mod.up M15)⟩
    have p36 := of_decide_eq_true (k34.trans v35)
    refine wl (sv (wt (b := b33) rfl (by kernel_rfl) v35) (v := .pointer (some ⟨b1, 7, none⟩)) (r_fieldAddr (u := .pointer (some ⟨b1, 0, none⟩)) (by kernel_rfl) (fun _ => (by kernel_rfl))) ?_)
    refine wl (sv (wt (b := b33) rfl (by kernel_rfl) v35) (v := .slice xA xn xc) (r_load (k := 7) (by kernel_rfl) Ty.ag33 h16 (by kernel_rfl)) ?_)
    refine wl (sv (wt (b := b33) rfl (by kernel_rfl) v35) (v := .pointer (some ⟨b8, 7, none⟩)) (r_fieldAddr (u := .pointer (some ⟨b8, 0, none⟩)) (by kernel_rfl) (fun _ => (by kernel_rfl))) ?_)
    refine wl (sv (wt (b := b33) rfl (by kernel_rfl) v35) (v := .slice yA yn yc) (r_load (k := 7) (by kernel_rfl) Ty.ag33 h11 (by kernel_rfl)) ?_)
    have h37 := (Dat.up hx (Mod.up M15))
    have h38 := (Dat.up hy (Mod.up M15))
    refine wl (sc (wt (b := b33) rfl (by kernel_rfl) v35) (r_callv (caps := []) (all := [.slice xA xn xc, .slice yA yn yc]) En.f102 (by kernel_rfl) (by kernel_rfl)) (bequal_at h37 h38) ?_)
    rintro e w39 ⟨rfl, u40⟩
    refine ⟨.bool ((decide (x.data = y.data))), rfl, ?_⟩
    have M41 := Mod.trans M15 (Mod.of_up u40)
    refine wl (sv rfl (v := .bool ((decide (x.data = y.data)))) (r_pkT (ebool (b := b33) (by kernel_rfl) v35) (by kernel_rfl)) ?_)
    refine was (v := .bool ((decide (x.data = y.data)))) ?_
    refine wnil (then_n (wp_ret ?_))
    refine bodyPost_ret (v := .bool ((decide (x.data = y.data)))) (res1 rfl (rv_t (by kernel_rfl))) (by kernel_rfl) ?_
    exact ⟨ret_bool (item_dec x y p20 p24 p28 (v29.trans v30.symm) (v31.trans v32.symm) p36), (Mod.up M41)⟩
   refine wl (sv (wt (b := b25) rfl (by kernel_rfl) v27) (v := .bool false) (r_eqb (a := false) (b := true) Try.underlying4 (ebool (b := x.dir) (by kernel_rfl) v29) (ebool (b := y.dir) (by kernel_rfl) v30)) ?_)
   refine wl (sv rfl (v := .bool false) (r_pkT (ebool (b := b25) (by kernel_rfl) v27) (by kernel_rfl)) ?_)
   refine wmv (v := .bool false) ?_
   refine wsp ?_
   refine wsp ?_
   refine wsp ?_
   refine wsp ?_
   refine wsp ?_
   refine wl (sv rfl (v := .bool false) (r_pkF (by kernel_rfl) (by kernel_rfl)) ?_)
   refine wmv (v := .bool false) ?_
   refine wsp ?_
   refine wsp ?_
   refine wsp ?_
   refine wsp ?_
   refine wsp ?_
   refine wl (sv rfl (v := .bool false) (r_pkF (by kernel_rfl) (by kernel_rfl)) ?_)
   refine wmv (v := .bool false) ?_
   refine wsp ?_
   refine wsp ?_
   refine wsp ?_
   refine wsp ?_
   refine wsp ?_
   refine wl (sv rfl (v := .bool false) (r_pkF (by kernel_rfl) (by kernel_rfl)) ?_)
   refine was (v := .bool false) ?_
   refine wnil (then_n (wp_ret ?_))
   refine bodyPost_ret (v := .bool false) (res1 rfl (rv_t (by kernel_rfl))) (by kernel_rfl) ?_
   refine ⟨ret_bool (decide_eq_false (fun e => ?_)).symm, (Mod.up M15)⟩
   rw [e, v30] at v29; cases v29
  refine bcase y.dir (fun v30 => ?_) (fun v30 => ?_)
  ·
   refine wl (sv (wt (b := b25) rfl (by kernel_rfl) v27) (v := .bool false) (r_eqb (a := true) (b := false) Try.underlying4 (ebool (b := x.dir) (by kernel_rfl) v29) (ebool (b := y.dir) (by kernel_rfl) v30)) ?_)
   refine wl (sv rfl (v := .bool false) (r_pkT (ebool (b := b25) (by kernel_rfl) v27) (by kernel_rfl)) ?_)
   refine wmv (v := .bool false) ?_
   refine wsp ?_
   refine wsp ?_
   refine wsp ?_
   refine wsp ?_
   refine wsp ?_
   refine wl (sv rfl (v := .bool false) (r_pkF (by kernel_rfl) (by kernel_rfl)) ?_)
   refine wmv (v := .bool false) ?_
   refine wsp ?_
   refine wsp ?_
   refine wsp ?_
   refine wsp ?_
   refine wsp ?_
   refine wl (sv rfl (v := .bool false) (r_pkF (by kernel_rfl) (by kernel_rfl)) ?_)
   refine wmv (v := .bool false) ?_
   refine wsp ?_
   refine wsp ?_
   refine wsp ?_
   refine wsp ?_
   refine wsp ?_
   refine wl (sv rfl (v := .bool false) (r_pkF (by kernel_rfl) (by kernel_rfl)) ?_)
   refine was (v := .bool false) ?_
   refine wnil (then_n (wp_ret ?_))
   refine bodyPost_ret (v := .bool false) (res1 rfl (rv_t (by kernel_rfl))) (by kernel_rfl) ?_
   refine ⟨ret_bool (decide_eq_false (fun e => ?_)).symm, (Mod.up M15)⟩
   rw [e, v30] at v29; cases v29
  refine wl (sv (wt (b := b25) rfl (by kernel_rfl) v27) (v := .bool true) (r_eqb (a := true) (b := true) Try.underlying4 (ebool (b := x.dir) (by kernel_rfl) v29) (ebool (b := y.dir) (by kernel_rfl) v30)) ?_)
  refine wl (sv rfl (v := .bool true) (r_pkT (ebool (b := b25) (by kernel_rfl) v27) (by kernel_rfl)) ?_)
  refine wmv (v := .bool true) ?_
  refine wl (sv (by kernel_rfl) (v := .pointer (some ⟨b1, 6, none⟩)) (r_fieldAddr (u := .pointer (some ⟨b1, 0, none⟩)) (by kernel_rfl) (fun _ => (by kernel_rfl))) ?_)
  refine wl (sv (by kernel_rfl) (v := .bool x.gone) (r_load (k := 6) (by kernel_rfl) Ty.ag4 h16 (by kernel_rfl)) ?_)
  refine wl (sv (by kernel_rfl) (v := .pointer (some ⟨b8, 6, none⟩)) (r_fieldAddr (u := .pointer (some ⟨b8, 0, none⟩)) (by kernel_rfl) (fun _ => (by kernel_rfl))) ?_)
  refine wl (sv (by kernel_rfl) (v := .bool y.gone) (r_load (k := 6) (by kernel_rfl) Ty.ag4 h11 (by kernel_rfl)) ?_)
  refine bcase x.gone (fun v31 => ?_) (fun v31 => ?_)
  ·
   refine bcase y.gone (fun v32 => ?_) (fun v32 => ?_)
   ·
    refine wl (sv (by kernel_rfl) (v := .bool true) (r_eqb (a := false) (b := false) Try.underlying4 (ebool (b := x.gone) (by kernel_rfl) v31) (ebool (b := y.gone) (by kernel_rfl) v32)) ?_)
    refine wl (sv rfl (v := .bool true) (r_pkT (by kernel_rfl) (by kernel_rfl)) ?_)
    refine wmv (v := .bool true) ?_
    refine wl (sv (by kernel_rfl) (v := .pointer (some ⟨b1, 8, none⟩)) (r_fieldAddr (u := .pointer (some ⟨b1, 0, none⟩)) (by kernel_rfl) (fun _ => (by kernel_rfl))) ?_)
    refine wl (sv (by kernel_rfl) (v := .agg #[.int .i64 x.by_.t, .int .i64 x.by_.w]) (r_loads (k := 8) (by kernel_rfl) Ty.ag24 Ty.sz24 h16 (by kernel_rfl)) ?_)
    refine wl (sv (by kernel_rfl) (v := .pointer (some ⟨b8, 8, none⟩)) (r_fieldAddr (u := .pointer (some ⟨b8, 0, none⟩)) (by kernel_rfl) (fun _ => (by kernel_rfl))) ?_)
    refine wl (sv (by kernel_rfl) (v := .agg #[.int .i64 y.by_.t, .int .i64 y.by_.w]) (r_loads (k := 8) (by kernel_rfl) Ty.ag24 Ty.sz24 h11 (by kernel_rfl)) ?_)
    refine wl (sb (by kernel_rfl) (r_eqS (a := x.by_.t) (b := x.by_.w) (c := y.by_.t) (e := y.by_.w) (by kernel_rfl) (by kernel_rfl)) ?_)
    intro b33 k34
    refine wl (sv rfl (v := .bool b33) (r_pkT (by kernel_rfl) (by kernel_rfl)) ?_)
    refine wmv (v := .bool b33) ?_
    refine bcase b33 (fun v35 => ?_) (fun v35 => ?_)
    ·
     have p36 := of_decide_eq_false (k34.trans v35)
     refine wl (sp (wf (b := b33) rfl (by kernel_rfl) v35) ?_)
     refine wl (sp (wf (b := b33) rfl (by kernel_rfl) v35) ?_)
     refine wl (sp (wf (b := b33) rfl (by kernel_rfl) v35) ?_)
     refine wl (sp (wf (b := b33) rfl (by kernel_rfl) v35) ?_)
     refine wl (sp (wf (b := b33) rfl (by kernel_rfl) v35) ?_)
     refine wl (sv rfl (v := .bool false) (r_pkF (ebool (b := b33) (by kernel_rfl) v35) (by kernel_rfl)) ?_)
     refine was (v := .bool false) ?_
     refine wnil (then_n (wp_ret ?_))
     refine bodyPost_ret (v := .bool false) (res1 rfl (rv_t (by kernel_rfl))) (by kernel_rfl) ?_
     exact ⟨ret_bool (decide_eq_false (fun e => p36 (by rw [e]))).symm, (Mod.up M15)⟩
    have p36 := of_decide_eq_true (k34.trans v35)
    refine wl (sv (wt (b := b33) rfl (by kernel_rfl) v35) (v := .pointer (some ⟨b1, 7, none⟩)) (r_fieldAddr (u := .pointer (some ⟨b1, 0, none⟩)) (by kernel_rfl) (fun _ => (by kernel_rfl))) ?_)
    refine wl (sv (wt (b := b33) rfl (by kernel_rfl) v35) (v := .slice xA xn xc) (r_load (k := 7) (by kernel_rfl) Ty.ag33 h16 (by kernel_rfl)) ?_)
    refine wl (sv (wt (b := b33) rfl (by kernel_rfl) v35) (v := .pointer (some ⟨b8, 7, none⟩)) (r_fieldAddr (u := .pointer (some ⟨b8, 0, none⟩)) (by kernel_rfl) (fun _ => (by kernel_rfl))) ?_)
    refine wl (sv (wt (b := b33) rfl (by kernel_rfl) v35) (v := .slice yA yn yc) (r_load (k := 7) (by kernel_rfl) Ty.ag33 h11 (by kernel_rfl)) ?_)
    have h37 := (Dat.up hx (Mod.up M15))
    have h38 := (Dat.up hy (Mod.up M15))
    refine wl (sc (wt (b := b33) rfl (by kernel_rfl) v35) (r_callv (caps := []) (all := [.slice xA xn xc, .slice yA yn yc]) En.f102 (by kernel_rfl) (by kernel_rfl)) (bequal_at h37 h38) ?_)
    rintro e w39 ⟨rfl, u40⟩
    refine ⟨.bool ((decide (x.data = y.data))), rfl, ?_⟩
    have M41 := Mod.trans M15 (Mod.of_up u40)
    refine wl (sv rfl (v := .bool ((decide (x.data = y.data)))) (r_pkT (ebool (b := b33) (by kernel_rfl) v35) (by kernel_rfl)) ?_)
    refine was (v := .bool ((decide (x.data = y.data)))) ?_
    refine wnil (then_n (wp_ret ?_))
    refine bodyPost_ret (v := .bool ((decide (x.data = y.data)))) (res1 rfl (rv_t (by kernel_rfl))) (by kernel_rfl) ?_
    exact ⟨ret_bool (item_dec x y p20 p24 p28 (v29.trans v30.symm) (v31.trans v32.symm) p36), (Mod.up M41)⟩
   refine wl (sv (by kernel_rfl) (v := .bool false) (r_eqb (a := false) (b := true) Try.underlying4 (ebool (b := x.gone) (by kernel_rfl) v31) (ebool (b := y.gone) (by kernel_rfl) v32)) ?_)
   refine wl (sv rfl (v := .bool false) (r_pkT (by kernel_rfl) (by kernel_rfl)) ?_)
   refine wmv (v := .bool false) ?_
   refine wsp ?_
   refine wsp ?_
   refine wsp ?_
   refine wsp ?_
   refine wsp ?_
   refine wl (sv rfl (v := .bool false) (r_pkF (by kernel_rfl) (by kernel_rfl)) ?_)
   refine wmv (v := .bool false) ?_
   refine wsp ?_
   refine wsp ?_
   refine wsp ?_
   refine wsp ?_
   refine wsp ?_
   refine wl (sv rfl (v := .bool false) (r_pkF (by kernel_rfl) (by kernel_rfl)) ?_)
   refine was (v := .bool false) ?_
   refine wnil (then_n (wp_ret ?_))
   refine bodyPost_ret (v := .bool false) (res1 rfl (rv_t (by kernel_rfl))) (by kernel_rfl) ?_
   refine ⟨ret_bool (decide_eq_false (fun e => ?_)).symm, (Mod.up M15)⟩
   rw [e, v32] at v31; cases v31
  refine bcase y.gone (fun v32 => ?_) (fun v32 => ?_)
  ·
   refine wl (sv (by kernel_rfl) (v := .bool false) (r_eqb (a := true) (b := false) Try.underlying4 (ebool (b := x.gone) (by kernel_rfl) v31) (ebool (b := y.gone) (by kernel_rfl) v32)) ?_)
   refine wl (sv rfl (v := .bool false) (r_pkT (by kernel_rfl) (by kernel_rfl)) ?_)
   refine wmv (v := .bool false) ?_
   refine wsp ?_
   refine wsp ?_
   refine wsp ?_
   refine wsp ?_
   refine wsp ?_
   refine wl (sv rfl (v := .bool false) (r_pkF (by kernel_rfl) (by kernel_rfl)) ?_)
   refine wmv (v := .bool false) ?_
   refine wsp ?_
   refine wsp ?_
   refine wsp ?_
   refine wsp ?_
   refine wsp ?_
   refine wl (sv rfl (v := .bool false) (r_pkF (by kernel_rfl) (by kernel_rfl)) ?_)
   refine was (v := .bool false) ?_
   refine wnil (then_n (wp_ret ?_))
   refine bodyPost_ret (v := .bool false) (res1 rfl (rv_t (by kernel_rfl))) (by kernel_rfl) ?_
   refine ⟨ret_bool (decide_eq_false (fun e => ?_)).symm, (Mod.up M15)⟩
   rw [e, v32] at v31; cases v31
  refine wl (sv (by kernel_rfl) (v := .bool true) (r_eqb (a := true) (b := true) Try.underlying4 (ebool (b := x.gone) (by kernel_rfl) v31) (ebool (b := y.gone) (by kernel_rfl) v32)) ?_)
  refine wl (sv rfl (v := .bool true) (r_pkT (by kernel_rfl) (by kernel_rfl)) ?_)
  refine wmv (v := .bool true) ?_
  refine wl (sv (by kernel_rfl) (v := .pointer (some ⟨b1, 8, none⟩)) (r_fieldAddr (u := .pointer (some ⟨b1, 0, none⟩)) (by kernel_rfl) (fun _ => (by kernel_rfl))) ?_)
  refine wl (sv (by kernel_rfl) (v := .agg #[.int .i64 x.by_.t, .int .i64 x.by_.w]) (r_loads (k := 8) (by kernel_rfl) Ty.ag24 Ty.sz24 h16 (by kernel_rfl)) ?_)
  refine wl (sv (by kernel_rfl) (v := .pointer (some ⟨b8, 8, none⟩)) (r_fieldAddr (u := .pointer (some ⟨b8, 0, none⟩)) (by kernel_rfl) (fun _ => (by kernel_rfl))) ?_)
  refine wl (sv (by kernel_rfl) (v := .agg #[.int .i64 y.by_.t, .int .i64 y.by_.w]) (r_loads (k := 8) (by kernel_rfl) Ty.ag24 Ty.sz24 h11 (by kernel_rfl)) ?_)
  refine wl (sb (by kernel_rfl) (r_eqS (a := x.by_.t) (b := x.by_.w) (c := y.by_.t) (e := y.by_.w) (by kernel_rfl) (by kernel_rfl)) ?_)
  intro b33 k34
  refine wl (sv rfl (v := .bool b33) (r_pkT (by kernel_rfl) (by kernel_rfl)) ?_)
  refine wmv (v := .bool b33) ?_
  refine bcase b33 (fun v35 => ?_) (fun v35 => ?_)
  ·
   have p36 := of_decide_eq_false (k34.trans v35)
   refine wl (sp (wf (b := b33) rfl (by kernel_rfl) v35) ?_)
   refine wl (sp (wf (b := b33) rfl (by kernel_rfl) v35) ?_)
   refine wl (sp (wf (b := b33) rfl (by kernel_rfl) v35) ?_)
   refine wl (sp (wf (b := b33) rfl (by kernel_rfl) v35) ?_)
   refine wl (sp (wf (b := b33) rfl (by kernel_rfl) v35) ?_)
   refine wl (sv rfl (v := .bool false) (r_pkF (ebool (b := b33) (by kernel_rfl) v35) (by kernel_rfl)) ?_)
   refine was (v := .bool false) ?_
   refine wnil (then_n (wp_ret ?_))
   refine bodyPost_ret (v := .bool false) (res1 rfl (rv_t (by kernel_rfl))) (by kernel_rfl) ?_
   exact ⟨ret_bool (decide_eq_false (fun e => p36 (by rw [e]))).symm, (Mod.up M15)⟩
  have p36 := of_decide_eq_true (k34.trans v35)
  refine wl (sv (wt (b := b33) rfl (by kernel_rfl) v35) (v := .pointer (some ⟨b1, 7, none⟩)) (r_fieldAddr (u := .pointer (some ⟨b1, 0, none⟩)) (by kernel_rfl) (fun _ => (by kernel_rfl))) ?_)
  refine wl (sv (wt (b := b33) rfl (by kernel_rfl) v35) (v := .slice xA xn xc) (r_load (k := 7) (by kernel_rfl) Ty.ag33 h16 (by kernel_rfl)) ?_)
  refine wl (sv (wt (b := b33) rfl (by kernel_rfl) v35) (v := .pointer (some ⟨b8, 7, none⟩)) (r_fieldAddr (u := .pointer (some ⟨b8, 0, none⟩)) (by kernel_rfl) (fun _ => (by kernel_rfl))) ?_)
  refine wl (sv (wt (b := b33) rfl (by kernel_rfl) v35) (v := .slice yA yn yc) (r_load (k := 7) (by kernel_rfl) Ty.ag33 h11 (by kernel_rfl)) ?_)
  have h37 := (Dat.up hx (Mod.up M15))
  have h38 := (Dat.up hy (Mod.up M15))
  refine wl (sc (wt (b := b33) rfl (by kernel_rfl) v35) (r_callv (caps := []) (all := [.slice xA xn xc, .slice yA yn yc]) En.f102 (by kernel_rfl) (by kernel_rfl)) (bequal_at h37 h38) ?_)
  rintro e w39 ⟨rfl, u40⟩
  refine ⟨.bool ((decide (x.data = y.data))), rfl, ?_⟩
  have M41 := Mod.trans M15 (Mod.of_up u40)
  refine wl (sv rfl (v := .bool ((decide (x.data = y.data)))) (r_pkT (ebool (b := b33) (by kernel_rfl) v35) (by kernel_rfl)) ?_)
  refine was (v := .bool ((decide (x.data = y.data)))) ?_
  refine wnil (then_n (wp_ret ?_))
  refine bodyPost_ret (v := .bool ((decide (x.data = y.data)))) (res1 rfl (rv_t (by kernel_rfl))) (by kernel_rfl) ?_
  exact ⟨ret_bool (item_dec x y p20 p24 p28 (v29.trans v30.symm) (v31.trans v32.symm) p36), (Mod.up M41)⟩
set_option maxHeartbeats 2000000 in
theorem equalM_at {B : Nat} {w : World} {ma mb : Nat} {L M : List Item} (h1 : MapIs B w ma L) (h2 : MapIs B w mb M) :
    Calls Try.prog 73 #[.map (some ma), .map (some mb), .func (.func 74) #[] #[]] w fun e w' => e = .returned (.bool (decide (L = M))) ∧ Up w w' := by
  have hs1 := h1.srt
  have hs2 := h2.srt
  obtain ⟨es1, clk1, ks1, hm1, hcome, hks, hnd, hbn, hent⟩ := h1.ents
  go_enter Try.func73, Try.ntmps73
  refine wp_seq (rg_lit ?_)
  refine was (v := .bool false) ?_
  refine wnil (then_n (wp_seq (wp_seq (rg_lit ?_))))
  refine wmv (v := .map (some ma)) ?_
  refine wl (sv rfl (v := .int .i64 ((L.length : Int))) (r_lenM h1 (by kernel_rfl)) ?_)
  refine wmv (v := .map (some mb)) ?_
  refine wl (sv rfl (v := .int .i64 ((M.length : Int))) (r_lenM h2 (by kernel_rfl)) ?_)
  refine wl (sb rfl (r_ne (k := .i64) (m := ((L.length : Int))) (n := ((M.length : Int))) (by kernel_rfl) (by kernel_rfl)) ?_)
  intro b1 k2
  refine wnil (then_n ?_)
  refine bcase b1 (fun v3 => ?_) (fun v3 => ?_)
  ·
   have p4 := of_decide_eq_false (k2.trans v3)
   refine wp_cond_false (ebool (b := b1) (by kernel_rfl) v3) ?_
   refine wp_skip (then_n (wp_seq (wp_seq (rg_lit ?_))))
   refine wmv (v := .map (some ma)) ?_
   refine wl (stRange rfl (by kernel_rfl) Ty.un85 hm1 ?_)
   intro it w5 e6 h7 u8
   have l9 : ma < it := by rw [e6]; exact lt_ob hm1
   have g10 : w.heap.size ≤ it := by rw [e6]; exact (Mod.refl [] w).size
   have M11 := Mod.trans (Mod.refl [] w) (Mod.of_up u8)
   refine wnil (then_n (wp_block ?_))
   have h12 := md_ob M11 nin0 hm1
   have h13 := (MapIs.up h1 (Mod.up M11))
   have h14 := (MapIs.up h2 (Mod.up M11))
   refine lp (fun n a r1 => ∃ (seen : Array Nat) (c0 : Nat) (sq : List Stamp) (z6 z7 z8 z9 z10 z18 z19 z20 z21 z22 z23 z24 z25 z26 z27 z28 z29 z30 z31 z32 z33 z34 z35 z36 z37 : Value), (n = (leftOf es1 seen).size) ∧ (a = ⟨#[.map (some ma), .map (some mb), .func (.func 74) #[] #[], undef, undef, undef, z6, z7, z8, z9, z10, .map (some ma), .int .i64 ((L.length : Int)), .map (some mb), .int .i64 ((M.length : Int)), .bool b1, .map (some ma), .pointer (some ⟨it, 0, none⟩), z18, z19, z20, z21, z22, z23, z24, z25, z26, z27, z28, z29, z30, z31, z32, z33, z34, z35, z36, z37], []⟩) ∧ (Mod [it] w5 r1) ∧ (r1.heap[it]? = some (.mapIter (some ma) clk1 seen c0)) ∧ (clk1 ≤ c0) ∧ (Come es1 ks1 seen sq) ∧ (Both L M sq)) ⟨_, #[], clk1, [], .bool false, undef, undef, undef, undef, undef, undef, undef, undef, undef, undef, undef, undef, undef, undef, undef, undef, undef, undef, undef, undef, undef, undef, undef, undef, rfl, (by kernel_rfl), Mod.refl _ _, h7, (Nat.le_refl _), hcome, (fun n hn => by cases hn)⟩ ?_
   rintro _ _ r1 ⟨seen, c0, sq, z6, z7, z8, z9, z10, z18, z19, z20, z21, z22, z23, z24, z25, z26, z27, z28, z29, z30, z31, z32, z33, z34, z35, z36, z37, rfl, rfl, hM1, hF1_0, hF1_1, hF1_2, hF1_3⟩
   have M15 := Mod.thin M11 hM1 (fun y hy => by simp only [List.mem_cons, List.not_mem_nil, or_false] at hy; subst hy; exact .inr g10)
   refine wp_seq (rg_lit ?_)
   have h16 := md_ob M15 nin0 hm1
   refine wl (stNext rfl (it := it) (r := ma) (since := clk1) (c0 := c0) (seen := seen) (es := es1) (clock := clk1) (by kernel_rfl) hF1_0 h16 hbn hF1_1 ?_ ?_)
   ·
    intro hz0
    refine wl (sv rfl (v := .bool false) (r_extract (vs := [.bool false]) (by kernel_rfl) rfl) ?_)
    refine wnil (then_n (wp_seq ?_))
    refine wp_cond_false (by kernel_rfl) ?_
    refine wp_exit (then_x (by nofun) (then_x (by nofun) (inb_hit (then_n (wp_seq (rg_lit ?_))))))
    refine was (v := .bool true) ?_
    refine wnil (then_n (wp_ret ?_))
    refine bodyPost_ret (v := .bool true) (res1 rfl (rv_t (by kernel_rfl))) (by kernel_rfl) ?_
    exact ⟨ret_bool (decide_eq_true (Both.done hF1_3 hs1 hs2 (Come.done hF1_2 hz0) hks (by omega))).symm, (Mod.up M15)⟩
   ·
    intro e17 he17 w17 hi17 hC17
    have M18 := Mod.trans' M15 hC17 (fun i hi => by injection hi with hi; rw [← hi]; exact g10)
    have M19 := Mod.trans hM1 (Mod.of_chg hC17 (by simp))
    refine wl (sv rfl (v := .bool true) (r_extract (vs := [.bool true, e17.key, e17.val]) (by kernel_rfl) rfl) ?_)
    refine wnil (then_n (wp_seq ?_))
    refine wp_cond_true (by kernel_rfl) ?_
    refine wp_skip (then_n (wp_block (wp_seq (rg_lit ?_))))
    have h20 := md_ob M18 nin0 hm1
    obtain ⟨x17, A17, n17, c17, hx17, hk17, hv17, hD17⟩ := hent e17 (left_mem he17)
    refine wl (sv rfl (v := .tuple #[.agg #[.int .i64 x17.node.t, .int .i64 x17.node.w], itV x17 (.slice A17 n17 c17)]) (r_entry (u := .agg #[.int .i64 x17.node.t, .int .i64 x17.node.w]) (v := itV x17 (.slice A17 n17 c17)) (by kernel_rfl) hi17 h20 (left_mem he17) hnd hk17 hv17) ?_)
    refine wl (sv rfl (v := .agg #[.int .i64 x17.node.t, .int .i64 x17.node.w]) (r_extract (vs := [.agg #[.int .i64 x17.node.t, .int .i64 x17.node.w], itV x17 (.slice A17 n17 c17)]) (by kernel_rfl) rfl) ?_)
    refine wl (sv rfl (v := itV x17 (.slice A17 n17 c17)) (r_extract (vs := [.agg #[.int .i64 x17.node.t, .int .i64 x17.node.w], itV x17 (.slice A17 n17 c17)]) (by kernel_rfl) rfl) ?_)
    refine wl (sn rfl (cs := #[.int .i64 0, .int .i64 0]) (T := 24) (V := fun b => .pointer (some ⟨b, 0, none⟩)) (r_alloc Ty.zv24 rfl) ?_)
    intro b21 w22 e23 h24 u25
    have l26 : ma < b21 := by rw [e23]; exact lt_ob h20
    have l27 : it < b21 := by rw [e23]; exact lt_ob hi17
    have g28 : w.heap.size ≤ b21 := by rw [e23]; exact M18.size
    have g29 : w5.heap.size ≤ b21 := by rw [e23]; exact M19.size
    have M30 := Mod.trans M18 (Mod.of_up u25)
    have M31 := Mod.trans M19 (Mod.of_up u25)
    refine wl (sn rfl (cs := #[.int .i64 0, .int .i64 0, .int .i64 0, .int .i64 0, .string (⟨#[]⟩), .bool false, .bool false, .slice none 0 0, .int .i64 0, .int .i64 0]) (T := 35) (V := fun b => .pointer (some ⟨b, 0, none⟩)) (r_alloc Ty.zv35 rfl) ?_)
    intro b32 w33 e34 h35 u36
    have h37 := md_ob M30 nin0 hm1
    have l38 : ma < b32 := by rw [e34]; exact lt_ob h37
    have h39 := (up_ob u25 hi17)
    have l40 : it < b32 := by rw [e34]; exact lt_ob h39
    have l41 : b21 < b32 := by rw [e34]; exact lt_ob h24
    have g42 : w.heap.size ≤ b32 := by rw [e34]; exact M30.size
    have g43 : w5.heap.size ≤ b32 := by rw [e34]; exact M31.size
    have M44 := Mod.trans M30 (Mod.of_up u36)
    have M45 := Mod.trans M31 (Mod.of_up u36)
    have h46 := (up_ob u36 h24)
    refine wl (ss rfl (k := 0) (v := .agg #[.int .i64 x17.node.t, .int .i64 x17.node.w]) (vs := [.int .i64 x17.node.t, .int .i64 x17.node.w]) (cs' := [.int .i64 x17.node.t, .int .i64 x17.node.w]) (by kernel_rfl) (by kernel_rfl) rfl Ty.sz24 h46 rfl (Nat.le_of_ble_eq_true rfl) rfl ?_)
    intro w47 h48 c49
    have M50 := Mod.trans' M44 c49 (fun i hi => by injection hi with hi; rw [← hi]; exact g28)
    have M51 := Mod.trans' M45 c49 (fun i hi => by injection hi with hi; rw [← hi]; exact g29)
    have h52 := (chg_ob c49 (Nat.ne_of_gt l41) h35)
    refine wl (ss rfl (k := 0) (v := itV x17 (.slice A17 n17 c17)) (vs := (itC x17 (.slice A17 n17 c17))) (cs' := (itC x17 (.slice A17 n17 c17))) (by kernel_rfl) (by kernel_rfl) rfl Ty.sz35 h52 rfl (Nat.le_of_ble_eq_true rfl) rfl ?_)
    intro w53 h54 c55
    have M56 := Mod.trans' M50 c55 (fun i hi => by injection hi with hi; rw [← hi]; exact g42)
    have M57 := Mod.trans' M51 c55 (fun i hi => by injection hi with hi; rw [← hi]; exact g43)
    refine wnil (then_n (wp_seq (rg_lit ?_)))
    refine wmv (v := .map (some mb)) ?_
    have h58 := (chg_ob c55 (Nat.ne_of_lt l41) h48)
    refine wl (sv rfl (v := .agg #[.int .i64 x17.node.t, .int .i64 x17.node.w]) (r_loads (k := 0) (by kernel_rfl) Ty.ag24 Ty.sz24 h58 (by kernel_rfl)) ?_)
    have h59 := (MapIs.up h2 (Mod.up M56))
    obtain ⟨d17, hd17, hl17⟩ := MapIs.look h59 x17.node
    obtain ⟨y17, hy17⟩ : ∃ y, gotI M x17.node = y := ⟨_, rfl⟩
    rw [hy17] at hd17 hl17
    obtain ⟨dA17, dn17, dc17, rfl⟩ := hd17.form
    refine wl (sv rfl (v := .tuple #[itV y17 (.slice dA17 dn17 dc17), .bool ((hasI M x17.node))]) (r_look (mv := .map (some mb)) (kv := .agg #[.int .i64 x17.node.t, .int .i64 x17.node.w]) (by kernel_rfl) (by kernel_rfl) (hl17 _ rfl).1) ?_)
    refine wmv (v := .tuple #[itV y17 (.slice dA17 dn17 dc17), .bool ((hasI M x17.node))]) ?_
    refine wl (sv rfl (v := itV y17 (.slice dA17 dn17 dc17)) (r_extract (vs := [itV y17 (.slice dA17 dn17 dc17), .bool ((hasI M x17.node))]) (by kernel_rfl) rfl) ?_)
    refine wl (sv rfl (v := .bool ((hasI M x17.node))) (r_extract (vs := [itV y17 (.slice dA17 dn17 dc17), .bool ((hasI M x17.node))]) (by kernel_rfl) rfl) ?_)
    refine wl (sn rfl (cs := #[.int .i64 0, .int .i64 0, .int .i64 0, .int .i64 0, .string (⟨#[]⟩), .bool false, .bool false, .slice none 0 0, .int .i64 0, .int .i64 0]) (T := 35) (V := fun b => .pointer (some ⟨b, 0, none⟩)) (r_alloc Ty.zv35 rfl) ?_)
    intro b60 w61 e62 h63 u64
    have h65 := md_ob M56 nin0 hm1
    have l66 : ma < b60 := by rw [e62]; exact lt_ob h65
    have h67 := (chg_ob c55 (Nat.ne_of_lt l40) (chg_ob c49 (Nat.ne_of_lt l27) (up_ob u36 h39)))
    have l68 : it < b60 := by rw [e62]; exact lt_ob h67
    have l69 : b21 < b60 := by rw [e62]; exact lt_ob h58
    have l70 : b32 < b60 := by rw [e62]; exact lt_ob h54
    have g71 : w.heap.size ≤ b60 := by rw [e62]; exact M56.size
    have g72 : w5.heap.size ≤ b60 := by rw [e62]; exact M57.size
    have M73 := Mod.trans M56 (Mod.of_up u64)
    have M74 := Mod.trans M57 (Mod.of_up u64)
    refine wl (ss rfl (k := 0) (v := itV y17 (.slice dA17 dn17 dc17)) (vs := (itC y17 (.slice dA17 dn17 dc17))) (cs' := (itC y17 (.slice dA17 dn17 dc17))) (by kernel_rfl) (by kernel_rfl) rfl Ty.sz35 h63 rfl (Nat.le_of_ble_eq_true rfl) rfl ?_)
    intro w75 h76 c77
    have M78 := Mod.trans' M73 c77 (fun i hi => by injection hi with hi; rw [← hi]; exact g71)
    have M79 := Mod.trans' M74 c77 (fun i hi => by injection hi with hi; rw [← hi]; exact g72)
    refine was (v := .bool ((hasI M x17.node))) ?_
    refine wnil (then_n (wp_seq (rg_lit ?_)))
    refine wmv (v := .bool ((hasI M x17.node))) ?_
    refine wl (sv rfl (v := .bool (!((hasI M x17.node)))) (r_not (b := ((hasI M x17.node))) (by kernel_rfl)) ?_)
    refine wmv (v := .bool (!((hasI M x17.node)))) ?_
    refine bcase ((hasI M x17.node)) (fun v80 => ?_) (fun v80 => ?_)
    ·
     refine wl (sp (wf (b := !((hasI M x17.node))) rfl (by kernel_rfl) (bneg v80)) ?_)
     refine wl (sp (wf (b := !((hasI M x17.node))) rfl (by kernel_rfl) (bneg v80)) ?_)
     refine wl (sp (wf (b := !((hasI M x17.node))) rfl (by kernel_rfl) (bneg v80)) ?_)
     refine wl (sp (wf (b := !((hasI M x17.node))) rfl (by kernel_rfl) (bneg v80)) ?_)
     refine wl (sp (wf (b := !((hasI M x17.node))) rfl (by kernel_rfl) (bneg v80)) ?_)
     refine wl (sv rfl (v := .bool true) (r_pkT (ebool (b := !((hasI M x17.node))) (by kernel_rfl) (bneg v80)) (by kernel_rfl)) ?_)
     refine wnil (then_n ?_)
     refine wp_cond_true (by kernel_rfl) ?_
     refine wp_seq (rg_lit ?_)
     refine was (v := .bool false) ?_
     refine wnil (then_n (wp_ret (inb_r (then_x (by nofun) (inb_r (then_x (by nofun) ?_))))))
     refine bodyPost_ret (v := .bool false) (res1 rfl (rv_t (by kernel_rfl))) (by kernel_rfl) ?_
     exact ⟨ret_bool (decide_eq_false (both_no hx17 v80)).symm, (Mod.up M78)⟩
    refine wl (sv (wt (b := !((hasI M x17.node))) rfl (by kernel_rfl) (bneg v80)) (v := .func (.func 74) #[] #[]) (r_move (by kernel_rfl)) ?_)
    have h81 := (chg_ob c77 (Nat.ne_of_lt l70) (up_ob u64 h54))
    refine wl (sv (wt (b := !((hasI M x17.node))) rfl (by kernel_rfl) (bneg v80)) (v := itV x17 (.slice A17 n17 c17)) (r_loads (k := 0) (by kernel_rfl) Ty.ag35 Ty.sz35 h81 (by kernel_rfl)) ?_)
    refine wl (sv (wt (b := !((hasI M x17.node))) rfl (by kernel_rfl) (bneg v80)) (v := itV y17 (.slice dA17 dn17 dc17)) (r_loads (k := 0) (by kernel_rfl) Ty.ag35 Ty.sz35 h76 (by kernel_rfl)) ?_)
    have h82 := (Dat.up hD17 (Mod.up M78))
    have h83 := (Dat.up hd17 (up_chgn u64 c77 (by rw [e62]; exact Nat.le_refl _)))
    refine wl (sc (wt (b := !((hasI M x17.node))) rfl (by kernel_rfl) (bneg v80)) (r_callv (caps := []) (all := [itV x17 (.slice A17 n17 c17), itV y17 (.slice dA17 dn17 dc17)]) En.f74 (by kernel_rfl) (by kernel_rfl)) (isame_at x17 y17 A17 n17 c17 dA17 dn17 dc17 h82 h83) ?_)
    rintro e w84 ⟨rfl, u85⟩
    refine ⟨.bool ((decide (x17 = y17))), rfl, ?_⟩
    have M86 := Mod.trans M78 (Mod.of_up u85)
    have M87 := Mod.trans M79 (Mod.of_up u85)
    refine wl (sv (wt (b := !((hasI M x17.node))) rfl (by kernel_rfl) (bneg v80)) (v := .bool (!((decide (x17 = y17))))) (r_not (b := ((decide (x17 = y17)))) (by kernel_rfl)) ?_)
    refine wl (sv rfl (v := .bool (!((decide (x17 = y17))))) (r_pkF (ebool (b := !((hasI M x17.node))) (by kernel_rfl) (bneg v80)) (by kernel_rfl)) ?_)
    refine wnil (then_n ?_)
    refine bcase ((decide (x17 = y17))) (fun v88 => ?_) (fun v88 => ?_)
    ·
     refine wp_cond_true (ebool (b := !((decide (x17 = y17)))) (by kernel_rfl) (bneg v88)) ?_
     refine wp_seq (rg_lit ?_)
     refine was (v := .bool false) ?_
     refine wnil (then_n (wp_ret (inb_r (then_x (by nofun) (inb_r (then_x (by nofun) ?_))))))
     refine bodyPost_ret (v := .bool false) (res1 rfl (rv_t (by kernel_rfl))) (by kernel_rfl) ?_
     exact ⟨ret_bool (decide_eq_false (both_ne hs1 hx17 (by rw [hy17]; exact of_decide_eq_false v88))).symm, (Mod.up M86)⟩
    refine wp_cond_false (ebool (b := !((decide (x17 = y17)))) (by kernel_rfl) (bneg v88)) ?_
    refine wp_skip (inb_n (then_n ?_))
    have h89 := (up_ob u85 (chg_ob c77 (Nat.ne_of_lt l68) (up_ob u64 h67)))
    refine ⟨(leftOf es1 ((seen.push e17.born))).size, ?_, (seen.push e17.born), clk1, (sq ++ [x17.node]), z6, .pointer (some ⟨b21, 0, none⟩), .pointer (some ⟨b32, 0, none⟩), .pointer (some ⟨b60, 0, none⟩), .bool ((hasI M x17.node)), .tuple #[.bool true, e17.key, e17.val], .bool true, .tuple #[.agg #[.int .i64 x17.node.t, .int .i64 x17.node.w], itV x17 (.slice A17 n17 c17)], .agg #[.int .i64 x17.node.t, .int .i64 x17.node.w], itV x17 (.slice A17 n17 c17), .tuple #[itV y17 (.slice dA17 dn17 dc17), .bool ((hasI M x17.node))], .map (some mb), .agg #[.int .i64 x17.node.t, .int .i64 x17.node.w], .tuple #[itV y17 (.slice dA17 dn17 dc17), .bool ((hasI M x17.node))], itV y17 (.slice dA17 dn17 dc17), .bool ((hasI M x17.node)), .bool ((hasI M x17.node)), .bool (!((hasI M x17.node))), .bool (!((hasI M x17.node))), .func (.func 74) #[] #[], itV x17 (.slice A17 n17 c17), itV y17 (.slice dA17 dn17 dc17), .bool ((decide (x17 = y17))), .bool (!((decide (x17 = y17)))), .bool (!((decide (x17 = y17)))), rfl, (by kernel_rfl), M87, h89, (Nat.le_refl _), (Come.step hF1_2 hnd he17 hk17), (Both.next hF1_3 hx17 hs2 v80 (by rw [hy17]; exact of_decide_eq_true v88))⟩
    · exact left_less hnd (by assumption)
  have p4 := of_decide_eq_true (k2.trans v3)
  refine wp_cond_true (ebool (b := b1) (by kernel_rfl) v3) ?_
  refine wp_seq (rg_lit ?_)
  refine was (v := .bool false) ?_
  refine wnil (then_n (wp_ret (then_x (by nofun) ?_)))
  refine bodyPost_ret (v := .bool false) (res1 rfl (rv_t (by kernel_rfl))) (by kernel_rfl) ?_
  exact ⟨ret_bool (decide_eq_false (fun e => by rw [e] at p4; exact p4 rfl)).symm, (Mod.up (Mod.refl [] w))⟩
set_option maxHeartbeats 2000000 in
theorem tsame_at {B : Nat} {w : World} {ta ra tb rb : Nat} {L M : List Item} (h1 : TreeIs B w ta ra L) (h2 : TreeIs B w tb rb M) :
    Calls Try.prog 39 #[trP ta, trP tb] w fun e w' => e = .returned (.bool (decide (L = M))) ∧ Up w w' := by
  go_enter Try.func39, Try.ntmps39
  refine wp_seq (rg_lit ?_)
  refine was (v := .bool false) ?_
  refine wnil (then_n (wp_seq (wp_seq (rg_lit ?_))))
  refine wmv (v := .pointer (some ⟨ta, 0, none⟩)) ?_
  refine wl (sv (w' := w) rfl (v := .bool false) (by kernel_rfl) ?_)
  refine wmv (v := .bool false) ?_
  refine wl (sv (by kernel_rfl) (v := .pointer (some ⟨tb, 0, none⟩)) (r_move (by kernel_rfl)) ?_)
  refine wl (sv (w' := w) (by kernel_rfl) (v := .bool false) (by kernel_rfl) ?_)
  refine wl (sv rfl (v := .bool false) (r_pkF (by kernel_rfl) (by kernel_rfl)) ?_)
  refine wnil (then_n ?_)
  refine wp_cond_false (by kernel_rfl) ?_
  refine wp_skip (then_n (wp_seq ?_))
  refine rg_all (by kernel_rfl) (by kernel_rfl) ?_
  refine qmv (v := .pointer (some ⟨ta, 0, none⟩)) ?_
  refine qv rfl (v := .pointer (some ⟨ta, 0, none⟩)) (fun _ _ => r_nilCheck (by kernel_rfl)) ?_
  refine qv rfl (v := .pointer (some ⟨ta, 0, none⟩)) (fun _ _ => r_fieldAddr (u := .pointer (some ⟨ta, 0, none⟩)) (by kernel_rfl) (fun _ => (by kernel_rfl))) ?_
  refine qv rfl (v := .map (some ra)) (fun _ uz => r_load (k := 0) (by kernel_rfl) Ty.ag85 (up_ob uz h1.1) (by kernel_rfl)) ?_
  refine qmv (v := .pointer (some ⟨tb, 0, none⟩)) ?_
  refine qv rfl (v := .pointer (some ⟨tb, 0, none⟩)) (fun _ _ => r_nilCheck (by kernel_rfl)) ?_
  refine qv rfl (v := .pointer (some ⟨tb, 0, none⟩)) (fun _ _ => r_fieldAddr (u := .pointer (some ⟨tb, 0, none⟩)) (by kernel_rfl) (fun _ => (by kernel_rfl))) ?_
  refine qv rfl (v := .map (some rb)) (fun _ uz => r_load (k := 0) (by kernel_rfl) Ty.ag85 (up_ob uz h2.1) (by kernel_rfl)) ?_
  refine qc rfl (v := .bool ((decide (L = M)))) (fun _ _ => r_callv (caps := []) (all := [.map (some ra), .map (some rb), .func (.func 74) #[] #[]]) En.f73 (by kernel_rfl) (by kernel_rfl)) (fun wz uz => equalM_at (TreeIs.up h1 uz).2.2.2.1 (TreeIs.up h2 uz).2.2.2.1) ?_ ?_
  · rintro w1 e w2 hC ⟨rfl, hu⟩; exact ⟨rfl, up_step hC hu⟩
  refine qas (v := .bool ((decide (L = M)))) ?_
  refine qnil ?_
  intro w1 u2
  have M3 := Mod.trans (Mod.refl [] w) (Mod.of_up u2)
  refine then_n (wp_ret ?_)
  refine bodyPost_ret (v := .bool ((decide (L = M)))) (res1 rfl (rv_t (by kernel_rfl))) (by kernel_rfl) ?_
  exact ⟨rfl, (Mod.up M3)⟩
end Go.Proofs.Ytefhfoioeoijlaa

/- GV: printed by gen.py -/
import Derived.Test.YtefhfoioeoijlaaGreatGN
import Derived.Test.YtefhfoioeoijlaaGreatGA0
import Derived.Test.YtefhfoioeoijlaaGreatTyB
set_option linter.unusedVariables false
set_option linter.unusedSimpArgs false
namespace Go.Proofs.YtefhfoioeoijlaaGreat
open Go Go.RowKit Go.Sort
theorem op_dec (x y : OpD) (h1 : x.kind = y.kind) (h2 : (⟨x.at_.t, x.at_.w⟩ : Stamp) = ⟨y.at_.t, y.at_.w⟩) (h3 : (⟨x.node.t, x.node.w⟩ : Stamp) = ⟨y.node.t, y.node.w⟩) (h4 : (⟨x.parent.t, x.parent.w⟩ : Stamp) = ⟨y.parent.t, y.parent.w⟩) (h5 : x.dir = y.dir) (h6 : x.name = y.name) : decide (x.data = y.data) = decide (x = y) := by
  obtain ⟨a, ⟨b, c⟩, ⟨d, e⟩, ⟨f, g⟩, h, i, j⟩ := x
  obtain ⟨a', ⟨b', c'⟩, ⟨d', e'⟩, ⟨f', g'⟩, h', i', j'⟩ := y
  simp only at h1 h2 h3 h4 h5 h6 ⊢
  injection h2 with p1 p2; injection h3 with p3 p4; injection h4 with p5 p6
  subst p1 p2 p3 p4 p5 p6 h1 h5 h6
  simp
set_option maxHeartbeats 2000000 in
theorem r15same_at {B B' : Nat} {w : World} (o p : OpD) (oA pA : Option Addr) (on oc pn pc : Nat) (hx : Dat B w (.slice oA on oc) o.data) (hy : Dat B' w (.slice pA pn pc) p.data) :
    Calls Tryz.prog 27 #[opV o (.slice oA on oc), opV p (.slice pA pn pc)] w fun e w' => e = .returned (.bool (decide (o = p))) ∧ Up w w' := by
  go_enter Tryz.func27, Tryz.ntmps27
  refine wp_seq (rg_lit ?_)
  refine wl (sn rfl (cs := (opC o (.slice oA on oc)).toArray) (T := 38) (V := fun b => .pointer (some ⟨b, 0, none⟩)) (r_box (v := opV o (.slice oA on oc)) (by kernel_rfl) rfl) ?_)
  intro b1 w2 e3 h4 u5
  have g6 : w.heap.size ≤ b1 := by rw [e3]; exact (Mod.refl [] w).size
  have M7 := Mod.trans (Mod.refl [] w) (Mod.of_up u5)
  refine wl (sn rfl (cs := (opC p (.slice pA pn pc)).toArray) (T := 38) (V := fun b => .pointer (some ⟨b, 0, none⟩)) (r_box (v := opV p (.slice pA pn pc)) (by kernel_rfl) rfl) ?_)
  intro b8 w9 e10 h11 u12
  have l13 : b1 < b8 := by rw [e10]; exact lt_ob h4
  have g14 : w.heap.size ≤ b8 := by rw [e10]; exact M7.size
  have M15 := Mod.trans M7 (Mod.of_up u12)
  refine was (v := .bool false) ?_
  refine wnil (then_n (wp_seq (rg_lit ?_)))
  refine wl (sv rfl (v := .pointer (some ⟨b1, 0, none⟩)) (r_fieldAddr (u := .pointer (some ⟨b1, 0, none⟩)) (by kernel_rfl) (fun _ => (by kernel_rfl))) ?_)
  have h16 := (up_ob u12 h4)
  refine wl (sv rfl (v := .int .i64 o.kind) (r_load (k := 0) (by kernel_rfl) Ty.ag3 h16 (by kernel_rfl)) ?_)
  refine wl (sv rfl (v := .pointer (some ⟨b8, 0, none⟩)) (r_fieldAddr (u := .pointer (some ⟨b8, 0, none⟩)) (by kernel_rfl) (fun _ => (by kernel_rfl))) ?_)
  refine wl (sv rfl (v := .int .i64 p.kind) (r_load (k := 0) (by kernel_rfl) Ty.ag3 h11 (by kernel_rfl)) ?_)
  refine wl (sb rfl (r_eq (k := .i64) (m := o.kind) (n := p.kind) (by kernel_rfl) (by kernel_rfl)) ?_)
  intro b17 k18
  refine wmv (v := .bool b17) ?_
  refine bcase b17 (fun v19 => ?_) (fun v19 => ?_)
  ·
   have p20 := of_decide_eq_false (k18.trans v19)
   refine wl (sp (wf (b := b17) rfl (by kernel_rfl) v19) ?_)
   refine wl (sp (wf (b := b17) rfl (by kernel_rfl) v19) ?_)
   refine wl (sp (wf (b := b17) rfl (by kernel_rfl) v19) ?_)
   refine wl (sp (wf (b := b17) rfl (by kernel_rfl) v19) ?_)
   refine wl (sp (wf (b := b17) rfl (by kernel_rfl) v19) ?_)
   refine wl (sv rfl (v := .bool false) (r_pkF (ebool (b := b17) (by kernel_rfl) v19) (by kernel_rfl)) ?_)
   refine wmv (v := .bool false) ?_
   refine wsp ?_
   refine wsp ?_
   refine wsp ?_
   refine wsp ?_
   refine wsp ?_
   refine wl (sv rfl (v := .bool false) (r_pkF (by kernel_rfl) (by kernel_rfl)) ?_)
   refine wmv (v := .bool false) ?_
   refine wsp ?_
   refine wsp ?_
   refine wsp ?_
   refine wsp ?_
   refine wsp ?_
   refine wl (sv rfl (v := .bool false) (r_pkF (by kernel_rfl) (by kernel_rfl)) ?_)
   refine wmv (v := .bool false) ?_
   refine wsp ?_
   refine wsp ?_
   refine wsp ?_
   refine wsp ?_
   refine wsp ?_
   refine wl (sv rfl (v := .bool false) (r_pkF (by kernel_rfl) (by kernel_rfl)) ?_)
   refine wmv (v := .bool false) ?_
   refine wsp ?_
   refine wsp ?_
   refine wsp ?_
   refine wsp ?_
   refine wsp ?_
   refine wl (sv rfl (v := .bool false) (r_pkF (by kernel_rfl) (by kernel_rfl)) ?_)
   refine wmv (v := .bool false) ?_
   refine wsp ?_
   refine wsp ?_
   refine wsp ?_
   refine wsp ?_
   refine wsp ?_
   refine wl (sv rfl (v := .bool false) (r_pkF (by kernel_rfl) (by kernel_rfl)) ?_)
   refine was (v := .bool false) ?_
   refine wnil (then_n (wp_ret ?_))
   refine bodyPost_ret (v := .bool false) (res1 rfl (rv_t (by kernel_rfl))) (by kernel_rfl) ?_
   exact ⟨ret_bool (decide_eq_false (fun e => p20 (by rw [e]))).symm, (Mod.up M15)⟩
  have p20 := of_decide_eq_true (k18.trans v19)
  refine wl (sv (wt (b := b17) rfl (by kernel_rfl) v19) (v := .pointer (some ⟨b1, 1, none⟩)) (r_fieldAddr (u := .pointer (some ⟨b1, 0, none⟩)) (by kernel_rfl) (fun _ => (by kernel_rfl))) ?_)
  refine wl (sv (wt (b := b17) rfl (by kernel_rfl) v19) (v := .agg #[.int .i64 o.at_.t, .int .i64 o.at_.w]) (r_loads (k := 1) (by kernel_rfl) Ty.ag35 Ty.sz35 h16 (by kernel_rfl)) ?_)
  refine wl (sv (wt (b := b17) rfl (by kernel_rfl) v19) (v := .pointer (some ⟨b8, 1, none⟩)) (r_fieldAddr (u := .pointer (some ⟨b8, 0, none⟩)) (by kernel_rfl) (fun _ => (by kernel_rfl))) ?_)
  refine wl (sv (wt (b := b17) rfl (by kernel_rfl) v19) (v := .agg #[.int .i64 p.at_.t, .int .i64 p.at_.w]) (r_loads (k := 1) (by kernel_rfl) Ty.ag35 Ty.sz35 h11 (by kernel_rfl)) ?_)
  refine wl (sb (wt (b := b17) rfl (by kernel_rfl) v19) (r_eqS (a := o.at_.t) (b := o.at_.w) (c := p.at_.t) (e := p.at_.w) (by kernel_rfl) (by kernel_rfl)) ?_)
  intro b21 k22
  refine wl (sv rfl (v := .bool b21) (r_pkT (ebool (b := b17) (by kernel_rfl) v19) (by kernel_rfl)) ?_)
  refine wmv (v := .bool b21) ?_
  refine bcase b21 (fun v23 => ?_) (fun v23 => ?_)
  ·
   have p24 := of_decide_eq_false (k22.trans v23)
   refine wl (sp (wf (b := b21) rfl (by kernel_rfl) v23) ?_)
   refine wl (sp (wf (b := b21) rfl (by kernel_rfl) v23) ?_)
   refine wl (sp (wf (b := b21) rfl (by kernel_rfl) v23) ?_)
   refine wl (sp (wf (b := b21) rfl (by kernel_rfl) v23) ?_)
   refine wl (sp (wf (b := b21) rfl (by kernel_rfl) v23) ?_)
   refine wl (sv rfl (v := .bool false) (r_pkF (ebool (b := b21) (by kernel_rfl) v23) (by kernel_rfl)) ?_)
   refine wmv (v := .bool false) ?_
   refine wsp ?_
   refine wsp ?_
   refine wsp ?_
   refine wsp ?_
   refine wsp ?_
   refine wl (sv rfl (v := .bool false) (r_pkF (by kernel_rfl) (by kernel_rfl)) ?_)
   refine wmv (v := .bool false) ?_
   refine wsp ?_
   refine wsp ?_
   refine wsp ?_
   refine wsp ?_
   refine wsp ?_
   refine wl (sv rfl (v := .bool false) (r_pkF (by kernel_rfl) (by kernel_rfl)) ?_)
   refine wmv (v := .bool false) ?_
   refine wsp ?_
   refine wsp ?_
   refine wsp ?_
   refine wsp ?_
   refine wsp ?_
   refine wl (sv rfl (v := .bool false) (r_pkF (by kernel_rfl) (by kernel_rfl)) ?_)
   refine wmv (v := .bool false) ?_
   refine wsp ?_
   refine wsp ?_
   refine wsp ?_
   refine wsp ?_
   refine wsp ?_
   refine wl (sv rfl (v := .bool false) (r_pkF (by kernel_rfl) (by kernel_rfl)) ?_)
   refine was (v := .bool false) ?_
   refine wnil (then_n (wp_ret ?_))
   refine bodyPost_ret (v := .bool false) (res1 rfl (rv_t (by kernel_rfl))) (by kernel_rfl) ?_
   exact ⟨ret_bool (decide_eq_false (fun e => p24 (by rw [e]))).symm, (Mod.up M15)⟩
  have p24 := of_decide_eq_true (k22.trans v23)
  refine wl (sv (wt (b := b21) rfl (by kernel_rfl) v23) (v := .pointer (some ⟨b1, 3, none⟩)) (r_fieldAddr (u := .pointer (some ⟨b1, 0, none⟩)) (by kernel_rfl) (fun _ => (by kernel_rfl))) ?_)
  refine wl (sv (wt (b := b21) rfl (by kernel_rfl) v23) (v := .agg #[.int .i64 o.node.t, .int .i64 o.node.w]) (r_loads (k := 3) (by kernel_rfl) Ty.ag35 Ty.sz35 h16 (by kernel_rfl)) ?_)
  refine wl (sv (wt (b := b21) rfl (by kernel_rfl) v23) (v := .pointer (some ⟨b8, 3, none⟩)) (r_fieldAddr (u := .pointer (some ⟨b8, 0, none⟩)) (by kernel_rfl) (fun _ => (by kernel_rfl))) ?_)
  refine wl (sv (wt (b := b21) rfl (by kernel_rfl) v23) (v := .agg #[.int .i64 p.node.t, .int .i64 p.node.w]) (r_loads (k := 3) (by kernel_rfl) Ty.ag35 Ty.sz35 h11 (by kernel_rfl)) ?_)
  refine wl (sb (wt (b := b21) rfl (by kernel_rfl) v23) (r_eqS (a := o.node.t) (b := o.node.w) (c := p.node.t) (e := p.node.w) (by kernel_rfl) (by kernel_rfl)) ?_)
  intro b25 k26
  refine wl (sv rfl (v := .bool b25) (r_pkT (ebool (b := b21) (by kernel_rfl) v23) (by kernel_rfl)) ?_)
  refine wmv (v := .bool b25) ?_
  refine bcase b25 (fun v27 => ?_) (fun v27 => ?_)
  ·
   have p28 := of_decide_eq_false (k26.trans v27)
   refine wl (sp (wf (b := b25) rfl (by kernel_rfl) v27) ?_)
   refine wl (sp (wf (b := b25) rfl (by kernel_rfl) v27) ?_)
   refine wl (sp (wf (b := b25) rfl (by kernel_rfl) v27) ?_)
   refine wl (sp (wf (b := b25) rfl (by kernel_rfl) v27) ?_)
   refine wl (sp (wf (b := b25) rfl (by kernel_rfl) v27) ?_)
   refine wl (sv rfl (v := .bool false) (r_pkF (ebool (b := b25) (by kernel_rfl) v27) (by kernel_rfl)) ?_)
   refine wmv (v := .bool false) ?_
   refine wsp ?_
   refine wsp ?_
   refine wsp ?_
   refine wsp ?_
   refine wsp ?_
   refine wl (sv rfl (v := .bool false) (r_pkF (by kernel_rfl) (by kernel_rfl)) ?_)
   refine wmv (v := .bool false) ?_
   refine wsp ?_
   refine wsp ?_
   refine wsp ?_
   refine wsp ?_
   refine wsp ?_
   refine wl (sv rfl (v := .bool false) (r_pkF (by kernel_rfl) (by kernel_rfl)) ?_)
   refine wmv (v := .bool false) ?_
   refine wsp ?_
   refine wsp ?_
   refine wsp ?_
   refine wsp ?_
   refine wsp ?_
   refine wl (sv rfl (v := .bool false) (r_pkF (by kernel_rfl) (by kernel_rfl)) ?_)
   refine was (v := .bool false) ?_
   refine wnil (then_n (wp_ret ?_))
   refine bodyPost_ret (v := .bool false) (res1 rfl (rv_t (by kernel_rfl))) (by kernel_rfl) ?_
   exact ⟨ret_bool (decide_eq_false (fun e => p28 (by rw [e]))).symm, (Mod.up M15)⟩
  have p28 := of_decide_eq_true (k26.trans v27)
  refine wl (sv (wt (b := b25) rfl (by kernel_rfl) v27) (v := .pointer (some ⟨b1, 5, none⟩)) (r_fieldAddr (u := .pointer (some ⟨b1, 0, none⟩)) (by kernel_rfl) (fun _ => (by kernel_rfl))) ?_)
  refine wl (sv (wt (b := b25) rfl (by kernel_rfl) v27) (v := .agg #[.int .i64 o.parent.t, .int .i64 o.parent.w]) (r_loads (k := 5) (by kernel_rfl) Ty.ag35 Ty.sz35 h16 (by kernel_rfl)) ?_)
  refine wl (sv (wt (b := b25) rfl (by kernel_rfl) v27) (v := .pointer (some ⟨b8, 5, none⟩)) (r_fieldAddr (u := .pointer (some ⟨b8, 0, none⟩)) (by kernel_rfl) (fun _ => (by kernel_rfl))) ?_)
  refine wl (sv (wt (b := b25) rfl (by kernel_rfl) v27) (v := .agg #[.int .i64 p.parent.t, .int .i64 p.parent.w]) (r_loads (k := 5) (by kernel_rfl) Ty.ag35 Ty.sz35 h11 (by kernel_rfl)) ?_)
  refine wl (sb (wt (b := b25) rfl (by kernel_rfl) v27) (r_eqS (a := o.parent.t) (b := o.parent.w) (c := p.parent.t) (e := p.parent.w) (by kernel_rfl) (by kernel_rfl)) ?_)
  intro b29 k30
  refine wl (sv rfl (v := .bool b29) (r_pkT (ebool (b := b25) (by kernel_rfl) v27) (by kernel_rfl)) ?_)
  refine wmv (v := .bool b29) ?_
  refine bcase b29 (fun v31 => ?_) (fun v31 => ?_)
  ·
   have p32 := of_decide_eq_false (k30.trans v31)
   refine wl (sp (wf (b := b29) rfl (by kernel_rfl) v31) ?_)
   refine wl (sp (wf (b := b29) rfl (by kernel_rfl) v31) ?_)
   refine wl (sp (wf (b := b29) rfl (by kernel_rfl) v31) ?_)
   refine wl (sp (wf (b := b29) rfl (by kernel_rfl) v31) ?_)
   refine wl (sp (wf (b := b29) rfl (by kernel_rfl) v31) ?_)
   refine wl (sv rfl (v := .bool false) (r_pkF (ebool (b := b29) (by kernel_rfl) v31) (by kernel_rfl)) ?_)
   refine wmv (v := .bool false) ?_
   refine wsp ?_
   refine wsp ?_
   refine wsp ?_
   refine wsp ?_
   refine wsp ?_
   refine wl (sv rfl (v := .bool false) (r_pkF (by kernel_rfl) (by kernel_rfl)) ?_)
   refine wmv (v := .bool false) ?_
   refine wsp ?_
   refine wsp ?_
   refine wsp ?_
   refine wsp ?_
   refine wsp ?_
   refine wl (sv rfl (v := .bool false) (r_pkF (by kernel_rfl) (by kernel_rfl)) ?_)
   refine was (v := .bool false) ?_
   refine wnil (then_n (wp_ret ?_))
   refine bodyPost_ret (v := .bool false) (res1 rfl (rv_t (by kernel_rfl))) (by kernel_rfl) ?_
   exact ⟨ret_bool (decide_eq_false (fun e => p32 (by rw [e]))).symm, (Mod.up M15)⟩
  have p32 := of_decide_eq_true (k30.trans v31)
  refine wl (sv (wt (b := b29) rfl (by kernel_rfl) v31) (v := .pointer (some ⟨b1, 7, none⟩)) (r_fieldAddr (u := .pointer (some ⟨b1, 0, none⟩)) (by kernel_rfl) (fun _ => (by kernel_rfl))) ?_)
  refine wl (sv (wt (b := b29) rfl (by kernel_rfl) v31) (v := .bool o.dir) (r_load (k := 7) (by kernel_rfl) Ty.ag4 h16 (by kernel_rfl)) ?_)
  refine wl (sv (wt (b := b29) rfl (by kernel_rfl) v31) (v := .pointer (some ⟨b8, 7, none⟩)) (r_fieldAddr (u := .pointer (some ⟨b8, 0, none⟩)) (by kernel_rfl) (fun _ => (by kernel_rfl))) ?_)
  refine wl (sv (wt (b := b29) rfl (by kernel_rfl) v31) (v := .bool p.dir) (r_load (k := 7) (by kernel_rfl) Ty.ag4 h11 (by kernel_rfl)) ?_)
  refine bcase o.dir (fun v33 => ?_) (fun v33 => ?_)
  ·
   refine bcase p.dir (fun v34 => ?_) (fun v34 => ?_)
   ·
    refine wl (sv (wt (b := b29) rfl (by kernel_rfl) v31) (v := .bool true) (r_eqb (a := false) (b := false) Tryz.underlying4 (ebool (b := o.dir) (by kernel_rfl) v33) (ebool (b := p.dir) (by kernel_rfl) v34)) ?_)
    refine wl (sv rfl (v := .bool true) (r_pkT (ebool (b := b29) (by kernel_rfl) v31) (by kernel_rfl)) ?_)
    refine wmv (v := .bool true) ?_
    refine wl (sv (by kernel_rfl) (v := .pointer (some ⟨b1, 8, none⟩)) (r_fieldAddr (u := .pointer (some ⟨b1, 0, none⟩)) (by kernel_rfl) (fun _ => (by kernel_rfl))) ?_)
    refine wl (sv (by kernel_rfl) (v := .string o.name) (r_load (k := 8) (by kernel_rfl) Ty.ag9 h16 (by kernel_rfl)) ?_)
    refine wl (sv (by kernel_rfl) (v := .pointer (some ⟨b8, 8, none⟩)) (r_fieldAddr (u := .pointer (some ⟨b8, 0, none⟩)) (by kernel_rfl) (fun _ => (by kernel_rfl))) ?_)
    refine wl (sv (by kernel_rfl) (v := .string p.name) (r_load (k := 8) (by kernel_rfl) Ty.ag9 h11 (by kernel_rfl)) ?_)
    refine wl (sb (by kernel_rfl) (r_eqs (m := o.name) (n := p.name) (by kernel_rfl) (by kernel_rfl)) ?_)
    intro b35 k36
    refine wl (sv rfl (v := .bool b35) (r_pkT (by kernel_rfl) (by kernel_rfl)) ?_)
    refine wmv (v := .bool b35) ?_
    refine bcase b35 (fun v37 => ?_) (fun v37 => ?_)
    ·
     have p38 := of_decide_eq_false (k36.trans v37)
     refine wl (sp (wf (b := b35) rfl (by kernel_rfl) v37) ?_)
     refine wl (sp (wf (b := b35) rfl (by kernel_rfl) v37) ?_)
     refine wl (sp (wf (b := b35) rfl (by kernel_rfl) v37) ?_)
     refine wl (sp (wf (b := b35) rfl (by kernel_rfl) v37) ?_)
     refine wl (sp (wf (b := b35) rfl (by kernel_rfl) v37) ?_)
     refine wl (sv rfl (v := .bool false) (r_pkF (ebool (b := b35) (by kernel_rfl) v37) (by kernel_rfl)) ?_)
     refine was (v := .bool false) ?_
     refine wnil (then_n (wp_ret ?_))
     refine bodyPost_ret (v := .bool false) (res1 rfl (rv_t (by kernel_rfl))) (by kernel_rfl) ?_
     exact ⟨ret_bool (decide_eq_false (fun e => p38 (by rw [e]))).symm, (Mod.up M15)⟩
    have p38 := of_decide_eq_true (k36.trans v37)
    refine wl (sv (wt (b := b35) rfl (by kernel_rfl) v37) (v := .pointer (some ⟨b1, 9, none⟩)) (r_fieldAddr (u := .pointer (some ⟨b1, 0, none⟩)) (by kernel_rfl) (fun _ => (by kernel_rfl))) ?_)
    refine wl (sv (wt (b := b35) rfl (by kernel_rfl) v37) (v := .slice oA on oc) (r_load (k := 9) (by kernel_rfl) Ty.ag36 h16 (by kernel_rfl)) ?_)
    refine wl (sv (wt (b := b35) rfl (by kernel_rfl) v37) (v := .pointer (some ⟨b8, 9, none⟩)) (r_fieldAddr (u := .pointer (some ⟨b8, 0, none⟩)) (by kernel_rfl) (fun _ => (by kernel_rfl))) ?_)
    refine wl (sv (wt (b := b35) rfl (by kernel_rfl) v37) (v := .slice pA pn pc) (r_load (k := 9) (by kernel_rfl) Ty.ag36 h11 (by kernel_rfl)) ?_)
    have h39 := (Dat.up hx (Mod.up M15))
    have h40 := (Dat.up hy (Mod.up M15))
    refine wl (sc (wt (b := b35) rfl (by kernel_rfl) v37) (r_callv (caps := []) (all := [.slice oA on oc, .slice pA pn pc]) En.f46 (by kernel_rfl) (by kernel_rfl)) (r01same_at h39 h40) ?_)
    rintro e w41 ⟨rfl, u42⟩
    refine ⟨.bool ((decide (o.data = p.data))), rfl, ?_⟩
    have M43 := Mod.trans M15 (Mod.of_up u42)
    refine wl (sv rfl (v := .bool ((decide (o.data = p.data)))) (r_pkT (ebool (b := b35) (by kernel_rfl) v37) (by kernel_rfl)) ?_)
    refine was (v := .bool ((decide (o.data = p.data)))) ?_
    refine wnil (then_n (wp_ret ?_))
    refine bodyPost_ret (v := .bool ((decide (o.data = p.data)))) (res1 rfl (rv_t (by kernel_rfl))) (by kernel_rfl) ?_
    exact ⟨ret_bool (op_dec o p p20 p24 p28 p32 (v33.trans v34.symm) p38), (Mod.up M43)⟩
   refine wl (sv (wt (b := b29) rfl (by kernel_rfl) v31) (v := .bool false) (r_eqb (a := false) (b := true) Tryz.underlying4 (ebool (b := o.dir) (by kernel_rfl) v33) (ebool (b := p.dir) (by kernel_rfl) v34)) ?_)
   refine wl (sv rfl (v := .bool false) (r_pkT (ebool (b := b29) (by kernel_rfl) v31) (by kernel_rfl)) ?_)
   refine wmv (v := .bool false) ?_
   refine wsp ?_
   refine wsp ?_
   refine wsp ?_
   refine wsp ?_
   refine wsp ?_
   refine wl (sv rfl (v := .bool false) (r_pkF (by kernel_rfl) (by kernel_rfl)) ?_)
   refine wmv (v := .bool false) ?_
   refine wsp ?_
   refine wsp ?_
   refine wsp ?_
   refine wsp ?_
   refine wsp ?_
   refine wl (sv rfl (v := .bool false) (r_pkF (by kernel_rfl) (by kernel_rfl)) ?_)
   refine was (v := .bool false) ?_
   refine wnil (then_n (wp_ret ?_))
   refine bodyPost_ret (v := .bool false) (res1 rfl (rv_t (by kernel_rfl))) (by kernel_rfl) ?_
   refine ⟨ret_bool (decide_eq_false (fun e => ?_)).symm, (Mod.up M15)⟩
   rw [e, v34] at v33; cases v33
  refine bcase p.dir (fun v34 => ?_) (fun v34 => ?_)
  ·
   refine wl (sv (wt (b := b29) rfl (by kernel_rfl) v31) (v := .bool false) (r_eqb (a := true) (b := false) Tryz.underlying4 (ebool (b := o.dir) (by kernel_rfl) v33) (ebool (b := p.dir) (by kernel_rfl) v34)) ?_)
   refine wl (sv rfl (v := .bool false) (r_pkT (ebool (b := b29) (by kernel_rfl) v31) (by kernel_rfl)) ?_)
   refine wmv (v := .bool false) ?_
   refine wsp ?_
   refine wsp ?_
   refine wsp ?_
   refine wsp ?_
   refine wsp ?_
   refine wl (sv rfl (v := .bool false) (r_pkF (by kernel_rfl) (by kernel_rfl)) ?_)
   refine wmv (v := .bool false) ?_
   refine wsp ?_
   refine wsp ?_
   refine wsp ?_
   refine wsp ?_
   refine wsp ?_
   refine wl (sv rfl (v := .bool false) (r_pkF (by kernel_rfl) (by kernel_rfl)) ?_)
   refine was (v := .bool false) ?_
   refine wnil (then_n (wp_ret ?_))
   refine bodyPost_ret (v := .bool false) (res1 rfl (rv_t (by kernel_rfl))) (by kernel_rfl) ?_
   refine ⟨ret_bool (decide_eq_false (fun e => ?_)).symm, (Mod.up M15)⟩
   rw [e, v34] at v33; cases v33
  refine wl (sv (wt (b := b29) rfl (by kernel_rfl) v31) (v := .bool true) (r_eqb (a := true) (b := true) Tryz.underlying4 (ebool (b := o.dir) (by kernel_rfl) v33) (ebool (b := p.dir) (by kernel_rfl) v34)) ?_)
  refine wl (sv rfl (v := .bool true) (r_pkT (ebool (b := b29) (by kernel_rfl) v31) (by kernel_rfl)) ?_)
  refine wmv (v := .bool true) ?_
  refine wl (sv (by kernel_rfl) (v := .pointer (some ⟨b1, 8, none⟩)) (r_fieldAddr (u := .pointer (some ⟨b1, 0, none⟩)) (by kernel_rfl) (fun _ => (by kernel_rfl))) ?_)
  refine wl (sv (by kernel_rfl) (v := .string o.name) (r_load (k := 8) (by kernel_rfl) Ty.ag9 h16 (by kernel_rfl)) ?_)
  refine wl (sv (by kernel_rfl) (v := .pointer (some ⟨b8, 8, none⟩)) (r_fieldAddr (u := .pointer (some ⟨b8, 0, none⟩)) (by kernel_rfl) (fun _ => (by kernel_rfl))) ?_)
  refine wl (sv (by kernel_rfl) (v := .string p.name) (r_load (k := 8) (by kernel_rfl) Ty.ag9 h11 (by kernel_rfl)) ?_)
  refine wl (sb (by kernel_rfl) (r_eqs (m := o.name) (n := p.name) (by kernel_rfl) (by kernel_rfl)) ?_)
  intro b35 k36
  refine wl (sv rfl (v := .bool b35) (r_pkT (by kernel_rfl) (by kernel_rfl)) ?_)
  refine wmv (v := .bool b35) ?_
  refine bcase b35 (fun v37 => ?_) (fun v37 => ?_)
  ·
   have p38 := of_decide_eq_false (k36.trans v37)
   refine wl (sp (wf (b := b35) rfl (by kernel_rfl) v37) ?_)
   refine wl (sp (wf (b := b35) rfl (by kernel_rfl) v37) ?_)
   refine wl (sp (wf (b := b35) rfl (by kernel_rfl) v37) ?_)
   refine wl (sp (wf (b := b35) rfl (by kernel_rfl) v37) ?_)
   refine wl (sp (wf (b := b35) rfl (by kernel_rfl) v37) ?_)
   refine wl (sv rfl (v := .bool false) (r_pkF (ebool (b := b35) (by kernel_rfl) v37) (by kernel_rfl)) ?_)
   refine was (v := .bool false) ?_
   refine wnil (then_n (wp_ret ?_))
   refine bodyPost_ret (v := .bool false) (res1 rfl (rv_t (by kernel_rfl))) (by kernel_rfl) ?_
   exact ⟨ret_bool (decide_eq_false (fun e => p38 (by rw [e]))).symm, (Mod.up M15)⟩
  have p38 := of_decide_eq_true (k36.trans v37)
  refine wl (sv (wt (b := b35) rfl (by kernel_rfl) v37) (v := .pointer (some ⟨b1, 9, none⟩)) (r_fieldAddr (u := .pointer (some ⟨b1, 0, none⟩)) (by kernel_rfl) (fun _ => (by kernel_rfl))) ?_)
  refine wl (sv (wt (b := b35) rfl (by kernel_rfl) v37) (v := .slice oA on oc) (r_load (k := 9) (by kernel_rfl) Ty.ag36 h16 (by kernel_rfl)) ?_)
  refine wl (sv (wt (b := b35) rfl (by kernel_rfl) v37) (v := .pointer (some ⟨b8, 9, none⟩)) (r_fieldAddr (u := .pointer (some ⟨b8, 0, none⟩)) (by kernel_rfl) (fun _ => (by kernel_rfl))) ?_)
  refine wl (sv (wt (b := b35) rfl (by kernel_rfl) v37) (v := .slice pA pn pc) (r_load (k := 9) (by kernel_rfl) Ty.ag36 h11 (by kernel_rfl)) ?_)
  have h39 := (Dat.up hx (Mod.up M15))
  have h40 := (Dat.up hy (Mod.up M15))
  refine wl (sc (wt (b := b35) rfl (by kernel_rfl) v37) (r_callv (caps := []) (all := [.slice oA on oc, .slice pA pn pc]) En.f46 (by kernel_rfl) (by kernel_rfl)) (r01same_at h39 h40) ?_)
  rintro e w41 ⟨rfl, u42⟩
  refine ⟨.bool ((decide (o.data = p.data))), rfl, ?_⟩
  have M43 := Mod.trans M15 (Mod.of_up u42)
  refine wl (sv rfl (v := .bool ((decide (o.data = p.data)))) (r_pkT (ebool (b := b35) (by kernel_rfl) v37) (by kernel_rfl)) ?_)
  refine was (v := .bool ((decide (o.data = p.data)))) ?_
  refine wnil (then_n (wp_ret ?_))
  refine bodyPost_ret (v := .bool ((decide (o.data = p.data)))) (res1 rfl (rv_t (by kernel_rfl))) (by kernel_rfl) ?_
  exact ⟨ret_bool (op_dec o p p20 p24 p28 p32 (v33.trans v34.symm) p38), (Mod.up M43)⟩
theorem all_next {L M : List OpD} {k : Nat} {x y : OpD} (h : Hid (∀ i, i < k → L[i]? = M[i]?)) (hx : L[k]? = some x) (hy : M[k]? = some y) (e : x = y) : Hid (∀ i, i < k + 1 → L[i]? = M[i]?) := fun i hi => by
  rcases Nat.lt_or_ge i k with h1 | h1
  · exact h.out i h1
  · obtain rfl : i = k := by omega
    rw [hx, hy, e]
theorem all_ops {L M : List OpD} {k : Nat} (hl : L.length = M.length) (h : Hid (∀ i, i < k → L[i]? = M[i]?)) (hk : L.length ≤ k) : L = M := List.ext_getElem? fun i => by
  rcases Nat.lt_or_ge i L.length with h1 | h1
  · exact h.out i (by omega)
  · rw [List.getElem?_eq_none h1, List.getElem?_eq_none (by omega)]
set_option maxHeartbeats 2000000 in
theorem r15all_sl {B base base' : Nat} {w : World} {lA mA : Option Addr} {lc mc : Nat} {L M : List OpD} (h1 : ORow 38 B base w (.slice lA L.length lc) L) (h2 : ORow 38 B base' w (.slice mA M.length mc) M) (hn : L.length ≤ 1000000) :
    Calls Tryz.prog 11 #[.slice lA L.length lc, .slice mA M.length mc] w fun e w' => e = .returned (.bool (decide (L = M))) ∧ Up w w' := by
  go_enter Tryz.func11, Tryz.ntmps11
  refine wp_seq (rg_lit ?_)
  refine was (v := .bool false) ?_
  refine wnil (then_n (wp_seq (wp_seq (rg_lit ?_))))
  refine wmv (v := .slice lA L.length lc) ?_
  refine wl (sv rfl (v := .int .i64 ((L.length : Int))) (r_len Ty.un28 (ad := lA) (n := L.length) (c := lc) (by kernel_rfl)) ?_)
  refine wmv (v := .slice mA M.length mc) ?_
  refine wl (sv rfl (v := .int .i64 ((M.length : Int))) (r_len Ty.un28 (ad := mA) (n := M.length) (c := mc) (by kernel_rfl)) ?_)
  refine wl (sb rfl (r_ne (k := .i64) (m := ((L.length : Int))) (n := ((M.length : Int))) (by kernel_rfl) (by kernel_rfl)) ?_)
  intro b1 k2
  refine wnil (then_n ?_)
  refine bcase b1 (fun v3 => ?_) (fun v3 => ?_)
  ·
   have p4 := of_decide_eq_false (k2.trans v3)
   refine wp_cond_false (ebool (b := b1) (by kernel_rfl) v3) ?_
   refine wp_skip (then_n (wp_seq (wp_seq (rg_lit ?_))))
   refine was (v := .int .i64 0) ?_
   refine wnil (then_n (wp_block ?_))
   refine lp (fun n a r1 => ∃ (kk : Nat) (z4 z11 z12 z13 z14 z15 z16 z17 z18 z19 z20 z21 z22 z23 z24 z25 z26 : Value), (n = L.length - kk) ∧ (a = ⟨#[.slice lA L.length lc, .slice mA M.length mc, undef, undef, z4, .int .i64 ((kk : Int)), .slice lA L.length lc, .int .i64 ((L.length : Int)), .slice mA M.length mc, .int .i64 ((M.length : Int)), .bool b1, z11, z12, z13, z14, z15, z16, z17, z18, z19, z20, z21, z22, z23, z24, z25, z26], []⟩) ∧ (Mod [] w r1) ∧ (kk ≤ L.length) ∧ (Hid (∀ i, i < kk → L[i]? = M[i]?))) ⟨_, 0, .bool false, undef, undef, undef, undef, undef, undef, undef, undef, undef, undef, undef, undef, undef, undef, undef, undef, rfl, (by kernel_rfl), Mod.refl _ _, (Nat.zero_le _), (fun i hi => absurd hi (Nat.not_lt_zero _))⟩ ?_
   rintro _ _ r1 ⟨kk, z4, z11, z12, z13, z14, z15, z16, z17, z18, z19, z20, z21, z22, z23, z24, z25, z26, rfl, rfl, hM1, hF1_0, hF1_1⟩
   have M5 := Mod.thin (Mod.refl [] w) hM1 (by simp)
   refine wp_seq (wp_seq (rg_lit ?_))
   refine wmv (v := .int .i64 ((kk : Int))) ?_
   refine wmv (v := .slice lA L.length lc) ?_
   refine wl (sv rfl (v := .int .i64 ((L.length : Int))) (r_len Ty.un28 (ad := lA) (n := L.length) (c := lc) (by kernel_rfl)) ?_)
   refine wl (sb rfl (r_lt (k := .i64) (m := ((kk : Int))) (n := ((L.length : Int))) (by kernel_rfl) (by kernel_rfl)) ?_)
   intro b6 k7
   refine wnil (then_n ?_)
   refine bcase b6 (fun v8 => ?_) (fun v8 => ?_)
   ·
    have p9 := of_decide_eq_false (k7.trans v8)
    refine wp_cond_false (ebool (b := b6) (by kernel_rfl) v8) ?_
    refine wp_exit (then_x (by nofun) (then_x (by nofun) (inb_hit (then_n (wp_seq (rg_lit ?_))))))
    refine was (v := .bool true) ?_
    refine wnil (then_n (wp_ret ?_))
    refine bodyPost_ret (v := .bool true) (res1 rfl (rv_t (by kernel_rfl))) (by kernel_rfl) ?_
    exact ⟨ret_bool (decide_eq_true (all_ops (by omega) hF1_1 (by omega))).symm, (Mod.up M5)⟩
   have p9 := of_decide_eq_true (k7.trans v8)
   have q10 : kk < L.length := by omega
   have q11 : kk < L.length := by omega
   refine wp_cond_true (ebool (b := b6) (by kernel_rfl) v8) ?_
   refine wp_skip (then_n (wp_seq (wp_block (wp_seq ?_))))
   refine rg_all (by kernel_rfl) (by kernel_rfl) ?_
   refine qmv (v := .slice lA L.length lc) ?_
   refine qmv (v := .int .i64 ((kk : Int))) ?_
   have h12 := (ORow.up h1 (Mod.up M5))
   obtain ⟨o13, ho13⟩ : ∃ x, L[kk]? = some x := ⟨_, List.getElem?_eq_getElem (by omega)⟩
   obtain ⟨g13, cp13, cu13, dA13, dn13, dc13, hA13, hg13, hb13, he13, hD13⟩ := ORow.get h12 ho13
   injection hA13 with hA13 _ _
   replace he13 : (cu13.toList.drop (0 + kk * 10)).take 10 = opC o13 (.slice dA13 dn13 dc13) := by rw [Nat.zero_add]; exact he13
   refine qv rfl (v := .pointer (some ⟨g13, 0 + kk * 10, none⟩)) (fun _ _ => r_ixaddr' (A := lA) (b := g13) (o := 0) (n := L.length) (c := lc) (sz := 10) (j := ((kk : Int))) (by kernel_rfl) hA13 (by kernel_rfl) Ty.un28 Ty.sz38 (by omega) (by omega) (by simp)) ?_
   refine qv rfl (v := opV o13 (.slice dA13 dn13 dc13)) (fun _ uz => r_loads (k := 0 + kk * 10) (by kernel_rfl) Ty.ag38 Ty.sz38 (up_ob uz hb13) (el_sub0 he13 rfl)) ?_
   refine qmv (v := .slice mA M.length mc) ?_
   refine qmv (v := .int .i64 ((kk : Int))) ?_
   have h14 := (ORow.up h2 (Mod.up M5))
   obtain ⟨o15, ho15⟩ : ∃ x, M[kk]? = some x := ⟨_, List.getElem?_eq_getElem (by omega)⟩
   obtain ⟨g15, cp15, cu15, dA15, dn15, dc15, hA15, hg15, hb15, he15, hD15⟩ := ORow.get h14 ho15
   injection hA15 with hA15 _ _
   replace he15 : (cu15.toList.drop (0 + kk * 10)).take 10 = opC o15 (.slice dA15 dn15 dc15) := by rw [Nat.zero_add]; exact he15
   refine qv rfl (v := .pointer (some ⟨g15, 0 + kk * 10, none⟩)) (fun _ _ => r_ixaddr' (A := mA) (b := g15) (o := 0) (n := M.length) (c := mc) (sz := 10) (j := ((kk : Int))) (by kernel_rfl) hA15 (by kernel_rfl) Ty.un28 Ty.sz38 (by omega) (by omega) (by simp)) ?_
   refine qv rfl (v := opV o15 (.slice dA15 dn15 dc15)) (fun _ uz => r_loads (k := 0 + kk * 10) (by kernel_rfl) Ty.ag38 Ty.sz38 (up_ob uz hb15) (el_sub0 he15 rfl)) ?_
   refine qc rfl (v := .bool ((decide (o13 = o15)))) (fun _ _ => r_callv (caps := []) (all := [opV o13 (.slice dA13 dn13 dc13), opV o15 (.slice dA15 dn15 dc15)]) En.f27 (by kernel_rfl) (by kernel_rfl)) (fun wz uz => r15same_at o13 o15 dA13 dA15 dn13 dc13 dn15 dc15 (Dat.up hD13 uz) (Dat.up hD15 uz)) ?_ ?_
   · rintro w1 e w2 hC ⟨rfl, hu⟩; exact ⟨rfl, up_step hC hu⟩
   refine qv rfl (v := .bool (!((decide (o13 = o15))))) (fun _ _ => r_not (b := ((decide (o13 = o15)))) (by kernel_rfl)) ?_
   refine qnil ?_
   intro w16 u17
   have M18 := Mod.trans M5 (Mod.of_up u17)
   have M19 := Mod.trans hM1 (Mod.of_up u17)
   refine then_n ?_
   refine bcase ((decide (o13 = o15))) (fun v20 => ?_) (fun v20 => ?_)
   ·
    refine wp_cond_true (ebool (b := !((decide (o13 = o15)))) (by kernel_rfl) (bneg v20)) ?_
    refine wp_seq (rg_lit ?_)
    refine was (v := .bool false) ?_
    refine wnil (then_n (wp_ret (inb_r (then_x (by nofun) (then_x (by nofun) (inb_r (then_x (by nofun) ?_)))))))
    refine bodyPost_ret (v := .bool false) (res1 rfl (rv_t (by kernel_rfl))) (by kernel_rfl) ?_
    exact ⟨ret_bool (decide_eq_false (fun e => of_decide_eq_false v20 (by rw [e] at ho13; exact Option.some.inj (ho13.symm.trans ho15)))).symm, (Mod.up M18)⟩
   refine wp_cond_false (ebool (b := !((decide (o13 = o15)))) (by kernel_rfl) (bneg v20)) ?_
   refine wp_skip (inb_n (then_n (rg_lit ?_)))
   refine wmv (v := .int .i64 ((kk : Int))) ?_
   refine wl (sv rfl (v := .int .i64 (((kk + 1 : Nat) : Int))) (r_add (k := .i64) (m := ((kk : Int))) (n := 1) (c := (((kk + 1 : Nat) : Int))) (by kernel_rfl) (by kernel_rfl) ((IntWalk.i64_in _ (by omega)).trans (by omega))) ?_)
   refine was (v := .int .i64 (((kk + 1 : Nat) : Int))) ?_
   refine wnil (then_n ?_)
   refine ⟨L.length - (kk + 1), ?_, (kk + 1), z4, .int .i64 ((kk : Int)), .slice lA L.length lc, .int .i64 ((L.length : Int)), .bool b6, .int .i64 ((kk : Int)), .int .i64 (((kk + 1 : Nat) : Int)), .slice lA L.length lc, .int .i64 ((kk : Int)), .pointer (some ⟨g13, 0 + kk * 10, none⟩), opV o13 (.slice dA13 dn13 dc13), .slice mA M.length mc, .int .i64 ((kk : Int)), .pointer (some ⟨g15, 0 + kk * 10, none⟩), opV o15 (.slice dA15 dn15 dc15), .bool ((decide (o13 = o15))), .bool (!((decide (o13 = o15)))), rfl, (by kernel_rfl), M19, (by omega), (all_next hF1_1 ho13 ho15 (of_decide_eq_true v20))⟩
   · omega
  have p4 := of_decide_eq_true (k2.trans v3)
  refine wp_cond_true (ebool (b := b1) (by kernel_rfl) v3) ?_
  refine wp_seq (rg_lit ?_)
  refine was (v := .bool false) ?_
  refine wnil (then_n (wp_ret (then_x (by nofun) ?_)))
  refine bodyPost_ret (v := .bool false) (res1 rfl (rv_t (by kernel_rfl))) (by kernel_rfl) ?_
  exact ⟨ret_bool (decide_eq_false (fun e => by rw [e] at p4; exact p4 rfl)).symm, (Mod.up (Mod.refl [] w))⟩
theorem r15all_at {B base base' : Nat} {w : World} {u v : Value} {L M : List OpD} (h1 : ORow 38 B base w u L) (h2 : ORow 38 B base' w v M) (hn : L.length ≤ 1000000) :
    Calls Tryz.prog 11 #[u, v] w fun e w' => e = .returned (.bool (decide (L = M))) ∧ Up w w' := by
  obtain ⟨A, c, rfl⟩ := h1.form
  obtain ⟨A', c', rfl⟩ := h2.form
  exact r15all_sl h1 h2 hn
end Go.Proofs.YtefhfoioeoijlaaGreat

/- BEq, HC, ChW, H3 -/
import Derived.Test.YtefhfoioeoijlaaGreatDoorWar
set_option linter.unusedVariables false
set_option linter.unusedSimpArgs false
namespace Go.Proofs.YtefhfoioeoijlaaGreatDoor
open Go Go.RowKit Go.Sort
theorem bytes_eqV {xs ys : List Int} (hx : ∀ x ∈ xs, 0 ≤ x ∧ x < 256) (hy : ∀ x ∈ ys, 0 ≤ x ∧ x < 256) : (Lib.bytesOf xs == Lib.bytesOf ys) = decide (xs = ys) := by
  rw [Bool.eq_iff_iff]; simp only [beq_iff_eq, decide_eq_true_eq]
  refine ⟨fun h => ?_, fun h => by rw [h]⟩
  unfold Lib.bytesOf at h
  induction xs generalizing ys with
  | nil => cases ys with
    | nil => rfl
    | cons _ _ => cases h
  | cons x xs ih => cases ys with
    | nil => cases h
    | cons y ys =>
      simp only [List.map_cons, List.cons.injEq] at h
      have h1 := hx x (by simp)
      have h2 := hy y (by simp)
      have h3 : x.toNat % 256 = y.toNat % 256 := by have := congrArg UInt8.toNat h.1; simpa using this
      rw [ih (fun z hz => hx z (by simp [hz])) (fun z hz => hy z (by simp [hz])) h.2, show x = y by omega]
theorem Dat.bytesInV {B : Nat} {w : World} {A : Option Addr} {n c : Nat} {xs : List Int} (h : Dat B w (.slice A n c) xs) : Lib.BytesIn w A n xs ∧ ∀ x ∈ xs, 0 ≤ x ∧ x < 256 := by
  obtain ⟨A', n', c', e, h1, h2, h3, h4, h5⟩ := h
  injection e with e1 e2 e3
  subst e1; subst e2; subst e3
  refine ⟨?_, h4⟩
  cases A with
  | none =>
    have : n = 0 := by
      rcases Nat.eq_zero_or_pos n with h0 | h0
      · exact h0
      · obtain ⟨b, o, e, _⟩ := h5 h0; cases e
    subst this
    obtain rfl : xs = [] := List.eq_nil_of_length_eq_zero h1
    exact Lib.BytesIn.nil _ _ _
  | some p =>
    refine Lib.BytesIn.of_cells fun i hi => ?_
    obtain ⟨b, o, e, _, _, hc⟩ := h5 (by omega)
    injection e with e; subst e
    rw [add_at]; exact hc i hi
theorem bequalV_at {B B' : Nat} {w : World} {A A' : Option Addr} {n c m c' : Nat} {xs ys : List Int} (hx : Dat B w (.slice A n c) xs) (hy : Dat B' w (.slice A' m c') ys) :
    Calls Tryz.prog 138 #[.slice A n c, .slice A' m c'] w fun e w' => e = .returned (.bool (decide (xs = ys))) ∧ Up w w' := by
  have h1 := hx.bytesInV
  have h2 := hy.bytesInV
  refine (Tryz.bytes_Equal_all A A' n c m c' xs ys w hx.len.1 hy.len.1 h1.1 h2.1).mono ?_
  rintro e w' ⟨rfl, rfl⟩
  exact ⟨by rw [bytes_eqV h1.2 h2.2], Below.refl _ _⟩
end Go.Proofs.YtefhfoioeoijlaaGreatDoor
set_option linter.unusedVariables false
set_option linter.unusedSimpArgs false
namespace Go.Proofs.YtefhfoioeoijlaaGreatDoor
open Go Go.RowKit Go.Sort
set_option maxHeartbeats 2000000 in
theorem ofNo_at {w : World} (m1 m2 : Int) : Calls Tryz.prog 42 #[.pointer none, .agg #[.int .i64 m1, .int .i64 m2]] w fun e w' => e = .returned (.tuple #[.string ⟨#[]⟩, .int .i64 23]) ∧ Up w w' := by
  go_enter Tryz.func42, Tryz.ntmps42
  refine wp_seq (rg_lit ?_)
  refine wl (sn rfl (cs := #[.int .i64 m1, .int .i64 m2]) (T := 24) (V := fun b => .pointer (some ⟨b, 0, none⟩)) (r_box (v := .agg #[.int .i64 m1, .int .i64 m2]) (by kernel_rfl) rfl) ?_)
  intro pb w1 e2 h3 u4
  have g5 : w.heap.size ≤ pb := by rw [e2]; exact (Mod.refl [] w).size
  have M6 := Mod.trans (Mod.refl [] w) (Mod.of_up u4)
  refine was (v := .string (⟨#[]⟩)) ?_
  refine was (v := .int .i64 0) ?_
  refine wnil (then_n (wp_seq (wp_block (wp_seq (rg_lit ?_)))))
  refine wmv (v := .pointer none) ?_
  refine wl (sv (w' := w1) rfl (v := .bool true) (by kernel_rfl) ?_)
  refine was (v := .bool true) ?_
  refine wnil (then_n ?_)
  refine wp_cond_true (by kernel_rfl) ?_
  refine wp_seq (rg_lit ?_)
  refine was (v := .string (⟨#[]⟩)) ?_
  refine was (v := .int .i64 23) ?_
  refine wnil (then_n (wp_ret (inb_r (then_x (by nofun) ?_))))
  refine bodyPost_ret (v := .tuple #[.string (⟨#[]⟩), .int .i64 23]) (res2 rfl (rv_t (by kernel_rfl)) (rv_t (by kernel_rfl))) (by kernel_rfl) ?_
  exact ⟨rfl, (Mod.up M6)⟩
theorem ofO_at {B : Nat} {w : World} {p : Option Addr} {L : List Item} (h : OT B w p L) (hB : B ≤ w.heap.size) (hF : Fit L) (htab : Tab w) (m1 m2 : Int) (hm : (⟨m1, m2⟩ : Stamp) ≠ nilS) :
    Calls Tryz.prog 42 #[.pointer p, .agg #[.int .i64 m1, .int .i64 m2]] w fun e w' => ∃ k : Int, e = .returned (.tuple #[.string (ofB L ⟨m1, m2⟩), .int .i64 k]) ∧ Up w w' := by
  rcases h with ⟨tb, r, rfl, h⟩ | ⟨rfl, rfl⟩
  · exact (of_at h hB hF htab m1 m2).mono fun e w' ⟨h1, h2⟩ => ⟨_, h1, h2⟩
  · refine (ofNo_at m1 m2).mono fun e w' ⟨h1, h2⟩ => ⟨23, ?_, h2⟩
    rw [h1, (of_no (hangsO_no _ hm)).1]
set_option maxHeartbeats 2000000 in
theorem kind_at {B B' : Nat} {w : World} {a b : SideP} {A1 A2 : Option Addr} {n1 c1 n2 c2 : Nat} (hda : Dat B w (.slice A1 n1 c1) a.x.data) (hdb : Dat B' w (.slice A2 n2 c2) b.x.data) :
    Calls Tryz.prog 76 #[.agg #[.int .i64 a.x.node.t, .int .i64 a.x.node.w, .int .i64 a.x.parent.t, .int .i64 a.x.parent.w, .string a.x.name, .bool a.x.dir, .bool a.x.gone, .slice A1 n1 c1, .int .i64 a.x.by_.t, .int .i64 a.x.by_.w, .bool a.hangs, .string a.path], .agg #[.int .i64 b.x.node.t, .int .i64 b.x.node.w, .int .i64 b.x.parent.t, .int .i64 b.x.parent.w, .string b.x.name, .bool b.x.dir, .bool b.x.gone, .slice A2 n2 c2, .int .i64 b.x.by_.t, .int .i64 b.x.by_.w, .bool b.hangs, .string b.path]] w fun e w' => e = .returned (.int .i64 (kindP a b)) ∧ Up w w' := by
  go_enter Tryz.func76, Tryz.ntmps76
  refine wp_seq (rg_lit ?_)
  refine wl (sn rfl (cs := #[.int .i64 a.x.node.t, .int .i64 a.x.node.w, .int .i64 a.x.parent.t, .int .i64 a.x.parent.w, .string a.x.name, .bool a.x.dir, .bool a.x.gone, .slice A1 n1 c1, .int .i64 a.x.by_.t, .int .i64 a.x.by_.w, .bool a.hangs, .string a.path]) (T := 123) (V := fun b => .pointer (some ⟨b, 0, none⟩)) (r_box (v := .agg #[.int .i64 a.x.node.t, .int .i64 a.x.node.w, .int .i64 a.x.parent.t, .int .i64 a.x.parent.w, .string a.x.name, .bool a.x.dir, .bool a.x.gone, .slice A1 n1 c1, .int .i64 a.x.by_.t, .int .i64 a.x.by_.w, .bool a.hangs, .string a.path]) (by kernel_rfl) rfl) ?_)
  intro pb w1 e2 h3 u4
  have g5 : w.heap.size ≤ pb := by rw [e2]; exact (Mod.refl [] w).size
  have M6 := Mod.trans (Mod.refl [] w) (Mod.of_up u4)
  refine wl (sn rfl (cs := #[.int .i64 b.x.node.t, .int .i64 b.x.node.w, .int .i64 b.x.parent.t, .int .i64 b.x.parent.w, .string b.x.name, .bool b.x.dir, .bool b.x.gone, .slice A2 n2 c2, .int .i64 b.x.by_.t, .int .i64 b.x.by_.w, .bool b.hangs, .string b.path]) (T := 123) (V := fun b => .pointer (some ⟨b, 0, none⟩)) (r_box (v := .agg #[.int .i64 b.x.node.t, .int .i64 b.x.node.w, .int .i64 b.x.parent.t, .int .i64 b.x.parent.w, .string b.x.name, .bool b.x.dir, .bool b.x.gone, .slice A2 n2 c2, .int .i64 b.x.by_.t, .int .i64 b.x.by_.w, .bool b.hangs, .string b.path]) (by kernel_rfl) rfl) ?_)
  intro pc w7 e8 h9 u10
  have l11 : pb < pc := by rw [e8]; exact lt_ob h3
  have g12 : w.heap.size ≤ pc := by rw [e8]; exact M6.size
  have M13 := Mod.trans M6 (Mod.of_up u10)
  refine was (v := .int .i64 0) ?_
  refine wnil (then_n (wp_seq (wp_block (wp_seq (rg_lit ?_)))))
  refine wl (sv rfl (v := .pointer (some ⟨pb, 10, none⟩)) (r_fieldAddr (u := .pointer (some ⟨pb, 0, none⟩)) (by kernel_rfl) (fun _ => (by kernel_rfl))) ?_)
  have h14 := (up_ob u10 h3)
  refine wl (sv rfl (v := .bool a.hangs) (r_load (k := 10) (by kernel_rfl) Ty.ag4 h14 (by kernel_rfl)) ?_)
  refine wl (sv rfl (v := .bool (!a.hangs)) (r_not (b := a.hangs) (by kernel_rfl)) ?_)
  refine wmv (v := .bool (!a.hangs)) ?_
  refine bcase a.hangs (fun v15 => ?_) (fun v15 => ?_)
  ·
   refine wl (sv (wt (b := !a.hangs) rfl (by kernel_rfl) (bneg v15)) (v := .pointer (some ⟨pc, 10, none⟩)) (r_fieldAddr (u := .pointer (some ⟨pc, 0, none⟩)) (by kernel_rfl) (fun _ => (by kernel_rfl))) ?_)
   refine wl (sv (wt (b := !a.hangs) rfl (by kernel_rfl) (bneg v15)) (v := .bool b.hangs) (r_load (k := 10) (by kernel_rfl) Ty.ag4 h9 (by kernel_rfl)) ?_)
   refine wl (sv (wt (b := !a.hangs) rfl (by kernel_rfl) (bneg v15)) (v := .bool (!b.hangs)) (r_not (b := b.hangs) (by kernel_rfl)) ?_)
   refine wl (sv rfl (v := .bool (!b.hangs)) (r_pkT (ebool (b := !a.hangs) (by kernel_rfl) (bneg v15)) (by kernel_rfl)) ?_)
   refine was (v := .bool (!b.hangs)) ?_
   refine wnil (then_n ?_)
   refine bcase b.hangs (fun v16 => ?_) (fun v16 => ?_)
   ·
    refine wp_cond_true (ebool (b := !b.hangs) (by kernel_rfl) (bneg v16)) ?_
    refine wp_seq (rg_lit ?_)
    refine was (v := .int .i64 0) ?_
    refine wnil (then_n (wp_ret (inb_r (then_x (by nofun) ?_))))
    refine bodyPost_ret (v := .int .i64 0) (res1 rfl (rv_t (by kernel_rfl))) (by kernel_rfl) ?_
    exact ⟨by rw [kind_0 v15 v16], (Mod.up M13)⟩
   refine wp_cond_false (ebool (b := !b.hangs) (by kernel_rfl) (bneg v16)) ?_
   refine wp_seq (rg_lit ?_)
   refine wl (sv rfl (v := .pointer (some ⟨pb, 10, none⟩)) (r_fieldAddr (u := .pointer (some ⟨pb, 0, none⟩)) (by kernel_rfl) (fun _ => (by kernel_rfl))) ?_)
   refine wl (sv rfl (v := .bool a.hangs) (r_load (k := 10) (by kernel_rfl) Ty.ag4 h14 (by kernel_rfl)) ?_)
   refine wl (sv rfl (v := .bool (!a.hangs)) (r_not (b := a.hangs) (by kernel_rfl)) ?_)
   refine was (v := .bool (!a.hangs)) ?_
   refine wnil (then_n ?_)
   refine wp_cond_true (ebool (b := !a.hangs) (by kernel_rfl) (bneg v15)) ?_
   refine wp_seq (rg_lit ?_)
   refine was (v := .int .i64 1) ?_
   refine wnil (then_n (wp_ret (inb_r (then_x (by nofun) ?_))))
   refine bodyPost_ret (v := .int .i64 1) (res1 rfl (rv_t (by kernel_rfl))) (by kernel_rfl) ?_
   exact ⟨by rw [kind_1 v15 v16], (Mod.up M13)⟩
  refine wl (sp (wf (b := !a.hangs) rfl (by kernel_rfl) (bneg v15)) ?_)
  refine wl (sp (wf (b := !a.hangs) rfl (by kernel_rfl) (bneg v15)) ?_)
  refine wl (sp (wf (b := !a.hangs) rfl (by kernel_rfl) (bneg v15)) ?_)
  refine wl (sv rfl (v := .bool false) (r_pkF (ebool (b := !a.hangs) (by kernel_rfl) (bneg v15)) (by kernel_rfl)) ?_)
  refine was (v := .bool false) ?_
  refine wnil (then_n ?_)
  refine wp_cond_false (by kernel_rfl) ?_
  refine wp_seq (rg_lit ?_)
  refine wl (sv rfl (v := .pointer (some ⟨pb, 10, none⟩)) (r_fieldAddr (u := .pointer (some ⟨pb, 0, none⟩)) (by kernel_rfl) (fun _ => (by kernel_rfl))) ?_)
  refine wl (sv rfl (v := .bool a.hangs) (r_load (k := 10) (by kernel_rfl) Ty.ag4 h14 (by kernel_rfl)) ?_)
  refine wl (sv rfl (v := .bool (!a.hangs)) (r_not (b := a.hangs) (by kernel_rfl)) ?_)
  refine was (v := .bool (!a.hangs)) ?_
  refine wnil (then_n ?_)
  refine wp_cond_false (ebool (b := !a.hangs) (by kernel_rfl) (bneg v15)) ?_
  refine wp_seq (rg_lit ?_)
  refine wl (sv rfl (v := .pointer (some ⟨pc, 10, none⟩)) (r_fieldAddr (u := .pointer (some ⟨pc, 0, none⟩)) (by kernel_rfl) (fun _ => (by kernel_rfl))) ?_)
  refine wl (sv rfl (v := .bool b.hangs) (r_load (k := 10) (by kernel_rfl) Ty.ag4 h9 (by kernel_rfl)) ?_)
  refine wl (sv rfl (v := .bool (!b.hangs)) (r_not (b := b.hangs) (by kernel_rfl)) ?_)
  refine was (v := .bool (!b.hangs)) ?_
  refine wnil (then_n ?_)
  refine bcase b.hangs (fun v16 => ?_) (fun v16 => ?_)
  ·
   refine wp_cond_true (ebool (b := !b.hangs) (by kernel_rfl) (bneg v16)) ?_
   refine wp_seq (rg_lit ?_)
   refine was (v := .int .i64 2) ?_
   refine wnil (then_n (wp_ret (inb_r (then_x (by nofun) ?_))))
   refine bodyPost_ret (v := .int .i64 2) (res1 rfl (rv_t (by kernel_rfl))) (by kernel_rfl) ?_
   exact ⟨by rw [kind_2 v15 v16], (Mod.up M13)⟩
  refine wp_cond_false (ebool (b := !b.hangs) (by kernel_rfl) (bneg v16)) ?_
  refine wp_seq (rg_lit ?_)
  refine wl (sv rfl (v := .pointer (some ⟨pb, 11, none⟩)) (r_fieldAddr (u := .pointer (some ⟨pb, 0, none⟩)) (by kernel_rfl) (fun _ => (by kernel_rfl))) ?_)
  refine wl (sv rfl (v := .string a.path) (r_load (k := 11) (by kernel_rfl) Ty.ag9 h14 (by kernel_rfl)) ?_)
  refine wl (sv rfl (v := .pointer (some ⟨pc, 11, none⟩)) (r_fieldAddr (u := .pointer (some ⟨pc, 0, none⟩)) (by kernel_rfl) (fun _ => (by kernel_rfl))) ?_)
  refine wl (sv rfl (v := .string b.path) (r_load (k := 11) (by kernel_rfl) Ty.ag9 h9 (by kernel_rfl)) ?_)
  refine wl (sb rfl (r_nes (m := a.path) (n := b.path) (by kernel_rfl) (by kernel_rfl)) ?_)
  intro b17 k18
  refine was (v := .bool b17) ?_
  refine wnil (then_n ?_)
  refine bcase b17 (fun v19 => ?_) (fun v19 => ?_)
  ·
   have p20 := of_decide_eq_false (k18.trans v19)
   refine wp_cond_false (ebool (b := b17) (by kernel_rfl) v19) ?_
   refine wp_seq (rg_lit ?_)
   refine wl (sv rfl (v := .pointer (some ⟨pb, 0, none⟩)) (r_fieldAddr (u := .pointer (some ⟨pb, 0, none⟩)) (by kernel_rfl) (fun _ => (by kernel_rfl))) ?_)
   refine wl (sv rfl (v := .pointer (some ⟨pb, 8, none⟩)) (r_fieldAddr (u := .pointer (some ⟨pb, 0, none⟩)) (by kernel_rfl) (fun _ => (by kernel_rfl))) ?_)
   refine wl (sv rfl (v := .agg #[.int .i64 a.x.by_.t, .int .i64 a.x.by_.w]) (r_loads (k := 8) (by kernel_rfl) Ty.ag24 Ty.sz24 h14 (by kernel_rfl)) ?_)
   refine wl (sv rfl (v := .pointer (some ⟨pc, 0, none⟩)) (r_fieldAddr (u := .pointer (some ⟨pc, 0, none⟩)) (by kernel_rfl) (fun _ => (by kernel_rfl))) ?_)
   refine wl (sv rfl (v := .pointer (some ⟨pc, 8, none⟩)) (r_fieldAddr (u := .pointer (some ⟨pc, 0, none⟩)) (by kernel_rfl) (fun _ => (by kernel_rfl))) ?_)
   refine wl (sv rfl (v := .agg #[.int .i64 b.x.by_.t, .int .i64 b.x.by_.w]) (r_loads (k := 8) (by kernel_rfl) Ty.ag24 Ty.sz24 h9 (by kernel_rfl)) ?_)
   refine wl (sb rfl (r_neS2 (a := a.x.by_.t) (b := a.x.by_.w) (c := b.x.by_.t) (e := b.x.by_.w) (by kernel_rfl) (by kernel_rfl)) ?_)
   intro b21 k22
   refine wmv (v := .bool b21) ?_
   refine bcase b21 (fun v23 => ?_) (fun v23 => ?_)
   ·
    have p24 := of_decide_eq_false (k22.trans v23)
    refine wl (sv (wt (b := b21) rfl (by kernel_rfl) v23) (v := .pointer (some ⟨pb, 0, none⟩)) (r_fieldAddr (u := .pointer (some ⟨pb, 0, none⟩)) (by kernel_rfl) (fun _ => (by kernel_rfl))) ?_)
    refine wl (sv (wt (b := b21) rfl (by kernel_rfl) v23) (v := .pointer (some ⟨pb, 7, none⟩)) (r_fieldAddr (u := .pointer (some ⟨pb, 0, none⟩)) (by kernel_rfl) (fun _ => (by kernel_rfl))) ?_)
    refine wl (sv (wt (b := b21) rfl (by kernel_rfl) v23) (v := .slice A1 n1 c1) (r_load (k := 7) (by kernel_rfl) Ty.ag40 h14 (by kernel_rfl)) ?_)
    refine wl (sv (wt (b := b21) rfl (by kernel_rfl) v23) (v := .pointer (some ⟨pc, 0, none⟩)) (r_fieldAddr (u := .pointer (some ⟨pc, 0, none⟩)) (by kernel_rfl) (fun _ => (by kernel_rfl))) ?_)
    refine wl (sv (wt (b := b21) rfl (by kernel_rfl) v23) (v := .pointer (some ⟨pc, 7, none⟩)) (r_fieldAddr (u := .pointer (some ⟨pc, 0, none⟩)) (by kernel_rfl) (fun _ => (by kernel_rfl))) ?_)
    refine wl (sv (wt (b := b21) rfl (by kernel_rfl) v23) (v := .slice A2 n2 c2) (r_load (k := 7) (by kernel_rfl) Ty.ag40 h9 (by kernel_rfl)) ?_)
    have h25 := (Dat.up hda (Mod.up M13))
    have h26 := (Dat.up hdb (Mod.up M13))
    refine wl (sc (wt (b := b21) rfl (by kernel_rfl) v23) (r_callv (caps := []) (all := [.slice A1 n1 c1, .slice A2 n2 c2]) En.f138 (by kernel_rfl) (by kernel_rfl)) (bequalV_at h25 h26) ?_)
    rintro e w27 ⟨rfl, u28⟩
    refine ⟨.bool (decide (a.x.data = b.x.data)), rfl, ?_⟩
    have M29 := Mod.trans M13 (Mod.of_up u28)
    refine wl (sv (wt (b := b21) rfl (by kernel_rfl) v23) (v := .bool (!(decide (a.x.data = b.x.data)))) (r_not (b := (decide (a.x.data = b.x.data))) (by kernel_rfl)) ?_)
    refine wl (sv rfl (v := .bool (!(decide (a.x.data = b.x.data)))) (r_pkF (ebool (b := b21) (by kernel_rfl) v23) (by kernel_rfl)) ?_)
    refine was (v := .bool (!(decide (a.x.data = b.x.data)))) ?_
    refine wnil (then_n ?_)
    refine bcase (decide (a.x.data = b.x.data)) (fun v30 => ?_) (fun v30 => ?_)
    ·
     refine wp_cond_true (ebool (b := !(decide (a.x.data = b.x.data))) (by kernel_rfl) (bneg v30)) ?_
     refine wp_seq (rg_lit ?_)
     refine was (v := .int .i64 4) ?_
     refine wnil (then_n (wp_ret (inb_r (then_x (by nofun) ?_))))
     refine bodyPost_ret (v := .int .i64 4) (res1 rfl (rv_t (by kernel_rfl))) (by kernel_rfl) ?_
     exact ⟨by rw [kind_4 v15 v16 (Decidable.not_not.1 p20) (.inr (of_decide_eq_false v30))], (Mod.up M29)⟩
    refine wp_cond_false (ebool (b := !(decide (a.x.data = b.x.data))) (by kernel_rfl) (bneg v30)) ?_
    refine wp_skip (inb_n (then_n (wp_seq (rg_lit ?_))))
    refine was (v := .int .i64 0) ?_
    refine wnil (then_n (wp_ret ?_))
    refine bodyPost_ret (v := .int .i64 0) (res1 rfl (rv_t (by kernel_rfl))) (by kernel_rfl) ?_
    exact ⟨by rw [kind_5 v15 v16 (Decidable.not_not.1 p20) (Decidable.not_not.1 p24) (of_decide_eq_true v30)], (Mod.up M29)⟩
   have p24 := of_decide_eq_true (k22.trans v23)
   refine wl (sp (wf (b := b21) rfl (by kernel_rfl) v23) ?_)
   refine wl (sp (wf (b := b21) rfl (by kernel_rfl) v23) ?_)
   refine wl (sp (wf (b := b21) rfl (by kernel_rfl) v23) ?_)
   refine wl (sp (wf (b := b21) rfl (by kernel_rfl) v23) ?_)
   refine wl (sp (wf (b := b21) rfl (by kernel_rfl) v23) ?_)
   refine wl (sp (wf (b := b21) rfl (by kernel_rfl) v23) ?_)
   refine wl (sp (wf (b := b21) rfl (by kernel_rfl) v23) ?_)
   refine wl (sp (wf (b := b21) rfl (by kernel_rfl) v23) ?_)
   refine wl (sv rfl (v := .bool true) (r_pkT (ebool (b := b21) (by kernel_rfl) v23) (by kernel_rfl)) ?_)
   refine was (v := .bool true) ?_
   refine wnil (then_n ?_)
   refine wp_cond_true (by kernel_rfl) ?_
   refine wp_seq (rg_lit ?_)
   refine was (v := .int .i64 4) ?_
   refine wnil (then_n (wp_ret (inb_r (then_x (by nofun) ?_))))
   refine bodyPost_ret (v := .int .i64 4) (res1 rfl (rv_t (by kernel_rfl))) (by kernel_rfl) ?_
   exact ⟨by rw [kind_4 v15 v16 (Decidable.not_not.1 p20) (.inl p24)], (Mod.up M13)⟩
  have p20 := of_decide_eq_true (k18.trans v19)
  refine wp_cond_true (ebool (b := b17) (by kernel_rfl) v19) ?_
  refine wp_seq (rg_lit ?_)
  refine was (v := .int .i64 3) ?_
  refine wnil (then_n (wp_ret (inb_r (then_x (by nofun) ?_))))
  refine bodyPost_ret (v := .int .i64 3) (res1 rfl (rv_t (by kernel_rfl))) (by kernel_rfl) ?_
  exact ⟨by rw [kind_3 v15 v16 p20], (Mod.up M13)⟩
set_option maxHeartbeats 2000000 in
theorem look_at {w : World} (p : Option Addr) : Calls Tryz.prog 74 #[.pointer p] w fun e w' => ∃ v, e = .returned v ∧ LookAt w' v p ∧ Up w w' := by
  go_enter Tryz.func74, Tryz.ntmps74
  refine wp_seq (rg_lit ?_)
  refine wl (sn rfl (cs := #[.pointer p]) (T := 27) (V := fun b => .pointer (some ⟨b, 0, none⟩)) (r_box (v := .pointer p) (by kernel_rfl) rfl) ?_)
  intro pb w1 e2 h3 u4
  have g5 : w.heap.size ≤ pb := by rw [e2]; exact (Mod.refl [] w).size
  have M6 := Mod.trans (Mod.refl [] w) (Mod.of_up u4)
  refine was (v := .nilFunc) ?_
  refine wnil (then_n (wp_seq ?_))
  refine rg_held [] (n := 8) (by kernel_rfl) rfl ?_
  intro w7 u8
  have M9 := Mod.trans M6 (Mod.of_up u8)
  have h10 := (up_ob u8 h3)
  refine hvq (i := 0) (fuel := 7) rfl (fun _ _ _ h => h) (Mod.refl _ _) rfl (v := .pointer p) (fun _ uz => r_load (k := 0) (by kernel_rfl) Ty.ag27 (md_ob uz nin0 h10) (by kernel_rfl)) ?_
  refine hvq (i := 1) (fuel := 6) rfl (fun _ _ _ h => h) (Mod.refl _ _) rfl (v := .func (.func 20) #[.pointer p] #[]) (fun _ _ => r_makeFunc (us := [.pointer p]) (vs := []) (by kernel_rfl) rfl) ?_
  refine hvq (i := 2) (fuel := 5) rfl (fun _ _ _ h => h) (Mod.refl _ _) rfl (v := .pointer p) (fun _ uz => r_load (k := 0) (by kernel_rfl) Ty.ag27 (md_ob uz nin0 h10) (by kernel_rfl)) ?_
  refine hvq (i := 3) (fuel := 4) rfl (fun _ _ _ h => h) (Mod.refl _ _) rfl (v := .func (.func 39) #[.pointer p] #[]) (fun _ _ => r_makeFunc (us := [.pointer p]) (vs := []) (by kernel_rfl) rfl) ?_
  refine h2 (i := 4) (j := 5) (fuel := 3) (by kernel_rfl) rfl rfl ?_ ?_
  ·
   refine sn rfl (cs := #[.nilFunc]) (T := 44) (V := fun b => .pointer (some ⟨b, 0, none⟩)) (r_alloc Ty.zv44 rfl) ?_
   intro b11 w12 e13 h14 u15
   have l16 : pb < b11 := by rw [e13]; exact lt_ob h10
   have g17 : w.heap.size ≤ b11 := by rw [e13]; exact M9.size
   have M18 := Mod.trans M9 (Mod.of_up u15)
   refine hx (Y := [b11]) (Mod.of_up u15) (ynew e13) ?_
   refine h1 (i := 5) (fuel := 2) (by kernel_rfl) rfl (sn rfl (cs := #[.nilFunc]) (T := 76) (V := fun b => .pointer (some ⟨b, 0, none⟩)) (r_alloc Ty.zv76 rfl) ?_)
   intro b19 w20 e21 h22 u23
   have h24 := (up_ob u15 h10)
   have l25 : pb < b19 := by rw [e21]; exact lt_ob h24
   have l26 : b11 < b19 := by rw [e21]; exact lt_ob h14
   have g27 : w.heap.size ≤ b19 := by rw [e21]; exact M18.size
   have M28 := Mod.trans M18 (Mod.of_up u23)
   refine hx (Y := [b19, b11]) (Mod.of_up u23) (ynew e21) ?_
   have h29 := (up_ob u23 h14)
   refine h1 (i := 6) (fuel := 1) (by kernel_rfl) rfl (ss rfl (k := 0) (v := .func (.func 20) #[.pointer p] #[]) (vs := [.func (.func 20) #[.pointer p] #[]]) (cs' := [.func (.func 20) #[.pointer p] #[]]) (by kernel_rfl) (by kernel_rfl) rfl Ty.sz44 h29 rfl (Nat.le_of_ble_eq_true rfl) rfl ?_)
   intro w30 h31 c32
   have M33 := Mod.trans' M28 c32 (fun i hi => by injection hi with hi; rw [← hi]; exact g17)
   refine hx (Y := [b19, b11]) (Mod.of_chg c32 (by simp)) (fun y hy => .inl hy) ?_
   have h34 := (chg_ob c32 (Nat.ne_of_gt l26) h22)
   refine h1 (i := 7) (fuel := 0) (by kernel_rfl) rfl (ss rfl (k := 0) (v := .func (.func 39) #[.pointer p] #[]) (vs := [.func (.func 39) #[.pointer p] #[]]) (cs' := [.func (.func 39) #[.pointer p] #[]]) (by kernel_rfl) (by kernel_rfl) rfl Ty.sz76 h34 rfl (Nat.le_of_ble_eq_true rfl) rfl ?_)
   intro w35 h36 c37
   have M38 := Mod.trans' M33 c37 (fun i hi => by injection hi with hi; rw [← hi]; exact g27)
   refine hx (Y := [b19, b11]) (Mod.of_chg c37 (by simp)) (fun y hy => .inl hy) ?_
   refine hend (by kernel_rfl) ?_
   refine then_n (wp_seq (rg_lit ?_))
   refine wl (sv rfl (v := .func (.func 133) #[] #[.pointer (some ⟨b11, 0, none⟩), .pointer (some ⟨pb, 0, none⟩), .pointer (some ⟨b19, 0, none⟩)]) (r_makeFunc (us := []) (vs := [.pointer (some ⟨b11, 0, none⟩), .pointer (some ⟨pb, 0, none⟩), .pointer (some ⟨b19, 0, none⟩)]) rfl (by kernel_rfl)) ?_)
   refine was (v := .func (.func 133) #[] #[.pointer (some ⟨b11, 0, none⟩), .pointer (some ⟨pb, 0, none⟩), .pointer (some ⟨b19, 0, none⟩)]) ?_
   refine wnil (then_n (wp_ret ?_))
   refine bodyPost_ret (v := .func (.func 133) #[] #[.pointer (some ⟨b11, 0, none⟩), .pointer (some ⟨pb, 0, none⟩), .pointer (some ⟨b19, 0, none⟩)]) (res1 rfl (rv_t (by kernel_rfl))) (by kernel_rfl) ?_
   have h39 := (chg_ob c37 (Nat.ne_of_lt l26) h31)
   have h40 := (chg_ob c37 (Nat.ne_of_lt l25) (chg_ob c32 (Nat.ne_of_lt l16) (up_ob u23 h24)))
   exact ⟨_, rfl, ⟨b11, pb, b19, rfl, h39, h40, h36⟩, (Mod.up M38)⟩
  ·
   refine sn rfl (cs := #[.nilFunc]) (T := 76) (V := fun b => .pointer (some ⟨b, 0, none⟩)) (r_alloc Ty.zv76 rfl) ?_
   intro b11 w12 e13 h14 u15
   have l16 : pb < b11 := by rw [e13]; exact lt_ob h10
   have g17 : w.heap.size ≤ b11 := by rw [e13]; exact M9.size
   have M18 := Mod.trans M9 (Mod.of_up u15)
   refine hx (Y := [b11]) (Mod.of_up u15) (ynew e13) ?_
   refine h1 (i := 4) (fuel := 2) (by kernel_rfl) rfl (sn rfl (cs := #[.nilFunc]) (T := 44) (V := fun b => .pointer (some ⟨b, 0, none⟩)) (r_alloc Ty.zv44 rfl) ?_)
   intro b19 w20 e21 h22 u23
   have h24 := (up_ob u15 h10)
   have l25 : pb < b19 := by rw [e21]; exact lt_ob h24
   have l26 : b11 < b19 := by rw [e21]; exact lt_ob h14
   have g27 : w.heap.size ≤ b19 := by rw [e21]; exact M18.size
   have M28 := Mod.trans M18 (Mod.of_up u23)
   refine hx (Y := [b19, b11]) (Mod.of_up u23) (ynew e21) ?_
   refine h1 (i := 6) (fuel := 1) (by kernel_rfl) rfl (ss rfl (k := 0) (v := .func (.func 20) #[.pointer p] #[]) (vs := [.func (.func 20) #[.pointer p] #[]]) (cs' := [.func (.func 20) #[.pointer p] #[]]) (by kernel_rfl) (by kernel_rfl) rfl Ty.sz44 h22 rfl (Nat.le_of_ble_eq_true rfl) rfl ?_)
   intro w29 h30 c31
   have M32 := Mod.trans' M28 c31 (fun i hi => by injection hi with hi; rw [← hi]; exact g27)
   refine hx (Y := [b19, b11]) (Mod.of_chg c31 (by simp)) (fun y hy => .inl hy) ?_
   have h33 := (chg_ob c31 (Nat.ne_of_lt l26) (up_ob u23 h14))
   refine h1 (i := 7) (fuel := 0) (by kernel_rfl) rfl (ss rfl (k := 0) (v := .func (.func 39) #[.pointer p] #[]) (vs := [.func (.func 39) #[.pointer p] #[]]) (cs' := [.func (.func 39) #[.pointer p] #[]]) (by kernel_rfl) (by kernel_rfl) rfl Ty.sz76 h33 rfl (Nat.le_of_ble_eq_true rfl) rfl ?_)
   intro w34 h35 c36
   have M37 := Mod.trans' M32 c36 (fun i hi => by injection hi with hi; rw [← hi]; exact g17)
   refine hx (Y := [b19, b11]) (Mod.of_chg c36 (by simp)) (fun y hy => .inl hy) ?_
   refine hend (by kernel_rfl) ?_
   refine then_n (wp_seq (rg_lit ?_))
   refine wl (sv rfl (v := .func (.func 133) #[] #[.pointer (some ⟨b19, 0, none⟩), .pointer (some ⟨pb, 0, none⟩), .pointer (some ⟨b11, 0, none⟩)]) (r_makeFunc (us := []) (vs := [.pointer (some ⟨b19, 0, none⟩), .pointer (some ⟨pb, 0, none⟩), .pointer (some ⟨b11, 0, none⟩)]) rfl (by kernel_rfl)) ?_)
   refine was (v := .func (.func 133) #[] #[.pointer (some ⟨b19, 0, none⟩), .pointer (some ⟨pb, 0, none⟩), .pointer (some ⟨b11, 0, none⟩)]) ?_
   refine wnil (then_n (wp_ret ?_))
   refine bodyPost_ret (v := .func (.func 133) #[] #[.pointer (some ⟨b19, 0, none⟩), .pointer (some ⟨pb, 0, none⟩), .pointer (some ⟨b11, 0, none⟩)]) (res1 rfl (rv_t (by kernel_rfl))) (by kernel_rfl) ?_
   have h38 := (chg_ob c36 (Nat.ne_of_gt l26) h30)
   have h39 := (chg_ob c36 (Nat.ne_of_lt l16) (chg_ob c31 (Nat.ne_of_lt l25) (up_ob u23 h24)))
   exact ⟨_, rfl, ⟨b19, pb, b11, rfl, h38, h39, h35⟩, (Mod.up M37)⟩
set_option maxHeartbeats 2000000 in
theorem look1b_at {B : Nat} {w : World} {p : Option Addr} {L : List Item} {b1 b2 b3 : Nat} (h : OT B w p L) (hB : B ≤ w.heap.size) (hF : Fit L) (htab : Tab w) (m1 m2 : Int) (hm : (⟨m1, m2⟩ : Stamp) ≠ nilS)
    (hb1 : w.heap[b1]? = some (.cells #[.func (.func 20) #[.pointer p] #[]] 44 (0, 0))) (hb2 : w.heap[b2]? = some (.cells #[.pointer p] 27 (0, 0))) (hb3 : w.heap[b3]? = some (.cells #[.func (.func 39) #[.pointer p] #[]] 76 (0, 0))) :
    Calls Tryz.prog 133 #[.agg #[.int .i64 m1, .int .i64 m2], .pointer (some ⟨b1, 0, none⟩), .pointer (some ⟨b2, 0, none⟩), .pointer (some ⟨b3, 0, none⟩)] w fun e w' => ∃ A n c, e = .returned (sdV (sideP L ⟨m1, m2⟩) (.slice A n c)) ∧ Dat B w' (.slice A n c) (sideP L ⟨m1, m2⟩).x.data ∧ Up w w' := by
  go_enter Tryz.func133, Tryz.ntmps133
  refine wp_seq (rg_lit ?_)
  refine wl (sn rfl (cs := #[.int .i64 m1, .int .i64 m2]) (T := 24) (V := fun b => .pointer (some ⟨b, 0, none⟩)) (r_box (v := .agg #[.int .i64 m1, .int .i64 m2]) (by kernel_rfl) rfl) ?_)
  intro pb w1 e2 h3 u4
  have l5 : b1 < pb := by rw [e2]; exact lt_ob hb1
  have l6 : b2 < pb := by rw [e2]; exact lt_ob hb2
  have l7 : b3 < pb := by rw [e2]; exact lt_ob hb3
  have g8 : w.heap.size ≤ pb := by rw [e2]; exact (Mod.refl [] w).size
  have M9 := Mod.trans (Mod.refl [] w) (Mod.of_up u4)
  refine wl (sn rfl (cs := #[.int .i64 0, .int .i64 0, .int .i64 0, .int .i64 0, .string (⟨#[]⟩), .bool false, .bool false, .slice none 0 0, .int .i64 0, .int .i64 0, .bool false, .string (⟨#[]⟩)]) (T := 123) (V := fun b => .pointer (some ⟨b, 0, none⟩)) (r_alloc Ty.zv123 rfl) ?_)
  intro b10 w11 e12 h13 u14
  have h15 := md_ob M9 nin0 hb1
  have l16 : b1 < b10 := by rw [e12]; exact lt_ob h15
  have h17 := md_ob M9 nin0 hb2
  have l18 : b2 < b10 := by rw [e12]; exact lt_ob h17
  have h19 := md_ob M9 nin0 hb3
  have l20 : b3 < b10 := by rw [e12]; exact lt_ob h19
  have l21 : pb < b10 := by rw [e12]; exact lt_ob h3
  have g22 : w.heap.size ≤ b10 := by rw [e12]; exact M9.size
  have M23 := Mod.trans M9 (Mod.of_up u14)
  refine wnil (then_n (wp_seq (rg_lit ?_)))
  have h24 := md_ob M23 nin0 hb1
  refine wl (sv rfl (v := .func (.func 20) #[.pointer p] #[]) (r_load (k := 0) (by kernel_rfl) Ty.ag44 h24 (by kernel_rfl)) ?_)
  have h25 := (up_ob u14 h3)
  refine wl (sv rfl (v := .agg #[.int .i64 m1, .int .i64 m2]) (r_loads (k := 0) (by kernel_rfl) Ty.ag24 Ty.sz24 h25 (by kernel_rfl)) ?_)
  have h26 := (OT.up h (Mod.up M23))
  refine wl (sc rfl (r_callb (us := [.pointer p]) (all := [.pointer p, .agg #[.int .i64 m1, .int .i64 m2]]) En.f20 (by kernel_rfl) (by kernel_rfl)) (getO_at h26 m1 m2) ?_)
  rintro e w27 ⟨A28, n29, c30, rfl, h31, u32⟩
  refine ⟨.tuple #[itV (gotI L ⟨m1, m2⟩) (.slice A28 n29 c30), .bool (hasI L ⟨m1, m2⟩)], rfl, ?_⟩
  have M33 := Mod.trans M23 (Mod.of_up u32)
  refine wmv (v := .tuple #[itV (gotI L ⟨m1, m2⟩) (.slice A28 n29 c30), .bool (hasI L ⟨m1, m2⟩)]) ?_
  refine wl (sv rfl (v := itV (gotI L ⟨m1, m2⟩) (.slice A28 n29 c30)) (r_extract (vs := [itV (gotI L ⟨m1, m2⟩) (.slice A28 n29 c30), .bool (hasI L ⟨m1, m2⟩)]) (by kernel_rfl) rfl) ?_)
  refine wl (sv rfl (v := .bool (hasI L ⟨m1, m2⟩)) (r_extract (vs := [itV (gotI L ⟨m1, m2⟩) (.slice A28 n29 c30), .bool (hasI L ⟨m1, m2⟩)]) (by kernel_rfl) rfl) ?_)
  refine wl (sn rfl (cs := #[.int .i64 0, .int .i64 0, .int .i64 0, .int .i64 0, .string (⟨#[]⟩), .bool false, .bool false, .slice none 0 0, .int .i64 0, .int .i64 0]) (T := 42) (V := fun b => .pointer (some ⟨b, 0, none⟩)) (r_alloc Ty.zv42 rfl) ?_)
  intro b34 w35 e36 h37 u38
  have h39 := md_ob M33 nin0 hb1
  have l40 : b1 < b34 := by rw [e36]; exact lt_ob h39
  have h41 := md_ob M33 nin0 hb2
  have l42 : b2 < b34 := by rw [e36]; exact lt_ob h41
  have h43 := md_ob M33 nin0 hb3
  have l44 : b3 < b34 := by rw [e36]; exact lt_ob h43
  have h45 := (up_ob u32 h25)
  have l46 : pb < b34 := by rw [e36]; exact lt_ob h45
  have h47 := (up_ob u32 h13)
  have l48 : b10 < b34 := by rw [e36]; exact lt_ob h47
  have g49 : w.heap.size ≤ b34 := by rw [e36]; exact M33.size
  have M50 := Mod.trans M33 (Mod.of_up u38)
  refine wl (ss rfl (k := 0) (v := itV (gotI L ⟨m1, m2⟩) (.slice A28 n29 c30)) (vs := (itC (gotI L ⟨m1, m2⟩) (.slice A28 n29 c30))) (cs' := (itC (gotI L ⟨m1, m2⟩) (.slice A28 n29 c30))) (by kernel_rfl) (by kernel_rfl) rfl Ty.sz42 h37 rfl (Nat.le_of_ble_eq_true rfl) rfl ?_)
  intro w51 h52 c53
  have M54 := Mod.trans' M50 c53 (fun i hi => by injection hi with hi; rw [← hi]; exact g49)
  refine was (v := .bool (hasI L ⟨m1, m2⟩)) ?_
  refine wnil (then_n (wp_seq (rg_lit ?_)))
  have h55 := md_ob M54 nin0 hb2
  refine wl (sv rfl (v := .pointer p) (r_load (k := 0) (by kernel_rfl) Ty.ag27 h55 (by kernel_rfl)) ?_)
  have h56 := (chg_ob c53 (Nat.ne_of_lt l46) (up_ob u38 h45))
  refine wl (sv rfl (v := .agg #[.int .i64 m1, .int .i64 m2]) (r_loads (k := 0) (by kernel_rfl) Ty.ag24 Ty.sz24 h56 (by kernel_rfl)) ?_)
  have h57 := (OT.up h (Mod.up M54))
  refine wl (sc rfl (r_callv (caps := []) (all := [.pointer p, .agg #[.int .i64 m1, .int .i64 m2]]) En.f42 (by kernel_rfl) (by kernel_rfl)) (ofO_at h57 (Nat.le_trans hB M54.size) hF (TabIs.up htab (Mod.up M54)) m1 m2 hm) ?_)
  rintro e w58 ⟨k59, rfl, u60⟩
  refine ⟨.tuple #[.string (ofB L ⟨m1, m2⟩), .int .i64 k59], rfl, ?_⟩
  have M61 := Mod.trans M54 (Mod.of_up u60)
  refine wmv (v := .tuple #[.string (ofB L ⟨m1, m2⟩), .int .i64 k59]) ?_
  refine wl (sv rfl (v := .string (ofB L ⟨m1, m2⟩)) (r_extract (vs := [.string (ofB L ⟨m1, m2⟩), .int .i64 k59]) (by kernel_rfl) rfl) ?_)
  refine wl (sv rfl (v := .int .i64 k59) (r_extract (vs := [.string (ofB L ⟨m1, m2⟩), .int .i64 k59]) (by kernel_rfl) rfl) ?_)
  refine was (v := .string (ofB L ⟨m1, m2⟩)) ?_
  refine was (v := .int .i64 k59) ?_
  refine wnil (then_n (wp_seq ?_))
  refine rg_held [b10] (n := 7) (by kernel_rfl) rfl ?_
  intro w62 u63
  have M64 := Mod.trans M61 (Mod.of_up u63)
  have h65 := (up_ob u63 (up_ob u60 h52))
  refine hvq (i := 0) (fuel := 6) rfl (fun _ _ _ h => h) (Mod.refl _ _) rfl (v := itV (gotI L ⟨m1, m2⟩) (.slice A28 n29 c30)) (fun _ uz => r_loads (k := 0) (by kernel_rfl) Ty.ag42 Ty.sz42 (md_ob uz (nin1 (Nat.ne_of_gt l48)) h65) (by kernel_rfl)) ?_
  have h66 := md_ob M64 nin0 hb3
  refine hvq (i := 1) (fuel := 5) rfl (fun _ _ _ h => h) (Mod.refl _ _) rfl (v := .func (.func 39) #[.pointer p] #[]) (fun _ uz => r_load (k := 0) (by kernel_rfl) Ty.ag76 (md_ob uz (nin1 (Nat.ne_of_lt l20)) h66) (by kernel_rfl)) ?_
  have h67 := (up_ob u63 (up_ob u60 h56))
  refine hvq (i := 2) (fuel := 4) rfl (fun _ _ _ h => h) (Mod.refl _ _) rfl (v := .agg #[.int .i64 m1, .int .i64 m2]) (fun _ uz => r_loads (k := 0) (by kernel_rfl) Ty.ag24 Ty.sz24 (md_ob uz (nin1 (Nat.ne_of_lt l21)) h67) (by kernel_rfl)) ?_
  refine hvq (i := 4) (fuel := 3) rfl (fun _ _ _ h => h) (Mod.refl _ _) rfl (v := .string (ofB L ⟨m1, m2⟩)) (fun _ _ => r_move (by kernel_rfl)) ?_
  have h68 := (OT.up h (Mod.up M64))
  refine h1 (i := 3) (fuel := 2) (by kernel_rfl) rfl (sc rfl (r_callb (us := [.pointer p]) (all := [.pointer p, .agg #[.int .i64 m1, .int .i64 m2]]) En.f39 (by kernel_rfl) (by kernel_rfl)) (hangsO_at h68 m1 m2 hm) ?_)
  rintro e w69 ⟨rfl, u70⟩
  refine ⟨.bool (hangsI L 301 ⟨m1, m2⟩), rfl, ?_⟩
  have M71 := Mod.trans M64 (Mod.of_up u70)
  refine hx (Y := [b10]) (Mod.of_up u70) (fun y hy => .inl hy) ?_
  refine hvq (i := 5) (fuel := 1) rfl (fun _ _ _ h => h) (Mod.refl _ _) rfl (v := .agg #[.int .i64 ((gotI L ⟨m1, m2⟩).node.t), .int .i64 ((gotI L ⟨m1, m2⟩).node.w), .int .i64 ((gotI L ⟨m1, m2⟩).parent.t), .int .i64 ((gotI L ⟨m1, m2⟩).parent.w), .string ((gotI L ⟨m1, m2⟩).name), .bool ((gotI L ⟨m1, m2⟩).dir), .bool ((gotI L ⟨m1, m2⟩).gone), .slice A28 n29 c30, .int .i64 ((gotI L ⟨m1, m2⟩).by_.t), .int .i64 ((gotI L ⟨m1, m2⟩).by_.w), .bool (hangsI L 301 ⟨m1, m2⟩), .string (ofB L ⟨m1, m2⟩)]) (fun _ _ => r_build (ps := [(0, itV (gotI L ⟨m1, m2⟩) (.slice A28 n29 c30)), (1, .bool (hangsI L 301 ⟨m1, m2⟩)), (2, .string (ofB L ⟨m1, m2⟩))]) (cs := [.int .i64 ((gotI L ⟨m1, m2⟩).node.t), .int .i64 ((gotI L ⟨m1, m2⟩).node.w), .int .i64 ((gotI L ⟨m1, m2⟩).parent.t), .int .i64 ((gotI L ⟨m1, m2⟩).parent.w), .string ((gotI L ⟨m1, m2⟩).name), .bool ((gotI L ⟨m1, m2⟩).dir), .bool ((gotI L ⟨m1, m2⟩).gone), .slice A28 n29 c30, .int .i64 ((gotI L ⟨m1, m2⟩).by_.t), .int .i64 ((gotI L ⟨m1, m2⟩).by_.w), .bool (hangsI L 301 ⟨m1, m2⟩), .string (ofB L ⟨m1, m2⟩)]) Ty.un123 Ty.zv123 Ty.pl123 (by kernel_rfl) (by kernel_rfl)) ?_
  have h72 := (up_ob u70 (up_ob u63 (up_ob u60 (chg_ob c53 (Nat.ne_of_lt l48) (up_ob u38 h47)))))
  refine h1 (i := 6) (fuel := 0) (by kernel_rfl) rfl (ss rfl (k := 0) (v := .agg #[.int .i64 ((gotI L ⟨m1, m2⟩).node.t), .int .i64 ((gotI L ⟨m1, m2⟩).node.w), .int .i64 ((gotI L ⟨m1, m2⟩).parent.t), .int .i64 ((gotI L ⟨m1, m2⟩).parent.w), .string ((gotI L ⟨m1, m2⟩).name), .bool ((gotI L ⟨m1, m2⟩).dir), .bool ((gotI L ⟨m1, m2⟩).gone), .slice A28 n29 c30, .int .i64 ((gotI L ⟨m1, m2⟩).by_.t), .int .i64 ((gotI L ⟨m1, m2⟩).by_.w), .bool (hangsI L 301 ⟨m1, m2⟩), .string (ofB L ⟨m1, m2⟩)]) (vs := [.int .i64 ((gotI L ⟨m1, m2⟩).node.t), .int .i64 ((gotI L ⟨m1, m2⟩).node.w), .int .i64 ((gotI L ⟨m1, m2⟩).parent.t), .int .i64 ((gotI L ⟨m1, m2⟩).parent.w), .string ((gotI L ⟨m1, m2⟩).name), .bool ((gotI L ⟨m1, m2⟩).dir), .bool ((gotI L ⟨m1, m2⟩).gone), .slice A28 n29 c30, .int .i64 ((gotI L ⟨m1, m2⟩).by_.t), .int .i64 ((gotI L ⟨m1, m2⟩).by_.w), .bool (hangsI L 301 ⟨m1, m2⟩), .string (ofB L ⟨m1, m2⟩)]) (cs' := [.int .i64 ((gotI L ⟨m1, m2⟩).node.t), .int .i64 ((gotI L ⟨m1, m2⟩).node.w), .int .i64 ((gotI L ⟨m1, m2⟩).parent.t), .int .i64 ((gotI L ⟨m1, m2⟩).parent.w), .string ((gotI L ⟨m1, m2⟩).name), .bool ((gotI L ⟨m1, m2⟩).dir), .bool ((gotI L ⟨m1, m2⟩).gone), .slice A28 n29 c30, .int .i64 ((gotI L ⟨m1, m2⟩).by_.t), .int .i64 ((gotI L ⟨m1, m2⟩).by_.w), .bool (hangsI L 301 ⟨m1, m2⟩), .string (ofB L ⟨m1, m2⟩)]) (by kernel_rfl) (by kernel_rfl) rfl Ty.sz123 h72 rfl (Nat.le_of_ble_eq_true rfl) rfl ?_)
  intro w73 h74 c75
  have M76 := Mod.trans' M71 c75 (fun i hi => by injection hi with hi; rw [← hi]; exact g22)
  refine hx (Y := [b10]) (Mod.of_chg c75 (by simp)) (fun y hy => .inl hy) ?_
  refine hend (by kernel_rfl) ?_
  refine then_n (wp_ret ?_)
  refine bodyPost_ret (v := .agg #[.int .i64 ((gotI L ⟨m1, m2⟩).node.t), .int .i64 ((gotI L ⟨m1, m2⟩).node.w), .int .i64 ((gotI L ⟨m1, m2⟩).parent.t), .int .i64 ((gotI L ⟨m1, m2⟩).parent.w), .string ((gotI L ⟨m1, m2⟩).name), .bool ((gotI L ⟨m1, m2⟩).dir), .bool ((gotI L ⟨m1, m2⟩).gone), .slice A28 n29 c30, .int .i64 ((gotI L ⟨m1, m2⟩).by_.t), .int .i64 ((gotI L ⟨m1, m2⟩).by_.w), .bool (hangsI L 301 ⟨m1, m2⟩), .string (ofB L ⟨m1, m2⟩)]) (res1 rfl (rv_c (p := ⟨b10, 0, none⟩) (by kernel_rfl) (run_loadVars (vs := [.int .i64 ((gotI L ⟨m1, m2⟩).node.t), .int .i64 ((gotI L ⟨m1, m2⟩).node.w), .int .i64 ((gotI L ⟨m1, m2⟩).parent.t), .int .i64 ((gotI L ⟨m1, m2⟩).parent.w), .string ((gotI L ⟨m1, m2⟩).name), .bool ((gotI L ⟨m1, m2⟩).dir), .bool ((gotI L ⟨m1, m2⟩).gone), .slice A28 n29 c30, .int .i64 ((gotI L ⟨m1, m2⟩).by_.t), .int .i64 ((gotI L ⟨m1, m2⟩).by_.w), .bool (hangsI L 301 ⟨m1, m2⟩), .string (ofB L ⟨m1, m2⟩)]) Ty.ag123 Ty.sz123 h74 (by kernel_rfl)))) (by kernel_rfl) ?_
  have h77 := (Dat.chg (Dat.up h31 (up_up (up_up (up_up (up_chgn u38 c53 (by rw [e36]; exact Nat.le_refl _)) u60) u63) u70)) c75 ⟨(Nat.le_trans hB g22), NotU8.of h72 (by decide)⟩)
  exact ⟨A28, n29, c30, rfl, h77, (Mod.up M76)⟩
end Go.Proofs.YtefhfoioeoijlaaGreatDoor
set_option linter.unusedVariables false
set_option linter.unusedSimpArgs false
namespace Go.Proofs.YtefhfoioeoijlaaGreatDoor
open Go Go.RowKit Go.Sort
theorem chgs_next {La Lb : List Item} {D : List Stamp} {k : Nat} {y : Stamp} (h : D[k]? = some y) : chgs La Lb (D.take (k + 1)) = chgs La Lb (D.take k) ++ chg1 La Lb y := by
  unfold chgs; rw [List.take_add_one, h]; simp
theorem chg1_no {La Lb : List Item} {m : Stamp} {sa sb : SideP} (ha : sideP La m = sa) (hb : sideP Lb m = sb) (h : kindP sa sb = 0) : chg1 La Lb m = [] := by
  unfold chg1; rw [ha, hb, if_pos h]
theorem chg1_yes {La Lb : List Item} {m : Stamp} {sa sb : SideP} (ha : sideP La m = sa) (hb : sideP Lb m = sb) (h : kindP sa sb ≠ 0) : chg1 La Lb m = [⟨kindP sa sb, m, sa.path, sb.path⟩] := by
  unfold chg1; rw [ha, hb, if_neg h]
theorem chgs_no {La Lb : List Item} {D : List Stamp} {k : Nat} {y : Stamp} {sa sb : SideP} (h : D[k]? = some y) (ha : sideP La y = sa) (hb : sideP Lb y = sb) (h0 : kindP sa sb = 0) : chgs La Lb (D.take k) = chgs La Lb (D.take (k + 1)) := by
  rw [chgs_next h, chg1_no ha hb h0, List.append_nil]
theorem chgs_yes {La Lb : List Item} {D : List Stamp} {k : Nat} {y : Stamp} {sa sb : SideP} (h : D[k]? = some y) (ha : sideP La y = sa) (hb : sideP Lb y = sb) (h0 : kindP sa sb ≠ 0) : chgs La Lb (D.take k) ++ [⟨kindP sa sb, y, sa.path, sb.path⟩] = chgs La Lb (D.take (k + 1)) := by
  rw [chgs_next h, chg1_yes ha hb h0]
theorem chgs_len (La Lb : List Item) : ∀ (D : List Stamp), (chgs La Lb D).length ≤ D.length
  | [] => Nat.le_refl _
  | y :: D => by
    have h := chgs_len La Lb D
    have h1 : (chg1 La Lb y).length ≤ 1 := by unfold chg1; split <;> simp
    show (chg1 La Lb y ++ chgs La Lb D).length ≤ D.length + 1
    rw [List.length_append]; omega
theorem nodes_next {L : List Item} {k : Nat} {x : Item} (h : L[k]? = some x) : nodesI (L.take k) ++ [x.node] = nodesI (L.take (k + 1)) := by
  unfold nodesI; rw [List.take_add_one, h]; simp
theorem nodup_len : ∀ {D S : List Stamp}, D.Nodup → (∀ x ∈ D, x ∈ S) → D.length ≤ S.length
  | [], S, _, _ => Nat.zero_le _
  | x :: D, S, hn, hs => by
    have hx := hs x (by simp)
    have hn' := List.nodup_cons.1 hn
    have h1 := nodup_len (D := D) (S := S.erase x) hn'.2 (fun y hy => (List.mem_erase_of_ne (fun e : y = x => hn'.1 (by rw [← e]; exact hy))).2 (hs y (by simp [hy])))
    rw [List.length_erase_of_mem hx] at h1
    have : 0 < S.length := List.length_pos_of_mem hx
    simp only [List.length_cons]; omega
theorem Thn.len {S D : List Stamp} (h : Thn S D) : D.length ≤ S.length := nodup_len (h.srt.imp fun {a b} h => ltS_ne h) fun x hx => (h.mem x).1 hx
theorem thn_nonil {La Lb : List Item} {D : List Stamp} (hFa : Fit La) (hFb : Fit Lb) (h : Thn (nodesI (La ++ Lb)) D) {k : Nat} {y : Stamp} (hy : D[k]? = some y) : (⟨y.t, y.w⟩ : Stamp) ≠ nilS := by
  have h1 := (h.mem y).1 (List.mem_of_getElem? hy)
  simp only [nodesI, List.mem_map, List.mem_append] at h1
  obtain ⟨x, hx, rfl⟩ := h1
  rcases hx with hx | hx
  · exact hFa.wf.nonil x hx
  · exact hFb.wf.nonil x hx
def Looks (w : World) (b1 b2 b3 : Nat) (p : Option Addr) : Prop :=
  w.heap[b1]? = some (.cells #[.func (.func 20) #[.pointer p] #[]] 44 (0, 0)) ∧ w.heap[b2]? = some (.cells #[.pointer p] 27 (0, 0)) ∧ w.heap[b3]? = some (.cells #[.func (.func 39) #[.pointer p] #[]] 76 (0, 0))
theorem Looks.up {w w' : World} {b1 b2 b3 : Nat} {p : Option Addr} (h : Looks w b1 b2 b3 p) (u : Up w w') : Looks w' b1 b2 b3 p := ⟨up_ob u h.1, up_ob u h.2.1, up_ob u h.2.2⟩
theorem lookS_at {w : World} (p : Option Addr) : Calls Tryz.prog 74 #[.pointer p] w fun e w' => ∃ b1 b2 b3, e = .returned (.func (.func 133) #[] #[.pointer (some ⟨b1, 0, none⟩), .pointer (some ⟨b2, 0, none⟩), .pointer (some ⟨b3, 0, none⟩)]) ∧ Looks w' b1 b2 b3 p ∧ Up w w' :=
  (look_at p).mono fun e w' ⟨v, h1, ⟨b1, b2, b3, h2, h3⟩, h4⟩ => ⟨b1, b2, b3, by rw [h1, h2], h3, h4⟩
theorem look1_at {B : Nat} {w : World} {p : Option Addr} {L : List Item} {b1 b2 b3 : Nat} (hk : Looks w b1 b2 b3 p) (h : OT B w p L) (hB : B ≤ w.heap.size) (hF : Fit L) (htab : Tab w) (m1 m2 : Int) (hm : (⟨m1, m2⟩ : Stamp) ≠ nilS) {s : SideP} (hs : sideP L ⟨m1, m2⟩ = s) :
    Calls Tryz.prog 133 #[.agg #[.int .i64 m1, .int .i64 m2], .pointer (some ⟨b1, 0, none⟩), .pointer (some ⟨b2, 0, none⟩), .pointer (some ⟨b3, 0, none⟩)] w fun e w' => ∃ A n c, e = .returned (sdV s (.slice A n c)) ∧ Dat B w' (.slice A n c) s.x.data ∧ Up w w' := by
  subst hs; exact look1b_at h hB hF htab m1 m2 hm hk.1 hk.2.1 hk.2.2
theorem concat2_at {B base : Nat} {w : World} {bv c1 c2 : Nat} {A1 A2 : Option Addr} {La Lb : List Item} (hB : B ≤ w.heap.size) (hbv : w.heap[bv]? = some (.cells #[.slice A1 La.length c1, .slice A2 Lb.length c2] 74 (0, 0))) (h1 : IRow 42 B base w (.slice A1 La.length c1) La) (h2 : IRow 42 B base w (.slice A2 Lb.length c2) Lb) (ha : La.length ≤ 300) (hb : Lb.length ≤ 300) {LL : List Item} (hL : LL = La ++ Lb) :
    Calls Tryz.prog 73 #[.slice (some ⟨bv, 0, none⟩) 2 2] w fun e w' => ∃ A c, e = .returned (.slice A LL.length c) ∧ IRow 42 B w.heap.size w' (.slice A LL.length c) LL ∧ Up w w' := by
  have h := concatI_at (Ls := [La, Lb]) (vs := [.slice A1 La.length c1, .slice A2 Lb.length c2]) hB hbv rfl (RowsI.two h1 h2) (by simp) (by simp; omega)
  have e : [La, Lb].flatten = LL := by rw [hL]; simp
  rw [e] at h; exact h
theorem stampSortD_at {base : Nat} {w : World} {A : Option Addr} {n c : Nat} {ks : List Stamp} (hrd : MRow base w (.slice A n c) ks) (hn : n = ks.length) (hlen : ks.length ≤ 1000) :
    Calls Tryz.prog 75 #[.slice A n c] w fun e w' => ∃ A' c' D, e = .returned (.slice A' D.length c') ∧ MRow w.heap.size w' (.slice A' D.length c') D ∧ Thn ks D ∧ Up w w' := by
  subst hn
  refine (stampSort_at hrd hlen).mono fun e w' ⟨A', m, c', D, h1, h2, h3, h4⟩ => ?_
  obtain ⟨A2, c2, e2⟩ := h2.form
  injection e2 with e3 e4 e5
  subst e4
  exact ⟨A', c', D, h1, h2, h3, h4⟩
end Go.Proofs.YtefhfoioeoijlaaGreatDoor
set_option linter.unusedVariables false
namespace Go.Proofs.YtefhfoioeoijlaaGreatDoor
open Go Go.RowKit Go.Sort
section
variable {P : Program} {ops : Array Oper} {Q : Exit → Act → World → Prop} {S : World → Prop} {a : Act} {w : World}
theorem h3 {i j k : Nat} {oi oj ok : Oper} {fuel : Nat} {listed : Array Bool} (hr : Region.ready .any ops listed = [i, j, k]) (hi : ops[i]? = some oi) (hj : ops[j]? = some oj) (hk : ops[k]? = some ok)
    (k1 : St1 P ops Q oi (fun a' w' => S w' ∧ HL P ops Q S fuel (listed.setIfInBounds i true) a' w') a w)
    (k2 : St1 P ops Q oj (fun a' w' => S w' ∧ HL P ops Q S fuel (listed.setIfInBounds j true) a' w') a w)
    (k3 : St1 P ops Q ok (fun a' w' => S w' ∧ HL P ops Q S fuel (listed.setIfInBounds k true) a' w') a w) : HL P ops Q S (fuel + 1) listed a w := by
  rw [hl_un] at *
  refine wpAnyH_all hr (by simp) fun l hl => ?_
  rcases List.mem_cons.1 hl with rfl | hl
  · unfold wpOp; simp only [hi]; unfold St1 at k1; exact k1
  · rcases List.mem_cons.1 hl with rfl | hl
    · unfold wpOp; simp only [hj]; unfold St1 at k2; exact k2
    · obtain rfl : l = k := by simpa using hl
      unfold wpOp; simp only [hk]; unfold St1 at k3; exact k3
end
end Go.Proofs.YtefhfoioeoijlaaGreatDoor

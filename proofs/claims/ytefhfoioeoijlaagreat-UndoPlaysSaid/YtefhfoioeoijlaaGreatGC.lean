/- GC: printed by gen.py -/
import Derived.Test.YtefhfoioeoijlaaGreatGB
import Derived.Test.YtefhfoioeoijlaaGreatRws
import Derived.Test.YtefhfoioeoijlaaGreatRefT
import Derived.Test.YtefhfoioeoijlaaGreatEx1
set_option linter.unusedVariables false
set_option linter.unusedSimpArgs false
namespace Go.Proofs.YtefhfoioeoijlaaGreat
open Go Go.RowKit Go.Sort
set_option maxHeartbeats 2000000 in
theorem rset_at {B : Nat} {w : World} {ub : Nat} {L : List Item} (h : RIs B w ub L) (hB : B ≤ w.heap.size) (it : Item) (iA : Option Addr) (in_ ic : Nat) (hit : Dat B w (.slice iA in_ ic) it.data) (there : Bool) (hlen : (setI it there L).length ≤ 300) :
    Calls Tryz.prog 53 #[trP ub, itV it (.slice iA in_ ic), .bool there] w fun e w' => e = .returned (.tuple #[]) ∧ RIb B w.heap.size w' ub (setI it there L) ∧ Chg w w' ub := by
  obtain ⟨huub, v, hv, hl, hne, hL⟩ := h
  rw [rowI_is] at hl
  obtain ⟨lA, lc, rfl⟩ := hl.form
  obtain ⟨ii_r, iz_r, hi_r, hz_r, hs_r, hb_r, hc_r⟩ := info_ritem
  go_enter Tryz.func53, Tryz.ntmps53
  refine wp_seq (rg_lit ?_)
  refine wl (sn rfl (cs := (itC it (.slice iA in_ ic)).toArray) (T := 76) (V := fun b => .pointer (some ⟨b, 0, none⟩)) (r_box (v := itV it (.slice iA in_ ic)) (by kernel_rfl) rfl) ?_)
  intro b1 w2 e3 h4 u5
  have g6 : w.heap.size ≤ b1 := by rw [e3]; exact (Mod.refl [] w).size
  have M7 := Mod.trans (Mod.refl [] w) (Mod.of_up u5)
  refine wnil (then_n (wp_seq (rg_lit ?_)))
  refine was (v := .slice none 0 0) ?_
  refine wnil (then_n (wp_seq (rg_lit ?_)))
  refine wmv (v := .bool there) ?_
  refine wl (sv rfl (v := .bool (!there)) (r_not (b := there) (by kernel_rfl)) ?_)
  refine was (v := .bool (!there)) ?_
  refine wnil (then_n (wp_seq (wp_seq (rg_lit ?_))))
  refine was (v := .int .i64 0) ?_
  refine wnil (then_n (wp_block ?_))
  have h8 := md_ob M7 nin0 hv
  have h9 := (Dat.up hit (Mod.up M7))
  have h10 := (IRow.up hl (Mod.up M7))
  refine lp (fun n a r1 => ∃ (k : Nat) (inn : Bool) (oA : Option Addr) (on : Nat) (oc : Nat) (z11 z12 z13 z14 z15 z16 z17 z18 z19 z20 z21 z22 z23 z24 z25 z26 z27 z28 z29 z30 z31 z32 z33 z34 z35 z36 z37 z38 z39 z40 z41 z42 z43 z44 z45 z46 z47 z48 z49 z50 z51 z52 z53 z54 z55 z56 z57 z58 z59 : Value), (n = L.length - k) ∧ (a = ⟨#[.pointer (some ⟨ub, 0, none⟩), itV it (.slice iA in_ ic), .bool there, undef, .pointer (some ⟨b1, 0, none⟩), undef, .slice oA on oc, .bool inn, .int .i64 ((k : Int)), .bool there, .bool (!there), z11, z12, z13, z14, z15, z16, z17, z18, z19, z20, z21, z22, z23, z24, z25, z26, z27, z28, z29, z30, z31, z32, z33, z34, z35, z36, z37, z38, z39, z40, z41, z42, z43, z44, z45, z46, z47, z48, z49, z50, z51, z52, z53, z54, z55, z56, z57, z58, z59, undef, undef, undef, undef, undef, undef, undef, undef, undef, undef], []⟩) ∧ (Mod [] w2 r1) ∧ (k ≤ L.length) ∧ (IRow 76 B w2.heap.size r1 (.slice oA on oc) (foldI it there (L.take k)).1) ∧ (Hid ((foldI it there (L.take k)).2 = inn))) ⟨_, 0, (!there), none, 0, 0, undef, undef, undef, undef, undef, undef, undef, undef, undef, undef, undef, undef, undef, undef, undef, undef, undef, undef, undef, undef, undef, undef, undef, undef, undef, undef, undef, undef, undef, undef, undef, undef, undef, undef, undef, undef, undef, undef, undef, undef, undef, undef, undef, undef, undef, undef, undef, undef, undef, rfl, (by kernel_rfl), Mod.refl _ _, Nat.zero_le _, IRow.nil _ _ _ _, rfl⟩ ?_
  rintro _ _ r1 ⟨k, inn, oA, on, oc, z11, z12, z13, z14, z15, z16, z17, z18, z19, z20, z21, z22, z23, z24, z25, z26, z27, z28, z29, z30, z31, z32, z33, z34, z35, z36, z37, z38, z39, z40, z41, z42, z43, z44, z45, z46, z47, z48, z49, z50, z51, z52, z53, z54, z55, z56, z57, z58, z59, rfl, rfl, hM1, hF1_0, hF1_1, hF1_2⟩
  have M11 := Mod.thin M7 hM1 (by simp)
  refine wp_seq (wp_seq (rg_lit ?_))
  refine wmv (v := .int .i64 ((k : Int))) ?_
  refine wmv (v := .pointer (some ⟨ub, 0, none⟩)) ?_
  refine wl (sv rfl (v := .pointer (some ⟨ub, 0, none⟩)) (r_nilCheck (by kernel_rfl)) ?_)
  refine wl (sv rfl (v := .pointer (some ⟨ub, 0, none⟩)) (r_fieldAddr (u := .pointer (some ⟨ub, 0, none⟩)) (by kernel_rfl) (fun _ => (by kernel_rfl))) ?_)
  have h12 := md_ob M11 nin0 hv
  refine wl (sv rfl (v := .slice lA L.length lc) (r_load (k := 0) (by kernel_rfl) Ty.ag47 h12 (by kernel_rfl)) ?_)
  refine wl (sv rfl (v := .int .i64 ((L.length : Int))) (r_len Ty.un47 (ad := lA) (n := L.length) (c := lc) (by kernel_rfl)) ?_)
  refine wl (sb rfl (r_lt (k := .i64) (m := ((k : Int))) (n := ((L.length : Int))) (by kernel_rfl) (by kernel_rfl)) ?_)
  intro b13 k14
  refine wnil (then_n ?_)
  refine bcase b13 (fun v15 => ?_) (fun v15 => ?_)
  ·
   have p16 := of_decide_eq_false (k14.trans v15)
   refine wp_cond_false (ebool (b := b13) (by kernel_rfl) v15) ?_
   refine wp_exit (then_x (by nofun) (then_x (by nofun) (inb_hit (then_n (wp_seq (wp_seq (rg_lit ?_)))))))
   refine wmv (v := .bool inn) ?_
   refine wl (sv rfl (v := .bool (!inn)) (r_not (b := inn) (by kernel_rfl)) ?_)
   refine wnil (then_n ?_)
   refine bcase inn (fun v17 => ?_) (fun v17 => ?_)
   ·
    refine wp_cond_true (ebool (b := !inn) (by kernel_rfl) (bneg v17)) ?_
    refine rg_lit ?_
    refine wmv (v := .slice oA on oc) ?_
    have h18 := md_ob hM1 nin0 h4
    refine wl (sv rfl (v := itV it (.slice iA in_ ic)) (r_loads (k := 0) (by kernel_rfl) Ty.ag76 Ty.sz76 h18 (by kernel_rfl)) ?_)
    refine wl (sn rfl (cs := (itC it (.slice iA in_ ic)).toArray) (T := 76) (V := fun b => .slice (some ⟨b, 0, none⟩) 1 1) (r_buildSlice (n := 1) (ps := [(0, itV it (.slice iA in_ ic))]) Ty.un47 Ty.sz76 Ty.zv76 (by decide) (by decide) (by kernel_rfl) (by kernel_rfl)) ?_)
    intro b19 w20 e21 h22 u23
    have g24 : w.heap.size ≤ b19 := by rw [e21]; exact M11.size
    have g25 : w2.heap.size ≤ b19 := by rw [e21]; exact hM1.size
    have M26 := Mod.trans M11 (Mod.of_up u23)
    have M27 := Mod.trans hM1 (Mod.of_up u23)
    have h28 := (IRow.up hF1_1 u23)
    have h29 := (Dat.up hit (Mod.up M26))
    refine wl (snI rfl (L := (foldI it there (L.take k)).1) (x := it) (e := .slice iA in_ ic) (by kernel_rfl) (by kernel_rfl) h28 Ty.un47 hi_r hz_r hs_r hb_r hc_r h22 h29 (by decide) (Nat.le_trans hB M7.size) M27.size (by have := foldI_len it there (L.take k); simp at this ⊢; omega) ?_)
    intro A30 n31 c32 w33 e34 h35 u36
    have M37 := Mod.trans' M26 u36 (fun k hk => Nat.le_trans M7.size (h28.own k hk).1)
    have M38 := Mod.trans' M27 u36 (fun k hk => Nat.le_trans (Nat.le_refl _) (h28.own k hk).1)
    refine was (v := .slice A30 n31 c32) ?_
    refine wnil (then_n (rg_lit ?_))
    refine wmv (v := .pointer (some ⟨ub, 0, none⟩)) ?_
    refine wmv (v := .slice A30 n31 c32) ?_
    refine wl (sv rfl (v := .pointer (some ⟨ub, 0, none⟩)) (r_nilCheck (by kernel_rfl)) ?_)
    refine wl (sv rfl (v := .pointer (some ⟨ub, 0, none⟩)) (r_fieldAddr (u := .pointer (some ⟨ub, 0, none⟩)) (by kernel_rfl) (fun _ => (by kernel_rfl))) ?_)
    have h39 := md_ob M37 nin0 hv
    refine wl (ss rfl (k := 0) (v := .slice A30 n31 c32) (vs := [.slice A30 n31 c32]) (cs' := [.slice A30 n31 c32]) (by kernel_rfl) (by kernel_rfl) rfl Ty.sz47 h39 rfl (Nat.le_of_ble_eq_true rfl) rfl ?_)
    intro w40 h41 c42
    have M43 := md_old M37 c42
    have M44 := md_old M38 c42
    refine wnil ?_
    refine bodyPost_end (v := .tuple #[]) (res0 rfl ) (by kernel_rfl) ?_
    have h45 := (IRow.chg' h35 c42 ⟨huub, NotU8.of h39 (by decide)⟩ (lt_ob h8))
    have hk : L.take k = L := List.take_of_length_le (by omega)
    rw [hk] at h45
    have hi := hF1_2.out
    rw [hk, v17] at hi
    have hs := setI_out hi
    rw [← hs] at h45
    exact ⟨rfl, ⟨huub, _, h41, IRow.base h45 M7.size, IRow.ne_old h45 (lt_ob h8), hlen⟩, (Mod.chg M43)⟩
   refine wp_cond_false (ebool (b := !inn) (by kernel_rfl) (bneg v17)) ?_
   refine wp_skip (then_n (rg_lit ?_))
   refine wmv (v := .pointer (some ⟨ub, 0, none⟩)) ?_
   refine wmv (v := .slice oA on oc) ?_
   refine wl (sv rfl (v := .pointer (some ⟨ub, 0, none⟩)) (r_nilCheck (by kernel_rfl)) ?_)
   refine wl (sv rfl (v := .pointer (some ⟨ub, 0, none⟩)) (r_fieldAddr (u := .pointer (some ⟨ub, 0, none⟩)) (by kernel_rfl) (fun _ => (by kernel_rfl))) ?_)
   refine wl (ss rfl (k := 0) (v := .slice oA on oc) (vs := [.slice oA on oc]) (cs' := [.slice oA on oc]) (by kernel_rfl) (by kernel_rfl) rfl Ty.sz47 h12 rfl (Nat.le_of_ble_eq_true rfl) rfl ?_)
   intro w18 h19 c20
   have M21 := md_old M11 c20
   have M22 := md_old hM1 c20
   refine wnil ?_
   refine bodyPost_end (v := .tuple #[]) (res0 rfl ) (by kernel_rfl) ?_
   have h23 := (IRow.chg' hF1_1 c20 ⟨huub, NotU8.of h12 (by decide)⟩ (lt_ob h8))
   have hk : L.take k = L := List.take_of_length_le (by omega)
   rw [hk] at h23
   have hi := hF1_2.out
   rw [hk, v17] at hi
   have hs := setI_in hi
   rw [← hs] at h23
   exact ⟨rfl, ⟨huub, _, h19, IRow.base h23 M7.size, IRow.ne_old h23 (lt_ob h8), hlen⟩, (Mod.chg M21)⟩
  have p16 := of_decide_eq_true (k14.trans v15)
  have q17 : k < L.length := by omega
  have q18 : k < L.length := by omega
  refine wp_cond_true (ebool (b := b13) (by kernel_rfl) v15) ?_
  refine wp_skip (then_n (wp_seq (wp_block (wp_seq (wp_seq ?_)))))
  refine rg_all (by kernel_rfl) (by kernel_rfl) ?_
  refine qmv (v := .bool inn) ?_
  refine qv rfl (v := .bool (!inn)) (fun _ _ => r_not (b := inn) (by kernel_rfl)) ?_
  refine qmv (v := .bool (!inn)) ?_
  refine bcase inn (fun v19 => ?_) (fun v19 => ?_)
  ·
   refine qv (wt (b := !inn) rfl (by kernel_rfl) (bneg v19)) (v := .pointer (some ⟨b1, 0, none⟩)) (fun _ _ => r_fieldAddr (u := .pointer (some ⟨b1, 0, none⟩)) (by kernel_rfl) (fun _ => (by kernel_rfl))) ?_
   have h20 := md_ob hM1 nin0 h4
   refine qv (wt (b := !inn) rfl (by kernel_rfl) (bneg v19)) (v := .agg #[.int .i64 it.node.t, .int .i64 it.node.w]) (fun _ uz => r_loads (k := 0) (by kernel_rfl) Ty.ag35 Ty.sz35 (up_ob uz h20) (by kernel_rfl)) ?_
   refine qv (wt (b := !inn) rfl (by kernel_rfl) (bneg v19)) (v := .pointer (some ⟨ub, 0, none⟩)) (fun _ _ => r_move (by kernel_rfl)) ?_
   refine qv (wt (b := !inn) rfl (by kernel_rfl) (bneg v19)) (v := .pointer (some ⟨ub, 0, none⟩)) (fun _ _ => r_nilCheck (by kernel_rfl)) ?_
   refine qv (wt (b := !inn) rfl (by kernel_rfl) (bneg v19)) (v := .pointer (some ⟨ub, 0, none⟩)) (fun _ _ => r_fieldAddr (u := .pointer (some ⟨ub, 0, none⟩)) (by kernel_rfl) (fun _ => (by kernel_rfl))) ?_
   refine qv (wt (b := !inn) rfl (by kernel_rfl) (bneg v19)) (v := .slice lA L.length lc) (fun _ uz => r_load (k := 0) (by kernel_rfl) Ty.ag47 (up_ob uz h12) (by kernel_rfl)) ?_
   refine qv (wt (b := !inn) rfl (by kernel_rfl) (bneg v19)) (v := .int .i64 ((k : Int))) (fun _ _ => r_move (by kernel_rfl)) ?_
   have h21 := (IRow.up hl (Mod.up M11))
   obtain ⟨y22, hy22⟩ : ∃ x, L[k]? = some x := ⟨_, List.getElem?_eq_getElem q18⟩
   obtain ⟨g22, cp22, cu22, dA22, dn22, dc22, hA22, hg22, hb22, he22, hD22⟩ := h21.get hy22
   injection hA22 with hA22 _ _
   replace he22 : (cu22.toList.drop (0 + k * 10)).take 10 = (itC y22 (.slice dA22 dn22 dc22)) := by rw [Nat.zero_add]; exact he22
   refine qv (wt (b := !inn) rfl (by kernel_rfl) (bneg v19)) (v := .pointer (some ⟨g22, 0 + k * 10, none⟩)) (fun _ _ => r_ixaddr' (A := lA) (b := g22) (o := 0) (n := L.length) (c := lc) (sz := 10) (j := (k : Int)) (by kernel_rfl) hA22 (by kernel_rfl) Ty.un47 Ty.sz76 (by omega) (by omega) (by simp)) ?_
   refine qv (wt (b := !inn) rfl (by kernel_rfl) (bneg v19)) (v := .pointer (some ⟨g22, 0 + k * 10, none⟩)) (fun _ _ => r_fieldAddr (u := .pointer (some ⟨g22, 0 + k * 10, none⟩)) (by kernel_rfl) (fun _ => (by kernel_rfl))) ?_
   refine qv (wt (b := !inn) rfl (by kernel_rfl) (bneg v19)) (v := .agg #[.int .i64 y22.node.t, .int .i64 y22.node.w]) (fun _ uz => r_loads (k := 0 + k * 10) (by kernel_rfl) Ty.ag35 Ty.sz35 (up_ob uz hb22) (el_sub0 he22 rfl)) ?_
   refine qc (wt (b := !inn) rfl (by kernel_rfl) (bneg v19)) (v := .bool ((lessS ⟨it.node.t, it.node.w⟩ ⟨y22.node.t, y22.node.w⟩))) (fun _ _ => r_callv (caps := []) (all := [.agg #[.int .i64 it.node.t, .int .i64 it.node.w], .agg #[.int .i64 y22.node.t, .int .i64 y22.node.w]]) En.f42 (by kernel_rfl) (by kernel_rfl)) (fun wz uz => r04less_any ⟨it.node.t, it.node.w⟩ ⟨y22.node.t, y22.node.w⟩ _) ?_ ?_
   · rintro w1 e w2 hC ⟨rfl, hu⟩; exact ⟨rfl, up_step hC hu.below⟩
   refine qv rfl (v := .bool ((lessS ⟨it.node.t, it.node.w⟩ ⟨y22.node.t, y22.node.w⟩))) (fun _ _ => r_pkT (ebool (b := !inn) (by kernel_rfl) (bneg v19)) (by kernel_rfl)) ?_
   refine qnil ?_
   intro w23 u24
   have M25 := Mod.trans M11 (Mod.of_up u24)
   have M26 := Mod.trans hM1 (Mod.of_up u24)
   refine then_n ?_
   refine bcase ((lessS ⟨it.node.t, it.node.w⟩ ⟨y22.node.t, y22.node.w⟩)) (fun v27 => ?_) (fun v27 => ?_)
   ·
    refine wp_cond_false (ebool (b := (lessS ⟨it.node.t, it.node.w⟩ ⟨y22.node.t, y22.node.w⟩)) (by kernel_rfl) v27) ?_
    refine wp_skip (then_n (wp_seq ?_))
    refine rg_all (by kernel_rfl) (by kernel_rfl) ?_
    refine qmv (v := .pointer (some ⟨ub, 0, none⟩)) ?_
    refine qv rfl (v := .pointer (some ⟨ub, 0, none⟩)) (fun _ _ => r_nilCheck (by kernel_rfl)) ?_
    refine qv rfl (v := .pointer (some ⟨ub, 0, none⟩)) (fun _ _ => r_fieldAddr (u := .pointer (some ⟨ub, 0, none⟩)) (by kernel_rfl) (fun _ => (by kernel_rfl))) ?_
    have h28 := md_ob M25 nin0 hv
    refine qv rfl (v := .slice lA L.length lc) (fun _ uz => r_load (k := 0) (by kernel_rfl) Ty.ag47 (up_ob uz h28) (by kernel_rfl)) ?_
    refine qmv (v := .int .i64 ((k : Int))) ?_
    have h29 := (IRow.up hl (Mod.up M25))
    obtain ⟨g30, cp30, cu30, dA30, dn30, dc30, hA30, hg30, hb30, he30, hD30⟩ := h29.get hy22
    injection hA30 with hA30 _ _
    replace he30 : (cu30.toList.drop (0 + k * 10)).take 10 = (itC y22 (.slice dA30 dn30 dc30)) := by rw [Nat.zero_add]; exact he30
    refine qv rfl (v := .pointer (some ⟨g30, 0 + k * 10, none⟩)) (fun _ _ => r_ixaddr' (A := lA) (b := g30) (o := 0) (n := L.length) (c := lc) (sz := 10) (j := (k : Int)) (by kernel_rfl) hA30 (by kernel_rfl) Ty.un47 Ty.sz76 (by omega) (by omega) (by simp)) ?_
    refine qv rfl (v := .pointer (some ⟨g30, 0 + k * 10, none⟩)) (fun _ _ => r_fieldAddr (u := .pointer (some ⟨g30, 0 + k * 10, none⟩)) (by kernel_rfl) (fun _ => (by kernel_rfl))) ?_
    refine qv rfl (v := .agg #[.int .i64 y22.node.t, .int .i64 y22.node.w]) (fun _ uz => r_loads (k := 0 + k * 10) (by kernel_rfl) Ty.ag35 Ty.sz35 (up_ob uz hb30) (el_sub0 he30 rfl)) ?_
    refine qv rfl (v := .pointer (some ⟨b1, 0, none⟩)) (fun _ _ => r_fieldAddr (u := .pointer (some ⟨b1, 0, none⟩)) (by kernel_rfl) (fun _ => (by kernel_rfl))) ?_
    have h31 := md_ob M26 nin0 h4
    refine qv rfl (v := .agg #[.int .i64 it.node.t, .int .i64 it.node.w]) (fun _ uz => r_loads (k := 0) (by kernel_rfl) Ty.ag35 Ty.sz35 (up_ob uz h31) (by kernel_rfl)) ?_
    refine qb rfl (fun _ _ => r_neS (a := y22.node.t) (b := y22.node.w) (c := it.node.t) (e := it.node.w) (by kernel_rfl) (by kernel_rfl)) ?_
    intro b32 k33
    refine qnil ?_
    intro w34 u35
    have M36 := Mod.trans M25 (Mod.of_up u35)
    have M37 := Mod.trans M26 (Mod.of_up u35)
    refine then_n ?_
    refine bcase b32 (fun v38 => ?_) (fun v38 => ?_)
    ·
     have p39 := of_decide_eq_false (k33.trans v38)
     refine wp_cond_false (ebool (b := b32) (by kernel_rfl) v38) ?_
     refine wp_skip (inb_n (then_n (rg_lit ?_)))
     refine wmv (v := .int .i64 ((k : Int))) ?_
     refine wl (sv rfl (v := .int .i64 (((k : Int)) + 1)) (r_add (k := .i64) (m := ((k : Int))) (n := 1) (by kernel_rfl) (by kernel_rfl) (IntWalk.i64_in _ (by omega))) ?_)
     refine was (v := .int .i64 (((k : Int)) + 1)) ?_
     refine wnil (then_n ?_)
     have h40 := (IRow.up (IRow.up hF1_1 u24) u35)
     refine ⟨L.length - (k + 1), ?_, (k + 1), inn, oA, on, oc, .int .i64 ((k : Int)), .pointer (some ⟨ub, 0, none⟩), .pointer (some ⟨ub, 0, none⟩), .pointer (some ⟨ub, 0, none⟩), .slice lA L.length lc, .int .i64 ((L.length : Int)), .bool b13, .int .i64 ((k : Int)), .int .i64 (((k : Int)) + 1), .bool inn, .bool (!inn), .bool (!inn), .pointer (some ⟨b1, 0, none⟩), .agg #[.int .i64 it.node.t, .int .i64 it.node.w], .pointer (some ⟨ub, 0, none⟩), .pointer (some ⟨ub, 0, none⟩), .pointer (some ⟨ub, 0, none⟩), .slice lA L.length lc, .int .i64 ((k : Int)), .pointer (some ⟨g22, 0 + k * 10, none⟩), .pointer (some ⟨g22, 0 + k * 10, none⟩), .agg #[.int .i64 y22.node.t, .int .i64 y22.node.w], .bool ((lessS ⟨it.node.t, it.node.w⟩ ⟨y22.node.t, y22.node.w⟩)), .bool ((lessS ⟨it.node.t, it.node.w⟩ ⟨y22.node.t, y22.node.w⟩)), z35, z36, z37, z38, .pointer (some ⟨ub, 0, none⟩), .pointer (some ⟨ub, 0, none⟩), .pointer (some ⟨ub, 0, none⟩), .slice lA L.length lc, .int .i64 ((k : Int)), .pointer (some ⟨g30, 0 + k * 10, none⟩), .pointer (some ⟨g30, 0 + k * 10, none⟩), .agg #[.int .i64 y22.node.t, .int .i64 y22.node.w], .pointer (some ⟨b1, 0, none⟩), .agg #[.int .i64 it.node.t, .int .i64 it.node.w], .bool b32, z50, z51, z52, z53, z54, z55, z56, z57, z58, z59, rfl, (by kernel_rfl), M37, (by omega), (by rw [fold1 hy22, step_ge' (hF1_2.out.trans v19) v27 (Decidable.not_not.1 p39)]; exact h40), (by show _ = _; rw [fold1 hy22, step_ge' (hF1_2.out.trans v19) v27 (Decidable.not_not.1 p39)]; exact v19.symm)⟩
     · omega
    have p39 := of_decide_eq_true (k33.trans v38)
    refine wp_cond_true (ebool (b := b32) (by kernel_rfl) v38) ?_
    refine rg_lit ?_
    refine wmv (v := .slice oA on oc) ?_
    refine wmv (v := .pointer (some ⟨ub, 0, none⟩)) ?_
    refine wl (sv rfl (v := .pointer (some ⟨ub, 0, none⟩)) (r_nilCheck (by kernel_rfl)) ?_)
    refine wl (sv rfl (v := .pointer (some ⟨ub, 0, none⟩)) (r_fieldAddr (u := .pointer (some ⟨ub, 0, none⟩)) (by kernel_rfl) (fun _ => (by kernel_rfl))) ?_)
    have h40 := md_ob M36 nin0 hv
    refine wl (sv rfl (v := .slice lA L.length lc) (r_load (k := 0) (by kernel_rfl) Ty.ag47 h40 (by kernel_rfl)) ?_)
    refine wmv (v := .int .i64 ((k : Int))) ?_
    have h41 := (IRow.up hl (Mod.up M36))
    obtain ⟨g42, cp42, cu42, dA42, dn42, dc42, hA42, hg42, hb42, he42, hD42⟩ := h41.get hy22
    injection hA42 with hA42 _ _
    replace he42 : (cu42.toList.drop (0 + k * 10)).take 10 = (itC y22 (.slice dA42 dn42 dc42)) := by rw [Nat.zero_add]; exact he42
    refine wl (sv rfl (v := .pointer (some ⟨g42, 0 + k * 10, none⟩)) (r_ixaddr' (A := lA) (b := g42) (o := 0) (n := L.length) (c := lc) (sz := 10) (j := (k : Int)) (by kernel_rfl) hA42 (by kernel_rfl) Ty.un47 Ty.sz76 (by omega) (by omega) (by simp)) ?_)
    refine wl (sv rfl (v := itV y22 (.slice dA42 dn42 dc42)) (r_loads (k := 0 + k * 10) (by kernel_rfl) Ty.ag76 Ty.sz76 hb42 (el_sub0 he42 rfl)) ?_)
    refine wl (sn rfl (cs := (itC y22 (.slice dA42 dn42 dc42)).toArray) (T := 76) (V := fun b => .slice (some ⟨b, 0, none⟩) 1 1) (r_buildSlice (n := 1) (ps := [(0, itV y22 (.slice dA42 dn42 dc42))]) Ty.un47 Ty.sz76 Ty.zv76 (by decide) (by decide) (by kernel_rfl) (by kernel_rfl)) ?_)
    intro b43 w44 e45 h46 u47
    have g48 : w.heap.size ≤ b43 := by rw [e45]; exact M36.size
    have g49 : w2.heap.size ≤ b43 := by rw [e45]; exact M37.size
    have M50 := Mod.trans M36 (Mod.of_up u47)
    have M51 := Mod.trans M37 (Mod.of_up u47)
    have h52 := (IRow.up (IRow.up (IRow.up hF1_1 u24) u35) u47)
    have h53 := (Dat.up hD42 u47)
    refine wl (snI rfl (L := (foldI it there (L.take k)).1) (x := y22) (e := .slice dA42 dn42 dc42) (by kernel_rfl) (by kernel_rfl) h52 Ty.un47 hi_r hz_r hs_r hb_r hc_r h46 h53 (by decide) (Nat.le_trans hB M7.size) M51.size (by have := foldI_len it there (L.take k); simp at this ⊢; omega) ?_)
    intro A54 n55 c56 w57 e58 h59 u60
    have M61 := Mod.trans' M50 u60 (fun k hk => Nat.le_trans M7.size (h52.own k hk).1)
    have M62 := Mod.trans' M51 u60 (fun k hk => Nat.le_trans (Nat.le_refl _) (h52.own k hk).1)
    refine was (v := .slice A54 n55 c56) ?_
    refine wnil (inb_n (then_n (rg_lit ?_)))
    refine wmv (v := .int .i64 ((k : Int))) ?_
    refine wl (sv rfl (v := .int .i64 (((k : Int)) + 1)) (r_add (k := .i64) (m := ((k : Int))) (n := 1) (by kernel_rfl) (by kernel_rfl) (IntWalk.i64_in _ (by omega))) ?_)
    refine was (v := .int .i64 (((k : Int)) + 1)) ?_
    refine wnil (then_n ?_)
    refine ⟨L.length - (k + 1), ?_, (k + 1), inn, A54, n55, c56, .int .i64 ((k : Int)), .pointer (some ⟨ub, 0, none⟩), .pointer (some ⟨ub, 0, none⟩), .pointer (some ⟨ub, 0, none⟩), .slice lA L.length lc, .int .i64 ((L.length : Int)), .bool b13, .int .i64 ((k : Int)), .int .i64 (((k : Int)) + 1), .bool inn, .bool (!inn), .bool (!inn), .pointer (some ⟨b1, 0, none⟩), .agg #[.int .i64 it.node.t, .int .i64 it.node.w], .pointer (some ⟨ub, 0, none⟩), .pointer (some ⟨ub, 0, none⟩), .pointer (some ⟨ub, 0, none⟩), .slice lA L.length lc, .int .i64 ((k : Int)), .pointer (some ⟨g22, 0 + k * 10, none⟩), .pointer (some ⟨g22, 0 + k * 10, none⟩), .agg #[.int .i64 y22.node.t, .int .i64 y22.node.w], .bool ((lessS ⟨it.node.t, it.node.w⟩ ⟨y22.node.t, y22.node.w⟩)), .bool ((lessS ⟨it.node.t, it.node.w⟩ ⟨y22.node.t, y22.node.w⟩)), z35, z36, z37, z38, .pointer (some ⟨ub, 0, none⟩), .pointer (some ⟨ub, 0, none⟩), .pointer (some ⟨ub, 0, none⟩), .slice lA L.length lc, .int .i64 ((k : Int)), .pointer (some ⟨g30, 0 + k * 10, none⟩), .pointer (some ⟨g30, 0 + k * 10, none⟩), .agg #[.int .i64 y22.node.t, .int .i64 y22.node.w], .pointer (some ⟨b1, 0, none⟩), .agg #[.int .i64 it.node.t, .int .i64 it.node.w], .bool b32, .slice oA on oc, .pointer (some ⟨ub, 0, none⟩), .pointer (some ⟨ub, 0, none⟩), .pointer (some ⟨ub, 0, none⟩), .slice lA L.length lc, .int .i64 ((k : Int)), .pointer (some ⟨g42, 0 + k * 10, none⟩), itV y22 (.slice dA42 dn42 dc42), .slice (some ⟨b43, 0, none⟩) 1 1, .slice A54 n55 c56, rfl, (by kernel_rfl), M62, (by omega), (by rw [fold1 hy22, step_ge (hF1_2.out.trans v19) v27 (show y22.node ≠ it.node from p39)]; exact h59), (by show _ = _; rw [fold1 hy22, step_ge (hF1_2.out.trans v19) v27 (show y22.node ≠ it.node from p39)]; exact v19.symm)⟩
    · omega
   refine wp_cond_true (ebool (b := (lessS ⟨it.node.t, it.node.w⟩ ⟨y22.node.t, y22.node.w⟩)) (by kernel_rfl) v27) ?_
   refine wp_seq (rg_lit ?_)
   refine wmv (v := .slice oA on oc) ?_
   have h28 := md_ob M26 nin0 h4
   refine wl (sv rfl (v := itV it (.slice iA in_ ic)) (r_loads (k := 0) (by kernel_rfl) Ty.ag76 Ty.sz76 h28 (by kernel_rfl)) ?_)
   refine wl (sn rfl (cs := (itC it (.slice iA in_ ic)).toArray) (T := 76) (V := fun b => .slice (some ⟨b, 0, none⟩) 1 1) (r_buildSlice (n := 1) (ps := [(0, itV it (.slice iA in_ ic))]) Ty.un47 Ty.sz76 Ty.zv76 (by decide) (by decide) (by kernel_rfl) (by kernel_rfl)) ?_)
   intro b29 w30 e31 h32 u33
   have g34 : w.heap.size ≤ b29 := by rw [e31]; exact M25.size
   have g35 : w2.heap.size ≤ b29 := by rw [e31]; exact M26.size
   have M36 := Mod.trans M25 (Mod.of_up u33)
   have M37 := Mod.trans M26 (Mod.of_up u33)
   have h38 := (IRow.up (IRow.up hF1_1 u24) u33)
   have h39 := (Dat.up hit (Mod.up M36))
   refine wl (snI rfl (L := (foldI it there (L.take k)).1) (x := it) (e := .slice iA in_ ic) (by kernel_rfl) (by kernel_rfl) h38 Ty.un47 hi_r hz_r hs_r hb_r hc_r h32 h39 (by decide) (Nat.le_trans hB M7.size) M37.size (by have := foldI_len it there (L.take k); simp at this ⊢; omega) ?_)
   intro A40 n41 c42 w43 e44 h45 u46
   have M47 := Mod.trans' M36 u46 (fun k hk => Nat.le_trans M7.size (h38.own k hk).1)
   have M48 := Mod.trans' M37 u46 (fun k hk => Nat.le_trans (Nat.le_refl _) (h38.own k hk).1)
   refine was (v := .slice A40 n41 c42) ?_
   refine wnil (then_n (rg_lit ?_))
   refine was (v := .bool true) ?_
   refine wnil (then_n (wp_seq ?_))
   refine rg_all (by kernel_rfl) (by kernel_rfl) ?_
   refine qmv (v := .pointer (some ⟨ub, 0, none⟩)) ?_
   refine qv rfl (v := .pointer (some ⟨ub, 0, none⟩)) (fun _ _ => r_nilCheck (by kernel_rfl)) ?_
   refine qv rfl (v := .pointer (some ⟨ub, 0, none⟩)) (fun _ _ => r_fieldAddr (u := .pointer (some ⟨ub, 0, none⟩)) (by kernel_rfl) (fun _ => (by kernel_rfl))) ?_
   have h49 := md_ob M47 nin0 hv
   refine qv rfl (v := .slice lA L.length lc) (fun _ uz => r_load (k := 0) (by kernel_rfl) Ty.ag47 (up_ob uz h49) (by kernel_rfl)) ?_
   refine qmv (v := .int .i64 ((k : Int))) ?_
   have h50 := (IRow.up hl (Mod.up M47))
   obtain ⟨g51, cp51, cu51, dA51, dn51, dc51, hA51, hg51, hb51, he51, hD51⟩ := h50.get hy22
   injection hA51 with hA51 _ _
   replace he51 : (cu51.toList.drop (0 + k * 10)).take 10 = (itC y22 (.slice dA51 dn51 dc51)) := by rw [Nat.zero_add]; exact he51
   refine qv rfl (v := .pointer (some ⟨g51, 0 + k * 10, none⟩)) (fun _ _ => r_ixaddr' (A := lA) (b := g51) (o := 0) (n := L.length) (c := lc) (sz := 10) (j := (k : Int)) (by kernel_rfl) hA51 (by kernel_rfl) Ty.un47 Ty.sz76 (by omega) (by omega) (by simp)) ?_
   refine qv rfl (v := .pointer (some ⟨g51, 0 + k * 10, none⟩)) (fun _ _ => r_fieldAddr (u := .pointer (some ⟨g51, 0 + k * 10, none⟩)) (by kernel_rfl) (fun _ => (by kernel_rfl))) ?_
   refine qv rfl (v := .agg #[.int .i64 y22.node.t, .int .i64 y22.node.w]) (fun _ uz => r_loads (k := 0 + k * 10) (by kernel_rfl) Ty.ag35 Ty.sz35 (up_ob uz hb51) (el_sub0 he51 rfl)) ?_
   refine qv rfl (v := .pointer (some ⟨b1, 0, none⟩)) (fun _ _ => r_fieldAddr (u := .pointer (some ⟨b1, 0, none⟩)) (by kernel_rfl) (fun _ => (by kernel_rfl))) ?_
   have h52 := md_ob M48 nin0 h4
   refine qv rfl (v := .agg #[.int .i64 it.node.t, .int .i64 it.node.w]) (fun _ uz => r_loads (k := 0) (by kernel_rfl) Ty.ag35 Ty.sz35 (up_ob uz h52) (by kernel_rfl)) ?_
   refine qb rfl (fun _ _ => r_neS (a := y22.node.t) (b := y22.node.w) (c := it.node.t) (e := it.node.w) (by kernel_rfl) (by kernel_rfl)) ?_
   intro b53 k54
   refine qnil ?_
   intro w55 u56
   have M57 := Mod.trans M47 (Mod.of_up u56)
   have M58 := Mod.trans M48 (Mod.of_up u56)
   refine then_n ?_
   refine bcase b53 (fun v59 => ?_) (fun v59 => ?_)
   ·
    have p60 := of_decide_eq_false (k54.trans v59)
    refine wp_cond_false (ebool (b := b53) (by kernel_rfl) v59) ?_
    refine wp_skip (inb_n (then_n (rg_lit ?_)))
    refine wmv (v := .int .i64 ((k : Int))) ?_
    refine wl (sv rfl (v := .int .i64 (((k : Int)) + 1)) (r_add (k := .i64) (m := ((k : Int))) (n := 1) (by kernel_rfl) (by kernel_rfl) (IntWalk.i64_in _ (by omega))) ?_)
    refine was (v := .int .i64 (((k : Int)) + 1)) ?_
    refine wnil (then_n ?_)
    have h61 := (IRow.up h45 u56)
    refine ⟨L.length - (k + 1), ?_, (k + 1), true, A40, n41, c42, .int .i64 ((k : Int)), .pointer (some ⟨ub, 0, none⟩), .pointer (some ⟨ub, 0, none⟩), .pointer (some ⟨ub, 0, none⟩), .slice lA L.length lc, .int .i64 ((L.length : Int)), .bool b13, .int .i64 ((k : Int)), .int .i64 (((k : Int)) + 1), .bool inn, .bool (!inn), .bool (!inn), .pointer (some ⟨b1, 0, none⟩), .agg #[.int .i64 it.node.t, .int .i64 it.node.w], .pointer (some ⟨ub, 0, none⟩), .pointer (some ⟨ub, 0, none⟩), .pointer (some ⟨ub, 0, none⟩), .slice lA L.length lc, .int .i64 ((k : Int)), .pointer (some ⟨g22, 0 + k * 10, none⟩), .pointer (some ⟨g22, 0 + k * 10, none⟩), .agg #[.int .i64 y22.node.t, .int .i64 y22.node.w], .bool ((lessS ⟨it.node.t, it.node.w⟩ ⟨y22.node.t, y22.node.w⟩)), .bool ((lessS ⟨it.node.t, it.node.w⟩ ⟨y22.node.t, y22.node.w⟩)), .slice oA on oc, itV it (.slice iA in_ ic), .slice (some ⟨b29, 0, none⟩) 1 1, .slice A40 n41 c42, .pointer (some ⟨ub, 0, none⟩), .pointer (some ⟨ub, 0, none⟩), .pointer (some ⟨ub, 0, none⟩), .slice lA L.length lc, .int .i64 ((k : Int)), .pointer (some ⟨g51, 0 + k * 10, none⟩), .pointer (some ⟨g51, 0 + k * 10, none⟩), .agg #[.int .i64 y22.node.t, .int .i64 y22.node.w], .pointer (some ⟨b1, 0, none⟩), .agg #[.int .i64 it.node.t, .int .i64 it.node.w], .bool b53, z50, z51, z52, z53, z54, z55, z56, z57, z58, z59, rfl, (by kernel_rfl), M58, (by omega), (by rw [fold1 hy22, step_lt' (hF1_2.out.trans v19) v27 (Decidable.not_not.1 p60)]; exact h61), (by show _ = _; rw [fold1 hy22, step_lt' (hF1_2.out.trans v19) v27 (Decidable.not_not.1 p60)])⟩
    · omega
   have p60 := of_decide_eq_true (k54.trans v59)
   refine wp_cond_true (ebool (b := b53) (by kernel_rfl) v59) ?_
   refine rg_lit ?_
   refine wmv (v := .slice A40 n41 c42) ?_
   refine wmv (v := .pointer (some ⟨ub, 0, none⟩)) ?_
   refine wl (sv rfl (v := .pointer (some ⟨ub, 0, none⟩)) (r_nilCheck (by kernel_rfl)) ?_)
   refine wl (sv rfl (v := .pointer (some ⟨ub, 0, none⟩)) (r_fieldAddr (u := .pointer (some ⟨ub, 0, none⟩)) (by kernel_rfl) (fun _ => (by kernel_rfl))) ?_)
   have h61 := md_ob M57 nin0 hv
   refine wl (sv rfl (v := .slice lA L.length lc) (r_load (k := 0) (by kernel_rfl) Ty.ag47 h61 (by kernel_rfl)) ?_)
   refine wmv (v := .int .i64 ((k : Int))) ?_
   have h62 := (IRow.up hl (Mod.up M57))
   obtain ⟨g63, cp63, cu63, dA63, dn63, dc63, hA63, hg63, hb63, he63, hD63⟩ := h62.get hy22
   injection hA63 with hA63 _ _
   replace he63 : (cu63.toList.drop (0 + k * 10)).take 10 = (itC y22 (.slice dA63 dn63 dc63)) := by rw [Nat.zero_add]; exact he63
   refine wl (sv rfl (v := .pointer (some ⟨g63, 0 + k * 10, none⟩)) (r_ixaddr' (A := lA) (b := g63) (o := 0) (n := L.length) (c := lc) (sz := 10) (j := (k : Int)) (by kernel_rfl) hA63 (by kernel_rfl) Ty.un47 Ty.sz76 (by omega) (by omega) (by simp)) ?_)
   refine wl (sv rfl (v := itV y22 (.slice dA63 dn63 dc63)) (r_loads (k := 0 + k * 10) (by kernel_rfl) Ty.ag76 Ty.sz76 hb63 (el_sub0 he63 rfl)) ?_)
   refine wl (sn rfl (cs := (itC y22 (.slice dA63 dn63 dc63)).toArray) (T := 76) (V := fun b => .slice (some ⟨b, 0, none⟩) 1 1) (r_buildSlice (n := 1) (ps := [(0, itV y22 (.slice dA63 dn63 dc63))]) Ty.un47 Ty.sz76 Ty.zv76 (by decide) (by decide) (by kernel_rfl) (by kernel_rfl)) ?_)
   intro b64 w65 e66 h67 u68
   have g69 : w.heap.size ≤ b64 := by rw [e66]; exact M57.size
   have g70 : w2.heap.size ≤ b64 := by rw [e66]; exact M58.size
   have M71 := Mod.trans M57 (Mod.of_up u68)
   have M72 := Mod.trans M58 (Mod.of_up u68)
   have h73 := (IRow.up (IRow.up h45 u56) u68)
   have h74 := (Dat.up hD63 u68)
   refine wl (snI rfl (L := ((foldI it there (L.take k)).1 ++ [it])) (x := y22) (e := .slice dA63 dn63 dc63) (by kernel_rfl) (by kernel_rfl) h73 Ty.un47 hi_r hz_r hs_r hb_r hc_r h67 h74 (by decide) (Nat.le_trans hB M7.size) M72.size (by have := foldI_len it there (L.take k); simp at this ⊢; omega) ?_)
   intro A75 n76 c77 w78 e79 h80 u81
   have M82 := Mod.trans' M71 u81 (fun k hk => Nat.le_trans M7.size (h73.own k hk).1)
   have M83 := Mod.trans' M72 u81 (fun k hk => Nat.le_trans (Nat.le_refl _) (h73.own k hk).1)
   refine was (v := .slice A75 n76 c77) ?_
   refine wnil (inb_n (then_n (rg_lit ?_)))
   refine wmv (v := .int .i64 ((k : Int))) ?_
   refine wl (sv rfl (v := .int .i64 (((k : Int)) + 1)) (r_add (k := .i64) (m := ((k : Int))) (n := 1) (by kernel_rfl) (by kernel_rfl) (IntWalk.i64_in _ (by omega))) ?_)
   refine was (v := .int .i64 (((k : Int)) + 1)) ?_
   refine wnil (then_n ?_)
   refine ⟨L.length - (k + 1), ?_, (k + 1), true, A75, n76, c77, .int .i64 ((k : Int)), .pointer (some ⟨ub, 0, none⟩), .pointer (some ⟨ub, 0, none⟩), .pointer (some ⟨ub, 0, none⟩), .slice lA L.length lc, .int .i64 ((L.length : Int)), .bool b13, .int .i64 ((k : Int)), .int .i64 (((k : Int)) + 1), .bool inn, .bool (!inn), .bool (!inn), .pointer (some ⟨b1, 0, none⟩), .agg #[.int .i64 it.node.t, .int .i64 it.node.w], .pointer (some ⟨ub, 0, none⟩), .pointer (some ⟨ub, 0, none⟩), .pointer (some ⟨ub, 0, none⟩), .slice lA L.length lc, .int .i64 ((k : Int)), .pointer (some ⟨g22, 0 + k * 10, none⟩), .pointer (some ⟨g22, 0 + k * 10, none⟩), .agg #[.int .i64 y22.node.t, .int .i64 y22.node.w], .bool ((lessS ⟨it.node.t, it.node.w⟩ ⟨y22.node.t, y22.node.w⟩)), .bool ((lessS ⟨it.node.t, it.node.w⟩ ⟨y22.node.t, y22.node.w⟩)), .slice oA on oc, itV it (.slice iA in_ ic), .slice (some ⟨b29, 0, none⟩) 1 1, .slice A40 n41 c42, .pointer (some ⟨ub, 0, none⟩), .pointer (some ⟨ub, 0, none⟩), .pointer (some ⟨ub, 0, none⟩), .slice lA L.length lc, .int .i64 ((k : Int)), .pointer (some ⟨g51, 0 + k * 10, none⟩), .pointer (some ⟨g51, 0 + k * 10, none⟩), .agg #[.int .i64 y22.node.t, .int .i64 y22.node.w], .pointer (some ⟨b1, 0, none⟩), .agg #[.int .i64 it.node.t, .int .i64 it.node.w], .bool b53, .slice A40 n41 c42, .pointer (some ⟨ub, 0, none⟩), .pointer (some ⟨ub, 0, none⟩), .pointer (some ⟨ub, 0, none⟩), .slice lA L.length lc, .int .i64 ((k : Int)), .pointer (some ⟨g63, 0 + k * 10, none⟩), itV y22 (.slice dA63 dn63 dc63), .slice (some ⟨b64, 0, none⟩) 1 1, .slice A75 n76 c77, rfl, (by kernel_rfl), M83, (by omega), (by rw [fold1 hy22, step_lt (hF1_2.out.trans v19) v27 (show y22.node ≠ it.node from p60)]; exact h80), (by show _ = _; rw [fold1 hy22, step_lt (hF1_2.out.trans v19) v27 (show y22.node ≠ it.node from p60)])⟩
   · omega
  refine qp (wf (b := !inn) rfl (by kernel_rfl) (bneg v19)) ?_
  refine qp (wf (b := !inn) rfl (by kernel_rfl) (bneg v19)) ?_
  refine qp (wf (b := !inn) rfl (by kernel_rfl) (bneg v19)) ?_
  refine qp (wf (b := !inn) rfl (by kernel_rfl) (bneg v19)) ?_
  refine qp (wf (b := !inn) rfl (by kernel_rfl) (bneg v19)) ?_
  refine qp (wf (b := !inn) rfl (by kernel_rfl) (bneg v19)) ?_
  refine qp (wf (b := !inn) rfl (by kernel_rfl) (bneg v19)) ?_
  refine qp (wf (b := !inn) rfl (by kernel_rfl) (bneg v19)) ?_
  refine qp (wf (b := !inn) rfl (by kernel_rfl) (bneg v19)) ?_
  refine qp (wf (b := !inn) rfl (by kernel_rfl) (bneg v19)) ?_
  refine qp (wf (b := !inn) rfl (by kernel_rfl) (bneg v19)) ?_
  refine qv rfl (v := .bool false) (fun _ _ => r_pkF (ebool (b := !inn) (by kernel_rfl) (bneg v19)) (by kernel_rfl)) ?_
  refine qnil ?_
  intro w20 u21
  have M22 := Mod.trans M11 (Mod.of_up u21)
  have M23 := Mod.trans hM1 (Mod.of_up u21)
  refine then_n ?_
  refine wp_cond_false (by kernel_rfl) ?_
  refine wp_skip (then_n (wp_seq ?_))
  refine rg_all (by kernel_rfl) (by kernel_rfl) ?_
  refine qmv (v := .pointer (some ⟨ub, 0, none⟩)) ?_
  refine qv rfl (v := .pointer (some ⟨ub, 0, none⟩)) (fun _ _ => r_nilCheck (by kernel_rfl)) ?_
  refine qv rfl (v := .pointer (some ⟨ub, 0, none⟩)) (fun _ _ => r_fieldAddr (u := .pointer (some ⟨ub, 0, none⟩)) (by kernel_rfl) (fun _ => (by kernel_rfl))) ?_
  have h24 := md_ob M22 nin0 hv
  refine qv rfl (v := .slice lA L.length lc) (fun _ uz => r_load (k := 0) (by kernel_rfl) Ty.ag47 (up_ob uz h24) (by kernel_rfl)) ?_
  refine qmv (v := .int .i64 ((k : Int))) ?_
  have h25 := (IRow.up hl (Mod.up M22))
  obtain ⟨y26, hy26⟩ : ∃ x, L[k]? = some x := ⟨_, List.getElem?_eq_getElem q18⟩
  obtain ⟨g26, cp26, cu26, dA26, dn26, dc26, hA26, hg26, hb26, he26, hD26⟩ := h25.get hy26
  injection hA26 with hA26 _ _
  replace he26 : (cu26.toList.drop (0 + k * 10)).take 10 = (itC y26 (.slice dA26 dn26 dc26)) := by rw [Nat.zero_add]; exact he26
  refine qv rfl (v := .pointer (some ⟨g26, 0 + k * 10, none⟩)) (fun _ _ => r_ixaddr' (A := lA) (b := g26) (o := 0) (n := L.length) (c := lc) (sz := 10) (j := (k : Int)) (by kernel_rfl) hA26 (by kernel_rfl) Ty.un47 Ty.sz76 (by omega) (by omega) (by simp)) ?_
  refine qv rfl (v := .pointer (some ⟨g26, 0 + k * 10, none⟩)) (fun _ _ => r_fieldAddr (u := .pointer (some ⟨g26, 0 + k * 10, none⟩)) (by kernel_rfl) (fun _ => (by kernel_rfl))) ?_
  refine qv rfl (v := .agg #[.int .i64 y26.node.t, .int .i64 y26.node.w]) (fun _ uz => r_loads (k := 0 + k * 10) (by kernel_rfl) Ty.ag35 Ty.sz35 (up_ob uz hb26) (el_sub0 he26 rfl)) ?_
  refine qv rfl (v := .pointer (some ⟨b1, 0, none⟩)) (fun _ _ => r_fieldAddr (u := .pointer (some ⟨b1, 0, none⟩)) (by kernel_rfl) (fun _ => (by kernel_rfl))) ?_
  have h27 := md_ob M23 nin0 h4
  refine qv rfl (v := .agg #[.int .i64 it.node.t, .int .i64 it.node.w]) (fun _ uz => r_loads (k := 0) (by kernel_rfl) Ty.ag35 Ty.sz35 (up_ob uz h27) (by kernel_rfl)) ?_
  refine qb rfl (fun _ _ => r_neS (a := y26.node.t) (b := y26.node.w) (c := it.node.t) (e := it.node.w) (by kernel_rfl) (by kernel_rfl)) ?_
  intro b28 k29
  refine qnil ?_
  intro w30 u31
  have M32 := Mod.trans M22 (Mod.of_up u31)
  have M33 := Mod.trans M23 (Mod.of_up u31)
  refine then_n ?_
  refine bcase b28 (fun v34 => ?_) (fun v34 => ?_)
  ·
   have p35 := of_decide_eq_false (k29.trans v34)
   refine wp_cond_false (ebool (b := b28) (by kernel_rfl) v34) ?_
   refine wp_skip (inb_n (then_n (rg_lit ?_)))
   refine wmv (v := .int .i64 ((k : Int))) ?_
   refine wl (sv rfl (v := .int .i64 (((k : Int)) + 1)) (r_add (k := .i64) (m := ((k : Int))) (n := 1) (by kernel_rfl) (by kernel_rfl) (IntWalk.i64_in _ (by omega))) ?_)
   refine was (v := .int .i64 (((k : Int)) + 1)) ?_
   refine wnil (then_n ?_)
   have h36 := (IRow.up (IRow.up hF1_1 u21) u31)
   refine ⟨L.length - (k + 1), ?_, (k + 1), inn, oA, on, oc, .int .i64 ((k : Int)), .pointer (some ⟨ub, 0, none⟩), .pointer (some ⟨ub, 0, none⟩), .pointer (some ⟨ub, 0, none⟩), .slice lA L.length lc, .int .i64 ((L.length : Int)), .bool b13, .int .i64 ((k : Int)), .int .i64 (((k : Int)) + 1), .bool inn, .bool (!inn), .bool (!inn), undef, undef, undef, undef, undef, undef, undef, undef, undef, undef, undef, .bool false, z35, z36, z37, z38, .pointer (some ⟨ub, 0, none⟩), .pointer (some ⟨ub, 0, none⟩), .pointer (some ⟨ub, 0, none⟩), .slice lA L.length lc, .int .i64 ((k : Int)), .pointer (some ⟨g26, 0 + k * 10, none⟩), .pointer (some ⟨g26, 0 + k * 10, none⟩), .agg #[.int .i64 y26.node.t, .int .i64 y26.node.w], .pointer (some ⟨b1, 0, none⟩), .agg #[.int .i64 it.node.t, .int .i64 it.node.w], .bool b28, z50, z51, z52, z53, z54, z55, z56, z57, z58, z59, rfl, (by kernel_rfl), M33, (by omega), (by rw [fold1 hy26, step_in' (hF1_2.out.trans v19) (Decidable.not_not.1 p35)]; exact h36), (by show _ = _; rw [fold1 hy26, step_in' (hF1_2.out.trans v19) (Decidable.not_not.1 p35)]; exact v19.symm)⟩
   · omega
  have p35 := of_decide_eq_true (k29.trans v34)
  refine wp_cond_true (ebool (b := b28) (by kernel_rfl) v34) ?_
  refine rg_lit ?_
  refine wmv (v := .slice oA on oc) ?_
  refine wmv (v := .pointer (some ⟨ub, 0, none⟩)) ?_
  refine wl (sv rfl (v := .pointer (some ⟨ub, 0, none⟩)) (r_nilCheck (by kernel_rfl)) ?_)
  refine wl (sv rfl (v := .pointer (some ⟨ub, 0, none⟩)) (r_fieldAddr (u := .pointer (some ⟨ub, 0, none⟩)) (by kernel_rfl) (fun _ => (by kernel_rfl))) ?_)
  have h36 := md_ob M32 nin0 hv
  refine wl (sv rfl (v := .slice lA L.length lc) (r_load (k := 0) (by kernel_rfl) Ty.ag47 h36 (by kernel_rfl)) ?_)
  refine wmv (v := .int .i64 ((k : Int))) ?_
  have h37 := (IRow.up hl (Mod.up M32))
  obtain ⟨g38, cp38, cu38, dA38, dn38, dc38, hA38, hg38, hb38, he38, hD38⟩ := h37.get hy26
  injection hA38 with hA38 _ _
  replace he38 : (cu38.toList.drop (0 + k * 10)).take 10 = (itC y26 (.slice dA38 dn38 dc38)) := by rw [Nat.zero_add]; exact he38
  refine wl (sv rfl (v := .pointer (some ⟨g38, 0 + k * 10, none⟩)) (r_ixaddr' (A := lA) (b := g38) (o := 0) (n := L.length) (c := lc) (sz := 10) (j := (k : Int)) (by kernel_rfl) hA38 (by kernel_rfl) Ty.un47 Ty.sz76 (by omega) (by omega) (by simp)) ?_)
  refine wl (sv rfl (v := itV y26 (.slice dA38 dn38 dc38)) (r_loads (k := 0 + k * 10) (by kernel_rfl) Ty.ag76 Ty.sz76 hb38 (el_sub0 he38 rfl)) ?_)
  refine wl (sn rfl (cs := (itC y26 (.slice dA38 dn38 dc38)).toArray) (T := 76) (V := fun b => .slice (some ⟨b, 0, none⟩) 1 1) (r_buildSlice (n := 1) (ps := [(0, itV y26 (.slice dA38 dn38 dc38))]) Ty.un47 Ty.sz76 Ty.zv76 (by decide) (by decide) (by kernel_rfl) (by kernel_rfl)) ?_)
  intro b39 w40 e41 h42 u43
  have g44 : w.heap.size ≤ b39 := by rw [e41]; exact M32.size
  have g45 : w2.heap.size ≤ b39 := by rw [e41]; exact M33.size
  have M46 := Mod.trans M32 (Mod.of_up u43)
  have M47 := Mod.trans M33 (Mod.of_up u43)
  have h48 := (IRow.up (IRow.up (IRow.up hF1_1 u21) u31) u43)
  have h49 := (Dat.up hD38 u43)
  refine wl (snI rfl (L := (foldI it there (L.take k)).1) (x := y26) (e := .slice dA38 dn38 dc38) (by kernel_rfl) (by kernel_rfl) h48 Ty.un47 hi_r hz_r hs_r hb_r hc_r h42 h49 (by decide) (Nat.le_trans hB M7.size) M47.size (by have := foldI_len it there (L.take k); simp at this ⊢; omega) ?_)
  intro A50 n51 c52 w53 e54 h55 u56
  have M57 := Mod.trans' M46 u56 (fun k hk => Nat.le_trans M7.size (h48.own k hk).1)
  have M58 := Mod.trans' M47 u56 (fun k hk => Nat.le_trans (Nat.le_refl _) (h48.own k hk).1)
  refine was (v := .slice A50 n51 c52) ?_
  refine wnil (inb_n (then_n (rg_lit ?_)))
  refine wmv (v := .int .i64 ((k : Int))) ?_
  refine wl (sv rfl (v := .int .i64 (((k : Int)) + 1)) (r_add (k := .i64) (m := ((k : Int))) (n := 1) (by kernel_rfl) (by kernel_rfl) (IntWalk.i64_in _ (by omega))) ?_)
  refine was (v := .int .i64 (((k : Int)) + 1)) ?_
  refine wnil (then_n ?_)
  refine ⟨L.length - (k + 1), ?_, (k + 1), inn, A50, n51, c52, .int .i64 ((k : Int)), .pointer (some ⟨ub, 0, none⟩), .pointer (some ⟨ub, 0, none⟩), .pointer (some ⟨ub, 0, none⟩), .slice lA L.length lc, .int .i64 ((L.length : Int)), .bool b13, .int .i64 ((k : Int)), .int .i64 (((k : Int)) + 1), .bool inn, .bool (!inn), .bool (!inn), undef, undef, undef, undef, undef, undef, undef, undef, undef, undef, undef, .bool false, z35, z36, z37, z38, .pointer (some ⟨ub, 0, none⟩), .pointer (some ⟨ub, 0, none⟩), .pointer (some ⟨ub, 0, none⟩), .slice lA L.length lc, .int .i64 ((k : Int)), .pointer (some ⟨g26, 0 + k * 10, none⟩), .pointer (some ⟨g26, 0 + k * 10, none⟩), .agg #[.int .i64 y26.node.t, .int .i64 y26.node.w], .pointer (some ⟨b1, 0, none⟩), .agg #[.int .i64 it.node.t, .int .i64 it.node.w], .bool b28, .slice oA on oc, .pointer (some ⟨ub, 0, none⟩), .pointer (some ⟨ub, 0, none⟩), .pointer (some ⟨ub, 0, none⟩), .slice lA L.length lc, .int .i64 ((k : Int)), .pointer (some ⟨g38, 0 + k * 10, none⟩), itV y26 (.slice dA38 dn38 dc38), .slice (some ⟨b39, 0, none⟩) 1 1, .slice A50 n51 c52, rfl, (by kernel_rfl), M58, (by omega), (by rw [fold1 hy26, step_in (hF1_2.out.trans v19) (show y26.node ≠ it.node from p35)]; exact h55), (by show _ = _; rw [fold1 hy26, step_in (hF1_2.out.trans v19) (show y26.node ≠ it.node from p35)]; exact v19.symm)⟩
  · omega
end Go.Proofs.YtefhfoioeoijlaaGreat

/- GLH: printed by gen.py -/
import Derived.Test.YtefhfoioeoijlaaGLG
import Derived.Test.YtefhfoioeoijlaaLogs
import Derived.Test.YtefhfoioeoijlaaGOL
set_option linter.unusedVariables false
set_option linter.unusedSimpArgs false
namespace Go.Proofs.Ytefhfoioeoijlaa
open Go Go.RowKit Go.Sort
set_option maxRecDepth 20000 in
set_option maxHeartbeats 2000000 in
theorem undoLast_at {w : World} {lA : Option Addr} {lc : Nat} {ss : List GStep} (h0 : StRow0 w lA ss) (hfull : SmallS ss → StRow w.heap.size w lA ss) (hB : w.heap.size ≤ w.heap.size) (hnS : ss.length ≤ 1300000000000) (o : OpD) (oA : Option Addr) (on oc : Nat) (hol : o.data.length = on) (hos : o.name.size ≤ 9223372036854775807) (hod : on ≤ 500 → Dat w.heap.size w (.slice oA on oc) o.data) :
    Calls Try.prog 4 #[.slice lA ss.length lc, opV o (.slice oA on oc)] w fun e w' => e = .returned (.bool true) ∧ Up w w' := by
  go_enter Try.func4, Try.ntmps4
  refine wp_seq (rg_lit ?_)
  refine wl (sn rfl (cs := (opC o (.slice oA on oc)).toArray) (T := 40) (V := fun b => .pointer (some ⟨b, 0, none⟩)) (r_box (v := opV o (.slice oA on oc)) (by kernel_rfl) rfl) ?_)
  intro b1 w2 e3 h4 u5
  have g6 : w.heap.size ≤ b1 := by rw [e3]; exact (Mod.refl [] w).size
  have M7 := Mod.trans (Mod.refl [] w) (Mod.of_up u5)
  refine was (v := .bool false) ?_
  refine wnil (then_n (wp_seq (wp_seq (rg_lit ?_))))
  refine wmv (v := .slice lA ss.length lc) ?_
  refine wl (sc rfl (r_callv (caps := []) (all := [.slice lA ss.length lc, .int .i64 20]) En.f31 (by kernel_rfl) (by kernel_rfl)) (light17_at (StRow0.up h0 (Mod.up M7)) hnS 20) ?_)
  rintro e w8 ⟨lb9, rfl, h10, u11⟩
  refine ⟨.bool lb9, rfl, ?_⟩
  have M12 := Mod.trans M7 (Mod.of_up u11)
  refine wl (sv rfl (v := .bool (!lb9)) (r_not (b := lb9) (by kernel_rfl)) ?_)
  refine wmv (v := .bool (!lb9)) ?_
  refine bcase lb9 (fun v13 => ?_) (fun v13 => ?_)
  ·
   refine wl (sp (wf (b := !lb9) rfl (by kernel_rfl) (bneg v13)) ?_)
   refine wl (sp (wf (b := !lb9) rfl (by kernel_rfl) (bneg v13)) ?_)
   refine wl (sp (wf (b := !lb9) rfl (by kernel_rfl) (bneg v13)) ?_)
   refine wl (sp (wf (b := !lb9) rfl (by kernel_rfl) (bneg v13)) ?_)
   refine wl (sv rfl (v := .bool true) (r_pkT (ebool (b := !lb9) (by kernel_rfl) (bneg v13)) (by kernel_rfl)) ?_)
   refine wnil (then_n ?_)
   refine wp_cond_true (by kernel_rfl) ?_
   refine wp_seq (rg_lit ?_)
   refine wl (sc rfl (r_callv (caps := []) (all := []) En.f32 (by kernel_rfl) (by kernel_rfl)) (alive17_at) ?_)
   rintro e w14 ⟨rfl, u15⟩
   refine ⟨.bool true, rfl, ?_⟩
   have M16 := Mod.trans M12 (Mod.of_up u15)
   refine was (v := .bool true) ?_
   refine wnil (then_n (wp_ret (then_x (by nofun) ?_)))
   refine bodyPost_ret (v := .bool true) (res1 rfl (rv_t (by kernel_rfl))) (by kernel_rfl) ?_
   exact ⟨rfl, Mod.up M16⟩
  obtain ⟨hsmS, hleS⟩ := h10 v13
  have hsteps := hfull hsmS
  have h14 := (up_ob u11 h4)
  refine wl (sv (wt (b := !lb9) rfl (by kernel_rfl) (bneg v13)) (v := opV o (.slice oA on oc)) (r_loads (k := 0) (by kernel_rfl) Ty.ag40 Ty.sz40 h14 (by kernel_rfl)) ?_)
  refine wl (sn (wt (b := !lb9) rfl (by kernel_rfl) (bneg v13)) (cs := (opC o (.slice oA on oc)).toArray) (T := 40) (V := fun b => .slice (some ⟨b, 0, none⟩) 1 1) (r_buildSlice (n := 1) (ps := [(0, opV o (.slice oA on oc))]) Ty.un22 Ty.sz40 Ty.zv40 (by decide) (by decide) (by kernel_rfl) (by kernel_rfl)) ?_)
  intro b15 w16 e17 h18 u19
  have l20 : b1 < b15 := by rw [e17]; exact lt_ob h14
  have g21 : w.heap.size ≤ b15 := by rw [e17]; exact M12.size
  have M22 := Mod.trans M12 (Mod.of_up u19)
  refine wl (sc (wt (b := !lb9) rfl (by kernel_rfl) (bneg v13)) (r_callv (caps := []) (all := [.slice (some ⟨b15, 0, none⟩) 1 1, .int .i64 1]) En.f12 (by kernel_rfl) (by kernel_rfl)) (light2_at (os := [o]) (lit_row0 h18 hol hos) (by simp) 1) ?_)
  rintro e w23 ⟨lb24, rfl, h25, u26⟩
  refine ⟨.bool lb24, rfl, ?_⟩
  have M27 := Mod.trans M22 (Mod.of_up u26)
  refine wl (sv (wt (b := !lb9) rfl (by kernel_rfl) (bneg v13)) (v := .bool (!lb24)) (r_not (b := lb24) (by kernel_rfl)) ?_)
  refine wl (sv rfl (v := .bool (!lb24)) (r_pkF (ebool (b := !lb9) (by kernel_rfl) (bneg v13)) (by kernel_rfl)) ?_)
  refine wnil (then_n ?_)
  refine bcase lb24 (fun v28 => ?_) (fun v28 => ?_)
  ·
   refine wp_cond_true (ebool (b := !lb24) (by kernel_rfl) (bneg v28)) ?_
   refine wp_seq (rg_lit ?_)
   refine wl (sc rfl (r_callv (caps := []) (all := []) En.f32 (by kernel_rfl) (by kernel_rfl)) (alive17_at) ?_)
   rintro e w29 ⟨rfl, u30⟩
   refine ⟨.bool true, rfl, ?_⟩
   have M31 := Mod.trans M27 (Mod.of_up u30)
   refine was (v := .bool true) ?_
   refine wnil (then_n (wp_ret (then_x (by nofun) ?_)))
   refine bodyPost_ret (v := .bool true) (res1 rfl (rv_t (by kernel_rfl))) (by kernel_rfl) ?_
   exact ⟨rfl, Mod.up M31⟩
  obtain ⟨hsmO, hleO⟩ := h25 v28
  have hdO := hod (by rw [← hol]; exact hsmO 0 o rfl)
  refine wp_cond_false (ebool (b := !lb24) (by kernel_rfl) (bneg v28)) ?_
  refine wp_skip (then_n (wp_seq (rg_lit ?_)))
  refine wl (sc rfl (r_callv (caps := []) (all := []) En.f33 (by kernel_rfl) (by kernel_rfl)) (lognew_at (Nat.le_trans hB M27.size)) ?_)
  rintro e w29 ⟨la, ta, ra, rfl, hL30, u31, _, _, _⟩
  refine ⟨.pointer (some ⟨la, 0, none⟩), rfl, ?_⟩
  have hO32 : One w.heap.size w29 la [] := ⟨ta, ra, _, hL30⟩
  have M33 := Mod.trans M27 (Mod.of_up u31)
  refine was (v := .pointer (some ⟨la, 0, none⟩)) ?_
  refine wnil (then_n (wp_seq (wp_seq (rg_lit ?_))))
  refine was (v := .int .i64 0) ?_
  refine wnil (then_n (wp_block ?_))
  have h34 := (up_ob u31 (up_ob u26 (up_ob u19 h14)))
  refine lp (fun n a r1 => ∃ (kd : Nat) (z25 z26 z27 z28 z29 z30 z31 z32 z33 z34 z35 z36 : Value), (n = ss.length - kd) ∧ (a = ⟨#[.slice lA ss.length lc, opV o (.slice oA on oc), undef, .pointer (some ⟨b1, 0, none⟩), .bool false, .pointer (some ⟨la, 0, none⟩), .int .i64 ((kd : Int)), undef, undef, undef, undef, undef, undef, undef, .slice lA ss.length lc, .bool lb9, .bool (!lb9), .bool (!lb9), opV o (.slice oA on oc), .slice (some ⟨b15, 0, none⟩) 1 1, .bool lb24, .bool (!lb24), .bool (!lb24), undef, .pointer (some ⟨la, 0, none⟩), z25, z26, z27, z28, z29, z30, z31, z32, z33, z34, z35, z36, undef, undef, undef, undef, undef, undef, undef, undef, undef, undef, undef, undef, undef, undef, undef, undef, undef, undef, undef, undef, undef, undef, undef, undef, undef, undef, undef, undef, undef, undef, undef, undef, undef, undef, undef, undef, undef, undef, undef, undef, undef, undef, undef, undef, undef, undef, undef, undef, undef, undef, undef, undef, undef, undef, undef, undef, undef, undef, undef, undef, undef, undef, undef, undef, undef, undef, undef, undef, undef, undef], []⟩) ∧ (Up w r1) ∧ (kd ≤ ss.length) ∧ (r1.heap[b1]? = some (.cells (opC o (.slice oA on oc)).toArray 40 (0, 0))) ∧ (One w.heap.size r1 la ((ss.take kd).foldl stepL []))) ⟨_, 0, undef, undef, undef, undef, undef, undef, undef, undef, undef, undef, undef, undef, rfl, (by kernel_rfl), (Mod.up M33), (Nat.zero_le _), h34, hO32⟩ ?_
  rintro _ _ r1 ⟨kd, z25, z26, z27, z28, z29, z30, z31, z32, z33, z34, z35, z36, rfl, rfl, hU1, hF1_0, hF1_1, hF1_2⟩
  refine wp_seq (wp_seq (rg_lit ?_))
  refine wmv (v := .int .i64 ((kd : Int))) ?_
  refine wmv (v := .slice lA ss.length lc) ?_
  refine wl (sv rfl (v := .int .i64 ((ss.length : Int))) (r_len Ty.un60 (ad := lA) (n := ss.length) (c := lc) (by kernel_rfl)) ?_)
  refine wl (sb rfl (r_lt (k := .i64) (m := ((kd : Int))) (n := ((ss.length : Int))) (by kernel_rfl) (by kernel_rfl)) ?_)
  intro b35 k36
  refine wnil (then_n ?_)
  refine bcase b35 (fun v37 => ?_) (fun v37 => ?_)
  ·
   have p38 := of_decide_eq_false (k36.trans v37)
   refine wp_cond_false (ebool (b := b35) (by kernel_rfl) v37) ?_
   refine wp_exit (then_x (by nofun) (then_x (by nofun) (inb_hit (then_n (wp_seq (rg_lit ?_))))))
   refine wmv (v := .pointer (some ⟨la, 0, none⟩)) ?_
   obtain ⟨Pp, hPp⟩ : ∃ P, P = ss.foldl stepL [] := ⟨_, rfl⟩
   have hO0 : One w.heap.size r1 la Pp := One.to hF1_2 (by rw [hPp]; exact foldS_all (by omega))
   have hPl : Pp.length ≤ 20 := by rw [hPp]; have h0 := foldS_len ss []; simp only [List.length_nil] at h0; omega
   obtain ⟨r, hR0⟩ := hO0.r
   have hPs := hR0.srt
   have hPn := hR0.names
   refine wl (sc rfl (r_callv (caps := []) (all := [.pointer (some ⟨la, 0, none⟩)]) En.f35 (by kernel_rfl) (by kernel_rfl)) (one_ops (OneR.one hR0) (Nat.le_trans hB (Mod.of_up (X := []) hU1).size) (by omega)) ?_)
   rintro e w39 ⟨A40, c41, rfl, h42, u43⟩
   refine ⟨.slice A40 Pp.length c41, rfl, ?_⟩
   have M44 := Mod.trans (Mod.of_up (X := []) hU1) (Mod.of_up u43)
   refine was (v := .slice A40 Pp.length c41) ?_
   refine wnil (then_n (wp_seq (rg_lit ?_)))
   refine wmv (v := .slice A40 Pp.length c41) ?_
   have h45 := (StRow0.up h0 (Mod.up M44))
   have h46 := (StRow.up hsteps (Mod.up M44))
   have h47 := (Dat.up hdO (Mod.up M44))
   have h48 := (OneR.up hR0 u43)
   have h49 := (up_ob u43 hF1_1)
   have hrlrz52 := OneR.lt h48
   refine wl (sc rfl (r_callv (caps := []) (all := [.slice A40 Pp.length c41]) En.f36 (by kernel_rfl) (by kernel_rfl)) (build_at (os := Pp) (ORow.ops h42 hPn) (Nat.le_trans hB M44.size) (by omega)) ?_)
   rintro e w50 ⟨tz51, rz52, rfl, h53, u54, z55, z56⟩
   rw [buildI_srt hPs] at h53
   refine ⟨.pointer (some ⟨tz51, 0, none⟩), rfl, ?_⟩
   have M57 := Mod.trans M44 (Mod.of_up u54)
   have hnerz52 : rz52 ≠ r := by omega
   refine was (v := .pointer (some ⟨tz51, 0, none⟩)) ?_
   refine wnil (then_n (wp_seq (rg_lit ?_)))
   refine wmv (v := .pointer (some ⟨la, 0, none⟩)) ?_
   have h58 := (up_ob u54 h49)
   refine wl (sv rfl (v := opV o (.slice oA on oc)) (r_loads (k := 0) (by kernel_rfl) Ty.ag40 Ty.sz40 h58 (by kernel_rfl)) ?_)
   have h59 := (OneR.up h48 u54)
   have h60 := (Dat.up hdO (Mod.up M57))
   refine wl (sc rfl (r_callv (caps := []) (all := [.pointer (some ⟨la, 0, none⟩), opV o (.slice oA on oc)]) En.f37 (by kernel_rfl) (by kernel_rfl)) (oneR_ins h59 (Nat.le_trans hB M57.size) (by omega) o oA on oc h60 hos) ?_)
   rintro e w61 ⟨nn, kk, rfl, h62, ho63R, hans⟩
   have ho63 := OnlyR.only ho63R
   refine ⟨.tuple #[.int .i64 nn, .int .i64 kk], rfl, ?_⟩
   have h64 := Only.ob ho63 h58 (by decide) (by decide)
   have M65 := Only.of_up (Mod.up M57) ho63
   have h66 := (ORow.up h42 u54)
   have h67 := ORow.only h66 ho63
   have h68 := TreeIs.onlyR h53 ho63R hnerz52
   refine wmv (v := .tuple #[.int .i64 nn, .int .i64 kk]) ?_
   refine wl (sv rfl (v := .int .i64 nn) (r_extract (vs := [.int .i64 nn, .int .i64 kk]) (by kernel_rfl) rfl) ?_)
   refine wl (sv rfl (v := .int .i64 kk) (r_extract (vs := [.int .i64 nn, .int .i64 kk]) (by kernel_rfl) rfl) ?_)
   refine was (v := .int .i64 nn) ?_
   refine was (v := .int .i64 kk) ?_
   refine wnil (then_n (wp_seq (wp_seq (rg_lit ?_))))
   refine wmv (v := .int .i64 kk) ?_
   refine wl (sb rfl (r_ne (k := .i64) (m := kk) (n := 0) (by kernel_rfl) (by kernel_rfl)) ?_)
   intro b69 k70
   refine wnil (then_n ?_)
   refine bcase b69 (fun v71 => ?_) (fun v71 => ?_)
   ·
    have p72 := of_decide_eq_false (k70.trans v71)
    obtain ⟨hnn, hrB, hhL⟩ := ans_no hans p72
    refine wp_cond_false (ebool (b := b69) (by kernel_rfl) v71) ?_
    refine wp_skip (then_n (wp_seq (wp_seq (rg_lit ?_))))
    refine wmv (v := .int .i64 nn) ?_
    refine wl (sb rfl (r_eq (k := .i64) (m := nn) (n := 0) (by kernel_rfl) (by kernel_rfl)) ?_)
    intro b73 k74
    refine wnil (then_n ?_)
    refine bcase b73 (fun v75 => ?_) (fun v75 => ?_)
    ·
     have p76 := of_decide_eq_false (k74.trans v75)
     refine wp_cond_false (ebool (b := b73) (by kernel_rfl) v75) ?_
     refine wp_skip (then_n (wp_seq (rg_lit ?_)))
     refine wmv (v := .pointer (some ⟨la, 0, none⟩)) ?_
     refine wl (sv rfl (v := .pointer (some ⟨b1, 1, none⟩)) (r_fieldAddr (u := .pointer (some ⟨b1, 0, none⟩)) (by kernel_rfl) (fun _ => (by kernel_rfl))) ?_)
     refine wl (sv rfl (v := .agg #[.int .i64 o.at_.t, .int .i64 o.at_.w]) (r_loads (k := 1) (by kernel_rfl) Ty.ag24 Ty.sz24 h64 (by kernel_rfl)) ?_)
     refine wl (sc rfl (r_callv (caps := []) (all := [.pointer (some ⟨la, 0, none⟩), .agg #[.int .i64 o.at_.t, .int .i64 o.at_.w]]) En.f41 (by kernel_rfl) (by kernel_rfl)) (oneR_rem h62 (Nat.le_trans hB (Mod.of_up (X := []) M65).size) (by have h0 := insL_len Pp o; omega) o.at_.t o.at_.w) ?_)
     rintro e w77 ⟨mm, jj, rfl, h78, ho79R, hansR⟩
     have ho79 := OnlyR.only ho79R
     have hback := ansR_back hrB hhL hansR
     have hmn : mm = nn := hback.1.trans hnn.symm
     refine ⟨.tuple #[.int .i64 mm, .int .i64 jj], rfl, ?_⟩
     have h80 := Only.ob ho79 h64 (by decide) (by decide)
     have M81 := Only.of_up (Mod.up (Mod.of_up (X := []) M65)) ho79
     have h82 := ORow.only h67 ho79
     have h83 := TreeIs.onlyR h68 ho79R hnerz52
     refine wmv (v := .tuple #[.int .i64 mm, .int .i64 jj]) ?_
     refine wl (sv rfl (v := .int .i64 mm) (r_extract (vs := [.int .i64 mm, .int .i64 jj]) (by kernel_rfl) rfl) ?_)
     refine wl (sv rfl (v := .int .i64 jj) (r_extract (vs := [.int .i64 mm, .int .i64 jj]) (by kernel_rfl) rfl) ?_)
     refine was (v := .int .i64 mm) ?_
     refine was (v := .int .i64 jj) ?_
     refine wnil (then_n (wp_seq (rg_lit ?_)))
     refine wmv (v := .int .i64 mm) ?_
     refine wmv (v := .int .i64 nn) ?_
     refine wl (sb rfl (r_eq (k := .i64) (m := mm) (n := nn) (by kernel_rfl) (by kernel_rfl)) ?_)
     intro b84 k85
     refine wmv (v := .bool b84) ?_
     refine bcase b84 (fun v86 => ?_) (fun v86 => ?_)
     ·
      have p87 := of_decide_eq_false (k85.trans v86)
      exact absurd hmn p87
     have p87 := of_decide_eq_true (k85.trans v86)
     refine wl (sv (wt (b := b84) rfl (by kernel_rfl) v86) (v := .int .i64 jj) (r_move (by kernel_rfl)) ?_)
     refine wl (sb (wt (b := b84) rfl (by kernel_rfl) v86) (r_eq (k := .i64) (m := jj) (n := 0) (by kernel_rfl) (by kernel_rfl)) ?_)
     intro b88 k89
     refine wl (sv rfl (v := .bool b88) (r_pkT (ebool (b := b84) (by kernel_rfl) v86) (by kernel_rfl)) ?_)
     refine wmv (v := .bool b88) ?_
     refine bcase b88 (fun v90 => ?_) (fun v90 => ?_)
     ·
      have p91 := of_decide_eq_false (k89.trans v90)
      exact absurd hback.2 p91
     have p91 := of_decide_eq_true (k89.trans v90)
     refine wl (sv (wt (b := b88) rfl (by kernel_rfl) v90) (v := .pointer (some ⟨la, 0, none⟩)) (r_move (by kernel_rfl)) ?_)
     refine wl (sc (wt (b := b88) rfl (by kernel_rfl) v90) (r_callv (caps := []) (all := [.pointer (some ⟨la, 0, none⟩)]) En.f35 (by kernel_rfl) (by kernel_rfl)) (one_ops (OneR.one (OneR.to h78 (rem_back hrB hhL))) (Nat.le_trans hB (Mod.of_up (X := []) M81).size) (by omega)) ?_)
     rintro e w92 ⟨A93, c94, rfl, h95, u96⟩
     refine ⟨.slice A93 Pp.length c94, rfl, ?_⟩
     have M97 := Mod.trans (Mod.of_up (X := []) M81) (Mod.of_up u96)
     refine wl (sv (wt (b := b88) rfl (by kernel_rfl) v90) (v := .slice A40 Pp.length c41) (r_move (by kernel_rfl)) ?_)
     have h98 := (ORow.up h82 u96)
     refine wl (sc (wt (b := b88) rfl (by kernel_rfl) v90) (r_callv (caps := []) (all := [.slice A93 Pp.length c94, .slice A40 Pp.length c41]) En.f38 (by kernel_rfl) (by kernel_rfl)) (bool_true rfl (r15all_at h95 h98 (by omega))) ?_)
     rintro e w99 ⟨rfl, u100⟩
     refine ⟨.bool true, rfl, ?_⟩
     have M101 := Mod.trans M97 (Mod.of_up u100)
     refine wl (sv rfl (v := .bool true) (r_pkT (ebool (b := b88) (by kernel_rfl) v90) (by kernel_rfl)) ?_)
     refine wmv (v := .bool true) ?_
     refine wl (sv (by kernel_rfl) (v := .pointer (some ⟨la, 0, none⟩)) (r_move (by kernel_rfl)) ?_)
     have h102 := (OneR.up (OneR.up (OneR.to h78 (rem_back hrB hhL)) u96) u100)
     refine wl (sc (by kernel_rfl) (r_callv (caps := []) (all := [.pointer (some ⟨la, 0, none⟩)]) En.f40 (by kernel_rfl) (by kernel_rfl)) (one_tree (OneR.one h102) (by omega)) ?_)
     rintro e w103 ⟨tz104, rz105, rfl, h106, u107⟩
     refine ⟨.pointer (some ⟨tz104, 0, none⟩), rfl, ?_⟩
     have M108 := Mod.trans M101 (Mod.of_up u107)
     refine wl (sv (by kernel_rfl) (v := .pointer (some ⟨tz51, 0, none⟩)) (r_move (by kernel_rfl)) ?_)
     have h109 := (TreeIs.up (TreeIs.up (TreeIs.up h83 u96) u100) u107)
     refine wl (sc (by kernel_rfl) (r_callv (caps := []) (all := [.pointer (some ⟨tz104, 0, none⟩), .pointer (some ⟨tz51, 0, none⟩)]) En.f39 (by kernel_rfl) (by kernel_rfl)) (bool_true rfl (tsame_at h106 h109)) ?_)
     rintro e w110 ⟨rfl, u111⟩
     refine ⟨.bool true, rfl, ?_⟩
     have M112 := Mod.trans M108 (Mod.of_up u111)
     refine wl (sv rfl (v := .bool true) (r_pkT (by kernel_rfl) (by kernel_rfl)) ?_)
     refine wmv (v := .bool true) ?_
     refine wl (sc (by kernel_rfl) (r_callv (caps := []) (all := []) En.f32 (by kernel_rfl) (by kernel_rfl)) (alive17_at) ?_)
     rintro e w113 ⟨rfl, u114⟩
     refine ⟨.bool true, rfl, ?_⟩
     have M115 := Mod.trans M112 (Mod.of_up u114)
     refine wl (sv rfl (v := .bool true) (r_pkT (by kernel_rfl) (by kernel_rfl)) ?_)
     refine was (v := .bool true) ?_
     refine wnil (then_n (wp_ret ?_))
     refine bodyPost_ret (v := .bool true) (res1 rfl (rv_t (by kernel_rfl))) (by kernel_rfl) ?_
     exact ⟨rfl, Mod.up M115⟩
    have p76 := of_decide_eq_true (k74.trans v75)
    refine wp_cond_true (ebool (b := b73) (by kernel_rfl) v75) ?_
    refine wp_seq (rg_lit ?_)
    refine wmv (v := .slice A40 Pp.length c41) ?_
    have h77 := (StRow0.up h0 (Mod.up (Mod.of_up (X := []) M65)))
    have h78 := (StRow.up hsteps (Mod.up (Mod.of_up (X := []) M65)))
    have h79 := (Dat.up hdO (Mod.up (Mod.of_up (X := []) M65)))
    have hrlrz82 := OneR.lt h62
    refine wl (sc rfl (r_callv (caps := []) (all := [.slice A40 Pp.length c41]) En.f36 (by kernel_rfl) (by kernel_rfl)) (build_at (os := Pp) (ORow.ops h67 hPn) (Nat.le_trans hB (Mod.of_up (X := []) M65).size) (by omega)) ?_)
    rintro e w80 ⟨tz81, rz82, rfl, h83, u84, z85, z86⟩
    rw [buildI_srt hPs] at h83
    refine ⟨.pointer (some ⟨tz81, 0, none⟩), rfl, ?_⟩
    have M87 := Mod.trans (Mod.of_up (X := []) M65) (Mod.of_up u84)
    have hnerz82 : rz82 ≠ r := by omega
    refine was (v := .pointer (some ⟨tz81, 0, none⟩)) ?_
    refine wnil (then_n (wp_seq (rg_lit ?_)))
    refine wmv (v := .pointer (some ⟨tz81, 0, none⟩)) ?_
    have h88 := (up_ob u84 h64)
    refine wl (sv rfl (v := opV o (.slice oA on oc)) (r_loads (k := 0) (by kernel_rfl) Ty.ag40 Ty.sz40 h88 (by kernel_rfl)) ?_)
    have h89 := (Dat.up hdO (Mod.up M87))
    refine wl (sc rfl (r_callv (caps := []) (all := [.pointer (some ⟨tz81, 0, none⟩), opV o (.slice oA on oc)]) En.f15 (by kernel_rfl) (by kernel_rfl)) (do_x (L' := playI (playA Pp) o) h83 (Nat.le_trans hB M87.size) o oA on oc h89 hos rfl) ?_)
    rintro e w90 ⟨A91, n92, c93, rfl, h94, h95, u96⟩
    refine ⟨.tuple #[itV (doI (playA Pp) o).1.1 (.slice A91 n92 c93), .bool ((doI (playA Pp) o).1.2.1), .int .i64 ((doI (playA Pp) o).1.2.2)], rfl, ?_⟩
    have u97 := up_chgn u84 u96 z86
    have M98 := Mod.trans (Mod.of_up (X := []) M65) (Mod.of_up u97)
    have h99 := (StRow0.up h77 u97)
    have h100 := (StRow.up h78 u97)
    have h101 := (Dat.up h79 u97)
    have h102 := (ORow.up h67 u97)
    have h103 := (TreeIs.up h68 u97)
    have h104 := (OneR.up h62 u97)
    have h105 := up_ob u97 h64
    refine wnil (then_n (wp_seq (rg_lit ?_)))
    refine wmv (v := .pointer (some ⟨la, 0, none⟩)) ?_
    refine wl (sc rfl (r_callv (caps := []) (all := [.pointer (some ⟨la, 0, none⟩)]) En.f40 (by kernel_rfl) (by kernel_rfl)) (one_tree (OneR.one h104) (by have h0 := insL_len Pp o; omega)) ?_)
    rintro e w106 ⟨tz107, rz108, rfl, h109, u110⟩
    refine ⟨.pointer (some ⟨tz107, 0, none⟩), rfl, ?_⟩
    have M111 := Mod.trans M98 (Mod.of_up u110)
    refine wmv (v := .pointer (some ⟨tz81, 0, none⟩)) ?_
    have h112 := (TreeIs.up h95 u110)
    refine wl (sc rfl (r_callv (caps := []) (all := [.pointer (some ⟨tz107, 0, none⟩), .pointer (some ⟨tz81, 0, none⟩)]) En.f39 (by kernel_rfl) (by kernel_rfl)) (bool_true rfl (tsame_at (TreeIs.to h109 (by rw [ins_last hrB hhL (by have e0 := hnn.symm.trans p76; omega), play_last])) h112)) ?_)
    rintro e w113 ⟨rfl, u114⟩
    refine ⟨.bool true, rfl, ?_⟩
    have M115 := Mod.trans M111 (Mod.of_up u114)
    refine wl (sv rfl (v := .bool false) (r_not (b := true) (by kernel_rfl)) ?_)
    refine wnil (then_n ?_)
    refine wp_cond_false (by kernel_rfl) ?_
    refine wp_skip (then_n (wp_seq (rg_lit ?_)))
    refine wmv (v := .pointer (some ⟨la, 0, none⟩)) ?_
    refine wl (sv rfl (v := .pointer (some ⟨b1, 1, none⟩)) (r_fieldAddr (u := .pointer (some ⟨b1, 0, none⟩)) (by kernel_rfl) (fun _ => (by kernel_rfl))) ?_)
    have h116 := (up_ob u114 (up_ob u110 h105))
    refine wl (sv rfl (v := .agg #[.int .i64 o.at_.t, .int .i64 o.at_.w]) (r_loads (k := 1) (by kernel_rfl) Ty.ag24 Ty.sz24 h116 (by kernel_rfl)) ?_)
    have h117 := (OneR.up (OneR.up h104 u110) u114)
    refine wl (sc rfl (r_callv (caps := []) (all := [.pointer (some ⟨la, 0, none⟩), .agg #[.int .i64 o.at_.t, .int .i64 o.at_.w]]) En.f41 (by kernel_rfl) (by kernel_rfl)) (oneR_rem h117 (Nat.le_trans hB M115.size) (by have h0 := insL_len Pp o; omega) o.at_.t o.at_.w) ?_)
    rintro e w118 ⟨mm, jj, rfl, h119, ho120R, hansR⟩
    have ho120 := OnlyR.only ho120R
    have hback := ansR_back hrB hhL hansR
    have hmn : mm = nn := hback.1.trans hnn.symm
    refine ⟨.tuple #[.int .i64 mm, .int .i64 jj], rfl, ?_⟩
    have h121 := Only.ob ho120 h116 (by decide) (by decide)
    have M122 := Only.of_up (Mod.up M115) ho120
    have h123 := (ORow.up (ORow.up h102 u110) u114)
    have h124 := ORow.only h123 ho120
    have h125 := (TreeIs.up (TreeIs.up h103 u110) u114)
    have h126 := TreeIs.onlyR h125 ho120R hnerz52
    have h127 := (TreeIs.up h112 u114)
    have h128 := TreeIs.onlyR h127 ho120R hnerz82
    refine wmv (v := .tuple #[.int .i64 mm, .int .i64 jj]) ?_
    refine wl (sv rfl (v := .int .i64 mm) (r_extract (vs := [.int .i64 mm, .int .i64 jj]) (by kernel_rfl) rfl) ?_)
    refine wl (sv rfl (v := .int .i64 jj) (r_extract (vs := [.int .i64 mm, .int .i64 jj]) (by kernel_rfl) rfl) ?_)
    refine was (v := .int .i64 mm) ?_
    refine was (v := .int .i64 jj) ?_
    refine wnil (then_n (wp_seq (rg_lit ?_)))
    refine wmv (v := .int .i64 mm) ?_
    refine wmv (v := .int .i64 nn) ?_
    refine wl (sb rfl (r_eq (k := .i64) (m := mm) (n := nn) (by kernel_rfl) (by kernel_rfl)) ?_)
    intro b129 k130
    refine wmv (v := .bool b129) ?_
    refine bcase b129 (fun v131 => ?_) (fun v131 => ?_)
    ·
     have p132 := of_decide_eq_false (k130.trans v131)
     exact absurd hmn p132
    have p132 := of_decide_eq_true (k130.trans v131)
    refine wl (sv (wt (b := b129) rfl (by kernel_rfl) v131) (v := .int .i64 jj) (r_move (by kernel_rfl)) ?_)
    refine wl (sb (wt (b := b129) rfl (by kernel_rfl) v131) (r_eq (k := .i64) (m := jj) (n := 0) (by kernel_rfl) (by kernel_rfl)) ?_)
    intro b133 k134
    refine wl (sv rfl (v := .bool b133) (r_pkT (ebool (b := b129) (by kernel_rfl) v131) (by kernel_rfl)) ?_)
    refine wmv (v := .bool b133) ?_
    refine bcase b133 (fun v135 => ?_) (fun v135 => ?_)
    ·
     have p136 := of_decide_eq_false (k134.trans v135)
     exact absurd hback.2 p136
    have p136 := of_decide_eq_true (k134.trans v135)
    refine wl (sv (wt (b := b133) rfl (by kernel_rfl) v135) (v := .pointer (some ⟨la, 0, none⟩)) (r_move (by kernel_rfl)) ?_)
    refine wl (sc (wt (b := b133) rfl (by kernel_rfl) v135) (r_callv (caps := []) (all := [.pointer (some ⟨la, 0, none⟩)]) En.f35 (by kernel_rfl) (by kernel_rfl)) (one_ops (OneR.one (OneR.to h119 (rem_back hrB hhL))) (Nat.le_trans hB (Mod.of_up (X := []) M122).size) (by omega)) ?_)
    rintro e w137 ⟨A138, c139, rfl, h140, u141⟩
    refine ⟨.slice A138 Pp.length c139, rfl, ?_⟩
    have M142 := Mod.trans (Mod.of_up (X := []) M122) (Mod.of_up u141)
    refine wl (sv (wt (b := b133) rfl (by kernel_rfl) v135) (v := .slice A40 Pp.length c41) (r_move (by kernel_rfl)) ?_)
    have h143 := (ORow.up h124 u141)
    refine wl (sc (wt (b := b133) rfl (by kernel_rfl) v135) (r_callv (caps := []) (all := [.slice A138 Pp.length c139, .slice A40 Pp.length c41]) En.f38 (by kernel_rfl) (by kernel_rfl)) (bool_true rfl (r15all_at h140 h143 (by omega))) ?_)
    rintro e w144 ⟨rfl, u145⟩
    refine ⟨.bool true, rfl, ?_⟩
    have M146 := Mod.trans M142 (Mod.of_up u145)
    refine wl (sv rfl (v := .bool true) (r_pkT (ebool (b := b133) (by kernel_rfl) v135) (by kernel_rfl)) ?_)
    refine wmv (v := .bool true) ?_
    refine wl (sv (by kernel_rfl) (v := .pointer (some ⟨la, 0, none⟩)) (r_move (by kernel_rfl)) ?_)
    have h147 := (OneR.up (OneR.up (OneR.to h119 (rem_back hrB hhL)) u141) u145)
    refine wl (sc (by kernel_rfl) (r_callv (caps := []) (all := [.pointer (some ⟨la, 0, none⟩)]) En.f40 (by kernel_rfl) (by kernel_rfl)) (one_tree (OneR.one h147) (by omega)) ?_)
    rintro e w148 ⟨tz149, rz150, rfl, h151, u152⟩
    refine ⟨.pointer (some ⟨tz149, 0, none⟩), rfl, ?_⟩
    have M153 := Mod.trans M146 (Mod.of_up u152)
    refine wl (sv (by kernel_rfl) (v := .pointer (some ⟨tz51, 0, none⟩)) (r_move (by kernel_rfl)) ?_)
    have h154 := (TreeIs.up (TreeIs.up (TreeIs.up h126 u141) u145) u152)
    refine wl (sc (by kernel_rfl) (r_callv (caps := []) (all := [.pointer (some ⟨tz149, 0, none⟩), .pointer (some ⟨tz51, 0, none⟩)]) En.f39 (by kernel_rfl) (by kernel_rfl)) (bool_true rfl (tsame_at h151 h154)) ?_)
    rintro e w155 ⟨rfl, u156⟩
    refine ⟨.bool true, rfl, ?_⟩
    have M157 := Mod.trans M153 (Mod.of_up u156)
    refine wl (sv rfl (v := .bool true) (r_pkT (by kernel_rfl) (by kernel_rfl)) ?_)
    refine wmv (v := .bool true) ?_
    refine wl (sc (by kernel_rfl) (r_callv (caps := []) (all := []) En.f32 (by kernel_rfl) (by kernel_rfl)) (alive17_at) ?_)
    rintro e w158 ⟨rfl, u159⟩
    refine ⟨.bool true, rfl, ?_⟩
    have M160 := Mod.trans M157 (Mod.of_up u159)
    refine wl (sv rfl (v := .bool true) (r_pkT (by kernel_rfl) (by kernel_rfl)) ?_)
    refine was (v := .bool true) ?_
    refine wnil (then_n (wp_ret ?_))
    refine bodyPost_ret (v := .bool true) (res1 rfl (rv_t (by kernel_rfl))) (by kernel_rfl) ?_
    exact ⟨rfl, Mod.up M160⟩
   have p72 := of_decide_eq_true (k70.trans v71)
   obtain ⟨hn0, hins⟩ := ans_yes hans p72
   refine wp_cond_true (ebool (b := b69) (by kernel_rfl) v71) ?_
   refine wp_seq (rg_lit ?_)
   refine wmv (v := .int .i64 nn) ?_
   refine wl (sb rfl (r_eq (k := .i64) (m := nn) (n := 0) (by kernel_rfl) (by kernel_rfl)) ?_)
   intro b73 k74
   refine wmv (v := .bool b73) ?_
   refine bcase b73 (fun v75 => ?_) (fun v75 => ?_)
   ·
    have p76 := of_decide_eq_false (k74.trans v75)
    exact absurd hn0 p76
   have p76 := of_decide_eq_true (k74.trans v75)
   refine wl (sv (wt (b := b73) rfl (by kernel_rfl) v75) (v := .pointer (some ⟨la, 0, none⟩)) (r_move (by kernel_rfl)) ?_)
   refine wl (sc (wt (b := b73) rfl (by kernel_rfl) v75) (r_callv (caps := []) (all := [.pointer (some ⟨la, 0, none⟩)]) En.f35 (by kernel_rfl) (by kernel_rfl)) (one_ops (OneR.one (OneR.to h62 hins)) (Nat.le_trans hB (Mod.of_up (X := []) M65).size) (by omega)) ?_)
   rintro e w77 ⟨A78, c79, rfl, h80, u81⟩
   refine ⟨.slice A78 Pp.length c79, rfl, ?_⟩
   have M82 := Mod.trans (Mod.of_up (X := []) M65) (Mod.of_up u81)
   refine wl (sv (wt (b := b73) rfl (by kernel_rfl) v75) (v := .slice A40 Pp.length c41) (r_move (by kernel_rfl)) ?_)
   have h83 := (ORow.up h67 u81)
   refine wl (sc (wt (b := b73) rfl (by kernel_rfl) v75) (r_callv (caps := []) (all := [.slice A78 Pp.length c79, .slice A40 Pp.length c41]) En.f38 (by kernel_rfl) (by kernel_rfl)) (bool_true rfl (r15all_at h80 h83 (by omega))) ?_)
   rintro e w84 ⟨rfl, u85⟩
   refine ⟨.bool true, rfl, ?_⟩
   have M86 := Mod.trans M82 (Mod.of_up u85)
   refine wl (sv rfl (v := .bool true) (r_pkT (ebool (b := b73) (by kernel_rfl) v75) (by kernel_rfl)) ?_)
   refine wmv (v := .bool true) ?_
   refine wl (sv (by kernel_rfl) (v := .pointer (some ⟨la, 0, none⟩)) (r_move (by kernel_rfl)) ?_)
   have h87 := (OneR.up (OneR.up (OneR.to h62 hins) u81) u85)
   refine wl (sc (by kernel_rfl) (r_callv (caps := []) (all := [.pointer (some ⟨la, 0, none⟩)]) En.f40 (by kernel_rfl) (by kernel_rfl)) (one_tree (OneR.one h87) (by omega)) ?_)
   rintro e w88 ⟨tz89, rz90, rfl, h91, u92⟩
   refine ⟨.pointer (some ⟨tz89, 0, none⟩), rfl, ?_⟩
   have M93 := Mod.trans M86 (Mod.of_up u92)
   refine wl (sv (by kernel_rfl) (v := .pointer (some ⟨tz51, 0, none⟩)) (r_move (by kernel_rfl)) ?_)
   have h94 := (TreeIs.up (TreeIs.up (TreeIs.up h68 u81) u85) u92)
   refine wl (sc (by kernel_rfl) (r_callv (caps := []) (all := [.pointer (some ⟨tz89, 0, none⟩), .pointer (some ⟨tz51, 0, none⟩)]) En.f39 (by kernel_rfl) (by kernel_rfl)) (bool_true rfl (tsame_at h91 h94)) ?_)
   rintro e w95 ⟨rfl, u96⟩
   refine ⟨.bool true, rfl, ?_⟩
   have M97 := Mod.trans M93 (Mod.of_up u96)
   refine wl (sv rfl (v := .bool true) (r_pkT (by kernel_rfl) (by kernel_rfl)) ?_)
   refine wmv (v := .bool true) ?_
   refine wl (sc (by kernel_rfl) (r_callv (caps := []) (all := []) En.f32 (by kernel_rfl) (by kernel_rfl)) (alive17_at) ?_)
   rintro e w98 ⟨rfl, u99⟩
   refine ⟨.bool true, rfl, ?_⟩
   have M100 := Mod.trans M97 (Mod.of_up u99)
   refine wl (sv rfl (v := .bool true) (r_pkT (by kernel_rfl) (by kernel_rfl)) ?_)
   refine was (v := .bool true) ?_
   refine wnil (then_n (wp_ret (then_x (by nofun) ?_)))
   refine bodyPost_ret (v := .bool true) (res1 rfl (rv_t (by kernel_rfl))) (by kernel_rfl) ?_
   exact ⟨rfl, Mod.up M100⟩
  have p38 := of_decide_eq_true (k36.trans v37)
  refine wp_cond_true (ebool (b := b35) (by kernel_rfl) v37) ?_
  refine wp_skip (then_n (wp_seq (wp_block (rg_lit ?_))))
  refine wmv (v := .pointer (some ⟨la, 0, none⟩)) ?_
  refine wmv (v := .slice lA ss.length lc) ?_
  refine wmv (v := .int .i64 ((kd : Int))) ?_
  have h40 := (StRow.up hsteps (Mod.up (Mod.of_up (X := []) hU1)))
  obtain ⟨s39, hs39⟩ : ∃ x, ss[kd]? = some x := ⟨_, List.getElem?_eq_getElem (by omega)⟩
  obtain ⟨g39, f39, dA39, dn39, dc39, hA39, hl39, hc39, hD39, hz39⟩ := h40 kd s39 hs39
  refine wl (sv rfl (v := .pointer (some ⟨g39, f39 + kd * 11, none⟩)) (r_ixaddr' (A := lA) (b := g39) (o := f39) (n := ss.length) (c := lc) (sz := 11) (j := ((kd : Int))) (m := f39 + kd * 11) (by kernel_rfl) hA39 (by kernel_rfl) Ty.un60 Ty.sz67 (by omega) (by omega) (by simp)) ?_)
  refine wl (sv rfl (v := .agg #[.bool s39.gone, .int .i64 s39.o.kind, .int .i64 s39.o.at_.t, .int .i64 s39.o.at_.w, .int .i64 s39.o.node.t, .int .i64 s39.o.node.w, .int .i64 s39.o.parent.t, .int .i64 s39.o.parent.w, .bool s39.o.dir, .string s39.o.name, .slice dA39 dn39 dc39]) (r_loadcN (k := f39 + kd * 11) (vs := [.bool s39.gone, .int .i64 s39.o.kind, .int .i64 s39.o.at_.t, .int .i64 s39.o.at_.w, .int .i64 s39.o.node.t, .int .i64 s39.o.node.w, .int .i64 s39.o.parent.t, .int .i64 s39.o.parent.w, .bool s39.o.dir, .string s39.o.name, .slice dA39 dn39 dc39]) (by kernel_rfl) Ty.ag67 Ty.sz67 hc39) ?_)
  refine wl (sc rfl (r_callv (caps := []) (all := [.pointer (some ⟨la, 0, none⟩), .agg #[.bool s39.gone, .int .i64 s39.o.kind, .int .i64 s39.o.at_.t, .int .i64 s39.o.at_.w, .int .i64 s39.o.node.t, .int .i64 s39.o.node.w, .int .i64 s39.o.parent.t, .int .i64 s39.o.parent.w, .bool s39.o.dir, .string s39.o.name, .slice dA39 dn39 dc39]]) En.f34 (by kernel_rfl) (by kernel_rfl)) (step17_at hF1_2 (Nat.le_trans hB (Mod.of_up (X := []) hU1).size) (by have h0 := foldT_len ss kd; omega) s39 dA39 dn39 dc39 hD39 hz39) ?_)
  rintro e w41 ⟨nn43, kk43, rfl, h42, ho43⟩
  refine ⟨.tuple #[.int .i64 nn43, .int .i64 kk43], rfl, ?_⟩
  have h44 := Only.ob ho43 hF1_1 (by decide) (by decide)
  have M45 := Only.of_up (Mod.up (Mod.of_up (X := []) hU1)) ho43
  refine wnil (inb_n (then_n (rg_lit ?_)))
  refine wmv (v := .int .i64 ((kd : Int))) ?_
  refine wl (sv rfl (v := .int .i64 (((kd + 1 : Nat) : Int))) (r_add (k := .i64) (m := ((kd : Int))) (n := 1) (c := (((kd + 1 : Nat) : Int))) (by kernel_rfl) (by kernel_rfl) ((IntWalk.i64_in _ (by omega)).trans (by omega))) ?_)
  refine was (v := .int .i64 (((kd + 1 : Nat) : Int))) ?_
  refine wnil (then_n ?_)
  refine ⟨ss.length - (kd + 1), ?_, (kd + 1), .int .i64 ((kd : Int)), .slice lA ss.length lc, .int .i64 ((ss.length : Int)), .bool b35, .int .i64 ((kd : Int)), .int .i64 (((kd + 1 : Nat) : Int)), .pointer (some ⟨la, 0, none⟩), .slice lA ss.length lc, .int .i64 ((kd : Int)), .pointer (some ⟨g39, f39 + kd * 11, none⟩), .agg #[.bool s39.gone, .int .i64 s39.o.kind, .int .i64 s39.o.at_.t, .int .i64 s39.o.at_.w, .int .i64 s39.o.node.t, .int .i64 s39.o.node.w, .int .i64 s39.o.parent.t, .int .i64 s39.o.parent.w, .bool s39.o.dir, .string s39.o.name, .slice dA39 dn39 dc39], .tuple #[.int .i64 nn43, .int .i64 kk43], rfl, (by kernel_rfl), (Mod.up (Mod.of_up (X := []) M45)), (by omega), h44, (One.to h42 (foldS_next hs39))⟩
  · omega
end Go.Proofs.Ytefhfoioeoijlaa

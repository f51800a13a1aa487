/- ND: printed by gen.py -/
import Derived.Test.YtefhfoioeoijlaaGreatDoorNC
import Derived.Test.YtefhfoioeoijlaaGreatDoorEntQ
set_option linter.unusedVariables false
set_option linter.unusedSimpArgs false
namespace Go.Proofs.YtefhfoioeoijlaaGreatDoor
open Go Go.RowKit Go.Sort
set_option maxRecDepth 20000 in
set_option maxHeartbeats 2000000 in
theorem namesUnique_at {B : Nat} {w : World} {lA : Option Addr} {lc : Nat} {os : List OpD} (h0 : OpRow0 w lA os) (hfull : Small os → OpRow B w lA os) (hB : B ≤ w.heap.size) (hn : os.length ≤ 9223372036854775807) (htab : Tab w) (n1 n2 : Int) (nm : ByteArray) (a1 a2 : Int) :
    Calls Tryz.prog 3 #[.slice lA os.length lc, .agg #[.int .i64 n1, .int .i64 n2], .string nm, .agg #[.int .i64 a1, .int .i64 a2]] w fun e w' => e = .returned (.bool true) ∧ Up w w' := by
  go_enter Tryz.func3, Tryz.ntmps3
  refine wp_seq (rg_lit ?_)
  refine wl (sn rfl (cs := #[.int .i64 n1, .int .i64 n2]) (T := 24) (V := fun b => .pointer (some ⟨b, 0, none⟩)) (r_box (v := .agg #[.int .i64 n1, .int .i64 n2]) (by kernel_rfl) rfl) ?_)
  intro b1 w2 e3 h4 u5
  have g6 : w.heap.size ≤ b1 := by rw [e3]; exact (Mod.refl [] w).size
  have M7 := Mod.trans (Mod.refl [] w) (Mod.of_up u5)
  refine wl (sn rfl (cs := #[.int .i64 a1, .int .i64 a2]) (T := 24) (V := fun b => .pointer (some ⟨b, 0, none⟩)) (r_box (v := .agg #[.int .i64 a1, .int .i64 a2]) (by kernel_rfl) rfl) ?_)
  intro b8 w9 e10 h11 u12
  have l13 : b1 < b8 := by rw [e10]; exact lt_ob h4
  have g14 : w.heap.size ≤ b8 := by rw [e10]; exact M7.size
  have M15 := Mod.trans M7 (Mod.of_up u12)
  refine was (v := .bool false) ?_
  refine wnil (then_n (wp_seq (wp_seq (rg_lit ?_))))
  refine wmv (v := .slice lA os.length lc) ?_
  refine wl (sc rfl (r_callv (caps := []) (all := [.slice lA os.length lc, .int .i64 40]) En.f13 (by kernel_rfl) (by kernel_rfl)) (light2_at (OpRow0.up h0 (Mod.up M15)) hn 40) ?_)
  rintro e w16 ⟨lb17, rfl, h18, u19⟩
  refine ⟨.bool lb17, rfl, ?_⟩
  have M20 := Mod.trans M15 (Mod.of_up u19)
  refine wl (sv rfl (v := .bool (!lb17)) (r_not (b := lb17) (by kernel_rfl)) ?_)
  refine wmv (v := .bool (!lb17)) ?_
  refine bcase lb17 (fun v21 => ?_) (fun v21 => ?_)
  ·
   refine wl (sp (wf (b := !lb17) rfl (by kernel_rfl) (bneg v21)) ?_)
   refine wl (sp (wf (b := !lb17) rfl (by kernel_rfl) (bneg v21)) ?_)
   refine wl (sp (wf (b := !lb17) rfl (by kernel_rfl) (bneg v21)) ?_)
   refine wl (sv rfl (v := .bool true) (r_pkT (ebool (b := !lb17) (by kernel_rfl) (bneg v21)) (by kernel_rfl)) ?_)
   refine wnil (then_n ?_)
   refine wp_cond_true (by kernel_rfl) ?_
   refine wp_seq (rg_lit ?_)
   refine wl (sc rfl (r_callv (caps := []) (all := []) En.f14 (by kernel_rfl) (by kernel_rfl)) (alive18_at (TabIs.up htab (Mod.up M20))) ?_)
   rintro e w22 ⟨rfl, u23⟩
   refine ⟨.bool true, rfl, ?_⟩
   have M24 := Mod.trans M20 (Mod.of_up u23)
   refine was (v := .bool true) ?_
   refine wnil (then_n (wp_ret (then_x (by nofun) ?_)))
   refine bodyPost_ret (v := .bool true) (res1 rfl (rv_t (by kernel_rfl))) (by kernel_rfl) ?_
   exact ⟨rfl, (Mod.up M24)⟩
  obtain ⟨hsm22, hle22⟩ := h18 v21
  have hops := hfull hsm22
  refine wl (sv (wt (b := !lb17) rfl (by kernel_rfl) (bneg v21)) (v := .string nm) (r_move (by kernel_rfl)) ?_)
  refine wl (sv (wt (b := !lb17) rfl (by kernel_rfl) (bneg v21)) (v := .int .i64 ((nm.size : Int))) (r_lens Ty.un9 (s := nm) (by kernel_rfl)) ?_)
  refine wl (sb (wt (b := !lb17) rfl (by kernel_rfl) (bneg v21)) (r_gt (k := .i64) (m := ((nm.size : Int))) (n := 100) (by kernel_rfl) (by kernel_rfl)) ?_)
  intro b23 k24
  refine wl (sv rfl (v := .bool b23) (r_pkF (ebool (b := !lb17) (by kernel_rfl) (bneg v21)) (by kernel_rfl)) ?_)
  refine wnil (then_n ?_)
  refine bcase b23 (fun v25 => ?_) (fun v25 => ?_)
  ·
   have p26 := of_decide_eq_false (k24.trans v25)
   refine wp_cond_false (ebool (b := b23) (by kernel_rfl) v25) ?_
   refine wp_skip (then_n (wp_seq (rg_lit ?_)))
   refine wmv (v := .slice lA os.length lc) ?_
   have h27 := (OpRow.up hops (Mod.up M20))
   have h33 := (up_ob u19 (up_ob u12 h4))
   have h34 := (up_ob u19 h11)
   refine wl (sc rfl (r_callv (caps := []) (all := [.slice lA os.length lc]) En.f15 (by kernel_rfl) (by kernel_rfl)) (build_at h27 (Nat.le_trans hB M20.size) (by omega)) ?_)
   rintro e w28 ⟨tb, r, rfl, h29, u30, z31, z32⟩
   refine ⟨.pointer (some ⟨tb, 0, none⟩), rfl, ?_⟩
   have l35 : b1 < r := Nat.lt_of_lt_of_le (lt_ob h33) z32
   have l36 : b8 < r := Nat.lt_of_lt_of_le (lt_ob h34) z32
   have l37 : b1 < tb := Nat.lt_of_lt_of_le (lt_ob h33) z31
   have l38 : b8 < tb := Nat.lt_of_lt_of_le (lt_ob h34) z31
   have M39 := Mod.trans M20 (Mod.of_up u30)
   obtain ⟨hwf, hlen⟩ := buildI_wf os
   obtain ⟨L0, hL0⟩ : ∃ L, buildI os = L := ⟨_, rfl⟩
   rw [hL0] at hwf hlen h29
   obtain ⟨eshr40, clhr40, xshr40, hr40, _⟩ := h29.2.2.2.1
   have hF : Fit L0 := by rw [← hL0]; exact fit_build os
   refine was (v := .pointer (some ⟨tb, 0, none⟩)) ?_
   refine wnil (then_n (wp_seq (rg_lit ?_)))
   refine wmv (v := .pointer (some ⟨tb, 0, none⟩)) ?_
   have h41 := (up_ob u30 h33)
   refine wl (sv rfl (v := .agg #[.int .i64 n1, .int .i64 n2]) (r_loads (k := 0) (by kernel_rfl) Ty.ag24 Ty.sz24 h41 (by kernel_rfl)) ?_)
   refine wl (sc rfl (r_callv (caps := []) (all := [.pointer (some ⟨tb, 0, none⟩), .agg #[.int .i64 n1, .int .i64 n2]]) En.f16 (by kernel_rfl) (by kernel_rfl)) (list_at h29 (Nat.le_trans hB M39.size) hF (TabIs.up htab (Mod.up M39)) n1 n2) ?_)
   rintro e w42 ⟨v43, DD, rfl, h47, h48, h49, u50⟩
   obtain ⟨A45, c46, rfl⟩ := ERow.form h47
   have h51 := ERow.base h47 M39.size
   have z52 := ERow.le h47
   refine ⟨.tuple #[.slice A45 DD.length c46, .int .i64 ((kidK L0 ⟨n1, n2⟩))], rfl, ?_⟩
   have M53 := Mod.trans M39 (Mod.of_up u50)
   refine wmv (v := .tuple #[.slice A45 DD.length c46, .int .i64 ((kidK L0 ⟨n1, n2⟩))]) ?_
   refine wl (sv rfl (v := .slice A45 DD.length c46) (r_extract (vs := [.slice A45 DD.length c46, .int .i64 ((kidK L0 ⟨n1, n2⟩))]) (by kernel_rfl) rfl) ?_)
   refine wl (sv rfl (v := .int .i64 ((kidK L0 ⟨n1, n2⟩))) (r_extract (vs := [.slice A45 DD.length c46, .int .i64 ((kidK L0 ⟨n1, n2⟩))]) (by kernel_rfl) rfl) ?_)
   refine was (v := .slice A45 DD.length c46) ?_
   refine was (v := .int .i64 ((kidK L0 ⟨n1, n2⟩))) ?_
   refine wnil (then_n (wp_seq (wp_seq (rg_lit ?_))))
   refine wmv (v := .int .i64 ((kidK L0 ⟨n1, n2⟩))) ?_
   refine wl (sb rfl (r_ne (k := .i64) (m := ((kidK L0 ⟨n1, n2⟩))) (n := 0) (by kernel_rfl) (by kernel_rfl)) ?_)
   intro b54 k55
   refine wnil (then_n ?_)
   refine bcase b54 (fun v56 => ?_) (fun v56 => ?_)
   ·
    have p57 := of_decide_eq_false (k55.trans v56)
    have q58 : kidK L0 ⟨n1, n2⟩ = 0 := Decidable.not_not.1 p57
    refine wp_cond_false (ebool (b := b54) (by kernel_rfl) v56) ?_
    refine wp_skip (then_n (wp_seq (wp_seq (rg_lit ?_))))
    refine was (v := .int .i64 0) ?_
    refine wnil (then_n (wp_block ?_))
    have h59 := (up_ob u50 h41)
    have h60 := (up_ob u50 (up_ob u30 h34))
    have h61 := (up_ob u50 hr40)
    have h62 := (up_ob u50 h29.1)
    have h63 := h18
    have h64 := (OpRow.up hops (Mod.up M53))
    have h65 := (TreeIs.up h29 u50)
    refine lp (fun n a r1 => ∃ (k : Nat) (Z : Nat → Value), (n = DD.length - k) ∧ (a = ⟨#[.slice lA os.length lc, .agg #[.int .i64 n1, .int .i64 n2], .string nm, .agg #[.int .i64 a1, .int .i64 a2], undef, .pointer (some ⟨b1, 0, none⟩), undef, .pointer (some ⟨b8, 0, none⟩), (Z 8), .pointer (some ⟨tb, 0, none⟩), .slice A45 DD.length c46, .int .i64 ((kidK L0 ⟨n1, n2⟩)), .int .i64 ((k : Int)), (Z 13), (Z 14), (Z 15), (Z 16), undef, undef, undef, undef, undef, undef, undef, undef, .slice lA os.length lc, .bool lb17, .bool (!lb17), .bool (!lb17), .string nm, .int .i64 ((nm.size : Int)), .bool b23, .bool b23, undef, .slice lA os.length lc, .pointer (some ⟨tb, 0, none⟩), .tuple #[.slice A45 DD.length c46, .int .i64 ((kidK L0 ⟨n1, n2⟩))], .pointer (some ⟨tb, 0, none⟩), .agg #[.int .i64 n1, .int .i64 n2], .tuple #[.slice A45 DD.length c46, .int .i64 ((kidK L0 ⟨n1, n2⟩))], .slice A45 DD.length c46, .int .i64 ((kidK L0 ⟨n1, n2⟩)), .int .i64 ((kidK L0 ⟨n1, n2⟩)), .bool b54, undef, undef, undef, undef, undef, undef, undef, undef, undef, undef, undef, undef, undef, (Z 57), (Z 58), (Z 59), (Z 60), (Z 61), (Z 62), (Z 63), (Z 64), (Z 65), (Z 66), (Z 67), (Z 68), (Z 69), (Z 70), (Z 71), (Z 72), (Z 73), (Z 74), (Z 75), (Z 76), (Z 77), (Z 78), (Z 79), (Z 80), (Z 81), (Z 82), (Z 83), (Z 84), (Z 85), (Z 86), (Z 87), (Z 88), (Z 89), (Z 90), (Z 91), (Z 92), (Z 93), (Z 94), (Z 95), (Z 96), (Z 97), (Z 98), (Z 99), (Z 100), (Z 101), (Z 102), (Z 103), (Z 104), (Z 105), (Z 106), (Z 107), (Z 108), (Z 109), (Z 110), (Z 111), (Z 112), (Z 113), (Z 114), (Z 115), (Z 116), (Z 117), (Z 118), (Z 119), (Z 120), (Z 121), (Z 122), (Z 123), (Z 124), undef, undef, undef, undef, undef, undef, undef, undef, undef, undef, undef, undef, undef, undef, undef, undef, undef, undef, undef, undef, undef, undef, undef, undef, undef, undef, undef, undef, undef, undef, undef, undef, undef, undef, undef, undef, undef, undef, undef, undef, undef, undef, undef, undef, undef, undef, undef, undef, undef, undef, undef, undef, undef, undef, undef, undef, undef, undef, undef, undef, undef], []⟩) ∧ (Mod [] w42 r1) ∧ (k ≤ DD.length)) ⟨_, 0, tget [undef, undef, undef, undef, undef, undef, undef, undef, .bool false, undef, undef, undef, undef, undef, undef, undef, undef, undef, undef, undef, undef, undef, undef, undef, undef, undef, undef, undef, undef, undef, undef, undef, undef, undef, undef, undef, undef, undef, undef, undef, undef, undef, undef, undef, undef, undef, undef, undef, undef, undef, undef, undef, undef, undef, undef, undef, undef, undef, undef, undef, undef, undef, undef, undef, undef, undef, undef, undef, undef, undef, undef, undef, undef, undef, undef, undef, undef, undef, undef, undef, undef, undef, undef, undef, undef, undef, undef, undef, undef, undef, undef, undef, undef, undef, undef, undef, undef, undef, undef, undef, undef, undef, undef, undef, undef, undef, undef, undef, undef, undef, undef, undef, undef, undef, undef, undef, undef, undef, undef, undef, undef, undef, undef, undef, undef], rfl, (by kernel_rfl), Mod.refl _ _, (Nat.zero_le _)⟩ ?_
    rintro _ _ r1 ⟨k, Z, rfl, rfl, hM1, hF1_0⟩
    have M66 := Mod.thin M53 hM1 (by simp)
    refine wp_seq (wp_seq (rg_lit ?_))
    refine wmv (v := .int .i64 ((k : Int))) ?_
    refine wmv (v := .slice A45 DD.length c46) ?_
    refine wl (sv rfl (v := .int .i64 ((DD.length : Int))) (r_len Ty.un29 (ad := A45) (n := DD.length) (c := c46) (by kernel_rfl)) ?_)
    refine wl (sb rfl (r_lt (k := .i64) (m := ((k : Int))) (n := ((DD.length : Int))) (by kernel_rfl) (by kernel_rfl)) ?_)
    intro b67 k68
    refine wnil (then_n ?_)
    refine bcase b67 (fun v69 => ?_) (fun v69 => ?_)
    ·
     have p70 := of_decide_eq_false (k68.trans v69)
     refine wp_cond_false (ebool (b := b67) (by kernel_rfl) v69) ?_
     refine wp_exit (then_x (by nofun) (then_x (by nofun) (inb_hit (then_n (wp_seq (wp_seq (rg_lit ?_)))))))
     refine wmv (v := .pointer (some ⟨tb, 0, none⟩)) ?_
     have h71 := md_ob hM1 nin0 h59
     refine wl (sv rfl (v := .agg #[.int .i64 n1, .int .i64 n2]) (r_loads (k := 0) (by kernel_rfl) Ty.ag24 Ty.sz24 h71 (by kernel_rfl)) ?_)
     refine wmv (v := .string nm) ?_
     have h72 := (TreeIs.up h65 (Mod.up hM1))
     refine wl (sc rfl (r_callv (caps := []) (all := [.pointer (some ⟨tb, 0, none⟩), .agg #[.int .i64 n1, .int .i64 n2], .string nm]) En.f17 (by kernel_rfl) (by kernel_rfl)) (free18_at h72 (Nat.le_trans hB M66.size) hF n1 n2 nm (by omega)) ?_)
     rintro e w73 ⟨rfl, u74⟩
     refine ⟨.bool ((freeI L0 ⟨n1, n2⟩ nm)), rfl, ?_⟩
     have M75 := Mod.trans M66 (Mod.of_up u74)
     have M76 := Mod.trans hM1 (Mod.of_up u74)
     refine wl (sv rfl (v := .bool (!((freeI L0 ⟨n1, n2⟩ nm)))) (r_not (b := ((freeI L0 ⟨n1, n2⟩ nm))) (by kernel_rfl)) ?_)
     refine wnil (then_n ?_)
     refine bcase ((freeI L0 ⟨n1, n2⟩ nm)) (fun v77 => ?_) (fun v77 => ?_)
     ·
      refine wp_cond_true (ebool (b := !((freeI L0 ⟨n1, n2⟩ nm))) (by kernel_rfl) (bneg v77)) ?_
      refine wp_seq (rg_lit ?_)
      refine wl (sc rfl (r_callv (caps := []) (all := []) En.f14 (by kernel_rfl) (by kernel_rfl)) (alive18_at (TabIs.up htab (Mod.up M75))) ?_)
      rintro e w78 ⟨rfl, u79⟩
      refine ⟨.bool true, rfl, ?_⟩
      have M80 := Mod.trans M75 (Mod.of_up u79)
      have M81 := Mod.trans M76 (Mod.of_up u79)
      refine was (v := .bool true) ?_
      refine wnil (then_n (wp_ret (then_x (by nofun) ?_)))
      refine bodyPost_ret (v := .bool true) (res1 rfl (rv_t (by kernel_rfl))) (by kernel_rfl) ?_
      exact ⟨rfl, (Mod.up M80)⟩
     refine wp_cond_false (ebool (b := !((freeI L0 ⟨n1, n2⟩ nm))) (by kernel_rfl) (bneg v77)) ?_
     refine wp_skip (then_n (wp_seq (wp_seq (rg_lit ?_))))
     refine wmv (v := .pointer (some ⟨tb, 0, none⟩)) ?_
     have h78 := md_ob M76 nin0 h60
     refine wl (sv rfl (v := .agg #[.int .i64 a1, .int .i64 a2]) (r_loads (k := 0) (by kernel_rfl) Ty.ag24 Ty.sz24 h78 (by kernel_rfl)) ?_)
     have h79 := (TreeIs.up h65 (Mod.up M76))
     refine wl (sc rfl (r_callv (caps := []) (all := [.pointer (some ⟨tb, 0, none⟩), .agg #[.int .i64 a1, .int .i64 a2]]) En.f20 (by kernel_rfl) (by kernel_rfl)) (get_x h79 ⟨a1, a2⟩ (x := (gotI L0 ⟨a1, a2⟩)) (b := (hasI L0 ⟨a1, a2⟩)) rfl rfl) ?_)
     rintro e w80 ⟨A81, n82, c83, rfl, h84, u85⟩
     refine ⟨.tuple #[itV (gotI L0 ⟨a1, a2⟩) (.slice A81 n82 c83), .bool ((hasI L0 ⟨a1, a2⟩))], rfl, ?_⟩
     have M86 := Mod.trans M75 (Mod.of_up u85)
     have M87 := Mod.trans M76 (Mod.of_up u85)
     refine wmv (v := .tuple #[itV (gotI L0 ⟨a1, a2⟩) (.slice A81 n82 c83), .bool ((hasI L0 ⟨a1, a2⟩))]) ?_
     refine wl (sv rfl (v := itV (gotI L0 ⟨a1, a2⟩) (.slice A81 n82 c83)) (r_extract (vs := [itV (gotI L0 ⟨a1, a2⟩) (.slice A81 n82 c83), .bool ((hasI L0 ⟨a1, a2⟩))]) (by kernel_rfl) rfl) ?_)
     refine wl (sv rfl (v := .bool ((hasI L0 ⟨a1, a2⟩))) (r_extract (vs := [itV (gotI L0 ⟨a1, a2⟩) (.slice A81 n82 c83), .bool ((hasI L0 ⟨a1, a2⟩))]) (by kernel_rfl) rfl) ?_)
     refine wl (sn rfl (cs := #[.int .i64 0, .int .i64 0, .int .i64 0, .int .i64 0, .string (⟨#[]⟩), .bool false, .bool false, .slice none 0 0, .int .i64 0, .int .i64 0]) (T := 42) (V := fun b => .pointer (some ⟨b, 0, none⟩)) (r_alloc Ty.zv42 rfl) ?_)
     intro b88 w89 e90 h91 u92
     have h93 := md_ob M87 nin0 h59
     have l94 : b1 < b88 := by rw [e90]; exact lt_ob h93
     have h95 := md_ob M87 nin0 h60
     have l96 : b8 < b88 := by rw [e90]; exact lt_ob h95
     have h97 := md_ob M87 nin0 h61
     have l98 : r < b88 := by rw [e90]; exact lt_ob h97
     have h99 := md_ob M87 nin0 h62
     have l100 : tb < b88 := by rw [e90]; exact lt_ob h99
     have g101 : w.heap.size ≤ b88 := by rw [e90]; exact M86.size
     have g102 : w42.heap.size ≤ b88 := by rw [e90]; exact M87.size
     have M103 := Mod.trans M86 (Mod.of_up u92)
     have M104 := Mod.trans M87 (Mod.of_up u92)
     refine wl (ss rfl (k := 0) (v := itV (gotI L0 ⟨a1, a2⟩) (.slice A81 n82 c83)) (vs := (itC (gotI L0 ⟨a1, a2⟩) (.slice A81 n82 c83))) (cs' := (itC (gotI L0 ⟨a1, a2⟩) (.slice A81 n82 c83))) (by kernel_rfl) (by kernel_rfl) rfl Ty.sz42 h91 rfl (Nat.le_of_ble_eq_true rfl) rfl ?_)
     intro w105 h106 c107
     have M108 := Mod.trans' M103 c107 (fun i hi => by injection hi with hi; rw [← hi]; exact g101)
     have M109 := Mod.trans' M104 c107 (fun i hi => by injection hi with hi; rw [← hi]; exact g102)
     refine was (v := .bool ((hasI L0 ⟨a1, a2⟩))) ?_
     refine wnil (then_n (wp_seq (rg_lit ?_)))
     refine wmv (v := .bool ((hasI L0 ⟨a1, a2⟩))) ?_
     refine wnil (then_n ?_)
     refine bcase ((hasI L0 ⟨a1, a2⟩)) (fun v110 => ?_) (fun v110 => ?_)
     ·
      refine wp_cond_false (ebool (b := (hasI L0 ⟨a1, a2⟩)) (by kernel_rfl) v110) ?_
      refine wp_skip (then_n (wp_seq (rg_lit ?_)))
      refine wmv (v := .pointer (some ⟨tb, 0, none⟩)) ?_
      have h111 := (TreeIs.up h65 (Mod.up M109))
      refine wl (sc rfl (r_callv (caps := []) (all := [.pointer (some ⟨tb, 0, none⟩)]) En.f21 (by kernel_rfl) (by kernel_rfl)) (tlen_any h111) ?_)
      rintro e w112 ⟨rfl, rfl⟩
      refine ⟨.int .i64 ((L0.length : Int)), rfl, ?_⟩
      refine was (v := .int .i64 ((L0.length : Int))) ?_
      refine wnil (then_n (wp_seq (wp_seq (rg_lit ?_))))
      refine wmv (v := .pointer (some ⟨tb, 0, none⟩)) ?_
      have h113 := md_ob M109 nin0 h60
      refine wl (sv rfl (v := .agg #[.int .i64 a1, .int .i64 a2]) (r_loads (k := 0) (by kernel_rfl) Ty.ag24 Ty.sz24 h113 (by kernel_rfl)) ?_)
      refine wl (sv rfl (v := .agg #[.int .i64 a1, .int .i64 a2]) (r_loads (k := 0) (by kernel_rfl) Ty.ag24 Ty.sz24 h113 (by kernel_rfl)) ?_)
      have h114 := md_ob M109 nin0 h59
      refine wl (sv rfl (v := .agg #[.int .i64 n1, .int .i64 n2]) (r_loads (k := 0) (by kernel_rfl) Ty.ag24 Ty.sz24 h114 (by kernel_rfl)) ?_)
      refine wmv (v := .string nm) ?_
      refine wl (sv rfl (v := .agg #[.int .i64 1, .int .i64 a1, .int .i64 a2, .int .i64 a1, .int .i64 a2, .int .i64 n1, .int .i64 n2, .bool false, .string nm, .slice none 0 0]) (r_build (ps := [(0, .int .i64 1), (1, .agg #[.int .i64 a1, .int .i64 a2]), (2, .agg #[.int .i64 a1, .int .i64 a2]), (3, .agg #[.int .i64 n1, .int .i64 n2]), (5, .string nm)]) (cs := [.int .i64 1, .int .i64 a1, .int .i64 a2, .int .i64 a1, .int .i64 a2, .int .i64 n1, .int .i64 n2, .bool false, .string nm, .slice none 0 0]) Ty.un49 Ty.zv49 Ty.pl49 (by kernel_rfl) (by kernel_rfl)) ?_)
      have h122 := md_ob M109 nin0 h61
      have h123 := md_ob M109 nin0 h62
      refine wl (sc rfl (r_callv (caps := []) (all := [.pointer (some ⟨tb, 0, none⟩), .agg #[.int .i64 1, .int .i64 a1, .int .i64 a2, .int .i64 a1, .int .i64 a2, .int .i64 n1, .int .i64 n2, .bool false, .string nm, .slice none 0 0]]) En.f22 (by kernel_rfl) (by kernel_rfl)) (do_x (L' := (doI L0 (mkOp ⟨a1, a2⟩ ⟨n1, n2⟩ nm)).2) h111 (Nat.le_trans hB M108.size) (mkOp ⟨a1, a2⟩ ⟨n1, n2⟩ nm) none 0 0 (Dat.nil _ _) (show nm.size ≤ 9223372036854775807 by omega) rfl) ?_)
      rintro e w115 ⟨A116, n117, c118, rfl, h119, h120, u121⟩
      refine ⟨.tuple #[itV (doI L0 (mkOp ⟨a1, a2⟩ ⟨n1, n2⟩ nm)).1.1 (.slice A116 n117 c118), .bool ((doI L0 (mkOp ⟨a1, a2⟩ ⟨n1, n2⟩ nm)).1.2.1), .int .i64 ((doI L0 (mkOp ⟨a1, a2⟩ ⟨n1, n2⟩ nm)).1.2.2)], rfl, ?_⟩
      have M124 := Mod.trans' M108 u121 (fun i hi => by injection hi with hi; rw [← hi]; exact (Nat.le_trans M20.size z32))
      have M125 := md_old M109 u121
      obtain ⟨eshr126, clhr126, xshr126, hr126, _⟩ := h120.2.2.2.1
      have hF2 : Fit (doI L0 (mkOp ⟨a1, a2⟩ ⟨n1, n2⟩ nm)).2 := fit_do hF _
      refine wmv (v := .tuple #[itV (doI L0 (mkOp ⟨a1, a2⟩ ⟨n1, n2⟩ nm)).1.1 (.slice A116 n117 c118), .bool ((doI L0 (mkOp ⟨a1, a2⟩ ⟨n1, n2⟩ nm)).1.2.1), .int .i64 ((doI L0 (mkOp ⟨a1, a2⟩ ⟨n1, n2⟩ nm)).1.2.2)]) ?_
      refine wl (sv rfl (v := itV (doI L0 (mkOp ⟨a1, a2⟩ ⟨n1, n2⟩ nm)).1.1 (.slice A116 n117 c118)) (r_extract (vs := [itV (doI L0 (mkOp ⟨a1, a2⟩ ⟨n1, n2⟩ nm)).1.1 (.slice A116 n117 c118), .bool ((doI L0 (mkOp ⟨a1, a2⟩ ⟨n1, n2⟩ nm)).1.2.1), .int .i64 ((doI L0 (mkOp ⟨a1, a2⟩ ⟨n1, n2⟩ nm)).1.2.2)]) (by kernel_rfl) rfl) ?_)
      refine wl (sv rfl (v := .bool ((doI L0 (mkOp ⟨a1, a2⟩ ⟨n1, n2⟩ nm)).1.2.1)) (r_extract (vs := [itV (doI L0 (mkOp ⟨a1, a2⟩ ⟨n1, n2⟩ nm)).1.1 (.slice A116 n117 c118), .bool ((doI L0 (mkOp ⟨a1, a2⟩ ⟨n1, n2⟩ nm)).1.2.1), .int .i64 ((doI L0 (mkOp ⟨a1, a2⟩ ⟨n1, n2⟩ nm)).1.2.2)]) (by kernel_rfl) rfl) ?_)
      refine wl (sv rfl (v := .int .i64 ((doI L0 (mkOp ⟨a1, a2⟩ ⟨n1, n2⟩ nm)).1.2.2)) (r_extract (vs := [itV (doI L0 (mkOp ⟨a1, a2⟩ ⟨n1, n2⟩ nm)).1.1 (.slice A116 n117 c118), .bool ((doI L0 (mkOp ⟨a1, a2⟩ ⟨n1, n2⟩ nm)).1.2.1), .int .i64 ((doI L0 (mkOp ⟨a1, a2⟩ ⟨n1, n2⟩ nm)).1.2.2)]) (by kernel_rfl) rfl) ?_)
      refine wl (sn rfl (cs := #[.int .i64 0, .int .i64 0, .int .i64 0, .int .i64 0, .string (⟨#[]⟩), .bool false, .bool false, .slice none 0 0, .int .i64 0, .int .i64 0]) (T := 42) (V := fun b => .pointer (some ⟨b, 0, none⟩)) (r_alloc Ty.zv42 rfl) ?_)
      intro b127 w128 e129 h130 u131
      have h132 := md_ob M125 (nin1 (Nat.ne_of_lt l35)) h59
      have l133 : b1 < b127 := by rw [e129]; exact lt_ob h132
      have h134 := md_ob M125 (nin1 (Nat.ne_of_lt l36)) h60
      have l135 : b8 < b127 := by rw [e129]; exact lt_ob h134
      have l136 : r < b127 := by rw [e129]; exact lt_ob hr126
      have l137 : tb < b127 := by rw [e129]; exact lt_ob h120.1
      have h138 := (chg_ob u121 (Nat.ne_of_gt l98) h106)
      have l139 : b88 < b127 := by rw [e129]; exact lt_ob h138
      have g140 : w.heap.size ≤ b127 := by rw [e129]; exact M124.size
      have g141 : w42.heap.size ≤ b127 := by rw [e129]; exact M125.size
      have M142 := Mod.trans M124 (Mod.of_up u131)
      have M143 := Mod.trans M125 (Mod.of_up u131)
      refine wl (ss rfl (k := 0) (v := itV (doI L0 (mkOp ⟨a1, a2⟩ ⟨n1, n2⟩ nm)).1.1 (.slice A116 n117 c118)) (vs := (itC (doI L0 (mkOp ⟨a1, a2⟩ ⟨n1, n2⟩ nm)).1.1 (.slice A116 n117 c118))) (cs' := (itC (doI L0 (mkOp ⟨a1, a2⟩ ⟨n1, n2⟩ nm)).1.1 (.slice A116 n117 c118))) (by kernel_rfl) (by kernel_rfl) rfl Ty.sz42 h130 rfl (Nat.le_of_ble_eq_true rfl) rfl ?_)
      intro w144 h145 c146
      have M147 := Mod.trans' M142 c146 (fun i hi => by injection hi with hi; rw [← hi]; exact g140)
      have M148 := Mod.trans' M143 c146 (fun i hi => by injection hi with hi; rw [← hi]; exact g141)
      refine was (v := .bool ((doI L0 (mkOp ⟨a1, a2⟩ ⟨n1, n2⟩ nm)).1.2.1)) ?_
      refine was (v := .int .i64 ((doI L0 (mkOp ⟨a1, a2⟩ ⟨n1, n2⟩ nm)).1.2.2)) ?_
      refine wnil (then_n (wp_seq (rg_lit ?_)))
      refine wmv (v := .int .i64 ((doI L0 (mkOp ⟨a1, a2⟩ ⟨n1, n2⟩ nm)).1.2.2)) ?_
      refine wl (sb rfl (r_ne (k := .i64) (m := ((doI L0 (mkOp ⟨a1, a2⟩ ⟨n1, n2⟩ nm)).1.2.2)) (n := 0) (by kernel_rfl) (by kernel_rfl)) ?_)
      intro b149 k150
      refine wmv (v := .bool b149) ?_
      refine bcase b149 (fun v151 => ?_) (fun v151 => ?_)
      ·
       have p152 := of_decide_eq_false (k150.trans v151)
       refine wl (sv (wt (b := b149) rfl (by kernel_rfl) v151) (v := .pointer (some ⟨tb, 0, none⟩)) (r_move (by kernel_rfl)) ?_)
       have h153 := (TreeIs.up h120 (up_chgn u131 c146 (by rw [e129]; exact Nat.le_refl _)))
       refine wl (sc (wt (b := b149) rfl (by kernel_rfl) v151) (r_callv (caps := []) (all := [.pointer (some ⟨tb, 0, none⟩)]) En.f21 (by kernel_rfl) (by kernel_rfl)) (tlen_any h153) ?_)
       rintro e w154 ⟨rfl, rfl⟩
       refine ⟨.int .i64 (((((doI L0 (mkOp ⟨a1, a2⟩ ⟨n1, n2⟩ nm)).2).length) : Int)), rfl, ?_⟩
       refine wl (sv (wt (b := b149) rfl (by kernel_rfl) v151) (v := .int .i64 ((L0.length : Int))) (r_move (by kernel_rfl)) ?_)
       refine wl (sb (wt (b := b149) rfl (by kernel_rfl) v151) (r_eq (k := .i64) (m := (((((doI L0 (mkOp ⟨a1, a2⟩ ⟨n1, n2⟩ nm)).2).length) : Int))) (n := ((L0.length : Int))) (by kernel_rfl) (by kernel_rfl)) ?_)
       intro b155 k156
       refine wl (sv rfl (v := .bool b155) (r_pkF (ebool (b := b149) (by kernel_rfl) v151) (by kernel_rfl)) ?_)
       refine wnil (then_n ?_)
       refine bcase b155 (fun v157 => ?_) (fun v157 => ?_)
       ·
        have p158 := of_decide_eq_false (k156.trans v157)
        have hmd := made hF v77 v110 (Decidable.not_not.1 p152) (fun e => p158 (by rw [e]))
        refine wp_cond_false (ebool (b := b155) (by kernel_rfl) v157) ?_
        refine wp_skip (then_n (wp_seq (rg_lit ?_)))
        refine wmv (v := .pointer (some ⟨tb, 0, none⟩)) ?_
        have h159 := md_ob M148 (nin1 (Nat.ne_of_lt l35)) h59
        refine wl (sv rfl (v := .agg #[.int .i64 n1, .int .i64 n2]) (r_loads (k := 0) (by kernel_rfl) Ty.ag24 Ty.sz24 h159 (by kernel_rfl)) ?_)
        refine wmv (v := .string nm) ?_
        refine wl (sc rfl (r_callv (caps := []) (all := [.pointer (some ⟨tb, 0, none⟩), .agg #[.int .i64 n1, .int .i64 n2], .string nm]) En.f18 (by kernel_rfl) (by kernel_rfl)) (madeF_at h153 (Nat.le_trans hB M147.size) hF2 (TabIs.up htab (Mod.up M147)) hmd.1 hmd.2.1) ?_)
        rintro e w160 ⟨x162, rfl, h163, u161⟩
        refine ⟨.tuple #[.agg #[.string x162.name, .int .i64 x162.node.t, .int .i64 x162.node.w, .bool x162.dir, .int .i64 x162.size], .int .i64 0], rfl, ?_⟩
        have M164 := Mod.trans M147 (Mod.of_up u161)
        have M165 := Mod.trans M148 (Mod.of_up u161)
        refine wmv (v := .tuple #[.agg #[.string x162.name, .int .i64 x162.node.t, .int .i64 x162.node.w, .bool x162.dir, .int .i64 x162.size], .int .i64 0]) ?_
        refine wl (sv rfl (v := .agg #[.string x162.name, .int .i64 x162.node.t, .int .i64 x162.node.w, .bool x162.dir, .int .i64 x162.size]) (r_extract (vs := [.agg #[.string x162.name, .int .i64 x162.node.t, .int .i64 x162.node.w, .bool x162.dir, .int .i64 x162.size], .int .i64 0]) (by kernel_rfl) rfl) ?_)
        refine wl (sv rfl (v := .int .i64 0) (r_extract (vs := [.agg #[.string x162.name, .int .i64 x162.node.t, .int .i64 x162.node.w, .bool x162.dir, .int .i64 x162.size], .int .i64 0]) (by kernel_rfl) rfl) ?_)
        refine wl (sn rfl (cs := #[.string (⟨#[]⟩), .int .i64 0, .int .i64 0, .bool false, .int .i64 0]) (T := 35) (V := fun b => .pointer (some ⟨b, 0, none⟩)) (r_alloc Ty.zv35 rfl) ?_)
        intro b166 w167 e168 h169 u170
        have h171 := md_ob M165 (nin1 (Nat.ne_of_lt l35)) h59
        have l172 : b1 < b166 := by rw [e168]; exact lt_ob h171
        have h173 := md_ob M165 (nin1 (Nat.ne_of_lt l36)) h60
        have l174 : b8 < b166 := by rw [e168]; exact lt_ob h173
        have h175 := (up_ob u161 (chg_ob c146 (Nat.ne_of_lt l136) (up_ob u131 hr126)))
        have l176 : r < b166 := by rw [e168]; exact lt_ob h175
        have h177 := (up_ob u161 (chg_ob c146 (Nat.ne_of_lt l137) (up_ob u131 h120.1)))
        have l178 : tb < b166 := by rw [e168]; exact lt_ob h177
        have h179 := (up_ob u161 (chg_ob c146 (Nat.ne_of_lt l139) (up_ob u131 h138)))
        have l180 : b88 < b166 := by rw [e168]; exact lt_ob h179
        have h181 := (up_ob u161 h145)
        have l182 : b127 < b166 := by rw [e168]; exact lt_ob h181
        have g183 : w.heap.size ≤ b166 := by rw [e168]; exact M164.size
        have g184 : w42.heap.size ≤ b166 := by rw [e168]; exact M165.size
        have M185 := Mod.trans M164 (Mod.of_up u170)
        have M186 := Mod.trans M165 (Mod.of_up u170)
        refine wl (ss rfl (k := 0) (v := .agg #[.string x162.name, .int .i64 x162.node.t, .int .i64 x162.node.w, .bool x162.dir, .int .i64 x162.size]) (vs := [.string x162.name, .int .i64 x162.node.t, .int .i64 x162.node.w, .bool x162.dir, .int .i64 x162.size]) (cs' := [.string x162.name, .int .i64 x162.node.t, .int .i64 x162.node.w, .bool x162.dir, .int .i64 x162.size]) (by kernel_rfl) (by kernel_rfl) rfl Ty.sz35 h169 rfl (Nat.le_of_ble_eq_true rfl) rfl ?_)
        intro w187 h188 c189
        have M190 := Mod.trans' M185 c189 (fun i hi => by injection hi with hi; rw [← hi]; exact g183)
        have M191 := Mod.trans' M186 c189 (fun i hi => by injection hi with hi; rw [← hi]; exact g184)
        refine was (v := .int .i64 0) ?_
        refine wnil (then_n (wp_seq (rg_lit ?_)))
        refine wmv (v := .int .i64 0) ?_
        refine wl (sv (w' := w187) rfl (v := .bool true) (by kernel_rfl) ?_)
        refine wmv (v := .bool true) ?_
        refine wl (sv (by kernel_rfl) (v := .pointer (some ⟨b166, 1, none⟩)) (r_fieldAddr (u := .pointer (some ⟨b166, 0, none⟩)) (by kernel_rfl) (fun _ => (by kernel_rfl))) ?_)
        refine wl (sv (by kernel_rfl) (v := .agg #[.int .i64 x162.node.t, .int .i64 x162.node.w]) (r_loads (k := 1) (by kernel_rfl) Ty.ag24 Ty.sz24 h188 (by kernel_rfl)) ?_)
        have h192 := md_ob M191 (nin1 (Nat.ne_of_lt l36)) h60
        refine wl (sv (by kernel_rfl) (v := .agg #[.int .i64 a1, .int .i64 a2]) (r_loads (k := 0) (by kernel_rfl) Ty.ag24 Ty.sz24 h192 (by kernel_rfl)) ?_)
        refine wl (sb (by kernel_rfl) (r_eqS (a := x162.node.t) (b := x162.node.w) (c := a1) (e := a2) (by kernel_rfl) (by kernel_rfl)) ?_)
        intro b193 k194
        refine wl (sv rfl (v := .bool b193) (r_pkT (by kernel_rfl) (by kernel_rfl)) ?_)
        refine wmv (v := .bool b193) ?_
        refine bcase b193 (fun v195 => ?_) (fun v195 => ?_)
        ·
         have p196 := of_decide_eq_false (k194.trans v195)
         exact absurd h163 p196
        have p196 := of_decide_eq_true (k194.trans v195)
        refine wl (sv (wt (b := b193) rfl (by kernel_rfl) v195) (v := .pointer (some ⟨tb, 0, none⟩)) (r_move (by kernel_rfl)) ?_)
        have h197 := md_ob M191 (nin1 (Nat.ne_of_lt l35)) h59
        refine wl (sv (wt (b := b193) rfl (by kernel_rfl) v195) (v := .agg #[.int .i64 n1, .int .i64 n2]) (r_loads (k := 0) (by kernel_rfl) Ty.ag24 Ty.sz24 h197 (by kernel_rfl)) ?_)
        refine wl (sv (wt (b := b193) rfl (by kernel_rfl) v195) (v := .string nm) (r_move (by kernel_rfl)) ?_)
        have h198 := (TreeIs.up h153 (up_chgn (up_up u161 u170) c189 (by rw [e168]; exact u161.size)))
        refine wl (sc (wt (b := b193) rfl (by kernel_rfl) v195) (r_callv (caps := []) (all := [.pointer (some ⟨tb, 0, none⟩), .agg #[.int .i64 n1, .int .i64 n2], .string nm]) En.f17 (by kernel_rfl) (by kernel_rfl)) (bool_eq' hmd.2.2 (free18_at h198 (Nat.le_trans hB M190.size) hF2 n1 n2 nm (by omega))) ?_)
        rintro e w199 ⟨rfl, u200⟩
        refine ⟨.bool false, rfl, ?_⟩
        have M201 := Mod.trans M190 (Mod.of_up u200)
        have M202 := Mod.trans M191 (Mod.of_up u200)
        refine wl (sv (wt (b := b193) rfl (by kernel_rfl) v195) (v := .bool true) (r_not (b := false) (by kernel_rfl)) ?_)
        refine wl (sv rfl (v := .bool true) (r_pkT (ebool (b := b193) (by kernel_rfl) v195) (by kernel_rfl)) ?_)
        refine wmv (v := .bool true) ?_
        refine wl (sc (by kernel_rfl) (r_callv (caps := []) (all := []) En.f14 (by kernel_rfl) (by kernel_rfl)) (alive18_at (TabIs.up htab (Mod.up M201))) ?_)
        rintro e w203 ⟨rfl, u204⟩
        refine ⟨.bool true, rfl, ?_⟩
        have M205 := Mod.trans M201 (Mod.of_up u204)
        have M206 := Mod.trans M202 (Mod.of_up u204)
        refine wl (sv rfl (v := .bool true) (r_pkT (by kernel_rfl) (by kernel_rfl)) ?_)
        refine was (v := .bool true) ?_
        refine wnil (then_n (wp_ret ?_))
        refine bodyPost_ret (v := .bool true) (res1 rfl (rv_t (by kernel_rfl))) (by kernel_rfl) ?_
        exact ⟨rfl, (Mod.up M205)⟩
       have p158 := of_decide_eq_true (k156.trans v157)
       refine wp_cond_true (ebool (b := b155) (by kernel_rfl) v157) ?_
       refine wp_seq (rg_lit ?_)
       refine wl (sc rfl (r_callv (caps := []) (all := []) En.f14 (by kernel_rfl) (by kernel_rfl)) (alive18_at (TabIs.up htab (Mod.up M147))) ?_)
       rintro e w159 ⟨rfl, u160⟩
       refine ⟨.bool true, rfl, ?_⟩
       have M161 := Mod.trans M147 (Mod.of_up u160)
       have M162 := Mod.trans M148 (Mod.of_up u160)
       refine was (v := .bool true) ?_
       refine wnil (then_n (wp_ret (then_x (by nofun) ?_)))
       refine bodyPost_ret (v := .bool true) (res1 rfl (rv_t (by kernel_rfl))) (by kernel_rfl) ?_
       exact ⟨rfl, (Mod.up M161)⟩
      have p152 := of_decide_eq_true (k150.trans v151)
      refine wl (sp (wf (b := b149) rfl (by kernel_rfl) v151) ?_)
      refine wl (sp (wf (b := b149) rfl (by kernel_rfl) v151) ?_)
      refine wl (sp (wf (b := b149) rfl (by kernel_rfl) v151) ?_)
      refine wl (sp (wf (b := b149) rfl (by kernel_rfl) v151) ?_)
      refine wl (sv rfl (v := .bool true) (r_pkT (ebool (b := b149) (by kernel_rfl) v151) (by kernel_rfl)) ?_)
      refine wnil (then_n ?_)
      refine wp_cond_true (by kernel_rfl) ?_
      refine wp_seq (rg_lit ?_)
      refine wl (sc rfl (r_callv (caps := []) (all := []) En.f14 (by kernel_rfl) (by kernel_rfl)) (alive18_at (TabIs.up htab (Mod.up M147))) ?_)
      rintro e w153 ⟨rfl, u154⟩
      refine ⟨.bool true, rfl, ?_⟩
      have M155 := Mod.trans M147 (Mod.of_up u154)
      have M156 := Mod.trans M148 (Mod.of_up u154)
      refine was (v := .bool true) ?_
      refine wnil (then_n (wp_ret (then_x (by nofun) ?_)))
      refine bodyPost_ret (v := .bool true) (res1 rfl (rv_t (by kernel_rfl))) (by kernel_rfl) ?_
      exact ⟨rfl, (Mod.up M155)⟩
     refine wp_cond_true (ebool (b := (hasI L0 ⟨a1, a2⟩)) (by kernel_rfl) v110) ?_
     refine wp_seq (rg_lit ?_)
     refine wl (sc rfl (r_callv (caps := []) (all := []) En.f14 (by kernel_rfl) (by kernel_rfl)) (alive18_at (TabIs.up htab (Mod.up M108))) ?_)
     rintro e w111 ⟨rfl, u112⟩
     refine ⟨.bool true, rfl, ?_⟩
     have M113 := Mod.trans M108 (Mod.of_up u112)
     have M114 := Mod.trans M109 (Mod.of_up u112)
     refine was (v := .bool true) ?_
     refine wnil (then_n (wp_ret (then_x (by nofun) ?_)))
     refine bodyPost_ret (v := .bool true) (res1 rfl (rv_t (by kernel_rfl))) (by kernel_rfl) ?_
     exact ⟨rfl, (Mod.up M113)⟩
    have p70 := of_decide_eq_true (k68.trans v69)
    have q71 : k < DD.length := by omega
    have q72 : k < DD.length := by omega
    refine wp_cond_true (ebool (b := b67) (by kernel_rfl) v69) ?_
    refine wp_skip (then_n (wp_seq (wp_block (wp_seq ?_))))
    refine rg_held [] (n := 14) (by kernel_rfl) rfl ?_
    intro w73 u74
    have M75 := Mod.trans M66 (Mod.of_up u74)
    have M76 := Mod.trans hM1 (Mod.of_up u74)
    refine hvq (i := 0) (fuel := 13) rfl (fun _ _ _ h => h) (Mod.refl _ _) rfl (v := .pointer (some ⟨tb, 0, none⟩)) (fun _ _ => r_move (by kernel_rfl)) ?_
    have h77 := md_ob M76 nin0 h59
    refine hvq (i := 1) (fuel := 12) rfl (fun _ _ _ h => h) (Mod.refl _ _) rfl (v := .agg #[.int .i64 n1, .int .i64 n2]) (fun _ uz => r_loads (k := 0) (by kernel_rfl) Ty.ag24 Ty.sz24 (md_ob uz nin0 h77) (by kernel_rfl)) ?_
    refine hvq (i := 2) (fuel := 11) rfl (fun _ _ _ h => h) (Mod.refl _ _) rfl (v := .slice A45 DD.length c46) (fun _ _ => r_move (by kernel_rfl)) ?_
    refine hvq (i := 3) (fuel := 10) rfl (fun _ _ _ h => h) (Mod.refl _ _) rfl (v := .int .i64 ((k : Int))) (fun _ _ => r_move (by kernel_rfl)) ?_
    have h78 := (ERow.up h51 (Mod.up M76))
    obtain ⟨y79, hy79⟩ : ∃ x, DD[k]? = some x := ⟨_, List.getElem?_eq_getElem (by omega)⟩
    obtain ⟨g79, cp79, cu79, hA79, hg79, hb79, he79⟩ := ERow.get h78 hy79
    injection hA79 with hA79 _ _
    replace he79 : (cu79.toList.drop (0 + k * 5)).take 5 = enC y79 := by rw [Nat.zero_add]; exact he79
    refine hvq (i := 4) (fuel := 9) rfl (fun _ _ _ h => h) (Mod.refl _ _) rfl (v := .pointer (some ⟨g79, 0 + k * 5, none⟩)) (fun _ _ => r_ixaddr' (A := A45) (b := g79) (o := 0) (n := DD.length) (c := c46) (sz := 5) (j := ((k : Int))) (by kernel_rfl) hA79 (by kernel_rfl) Ty.un29 Ty.sz35 (by omega) (by omega) (by simp)) ?_
    refine hvq (i := 5) (fuel := 8) rfl (fun _ _ _ h => h) (Mod.refl _ _) rfl (v := .pointer (some ⟨g79, 0 + k * 5, none⟩)) (fun _ _ => r_fieldAddr (u := .pointer (some ⟨g79, 0 + k * 5, none⟩)) (by kernel_rfl) (fun _ => (by kernel_rfl))) ?_
    refine hvq (i := 6) (fuel := 7) rfl (fun _ _ _ h => h) (Mod.refl _ _) rfl (v := .string y79.name) (fun _ uz => r_load (k := 0 + k * 5) (v := .string y79.name) (by kernel_rfl) Ty.ag9 (md_ob uz nin0 hb79) (el_get he79 0 rfl)) ?_
    refine h2 (i := 7) (j := 11) (fuel := 6) (by kernel_rfl) rfl rfl ?_ ?_
    ·
     have h84 := (TreeIs.up h65 (Mod.up M76))
     refine sc rfl (r_callv (caps := []) (all := [.pointer (some ⟨tb, 0, none⟩), .agg #[.int .i64 n1, .int .i64 n2], .string y79.name]) En.f18 (by kernel_rfl) (by kernel_rfl)) (foundN_at h84 (Nat.le_trans hB M75.size) hF (TabIs.up htab (Mod.up M75)) q58 (h48 q58) hy79) ?_
     rintro e w80 ⟨rfl, u81⟩
     refine ⟨.tuple #[.agg #[.string y79.name, .int .i64 y79.node.t, .int .i64 y79.node.w, .bool y79.dir, .int .i64 y79.size], .int .i64 0], rfl, ?_⟩
     have M85 := Mod.trans M75 (Mod.of_up u81)
     have M86 := Mod.trans M76 (Mod.of_up u81)
     refine hx (Y := []) (Mod.of_up u81) (fun y hy => .inl hy) ?_
     refine hvq (i := 8) (fuel := 5) rfl (fun _ _ _ h => h) (Mod.refl _ _) rfl (v := .tuple #[.agg #[.string y79.name, .int .i64 y79.node.t, .int .i64 y79.node.w, .bool y79.dir, .int .i64 y79.size], .int .i64 0]) (fun _ _ => r_move (by kernel_rfl)) ?_
     refine hvq (i := 9) (fuel := 4) rfl (fun _ _ _ h => h) (Mod.refl _ _) rfl (v := .agg #[.string y79.name, .int .i64 y79.node.t, .int .i64 y79.node.w, .bool y79.dir, .int .i64 y79.size]) (fun _ _ => r_extract (vs := [.agg #[.string y79.name, .int .i64 y79.node.t, .int .i64 y79.node.w, .bool y79.dir, .int .i64 y79.size], .int .i64 0]) (by kernel_rfl) rfl) ?_
     refine hvq (i := 10) (fuel := 3) rfl (fun _ _ _ h => h) (Mod.refl _ _) rfl (v := .int .i64 0) (fun _ _ => r_extract (vs := [.agg #[.string y79.name, .int .i64 y79.node.t, .int .i64 y79.node.w, .bool y79.dir, .int .i64 y79.size], .int .i64 0]) (by kernel_rfl) rfl) ?_
     refine h1 (i := 11) (fuel := 2) (by kernel_rfl) rfl (sn rfl (cs := #[.string (⟨#[]⟩), .int .i64 0, .int .i64 0, .bool false, .int .i64 0]) (T := 35) (V := fun b => .pointer (some ⟨b, 0, none⟩)) (r_alloc Ty.zv35 rfl) ?_)
     intro b87 w88 e89 h90 u91
     have h92 := md_ob M86 nin0 h59
     have l93 : b1 < b87 := by rw [e89]; exact lt_ob h92
     have h94 := md_ob M86 nin0 h60
     have l95 : b8 < b87 := by rw [e89]; exact lt_ob h94
     have h96 := md_ob M86 nin0 h61
     have l97 : r < b87 := by rw [e89]; exact lt_ob h96
     have h98 := md_ob M86 nin0 h62
     have l99 : tb < b87 := by rw [e89]; exact lt_ob h98
     have h100 := (up_ob u81 hb79)
     have l101 : g79 < b87 := by rw [e89]; exact lt_ob h100
     have g102 : w.heap.size ≤ b87 := by rw [e89]; exact M85.size
     have g103 : w42.heap.size ≤ b87 := by rw [e89]; exact M86.size
     have M104 := Mod.trans M85 (Mod.of_up u91)
     have M105 := Mod.trans M86 (Mod.of_up u91)
     refine hx (Y := [b87]) (Mod.of_up u91) (ynew e89) ?_
     refine h1 (i := 12) (fuel := 1) (by kernel_rfl) rfl (ss rfl (k := 0) (v := .agg #[.string y79.name, .int .i64 y79.node.t, .int .i64 y79.node.w, .bool y79.dir, .int .i64 y79.size]) (vs := [.string y79.name, .int .i64 y79.node.t, .int .i64 y79.node.w, .bool y79.dir, .int .i64 y79.size]) (cs' := [.string y79.name, .int .i64 y79.node.t, .int .i64 y79.node.w, .bool y79.dir, .int .i64 y79.size]) (by kernel_rfl) (by kernel_rfl) rfl Ty.sz35 h90 rfl (Nat.le_of_ble_eq_true rfl) rfl ?_)
     intro w106 h107 c108
     have M109 := Mod.trans' M104 c108 (fun i hi => by injection hi with hi; rw [← hi]; exact g102)
     have M110 := Mod.trans' M105 c108 (fun i hi => by injection hi with hi; rw [← hi]; exact g103)
     refine hx (Y := [b87]) (Mod.of_chg c108 (by simp)) (fun y hy => .inl hy) ?_
     refine hvq (i := 13) (fuel := 0) rfl (fun _ _ _ h => h) (Mod.refl _ _) rfl (v := .int .i64 0) (fun _ _ => r_assign (by kernel_rfl)) ?_
     refine hend (by kernel_rfl) ?_
     refine then_n (wp_seq (rg_lit ?_))
     refine wmv (v := .pointer (some ⟨tb, 0, none⟩)) ?_
     refine wmv (v := .slice A45 DD.length c46) ?_
     refine wmv (v := .int .i64 ((k : Int))) ?_
     have h111 := (ERow.up h51 (Mod.up M110))
     obtain ⟨g112, cp112, cu112, hA112, hg112, hb112, he112⟩ := ERow.get h111 hy79
     injection hA112 with hA112 _ _
     replace he112 : (cu112.toList.drop (0 + k * 5)).take 5 = enC y79 := by rw [Nat.zero_add]; exact he112
     refine wl (sv rfl (v := .pointer (some ⟨g112, 0 + k * 5, none⟩)) (r_ixaddr' (A := A45) (b := g112) (o := 0) (n := DD.length) (c := c46) (sz := 5) (j := ((k : Int))) (by kernel_rfl) hA112 (by kernel_rfl) Ty.un29 Ty.sz35 (by omega) (by omega) (by simp)) ?_)
     refine wl (sv rfl (v := .pointer (some ⟨g112, 0 + k * 5 + 1, none⟩)) (r_fieldAddr (u := .pointer (some ⟨g112, 0 + k * 5, none⟩)) (by kernel_rfl) (fun _ => (by kernel_rfl))) ?_)
     refine wl (sv rfl (v := .agg #[.int .i64 y79.node.t, .int .i64 y79.node.w]) (r_loads (k := 0 + k * 5 + 1) (by kernel_rfl) Ty.ag24 Ty.sz24 hb112 (el_sub he112 1 rfl)) ?_)
     have h115 := (TreeIs.up h65 (Mod.up M110))
     refine wl (sc rfl (r_callv (caps := []) (all := [.pointer (some ⟨tb, 0, none⟩), .agg #[.int .i64 y79.node.t, .int .i64 y79.node.w]]) En.f19 (by kernel_rfl) (by kernel_rfl)) (shownL_at h115 (Nat.le_trans hB M109.size) hF (TabIs.up htab (Mod.up M109)) q58 (h48 q58) hy79) ?_)
     rintro e w113 ⟨rfl, u114⟩
     refine ⟨.tuple #[.string y79.name, .int .i64 0], rfl, ?_⟩
     have M116 := Mod.trans M109 (Mod.of_up u114)
     have M117 := Mod.trans M110 (Mod.of_up u114)
     refine wmv (v := .tuple #[.string y79.name, .int .i64 0]) ?_
     refine wl (sv rfl (v := .string y79.name) (r_extract (vs := [.string y79.name, .int .i64 0]) (by kernel_rfl) rfl) ?_)
     refine wl (sv rfl (v := .int .i64 0) (r_extract (vs := [.string y79.name, .int .i64 0]) (by kernel_rfl) rfl) ?_)
     refine was (v := .string y79.name) ?_
     refine was (v := .int .i64 0) ?_
     refine wnil (then_n (wp_seq ?_))
     refine rg_all (by kernel_rfl) (by kernel_rfl) ?_
     refine qmv (v := .int .i64 0) ?_
     refine qv rfl (v := .bool false) (fun _ _ => by kernel_rfl) ?_
     refine qmv (v := .bool false) ?_
     have h118 := (up_ob u114 h107)
     refine qv (by kernel_rfl) (v := .agg #[.string y79.name, .int .i64 y79.node.t, .int .i64 y79.node.w, .bool y79.dir, .int .i64 y79.size]) (fun _ uz => r_loads (k := 0) (by kernel_rfl) Ty.ag35 Ty.sz35 (up_ob uz h118) (by kernel_rfl)) ?_
     refine qv (by kernel_rfl) (v := .slice A45 DD.length c46) (fun _ _ => r_move (by kernel_rfl)) ?_
     refine qv (by kernel_rfl) (v := .int .i64 ((k : Int))) (fun _ _ => r_move (by kernel_rfl)) ?_
     have h119 := (ERow.up h51 (Mod.up M117))
     obtain ⟨g120, cp120, cu120, hA120, hg120, hb120, he120⟩ := ERow.get h119 hy79
     injection hA120 with hA120 _ _
     replace he120 : (cu120.toList.drop (0 + k * 5)).take 5 = enC y79 := by rw [Nat.zero_add]; exact he120
     refine qv (by kernel_rfl) (v := .pointer (some ⟨g120, 0 + k * 5, none⟩)) (fun _ _ => r_ixaddr' (A := A45) (b := g120) (o := 0) (n := DD.length) (c := c46) (sz := 5) (j := ((k : Int))) (by kernel_rfl) hA120 (by kernel_rfl) Ty.un29 Ty.sz35 (by omega) (by omega) (by simp)) ?_
     refine qv (by kernel_rfl) (v := .agg #[.string y79.name, .int .i64 y79.node.t, .int .i64 y79.node.w, .bool y79.dir, .int .i64 y79.size]) (fun _ uz => r_loads (k := 0 + k * 5) (by kernel_rfl) Ty.ag35 Ty.sz35 (up_ob uz hb120) (el_sub0 he120 rfl)) ?_
     refine qv (by kernel_rfl) (v := .bool false) (fun _ _ => r_neE rfl (y := y79) (by kernel_rfl) (by kernel_rfl)) ?_
     refine qv rfl (v := .bool false) (fun _ _ => r_pkF (by kernel_rfl) (by kernel_rfl)) ?_
     refine qmv (v := .bool false) ?_
     refine qv (by kernel_rfl) (v := .int .i64 0) (fun _ _ => r_move (by kernel_rfl)) ?_
     refine qv (by kernel_rfl) (v := .bool false) (fun _ _ => by kernel_rfl) ?_
     refine qv rfl (v := .bool false) (fun _ _ => r_pkF (by kernel_rfl) (by kernel_rfl)) ?_
     refine qmv (v := .bool false) ?_
     refine qv (by kernel_rfl) (v := .string y79.name) (fun _ _ => r_move (by kernel_rfl)) ?_
     refine qv (by kernel_rfl) (v := .slice A45 DD.length c46) (fun _ _ => r_move (by kernel_rfl)) ?_
     refine qv (by kernel_rfl) (v := .int .i64 ((k : Int))) (fun _ _ => r_move (by kernel_rfl)) ?_
     obtain ⟨g121, cp121, cu121, hA121, hg121, hb121, he121⟩ := ERow.get h119 hy79
     injection hA121 with hA121 _ _
     replace he121 : (cu121.toList.drop (0 + k * 5)).take 5 = enC y79 := by rw [Nat.zero_add]; exact he121
     refine qv (by kernel_rfl) (v := .pointer (some ⟨g121, 0 + k * 5, none⟩)) (fun _ _ => r_ixaddr' (A := A45) (b := g121) (o := 0) (n := DD.length) (c := c46) (sz := 5) (j := ((k : Int))) (by kernel_rfl) hA121 (by kernel_rfl) Ty.un29 Ty.sz35 (by omega) (by omega) (by simp)) ?_
     refine qv (by kernel_rfl) (v := .pointer (some ⟨g121, 0 + k * 5, none⟩)) (fun _ _ => r_fieldAddr (u := .pointer (some ⟨g121, 0 + k * 5, none⟩)) (by kernel_rfl) (fun _ => (by kernel_rfl))) ?_
     refine qv (by kernel_rfl) (v := .string y79.name) (fun _ uz => r_load (k := 0 + k * 5) (v := .string y79.name) (by kernel_rfl) Ty.ag9 (up_ob uz hb121) (el_get he121 0 rfl)) ?_
     refine qv (by kernel_rfl) (v := .bool false) (fun _ _ => nes_same (r_nes (m := y79.name) (n := y79.name) (by kernel_rfl) (by kernel_rfl))) ?_
     refine qv rfl (v := .bool false) (fun _ _ => r_pkF (by kernel_rfl) (by kernel_rfl)) ?_
     refine qmv (v := .bool false) ?_
     refine qv (by kernel_rfl) (v := .int .i64 ((k : Int))) (fun _ _ => r_move (by kernel_rfl)) ?_
     refine qb (by kernel_rfl) (fun _ _ => r_gt (k := .i64) (m := ((k : Int))) (n := 0) (by kernel_rfl) (by kernel_rfl)) ?_
     intro b122 k123
     refine qv (by kernel_rfl) (v := .bool b122) (fun _ _ => r_move (by kernel_rfl)) ?_
     refine bcase b122 (fun v124 => ?_) (fun v124 => ?_)
     ·
      have p125 := of_decide_eq_false (k123.trans v124)
      refine qp (wf (b := b122) rfl (by kernel_rfl) v124) ?_
      refine qp (wf (b := b122) rfl (by kernel_rfl) v124) ?_
      refine qp (wf (b := b122) rfl (by kernel_rfl) v124) ?_
      refine qp (wf (b := b122) rfl (by kernel_rfl) v124) ?_
      refine qp (wf (b := b122) rfl (by kernel_rfl) v124) ?_
      refine qp (wf (b := b122) rfl (by kernel_rfl) v124) ?_
      refine qp (wf (b := b122) rfl (by kernel_rfl) v124) ?_
      refine qp (wf (b := b122) rfl (by kernel_rfl) v124) ?_
      refine qp (wf (b := b122) rfl (by kernel_rfl) v124) ?_
      refine qp (wf (b := b122) rfl (by kernel_rfl) v124) ?_
      refine qp (wf (b := b122) rfl (by kernel_rfl) v124) ?_
      refine qp (wf (b := b122) rfl (by kernel_rfl) v124) ?_
      refine qv (by kernel_rfl) (v := .bool false) (fun _ _ => r_pkF (ebool (b := b122) (by kernel_rfl) v124) (by kernel_rfl)) ?_
      refine qv rfl (v := .bool false) (fun _ _ => r_pkF (by kernel_rfl) (by kernel_rfl)) ?_
      refine qnil ?_
      intro w126 u127
      have M128 := Mod.trans M116 (Mod.of_up u127)
      have M129 := Mod.trans M117 (Mod.of_up u127)
      refine then_n ?_
      refine wp_cond_false (by kernel_rfl) ?_
      refine wp_skip (inb_n (then_n (rg_lit ?_)))
      refine wmv (v := .int .i64 ((k : Int))) ?_
      refine wl (sv rfl (v := .int .i64 (((k + 1 : Nat) : Int))) (r_add (k := .i64) (m := ((k : Int))) (n := 1) (c := (((k + 1 : Nat) : Int))) (by kernel_rfl) (by kernel_rfl) ((IntWalk.i64_in _ (by omega)).trans (by omega))) ?_)
      refine was (v := .int .i64 (((k + 1 : Nat) : Int))) ?_
      refine wnil (then_n ?_)
      refine ⟨DD.length - (k + 1), ?_, (k + 1), tget [undef, undef, undef, undef, undef, undef, undef, undef, (Z 8), undef, undef, undef, undef, .pointer (some ⟨b87, 0, none⟩), .int .i64 0, .string y79.name, .int .i64 0, undef, undef, undef, undef, undef, undef, undef, undef, undef, undef, undef, undef, undef, undef, undef, undef, undef, undef, undef, undef, undef, undef, undef, undef, undef, undef, undef, undef, undef, undef, undef, undef, undef, undef, undef, undef, undef, undef, undef, undef, .int .i64 ((k : Int)), .slice A45 DD.length c46, .int .i64 ((DD.length : Int)), .bool b67, .int .i64 ((k : Int)), .int .i64 (((k + 1 : Nat) : Int)), .tuple #[.agg #[.string y79.name, .int .i64 y79.node.t, .int .i64 y79.node.w, .bool y79.dir, .int .i64 y79.size], .int .i64 0], .pointer (some ⟨tb, 0, none⟩), .agg #[.int .i64 n1, .int .i64 n2], .slice A45 DD.length c46, .int .i64 ((k : Int)), .pointer (some ⟨g79, 0 + k * 5, none⟩), .pointer (some ⟨g79, 0 + k * 5, none⟩), .string y79.name, .tuple #[.agg #[.string y79.name, .int .i64 y79.node.t, .int .i64 y79.node.w, .bool y79.dir, .int .i64 y79.size], .int .i64 0], .agg #[.string y79.name, .int .i64 y79.node.t, .int .i64 y79.node.w, .bool y79.dir, .int .i64 y79.size], .int .i64 0, .tuple #[.string y79.name, .int .i64 0], .pointer (some ⟨tb, 0, none⟩), .slice A45 DD.length c46, .int .i64 ((k : Int)), .pointer (some ⟨g112, 0 + k * 5, none⟩), .pointer (some ⟨g112, 0 + k * 5 + 1, none⟩), .agg #[.int .i64 y79.node.t, .int .i64 y79.node.w], .tuple #[.string y79.name, .int .i64 0], .string y79.name, .int .i64 0, .int .i64 0, .bool false, .bool false, .agg #[.string y79.name, .int .i64 y79.node.t, .int .i64 y79.node.w, .bool y79.dir, .int .i64 y79.size], .slice A45 DD.length c46, .int .i64 ((k : Int)), .pointer (some ⟨g120, 0 + k * 5, none⟩), .agg #[.string y79.name, .int .i64 y79.node.t, .int .i64 y79.node.w, .bool y79.dir, .int .i64 y79.size], .bool false, .bool false, .bool false, .int .i64 0, .bool false, .bool false, .bool false, .string y79.name, .slice A45 DD.length c46, .int .i64 ((k : Int)), .pointer (some ⟨g121, 0 + k * 5, none⟩), .pointer (some ⟨g121, 0 + k * 5, none⟩), .string y79.name, .bool false, .bool false, .bool false, .int .i64 ((k : Int)), .bool b122, .bool b122, undef, undef, undef, undef, undef, undef, undef, undef, undef, undef, undef, undef, .bool false, .bool false], rfl, (by kernel_rfl), M129, (by omega)⟩
      · omega
     have p125 := of_decide_eq_true (k123.trans v124)
     refine qv (wt (b := b122) rfl (by kernel_rfl) v124) (v := .slice A45 DD.length c46) (fun _ _ => r_move (by kernel_rfl)) ?_
     refine qv (wt (b := b122) rfl (by kernel_rfl) v124) (v := .int .i64 ((k : Int))) (fun _ _ => r_move (by kernel_rfl)) ?_
     refine qv (wt (b := b122) rfl (by kernel_rfl) v124) (v := .int .i64 (((k - 1 : Nat) : Int))) (fun _ _ => r_sub (k := .i64) (m := ((k : Int))) (n := 1) (c := (((k - 1 : Nat) : Int))) (by kernel_rfl) (by kernel_rfl) ((IntWalk.i64_in _ (by omega)).trans (by omega))) ?_
     obtain ⟨y126, hy126⟩ : ∃ x, DD[k - 1]? = some x := ⟨_, List.getElem?_eq_getElem (by omega)⟩
     obtain ⟨g126, cp126, cu126, hA126, hg126, hb126, he126⟩ := ERow.get h119 hy126
     injection hA126 with hA126 _ _
     replace he126 : (cu126.toList.drop (0 + (k - 1) * 5)).take 5 = enC y126 := by rw [Nat.zero_add]; exact he126
     refine qv (wt (b := b122) rfl (by kernel_rfl) v124) (v := .pointer (some ⟨g126, 0 + (k - 1) * 5, none⟩)) (fun _ _ => r_ixaddr' (A := A45) (b := g126) (o := 0) (n := DD.length) (c := c46) (sz := 5) (j := (((k - 1 : Nat) : Int))) (by kernel_rfl) hA126 (by kernel_rfl) Ty.un29 Ty.sz35 (by omega) (by omega) (by simp)) ?_
     refine qv (wt (b := b122) rfl (by kernel_rfl) v124) (v := .pointer (some ⟨g126, 0 + (k - 1) * 5, none⟩)) (fun _ _ => r_fieldAddr (u := .pointer (some ⟨g126, 0 + (k - 1) * 5, none⟩)) (by kernel_rfl) (fun _ => (by kernel_rfl))) ?_
     refine qv (wt (b := b122) rfl (by kernel_rfl) v124) (v := .string y126.name) (fun _ uz => r_load (k := 0 + (k - 1) * 5) (v := .string y126.name) (by kernel_rfl) Ty.ag9 (up_ob uz hb126) (el_get he126 0 rfl)) ?_
     refine qv (wt (b := b122) rfl (by kernel_rfl) v124) (v := .slice A45 DD.length c46) (fun _ _ => r_move (by kernel_rfl)) ?_
     refine qv (wt (b := b122) rfl (by kernel_rfl) v124) (v := .int .i64 ((k : Int))) (fun _ _ => r_move (by kernel_rfl)) ?_
     obtain ⟨g127, cp127, cu127, hA127, hg127, hb127, he127⟩ := ERow.get h119 hy79
     injection hA127 with hA127 _ _
     replace he127 : (cu127.toList.drop (0 + k * 5)).take 5 = enC y79 := by rw [Nat.zero_add]; exact he127
     refine qv (wt (b := b122) rfl (by kernel_rfl) v124) (v := .pointer (some ⟨g127, 0 + k * 5, none⟩)) (fun _ _ => r_ixaddr' (A := A45) (b := g127) (o := 0) (n := DD.length) (c := c46) (sz := 5) (j := ((k : Int))) (by kernel_rfl) hA127 (by kernel_rfl) Ty.un29 Ty.sz35 (by omega) (by omega) (by simp)) ?_
     refine qv (wt (b := b122) rfl (by kernel_rfl) v124) (v := .pointer (some ⟨g127, 0 + k * 5, none⟩)) (fun _ _ => r_fieldAddr (u := .pointer (some ⟨g127, 0 + k * 5, none⟩)) (by kernel_rfl) (fun _ => (by kernel_rfl))) ?_
     refine qv (wt (b := b122) rfl (by kernel_rfl) v124) (v := .string y79.name) (fun _ uz => r_load (k := 0 + k * 5) (v := .string y79.name) (by kernel_rfl) Ty.ag9 (up_ob uz hb127) (el_get he127 0 rfl)) ?_
     refine qv (wt (b := b122) rfl (by kernel_rfl) v124) (v := .bool false) (fun _ _ => r_ges (m := y126.name) (n := y79.name) (by kernel_rfl) (by kernel_rfl) (Listed.rise (h48 q58) hy126 (by rw [show k - 1 + 1 = k by omega]; exact hy79))) ?_
     refine qv (by kernel_rfl) (v := .bool false) (fun _ _ => r_pkT (ebool (b := b122) (by kernel_rfl) v124) (by kernel_rfl)) ?_
     refine qv rfl (v := .bool false) (fun _ _ => r_pkF (by kernel_rfl) (by kernel_rfl)) ?_
     refine qnil ?_
     intro w128 u129
     have M130 := Mod.trans M116 (Mod.of_up u129)
     have M131 := Mod.trans M117 (Mod.of_up u129)
     refine then_n ?_
     refine wp_cond_false (by kernel_rfl) ?_
     refine wp_skip (inb_n (then_n (rg_lit ?_)))
     refine wmv (v := .int .i64 ((k : Int))) ?_
     refine wl (sv rfl (v := .int .i64 (((k + 1 : Nat) : Int))) (r_add (k := .i64) (m := ((k : Int))) (n := 1) (c := (((k + 1 : Nat) : Int))) (by kernel_rfl) (by kernel_rfl) ((IntWalk.i64_in _ (by omega)).trans (by omega))) ?_)
     refine was (v := .int .i64 (((k + 1 : Nat) : Int))) ?_
     refine wnil (then_n ?_)
     refine ⟨DD.length - (k + 1), ?_, (k + 1), tget [undef, undef, undef, undef, undef, undef, undef, undef, (Z 8), undef, undef, undef, undef, .pointer (some ⟨b87, 0, none⟩), .int .i64 0, .string y79.name, .int .i64 0, undef, undef, undef, undef, undef, undef, undef, undef, undef, undef, undef, undef, undef, undef, undef, undef, undef, undef, undef, undef, undef, undef, undef, undef, undef, undef, undef, undef, undef, undef, undef, undef, undef, undef, undef, undef, undef, undef, undef, undef, .int .i64 ((k : Int)), .slice A45 DD.length c46, .int .i64 ((DD.length : Int)), .bool b67, .int .i64 ((k : Int)), .int .i64 (((k + 1 : Nat) : Int)), .tuple #[.agg #[.string y79.name, .int .i64 y79.node.t, .int .i64 y79.node.w, .bool y79.dir, .int .i64 y79.size], .int .i64 0], .pointer (some ⟨tb, 0, none⟩), .agg #[.int .i64 n1, .int .i64 n2], .slice A45 DD.length c46, .int .i64 ((k : Int)), .pointer (some ⟨g79, 0 + k * 5, none⟩), .pointer (some ⟨g79, 0 + k * 5, none⟩), .string y79.name, .tuple #[.agg #[.string y79.name, .int .i64 y79.node.t, .int .i64 y79.node.w, .bool y79.dir, .int .i64 y79.size], .int .i64 0], .agg #[.string y79.name, .int .i64 y79.node.t, .int .i64 y79.node.w, .bool y79.dir, .int .i64 y79.size], .int .i64 0, .tuple #[.string y79.name, .int .i64 0], .pointer (some ⟨tb, 0, none⟩), .slice A45 DD.length c46, .int .i64 ((k : Int)), .pointer (some ⟨g112, 0 + k * 5, none⟩), .pointer (some ⟨g112, 0 + k * 5 + 1, none⟩), .agg #[.int .i64 y79.node.t, .int .i64 y79.node.w], .tuple #[.string y79.name, .int .i64 0], .string y79.name, .int .i64 0, .int .i64 0, .bool false, .bool false, .agg #[.string y79.name, .int .i64 y79.node.t, .int .i64 y79.node.w, .bool y79.dir, .int .i64 y79.size], .slice A45 DD.length c46, .int .i64 ((k : Int)), .pointer (some ⟨g120, 0 + k * 5, none⟩), .agg #[.string y79.name, .int .i64 y79.node.t, .int .i64 y79.node.w, .bool y79.dir, .int .i64 y79.size], .bool false, .bool false, .bool false, .int .i64 0, .bool false, .bool false, .bool false, .string y79.name, .slice A45 DD.length c46, .int .i64 ((k : Int)), .pointer (some ⟨g121, 0 + k * 5, none⟩), .pointer (some ⟨g121, 0 + k * 5, none⟩), .string y79.name, .bool false, .bool false, .bool false, .int .i64 ((k : Int)), .bool b122, .bool b122, .slice A45 DD.length c46, .int .i64 ((k : Int)), .int .i64 (((k - 1 : Nat) : Int)), .pointer (some ⟨g126, 0 + (k - 1) * 5, none⟩), .pointer (some ⟨g126, 0 + (k - 1) * 5, none⟩), .string y126.name, .slice A45 DD.length c46, .int .i64 ((k : Int)), .pointer (some ⟨g127, 0 + k * 5, none⟩), .pointer (some ⟨g127, 0 + k * 5, none⟩), .string y79.name, .bool false, .bool false, .bool false], rfl, (by kernel_rfl), M131, (by omega)⟩
     · omega
    ·
     refine sn rfl (cs := #[.string (⟨#[]⟩), .int .i64 0, .int .i64 0, .bool false, .int .i64 0]) (T := 35) (V := fun b => .pointer (some ⟨b, 0, none⟩)) (r_alloc Ty.zv35 rfl) ?_
     intro b80 w81 e82 h83 u84
     have l85 : b1 < b80 := by rw [e82]; exact lt_ob h77
     have h86 := md_ob M76 nin0 h60
     have l87 : b8 < b80 := by rw [e82]; exact lt_ob h86
     have h88 := md_ob M76 nin0 h61
     have l89 : r < b80 := by rw [e82]; exact lt_ob h88
     have h90 := md_ob M76 nin0 h62
     have l91 : tb < b80 := by rw [e82]; exact lt_ob h90
     have l92 : g79 < b80 := by rw [e82]; exact lt_ob hb79
     have g93 : w.heap.size ≤ b80 := by rw [e82]; exact M75.size
     have g94 : w42.heap.size ≤ b80 := by rw [e82]; exact M76.size
     have M95 := Mod.trans M75 (Mod.of_up u84)
     have M96 := Mod.trans M76 (Mod.of_up u84)
     refine hx (Y := [b80]) (Mod.of_up u84) (ynew e82) ?_
     have h101 := (TreeIs.up h65 (Mod.up M96))
     refine h1 (i := 7) (fuel := 5) (by kernel_rfl) rfl (sc rfl (r_callv (caps := []) (all := [.pointer (some ⟨tb, 0, none⟩), .agg #[.int .i64 n1, .int .i64 n2], .string y79.name]) En.f18 (by kernel_rfl) (by kernel_rfl)) (foundN_at h101 (Nat.le_trans hB M95.size) hF (TabIs.up htab (Mod.up M95)) q58 (h48 q58) hy79) ?_)
     rintro e w97 ⟨rfl, u98⟩
     refine ⟨.tuple #[.agg #[.string y79.name, .int .i64 y79.node.t, .int .i64 y79.node.w, .bool y79.dir, .int .i64 y79.size], .int .i64 0], rfl, ?_⟩
     have M102 := Mod.trans M95 (Mod.of_up u98)
     have M103 := Mod.trans M96 (Mod.of_up u98)
     refine hx (Y := [b80]) (Mod.of_up u98) (fun y hy => .inl hy) ?_
     refine hvq (i := 8) (fuel := 4) rfl (fun _ _ _ h => h) (Mod.refl _ _) rfl (v := .tuple #[.agg #[.string y79.name, .int .i64 y79.node.t, .int .i64 y79.node.w, .bool y79.dir, .int .i64 y79.size], .int .i64 0]) (fun _ _ => r_move (by kernel_rfl)) ?_
     refine hvq (i := 9) (fuel := 3) rfl (fun _ _ _ h => h) (Mod.refl _ _) rfl (v := .agg #[.string y79.name, .int .i64 y79.node.t, .int .i64 y79.node.w, .bool y79.dir, .int .i64 y79.size]) (fun _ _ => r_extract (vs := [.agg #[.string y79.name, .int .i64 y79.node.t, .int .i64 y79.node.w, .bool y79.dir, .int .i64 y79.size], .int .i64 0]) (by kernel_rfl) rfl) ?_
     refine hvq (i := 10) (fuel := 2) rfl (fun _ _ _ h => h) (Mod.refl _ _) rfl (v := .int .i64 0) (fun _ _ => r_extract (vs := [.agg #[.string y79.name, .int .i64 y79.node.t, .int .i64 y79.node.w, .bool y79.dir, .int .i64 y79.size], .int .i64 0]) (by kernel_rfl) rfl) ?_
     have h104 := (up_ob u98 h83)
     refine h1 (i := 12) (fuel := 1) (by kernel_rfl) rfl (ss rfl (k := 0) (v := .agg #[.string y79.name, .int .i64 y79.node.t, .int .i64 y79.node.w, .bool y79.dir, .int .i64 y79.size]) (vs := [.string y79.name, .int .i64 y79.node.t, .int .i64 y79.node.w, .bool y79.dir, .int .i64 y79.size]) (cs' := [.string y79.name, .int .i64 y79.node.t, .int .i64 y79.node.w, .bool y79.dir, .int .i64 y79.size]) (by kernel_rfl) (by kernel_rfl) rfl Ty.sz35 h104 rfl (Nat.le_of_ble_eq_true rfl) rfl ?_)
     intro w105 h106 c107
     have M108 := Mod.trans' M102 c107 (fun i hi => by injection hi with hi; rw [← hi]; exact g93)
     have M109 := Mod.trans' M103 c107 (fun i hi => by injection hi with hi; rw [← hi]; exact g94)
     refine hx (Y := [b80]) (Mod.of_chg c107 (by simp)) (fun y hy => .inl hy) ?_
     refine hvq (i := 13) (fuel := 0) rfl (fun _ _ _ h => h) (Mod.refl _ _) rfl (v := .int .i64 0) (fun _ _ => r_assign (by kernel_rfl)) ?_
     refine hend (by kernel_rfl) ?_
     refine then_n (wp_seq (rg_lit ?_))
     refine wmv (v := .pointer (some ⟨tb, 0, none⟩)) ?_
     refine wmv (v := .slice A45 DD.length c46) ?_
     refine wmv (v := .int .i64 ((k : Int))) ?_
     have h110 := (ERow.up h51 (Mod.up M109))
     obtain ⟨g111, cp111, cu111, hA111, hg111, hb111, he111⟩ := ERow.get h110 hy79
     injection hA111 with hA111 _ _
     replace he111 : (cu111.toList.drop (0 + k * 5)).take 5 = enC y79 := by rw [Nat.zero_add]; exact he111
     refine wl (sv rfl (v := .pointer (some ⟨g111, 0 + k * 5, none⟩)) (r_ixaddr' (A := A45) (b := g111) (o := 0) (n := DD.length) (c := c46) (sz := 5) (j := ((k : Int))) (by kernel_rfl) hA111 (by kernel_rfl) Ty.un29 Ty.sz35 (by omega) (by omega) (by simp)) ?_)
     refine wl (sv rfl (v := .pointer (some ⟨g111, 0 + k * 5 + 1, none⟩)) (r_fieldAddr (u := .pointer (some ⟨g111, 0 + k * 5, none⟩)) (by kernel_rfl) (fun _ => (by kernel_rfl))) ?_)
     refine wl (sv rfl (v := .agg #[.int .i64 y79.node.t, .int .i64 y79.node.w]) (r_loads (k := 0 + k * 5 + 1) (by kernel_rfl) Ty.ag24 Ty.sz24 hb111 (el_sub he111 1 rfl)) ?_)
     have h114 := (TreeIs.up h65 (Mod.up M109))
     refine wl (sc rfl (r_callv (caps := []) (all := [.pointer (some ⟨tb, 0, none⟩), .agg #[.int .i64 y79.node.t, .int .i64 y79.node.w]]) En.f19 (by kernel_rfl) (by kernel_rfl)) (shownL_at h114 (Nat.le_trans hB M108.size) hF (TabIs.up htab (Mod.up M108)) q58 (h48 q58) hy79) ?_)
     rintro e w112 ⟨rfl, u113⟩
     refine ⟨.tuple #[.string y79.name, .int .i64 0], rfl, ?_⟩
     have M115 := Mod.trans M108 (Mod.of_up u113)
     have M116 := Mod.trans M109 (Mod.of_up u113)
     refine wmv (v := .tuple #[.string y79.name, .int .i64 0]) ?_
     refine wl (sv rfl (v := .string y79.name) (r_extract (vs := [.string y79.name, .int .i64 0]) (by kernel_rfl) rfl) ?_)
     refine wl (sv rfl (v := .int .i64 0) (r_extract (vs := [.string y79.name, .int .i64 0]) (by kernel_rfl) rfl) ?_)
     refine was (v := .string y79.name) ?_
     refine was (v := .int .i64 0) ?_
     refine wnil (then_n (wp_seq ?_))
     refine rg_all (by kernel_rfl) (by kernel_rfl) ?_
     refine qmv (v := .int .i64 0) ?_
     refine qv rfl (v := .bool false) (fun _ _ => by kernel_rfl) ?_
     refine qmv (v := .bool false) ?_
     have h117 := (up_ob u113 h106)
     refine qv (by kernel_rfl) (v := .agg #[.string y79.name, .int .i64 y79.node.t, .int .i64 y79.node.w, .bool y79.dir, .int .i64 y79.size]) (fun _ uz => r_loads (k := 0) (by kernel_rfl) Ty.ag35 Ty.sz35 (up_ob uz h117) (by kernel_rfl)) ?_
     refine qv (by kernel_rfl) (v := .slice A45 DD.length c46) (fun _ _ => r_move (by kernel_rfl)) ?_
     refine qv (by kernel_rfl) (v := .int .i64 ((k : Int))) (fun _ _ => r_move (by kernel_rfl)) ?_
     have h118 := (ERow.up h51 (Mod.up M116))
     obtain ⟨g119, cp119, cu119, hA119, hg119, hb119, he119⟩ := ERow.get h118 hy79
     injection hA119 with hA119 _ _
     replace he119 : (cu119.toList.drop (0 + k * 5)).take 5 = enC y79 := by rw [Nat.zero_add]; exact he119
     refine qv (by kernel_rfl) (v := .pointer (some ⟨g119, 0 + k * 5, none⟩)) (fun _ _ => r_ixaddr' (A := A45) (b := g119) (o := 0) (n := DD.length) (c := c46) (sz := 5) (j := ((k : Int))) (by kernel_rfl) hA119 (by kernel_rfl) Ty.un29 Ty.sz35 (by omega) (by omega) (by simp)) ?_
     refine qv (by kernel_rfl) (v := .agg #[.string y79.name, .int .i64 y79.node.t, .int .i64 y79.node.w, .bool y79.dir, .int .i64 y79.size]) (fun _ uz => r_loads (k := 0 + k * 5) (by kernel_rfl) Ty.ag35 Ty.sz35 (up_ob uz hb119) (el_sub0 he119 rfl)) ?_
     refine qv (by kernel_rfl) (v := .bool false) (fun _ _ => r_neE rfl (y := y79) (by kernel_rfl) (by kernel_rfl)) ?_
     refine qv rfl (v := .bool false) (fun _ _ => r_pkF (by kernel_rfl) (by kernel_rfl)) ?_
     refine qmv (v := .bool false) ?_
     refine qv (by kernel_rfl) (v := .int .i64 0) (fun _ _ => r_move (by kernel_rfl)) ?_
     refine qv (by kernel_rfl) (v := .bool false) (fun _ _ => by kernel_rfl) ?_
     refine qv rfl (v := .bool false) (fun _ _ => r_pkF (by kernel_rfl) (by kernel_rfl)) ?_
     refine qmv (v := .bool false) ?_
     refine qv (by kernel_rfl) (v := .string y79.name) (fun _ _ => r_move (by kernel_rfl)) ?_
     refine qv (by kernel_rfl) (v := .slice A45 DD.length c46) (fun _ _ => r_move (by kernel_rfl)) ?_
     refine qv (by kernel_rfl) (v := .int .i64 ((k : Int))) (fun _ _ => r_move (by kernel_rfl)) ?_
     obtain ⟨g120, cp120, cu120, hA120, hg120, hb120, he120⟩ := ERow.get h118 hy79
     injection hA120 with hA120 _ _
     replace he120 : (cu120.toList.drop (0 + k * 5)).take 5 = enC y79 := by rw [Nat.zero_add]; exact he120
     refine qv (by kernel_rfl) (v := .pointer (some ⟨g120, 0 + k * 5, none⟩)) (fun _ _ => r_ixaddr' (A := A45) (b := g120) (o := 0) (n := DD.length) (c := c46) (sz := 5) (j := ((k : Int))) (by kernel_rfl) hA120 (by kernel_rfl) Ty.un29 Ty.sz35 (by omega) (by omega) (by simp)) ?_
     refine qv (by kernel_rfl) (v := .pointer (some ⟨g120, 0 + k * 5, none⟩)) (fun _ _ => r_fieldAddr (u := .pointer (some ⟨g120, 0 + k * 5, none⟩)) (by kernel_rfl) (fun _ => (by kernel_rfl))) ?_
     refine qv (by kernel_rfl) (v := .string y79.name) (fun _ uz => r_load (k := 0 + k * 5) (v := .string y79.name) (by kernel_rfl) Ty.ag9 (up_ob uz hb120) (el_get he120 0 rfl)) ?_
     refine qv (by kernel_rfl) (v := .bool false) (fun _ _ => nes_same (r_nes (m := y79.name) (n := y79.name) (by kernel_rfl) (by kernel_rfl))) ?_
     refine qv rfl (v := .bool false) (fun _ _ => r_pkF (by kernel_rfl) (by kernel_rfl)) ?_
     refine qmv (v := .bool false) ?_
     refine qv (by kernel_rfl) (v := .int .i64 ((k : Int))) (fun _ _ => r_move (by kernel_rfl)) ?_
     refine qb (by kernel_rfl) (fun _ _ => r_gt (k := .i64) (m := ((k : Int))) (n := 0) (by kernel_rfl) (by kernel_rfl)) ?_
     intro b121 k122
     refine qv (by kernel_rfl) (v := .bool b121) (fun _ _ => r_move (by kernel_rfl)) ?_
     refine bcase b121 (fun v123 => ?_) (fun v123 => ?_)
     ·
      have p124 := of_decide_eq_false (k122.trans v123)
      refine qp (wf (b := b121) rfl (by kernel_rfl) v123) ?_
      refine qp (wf (b := b121) rfl (by kernel_rfl) v123) ?_
      refine qp (wf (b := b121) rfl (by kernel_rfl) v123) ?_
      refine qp (wf (b := b121) rfl (by kernel_rfl) v123) ?_
      refine qp (wf (b := b121) rfl (by kernel_rfl) v123) ?_
      refine qp (wf (b := b121) rfl (by kernel_rfl) v123) ?_
      refine qp (wf (b := b121) rfl (by kernel_rfl) v123) ?_
      refine qp (wf (b := b121) rfl (by kernel_rfl) v123) ?_
      refine qp (wf (b := b121) rfl (by kernel_rfl) v123) ?_
      refine qp (wf (b := b121) rfl (by kernel_rfl) v123) ?_
      refine qp (wf (b := b121) rfl (by kernel_rfl) v123) ?_
      refine qp (wf (b := b121) rfl (by kernel_rfl) v123) ?_
      refine qv (by kernel_rfl) (v := .bool false) (fun _ _ => r_pkF (ebool (b := b121) (by kernel_rfl) v123) (by kernel_rfl)) ?_
      refine qv rfl (v := .bool false) (fun _ _ => r_pkF (by kernel_rfl) (by kernel_rfl)) ?_
      refine qnil ?_
      intro w125 u126
      have M127 := Mod.trans M115 (Mod.of_up u126)
      have M128 := Mod.trans M116 (Mod.of_up u126)
      refine then_n ?_
      refine wp_cond_false (by kernel_rfl) ?_
      refine wp_skip (inb_n (then_n (rg_lit ?_)))
      refine wmv (v := .int .i64 ((k : Int))) ?_
      refine wl (sv rfl (v := .int .i64 (((k + 1 : Nat) : Int))) (r_add (k := .i64) (m := ((k : Int))) (n := 1) (c := (((k + 1 : Nat) : Int))) (by kernel_rfl) (by kernel_rfl) ((IntWalk.i64_in _ (by omega)).trans (by omega))) ?_)
      refine was (v := .int .i64 (((k + 1 : Nat) : Int))) ?_
      refine wnil (then_n ?_)
      refine ⟨DD.length - (k + 1), ?_, (k + 1), tget [undef, undef, undef, undef, undef, undef, undef, undef, (Z 8), undef, undef, undef, undef, .pointer (some ⟨b80, 0, none⟩), .int .i64 0, .string y79.name, .int .i64 0, undef, undef, undef, undef, undef, undef, undef, undef, undef, undef, undef, undef, undef, undef, undef, undef, undef, undef, undef, undef, undef, undef, undef, undef, undef, undef, undef, undef, undef, undef, undef, undef, undef, undef, undef, undef, undef, undef, undef, undef, .int .i64 ((k : Int)), .slice A45 DD.length c46, .int .i64 ((DD.length : Int)), .bool b67, .int .i64 ((k : Int)), .int .i64 (((k + 1 : Nat) : Int)), .tuple #[.agg #[.string y79.name, .int .i64 y79.node.t, .int .i64 y79.node.w, .bool y79.dir, .int .i64 y79.size], .int .i64 0], .pointer (some ⟨tb, 0, none⟩), .agg #[.int .i64 n1, .int .i64 n2], .slice A45 DD.length c46, .int .i64 ((k : Int)), .pointer (some ⟨g79, 0 + k * 5, none⟩), .pointer (some ⟨g79, 0 + k * 5, none⟩), .string y79.name, .tuple #[.agg #[.string y79.name, .int .i64 y79.node.t, .int .i64 y79.node.w, .bool y79.dir, .int .i64 y79.size], .int .i64 0], .agg #[.string y79.name, .int .i64 y79.node.t, .int .i64 y79.node.w, .bool y79.dir, .int .i64 y79.size], .int .i64 0, .tuple #[.string y79.name, .int .i64 0], .pointer (some ⟨tb, 0, none⟩), .slice A45 DD.length c46, .int .i64 ((k : Int)), .pointer (some ⟨g111, 0 + k * 5, none⟩), .pointer (some ⟨g111, 0 + k * 5 + 1, none⟩), .agg #[.int .i64 y79.node.t, .int .i64 y79.node.w], .tuple #[.string y79.name, .int .i64 0], .string y79.name, .int .i64 0, .int .i64 0, .bool false, .bool false, .agg #[.string y79.name, .int .i64 y79.node.t, .int .i64 y79.node.w, .bool y79.dir, .int .i64 y79.size], .slice A45 DD.length c46, .int .i64 ((k : Int)), .pointer (some ⟨g119, 0 + k * 5, none⟩), .agg #[.string y79.name, .int .i64 y79.node.t, .int .i64 y79.node.w, .bool y79.dir, .int .i64 y79.size], .bool false, .bool false, .bool false, .int .i64 0, .bool false, .bool false, .bool false, .string y79.name, .slice A45 DD.length c46, .int .i64 ((k : Int)), .pointer (some ⟨g120, 0 + k * 5, none⟩), .pointer (some ⟨g120, 0 + k * 5, none⟩), .string y79.name, .bool false, .bool false, .bool false, .int .i64 ((k : Int)), .bool b121, .bool b121, undef, undef, undef, undef, undef, undef, undef, undef, undef, undef, undef, undef, .bool false, .bool false], rfl, (by kernel_rfl), M128, (by omega)⟩
      · omega
     have p124 := of_decide_eq_true (k122.trans v123)
     refine qv (wt (b := b121) rfl (by kernel_rfl) v123) (v := .slice A45 DD.length c46) (fun _ _ => r_move (by kernel_rfl)) ?_
     refine qv (wt (b := b121) rfl (by kernel_rfl) v123) (v := .int .i64 ((k : Int))) (fun _ _ => r_move (by kernel_rfl)) ?_
     refine qv (wt (b := b121) rfl (by kernel_rfl) v123) (v := .int .i64 (((k - 1 : Nat) : Int))) (fun _ _ => r_sub (k := .i64) (m := ((k : Int))) (n := 1) (c := (((k - 1 : Nat) : Int))) (by kernel_rfl) (by kernel_rfl) ((IntWalk.i64_in _ (by omega)).trans (by omega))) ?_
     obtain ⟨y125, hy125⟩ : ∃ x, DD[k - 1]? = some x := ⟨_, List.getElem?_eq_getElem (by omega)⟩
     obtain ⟨g125, cp125, cu125, hA125, hg125, hb125, he125⟩ := ERow.get h118 hy125
     injection hA125 with hA125 _ _
     replace he125 : (cu125.toList.drop (0 + (k - 1) * 5)).take 5 = enC y125 := by rw [Nat.zero_add]; exact he125
     refine qv (wt (b := b121) rfl (by kernel_rfl) v123) (v := .pointer (some ⟨g125, 0 + (k - 1) * 5, none⟩)) (fun _ _ => r_ixaddr' (A := A45) (b := g125) (o := 0) (n := DD.length) (c := c46) (sz := 5) (j := (((k - 1 : Nat) : Int))) (by kernel_rfl) hA125 (by kernel_rfl) Ty.un29 Ty.sz35 (by omega) (by omega) (by simp)) ?_
     refine qv (wt (b := b121) rfl (by kernel_rfl) v123) (v := .pointer (some ⟨g125, 0 + (k - 1) * 5, none⟩)) (fun _ _ => r_fieldAddr (u := .pointer (some ⟨g125, 0 + (k - 1) * 5, none⟩)) (by kernel_rfl) (fun _ => (by kernel_rfl))) ?_
     refine qv (wt (b := b121) rfl (by kernel_rfl) v123) (v := .string y125.name) (fun _ uz => r_load (k := 0 + (k - 1) * 5) (v := .string y125.name) (by kernel_rfl) Ty.ag9 (up_ob uz hb125) (el_get he125 0 rfl)) ?_
     refine qv (wt (b := b121) rfl (by kernel_rfl) v123) (v := .slice A45 DD.length c46) (fun _ _ => r_move (by kernel_rfl)) ?_
     refine qv (wt (b := b121) rfl (by kernel_rfl) v123) (v := .int .i64 ((k : Int))) (fun _ _ => r_move (by kernel_rfl)) ?_
     obtain ⟨g126, cp126, cu126, hA126, hg126, hb126, he126⟩ := ERow.get h118 hy79
     injection hA126 with hA126 _ _
     replace he126 : (cu126.toList.drop (0 + k * 5)).take 5 = enC y79 := by rw [Nat.zero_add]; exact he126
     refine qv (wt (b := b121) rfl (by kernel_rfl) v123) (v := .pointer (some ⟨g126, 0 + k * 5, none⟩)) (fun _ _ => r_ixaddr' (A := A45) (b := g126) (o := 0) (n := DD.length) (c := c46) (sz := 5) (j := ((k : Int))) (by kernel_rfl) hA126 (by kernel_rfl) Ty.un29 Ty.sz35 (by omega) (by omega) (by simp)) ?_
     refine qv (wt (b := b121) rfl (by kernel_rfl) v123) (v := .pointer (some ⟨g126, 0 + k * 5, none⟩)) (fun _ _ => r_fieldAddr (u := .pointer (some ⟨g126, 0 + k * 5, none⟩)) (by kernel_rfl) (fun _ => (by kernel_rfl))) ?_
     refine qv (wt (b := b121) rfl (by kernel_rfl) v123) (v := .string y79.name) (fun _ uz => r_load (k := 0 + k * 5) (v := .string y79.name) (by kernel_rfl) Ty.ag9 (up_ob uz hb126) (el_get he126 0 rfl)) ?_
     refine qv (wt (b := b121) rfl (by kernel_rfl) v123) (v := .bool false) (fun _ _ => r_ges (m := y125.name) (n := y79.name) (by kernel_rfl) (by kernel_rfl) (Listed.rise (h48 q58) hy125 (by rw [show k - 1 + 1 = k by omega]; exact hy79))) ?_
     refine qv (by kernel_rfl) (v := .bool false) (fun _ _ => r_pkT (ebool (b := b121) (by kernel_rfl) v123) (by kernel_rfl)) ?_
     refine qv rfl (v := .bool false) (fun _ _ => r_pkF (by kernel_rfl) (by kernel_rfl)) ?_
     refine qnil ?_
     intro w127 u128
     have M129 := Mod.trans M115 (Mod.of_up u128)
     have M130 := Mod.trans M116 (Mod.of_up u128)
     refine then_n ?_
     refine wp_cond_false (by kernel_rfl) ?_
     refine wp_skip (inb_n (then_n (rg_lit ?_)))
     refine wmv (v := .int .i64 ((k : Int))) ?_
     refine wl (sv rfl (v := .int .i64 (((k + 1 : Nat) : Int))) (r_add (k := .i64) (m := ((k : Int))) (n := 1) (c := (((k + 1 : Nat) : Int))) (by kernel_rfl) (by kernel_rfl) ((IntWalk.i64_in _ (by omega)).trans (by omega))) ?_)
     refine was (v := .int .i64 (((k + 1 : Nat) : Int))) ?_
     refine wnil (then_n ?_)
     refine ⟨DD.length - (k + 1), ?_, (k + 1), tget [undef, undef, undef, undef, undef, undef, undef, undef, (Z 8), undef, undef, undef, undef, .pointer (some ⟨b80, 0, none⟩), .int .i64 0, .string y79.name, .int .i64 0, undef, undef, undef, undef, undef, undef, undef, undef, undef, undef, undef, undef, undef, undef, undef, undef, undef, undef, undef, undef, undef, undef, undef, undef, undef, undef, undef, undef, undef, undef, undef, undef, undef, undef, undef, undef, undef, undef, undef, undef, .int .i64 ((k : Int)), .slice A45 DD.length c46, .int .i64 ((DD.length : Int)), .bool b67, .int .i64 ((k : Int)), .int .i64 (((k + 1 : Nat) : Int)), .tuple #[.agg #[.string y79.name, .int .i64 y79.node.t, .int .i64 y79.node.w, .bool y79.dir, .int .i64 y79.size], .int .i64 0], .pointer (some ⟨tb, 0, none⟩), .agg #[.int .i64 n1, .int .i64 n2], .slice A45 DD.length c46, .int .i64 ((k : Int)), .pointer (some ⟨g79, 0 + k * 5, none⟩), .pointer (some ⟨g79, 0 + k * 5, none⟩), .string y79.name, .tuple #[.agg #[.string y79.name, .int .i64 y79.node.t, .int .i64 y79.node.w, .bool y79.dir, .int .i64 y79.size], .int .i64 0], .agg #[.string y79.name, .int .i64 y79.node.t, .int .i64 y79.node.w, .bool y79.dir, .int .i64 y79.size], .int .i64 0, .tuple #[.string y79.name, .int .i64 0], .pointer (some ⟨tb, 0, none⟩), .slice A45 DD.length c46, .int .i64 ((k : Int)), .pointer (some ⟨g111, 0 + k * 5, none⟩), .pointer (some ⟨g111, 0 + k * 5 + 1, none⟩), .agg #[.int .i64 y79.node.t, .int .i64 y79.node.w], .tuple #[.string y79.name, .int .i64 0], .string y79.name, .int .i64 0, .int .i64 0, .bool false, .bool false, .agg #[.string y79.name, .int .i64 y79.node.t, .int .i64 y79.node.w, .bool y79.dir, .int .i64 y79.size], .slice A45 DD.length c46, .int .i64 ((k : Int)), .pointer (some ⟨g119, 0 + k * 5, none⟩), .agg #[.string y79.name, .int .i64 y79.node.t, .int .i64 y79.node.w, .bool y79.dir, .int .i64 y79.size], .bool false, .bool false, .bool false, .int .i64 0, .bool false, .bool false, .bool false, .string y79.name, .slice A45 DD.length c46, .int .i64 ((k : Int)), .pointer (some ⟨g120, 0 + k * 5, none⟩), .pointer (some ⟨g120, 0 + k * 5, none⟩), .string y79.name, .bool false, .bool false, .bool false, .int .i64 ((k : Int)), .bool b121, .bool b121, .slice A45 DD.length c46, .int .i64 ((k : Int)), .int .i64 (((k - 1 : Nat) : Int)), .pointer (some ⟨g125, 0 + (k - 1) * 5, none⟩), .pointer (some ⟨g125, 0 + (k - 1) * 5, none⟩), .string y125.name, .slice A45 DD.length c46, .int .i64 ((k : Int)), .pointer (some ⟨g126, 0 + k * 5, none⟩), .pointer (some ⟨g126, 0 + k * 5, none⟩), .string y79.name, .bool false, .bool false, .bool false], rfl, (by kernel_rfl), M130, (by omega)⟩
     · omega
   have p57 := of_decide_eq_true (k55.trans v56)
   refine wp_cond_true (ebool (b := b54) (by kernel_rfl) v56) ?_
   refine wp_seq (rg_lit ?_)
   refine wmv (v := .slice A45 DD.length c46) ?_
   refine wl (sv rfl (v := .int .i64 ((DD.length : Int))) (r_len Ty.un29 (ad := A45) (n := DD.length) (c := c46) (by kernel_rfl)) ?_)
   refine wl (sb rfl (r_eq (k := .i64) (m := ((DD.length : Int))) (n := 0) (by kernel_rfl) (by kernel_rfl)) ?_)
   intro b58 k59
   refine wmv (v := .bool b58) ?_
   refine bcase b58 (fun v60 => ?_) (fun v60 => ?_)
   ·
    have p61 := of_decide_eq_false (k59.trans v60)
    exact absurd (by rw [h49 p57]; rfl) p61
   have p61 := of_decide_eq_true (k59.trans v60)
   refine wl (sv (wt (b := b58) rfl (by kernel_rfl) v60) (v := .pointer (some ⟨tb, 0, none⟩)) (r_move (by kernel_rfl)) ?_)
   have h62 := (up_ob u50 h41)
   refine wl (sv (wt (b := b58) rfl (by kernel_rfl) v60) (v := .agg #[.int .i64 n1, .int .i64 n2]) (r_loads (k := 0) (by kernel_rfl) Ty.ag24 Ty.sz24 h62 (by kernel_rfl)) ?_)
   refine wl (sv (wt (b := b58) rfl (by kernel_rfl) v60) (v := .string nm) (r_move (by kernel_rfl)) ?_)
   have h63 := (TreeIs.up h29 u50)
   refine wl (sc (wt (b := b58) rfl (by kernel_rfl) v60) (r_callv (caps := []) (all := [.pointer (some ⟨tb, 0, none⟩), .agg #[.int .i64 n1, .int .i64 n2], .string nm]) En.f17 (by kernel_rfl) (by kernel_rfl)) (bool_eq' (free_k p57) (free18_at h63 (Nat.le_trans hB M53.size) hF n1 n2 nm (by omega))) ?_)
   rintro e w64 ⟨rfl, u65⟩
   refine ⟨.bool false, rfl, ?_⟩
   have M66 := Mod.trans M53 (Mod.of_up u65)
   refine wl (sv (wt (b := b58) rfl (by kernel_rfl) v60) (v := .bool true) (r_not (b := false) (by kernel_rfl)) ?_)
   refine wl (sv rfl (v := .bool true) (r_pkT (ebool (b := b58) (by kernel_rfl) v60) (by kernel_rfl)) ?_)
   refine wmv (v := .bool true) ?_
   refine wl (sc (by kernel_rfl) (r_callv (caps := []) (all := []) En.f14 (by kernel_rfl) (by kernel_rfl)) (alive18_at (TabIs.up htab (Mod.up M66))) ?_)
   rintro e w67 ⟨rfl, u68⟩
   refine ⟨.bool true, rfl, ?_⟩
   have M69 := Mod.trans M66 (Mod.of_up u68)
   refine wl (sv rfl (v := .bool true) (r_pkT (by kernel_rfl) (by kernel_rfl)) ?_)
   refine was (v := .bool true) ?_
   refine wnil (then_n (wp_ret (then_x (by nofun) ?_)))
   refine bodyPost_ret (v := .bool true) (res1 rfl (rv_t (by kernel_rfl))) (by kernel_rfl) ?_
   exact ⟨rfl, (Mod.up M69)⟩
  have p26 := of_decide_eq_true (k24.trans v25)
  refine wp_cond_true (ebool (b := b23) (by kernel_rfl) v25) ?_
  refine wp_seq (rg_lit ?_)
  refine wl (sc rfl (r_callv (caps := []) (all := []) En.f14 (by kernel_rfl) (by kernel_rfl)) (alive18_at (TabIs.up htab (Mod.up M20))) ?_)
  rintro e w27 ⟨rfl, u28⟩
  refine ⟨.bool true, rfl, ?_⟩
  have M29 := Mod.trans M20 (Mod.of_up u28)
  refine was (v := .bool true) ?_
  refine wnil (then_n (wp_ret (then_x (by nofun) ?_)))
  refine bodyPost_ret (v := .bool true) (res1 rfl (rv_t (by kernel_rfl))) (by kernel_rfl) ?_
  exact ⟨rfl, (Mod.up M29)⟩
end Go.Proofs.YtefhfoioeoijlaaGreatDoor

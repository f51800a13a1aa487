/- NF: printed by gen.py -/
import Derived.Test.YtefhfoioeoijlaaGreatDoorNE
import Derived.Test.YtefhfoioeoijlaaGreatDoorNC
set_option linter.unusedVariables false
set_option linter.unusedSimpArgs false
namespace Go.Proofs.YtefhfoioeoijlaaGreatDoor
open Go Go.RowKit Go.Sort
set_option maxRecDepth 20000 in
set_option maxHeartbeats 2000000 in
theorem namesKids_at {B : Nat} {w : World} {lA : Option Addr} {lc : Nat} {os : List OpD} (h0 : OpRow0 w lA os) (hfull : Small os → OpRow B w lA os) (hB : B ≤ w.heap.size) (hn : os.length ≤ 9223372036854775807) (htab : Tab w) (n1 n2 : Int) :
    Calls Tryz.prog 7 #[.slice lA os.length lc, .agg #[.int .i64 n1, .int .i64 n2]] w fun e w' => e = .returned (.bool true) ∧ Up w w' := by
  go_enter Tryz.func7, Tryz.ntmps7
  refine wp_seq (rg_lit ?_)
  refine wl (sn rfl (cs := #[.int .i64 n1, .int .i64 n2]) (T := 24) (V := fun b => .pointer (some ⟨b, 0, none⟩)) (r_box (v := .agg #[.int .i64 n1, .int .i64 n2]) (by kernel_rfl) rfl) ?_)
  intro b1 w2 e3 h4 u5
  have g6 : w.heap.size ≤ b1 := by rw [e3]; exact (Mod.refl [] w).size
  have M7 := Mod.trans (Mod.refl [] w) (Mod.of_up u5)
  refine was (v := .bool false) ?_
  refine wnil (then_n (wp_seq (wp_seq (rg_lit ?_))))
  refine wmv (v := .slice lA os.length lc) ?_
  refine wl (sc rfl (r_callv (caps := []) (all := [.slice lA os.length lc, .int .i64 40]) En.f13 (by kernel_rfl) (by kernel_rfl)) (light2_at (OpRow0.up h0 (Mod.up M7)) hn 40) ?_)
  rintro e w8 ⟨lb9, rfl, h10, u11⟩
  refine ⟨.bool lb9, rfl, ?_⟩
  have M12 := Mod.trans M7 (Mod.of_up u11)
  refine wl (sv rfl (v := .bool (!lb9)) (r_not (b := lb9) (by kernel_rfl)) ?_)
  refine wnil (then_n ?_)
  refine bcase lb9 (fun v13 => ?_) (fun v13 => ?_)
  ·
   refine wp_cond_true (ebool (b := !lb9) (by kernel_rfl) (bneg v13)) ?_
   refine wp_seq (rg_lit ?_)
   refine wl (sc rfl (r_callv (caps := []) (all := []) En.f14 (by kernel_rfl) (by kernel_rfl)) (alive18_at (TabIs.up htab (Mod.up M12))) ?_)
   rintro e w14 ⟨rfl, u15⟩
   refine ⟨.bool true, rfl, ?_⟩
   have M16 := Mod.trans M12 (Mod.of_up u15)
   refine was (v := .bool true) ?_
   refine wnil (then_n (wp_ret (then_x (by nofun) ?_)))
   refine bodyPost_ret (v := .bool true) (res1 rfl (rv_t (by kernel_rfl))) (by kernel_rfl) ?_
   exact ⟨rfl, (Mod.up M16)⟩
  obtain ⟨hsm14, hle14⟩ := h10 v13
  have hops := hfull hsm14
  refine wp_cond_false (ebool (b := !lb9) (by kernel_rfl) (bneg v13)) ?_
  refine wp_skip (then_n (wp_seq (rg_lit ?_)))
  refine wmv (v := .slice lA os.length lc) ?_
  have h15 := (OpRow.up hops (Mod.up M12))
  have h21 := (up_ob u11 h4)
  refine wl (sc rfl (r_callv (caps := []) (all := [.slice lA os.length lc]) En.f15 (by kernel_rfl) (by kernel_rfl)) (build_at h15 (Nat.le_trans hB M12.size) (by omega)) ?_)
  rintro e w16 ⟨tb, r, rfl, h17, u18, z19, z20⟩
  refine ⟨.pointer (some ⟨tb, 0, none⟩), rfl, ?_⟩
  have l22 : b1 < r := Nat.lt_of_lt_of_le (lt_ob h21) z20
  have l23 : b1 < tb := Nat.lt_of_lt_of_le (lt_ob h21) z19
  have M24 := Mod.trans M12 (Mod.of_up u18)
  obtain ⟨hwf, hlen⟩ := buildI_wf os
  obtain ⟨L0, hL0⟩ : ∃ L, buildI os = L := ⟨_, rfl⟩
  rw [hL0] at hwf hlen h17
  obtain ⟨eshr25, clhr25, xshr25, hr25, _⟩ := h17.2.2.2.1
  have hF : Fit L0 := by rw [← hL0]; exact fit_build os
  refine was (v := .pointer (some ⟨tb, 0, none⟩)) ?_
  refine wnil (then_n (wp_seq (rg_lit ?_)))
  refine wmv (v := .pointer (some ⟨tb, 0, none⟩)) ?_
  have h26 := (up_ob u18 h21)
  refine wl (sv rfl (v := .agg #[.int .i64 n1, .int .i64 n2]) (r_loads (k := 0) (by kernel_rfl) Ty.ag24 Ty.sz24 h26 (by kernel_rfl)) ?_)
  refine wl (sc rfl (r_callv (caps := []) (all := [.pointer (some ⟨tb, 0, none⟩), .agg #[.int .i64 n1, .int .i64 n2]]) En.f16 (by kernel_rfl) (by kernel_rfl)) (list_at h17 (Nat.le_trans hB M24.size) hF (TabIs.up htab (Mod.up M24)) n1 n2) ?_)
  rintro e w27 ⟨v28, DD, rfl, h32, h33, h34, u35⟩
  obtain ⟨A30, c31, rfl⟩ := ERow.form h32
  have h36 := ERow.base h32 M24.size
  have z37 := ERow.le h32
  refine ⟨.tuple #[.slice A30 DD.length c31, .int .i64 ((kidK L0 ⟨n1, n2⟩))], rfl, ?_⟩
  have M38 := Mod.trans M24 (Mod.of_up u35)
  refine wmv (v := .tuple #[.slice A30 DD.length c31, .int .i64 ((kidK L0 ⟨n1, n2⟩))]) ?_
  refine wl (sv rfl (v := .slice A30 DD.length c31) (r_extract (vs := [.slice A30 DD.length c31, .int .i64 ((kidK L0 ⟨n1, n2⟩))]) (by kernel_rfl) rfl) ?_)
  refine wl (sv rfl (v := .int .i64 ((kidK L0 ⟨n1, n2⟩))) (r_extract (vs := [.slice A30 DD.length c31, .int .i64 ((kidK L0 ⟨n1, n2⟩))]) (by kernel_rfl) rfl) ?_)
  refine was (v := .slice A30 DD.length c31) ?_
  refine was (v := .int .i64 ((kidK L0 ⟨n1, n2⟩))) ?_
  refine wnil (then_n (wp_seq (rg_lit ?_)))
  refine wmv (v := .pointer (some ⟨tb, 0, none⟩)) ?_
  have h39 := (up_ob u35 h26)
  refine wl (sv rfl (v := .agg #[.int .i64 n1, .int .i64 n2]) (r_loads (k := 0) (by kernel_rfl) Ty.ag24 Ty.sz24 h39 (by kernel_rfl)) ?_)
  have h46 := (TreeIs.up h17 u35)
  refine wl (sc rfl (r_callv (caps := []) (all := [.pointer (some ⟨tb, 0, none⟩), .agg #[.int .i64 n1, .int .i64 n2]]) En.f38 (by kernel_rfl) (by kernel_rfl)) (row_sl (kids_at h46 (Nat.le_trans hB M38.size) n1 n2)) ?_)
  rintro e w40 ⟨A41, c42, rfl, h43, u44⟩
  have h45 := IRow.base h43 M38.size
  refine ⟨.slice A41 (((kidsI ⟨n1, n2⟩ L0)).length) c42, rfl, ?_⟩
  have M47 := Mod.trans M38 (Mod.of_up u44)
  refine was (v := .slice A41 (((kidsI ⟨n1, n2⟩ L0)).length) c42) ?_
  refine wnil (then_n (wp_seq (rg_lit ?_)))
  refine wmv (v := .pointer (some ⟨tb, 0, none⟩)) ?_
  have h48 := (up_ob u44 h39)
  refine wl (sv rfl (v := .agg #[.int .i64 n1, .int .i64 n2]) (r_loads (k := 0) (by kernel_rfl) Ty.ag24 Ty.sz24 h48 (by kernel_rfl)) ?_)
  have h49 := (TreeIs.up h46 u44)
  refine wl (sc rfl (r_callv (caps := []) (all := [.pointer (some ⟨tb, 0, none⟩), .agg #[.int .i64 n1, .int .i64 n2]]) En.f20 (by kernel_rfl) (by kernel_rfl)) (get_x h49 ⟨n1, n2⟩ (x := (gotI L0 ⟨n1, n2⟩)) (b := (hasI L0 ⟨n1, n2⟩)) rfl rfl) ?_)
  rintro e w50 ⟨A51, n52, c53, rfl, h54, u55⟩
  refine ⟨.tuple #[itV (gotI L0 ⟨n1, n2⟩) (.slice A51 n52 c53), .bool ((hasI L0 ⟨n1, n2⟩))], rfl, ?_⟩
  have M56 := Mod.trans M47 (Mod.of_up u55)
  refine wmv (v := .tuple #[itV (gotI L0 ⟨n1, n2⟩) (.slice A51 n52 c53), .bool ((hasI L0 ⟨n1, n2⟩))]) ?_
  refine wl (sv rfl (v := itV (gotI L0 ⟨n1, n2⟩) (.slice A51 n52 c53)) (r_extract (vs := [itV (gotI L0 ⟨n1, n2⟩) (.slice A51 n52 c53), .bool ((hasI L0 ⟨n1, n2⟩))]) (by kernel_rfl) rfl) ?_)
  refine wl (sv rfl (v := .bool ((hasI L0 ⟨n1, n2⟩))) (r_extract (vs := [itV (gotI L0 ⟨n1, n2⟩) (.slice A51 n52 c53), .bool ((hasI L0 ⟨n1, n2⟩))]) (by kernel_rfl) rfl) ?_)
  refine wl (sn rfl (cs := #[.int .i64 0, .int .i64 0, .int .i64 0, .int .i64 0, .string (⟨#[]⟩), .bool false, .bool false, .slice none 0 0, .int .i64 0, .int .i64 0]) (T := 42) (V := fun b => .pointer (some ⟨b, 0, none⟩)) (r_alloc Ty.zv42 rfl) ?_)
  intro b57 w58 e59 h60 u61
  have h62 := (up_ob u55 h48)
  have l63 : b1 < b57 := by rw [e59]; exact lt_ob h62
  have h64 := (up_ob u55 (up_ob u44 (up_ob u35 hr25)))
  have l65 : r < b57 := by rw [e59]; exact lt_ob h64
  have h66 := (up_ob u55 (up_ob u44 (up_ob u35 h17.1)))
  have l67 : tb < b57 := by rw [e59]; exact lt_ob h66
  have g68 : w.heap.size ≤ b57 := by rw [e59]; exact M56.size
  have M69 := Mod.trans M56 (Mod.of_up u61)
  refine wl (ss rfl (k := 0) (v := itV (gotI L0 ⟨n1, n2⟩) (.slice A51 n52 c53)) (vs := (itC (gotI L0 ⟨n1, n2⟩) (.slice A51 n52 c53))) (cs' := (itC (gotI L0 ⟨n1, n2⟩) (.slice A51 n52 c53))) (by kernel_rfl) (by kernel_rfl) rfl Ty.sz42 h60 rfl (Nat.le_of_ble_eq_true rfl) rfl ?_)
  intro w70 h71 c72
  have M73 := Mod.trans' M69 c72 (fun i hi => by injection hi with hi; rw [← hi]; exact g68)
  refine was (v := .bool ((hasI L0 ⟨n1, n2⟩))) ?_
  refine wnil (then_n (wp_seq (wp_block (wp_seq (rg_lit ?_)))))
  refine wmv (v := .pointer (some ⟨tb, 0, none⟩)) ?_
  have h74 := (chg_ob c72 (Nat.ne_of_lt l63) (up_ob u61 h62))
  refine wl (sv rfl (v := .agg #[.int .i64 n1, .int .i64 n2]) (r_loads (k := 0) (by kernel_rfl) Ty.ag24 Ty.sz24 h74 (by kernel_rfl)) ?_)
  have h75 := (TreeIs.up h49 (up_chgn (up_up u55 u61) c72 (by rw [e59]; exact u55.size)))
  refine wl (sc rfl (r_callv (caps := []) (all := [.pointer (some ⟨tb, 0, none⟩), .agg #[.int .i64 n1, .int .i64 n2]]) En.f39 (by kernel_rfl) (by kernel_rfl)) (hangs_at h75 n1 n2) ?_)
  rintro e w76 ⟨rfl, u77⟩
  refine ⟨.bool ((hangsI L0 301 ⟨n1, n2⟩)), rfl, ?_⟩
  have M78 := Mod.trans M73 (Mod.of_up u77)
  refine wl (sv rfl (v := .bool (!((hangsI L0 301 ⟨n1, n2⟩)))) (r_not (b := ((hangsI L0 301 ⟨n1, n2⟩))) (by kernel_rfl)) ?_)
  refine was (v := .bool (!((hangsI L0 301 ⟨n1, n2⟩)))) ?_
  refine wnil (then_n ?_)
  refine bcase ((hangsI L0 301 ⟨n1, n2⟩)) (fun v79 => ?_) (fun v79 => ?_)
  ·
   have hkk := kidK_12 v79
   have hD0 : DD.length = 0 := by rw [h34 (by rw [hkk]; decide)]; rfl
   refine wp_cond_true (ebool (b := !((hangsI L0 301 ⟨n1, n2⟩))) (by kernel_rfl) (bneg v79)) ?_
   refine wp_seq (rg_lit ?_)
   refine wmv (v := .int .i64 ((kidK L0 ⟨n1, n2⟩))) ?_
   refine wl (sb rfl (r_eq (k := .i64) (m := ((kidK L0 ⟨n1, n2⟩))) (n := 12) (by kernel_rfl) (by kernel_rfl)) ?_)
   intro b80 k81
   refine wmv (v := .bool b80) ?_
   refine bcase b80 (fun v82 => ?_) (fun v82 => ?_)
   ·
    have p83 := of_decide_eq_false (k81.trans v82)
    exact absurd hkk p83
   have p83 := of_decide_eq_true (k81.trans v82)
   refine wl (sv (wt (b := b80) rfl (by kernel_rfl) v82) (v := .slice A30 DD.length c31) (r_move (by kernel_rfl)) ?_)
   refine wl (sv (wt (b := b80) rfl (by kernel_rfl) v82) (v := .int .i64 ((DD.length : Int))) (r_len Ty.un29 (ad := A30) (n := DD.length) (c := c31) (by kernel_rfl)) ?_)
   refine wl (sb (wt (b := b80) rfl (by kernel_rfl) v82) (r_eq (k := .i64) (m := ((DD.length : Int))) (n := 0) (by kernel_rfl) (by kernel_rfl)) ?_)
   intro b84 k85
   refine wl (sv rfl (v := .bool b84) (r_pkT (ebool (b := b80) (by kernel_rfl) v82) (by kernel_rfl)) ?_)
   refine wmv (v := .bool b84) ?_
   refine bcase b84 (fun v86 => ?_) (fun v86 => ?_)
   ·
    have p87 := of_decide_eq_false (k85.trans v86)
    omega
   have p87 := of_decide_eq_true (k85.trans v86)
   refine wl (sc (wt (b := b84) rfl (by kernel_rfl) v86) (r_callv (caps := []) (all := []) En.f14 (by kernel_rfl) (by kernel_rfl)) (alive18_at (TabIs.up htab (Mod.up M78))) ?_)
   rintro e w88 ⟨rfl, u89⟩
   refine ⟨.bool true, rfl, ?_⟩
   have M90 := Mod.trans M78 (Mod.of_up u89)
   refine wl (sv rfl (v := .bool true) (r_pkT (ebool (b := b84) (by kernel_rfl) v86) (by kernel_rfl)) ?_)
   refine was (v := .bool true) ?_
   refine wnil (then_n (wp_ret (inb_r (then_x (by nofun) ?_))))
   refine bodyPost_ret (v := .bool true) (res1 rfl (rv_t (by kernel_rfl))) (by kernel_rfl) ?_
   exact ⟨rfl, (Mod.up M90)⟩
  refine wp_cond_false (ebool (b := !((hangsI L0 301 ⟨n1, n2⟩))) (by kernel_rfl) (bneg v79)) ?_
  refine wp_seq (rg_lit ?_)
  refine wmv (v := .bool ((hasI L0 ⟨n1, n2⟩))) ?_
  refine wmv (v := .bool ((hasI L0 ⟨n1, n2⟩))) ?_
  refine bcase ((hasI L0 ⟨n1, n2⟩)) (fun v80 => ?_) (fun v80 => ?_)
  ·
   have hk0 : kidK L0 ⟨n1, n2⟩ = 0 := kidK_0a v79 v80
   have hln := listed_len (h33 hk0)
   have hkl := kids_300 hF ⟨n1, n2⟩
   refine wl (sp (wf (b := (hasI L0 ⟨n1, n2⟩)) rfl (by kernel_rfl) v80) ?_)
   refine wl (sp (wf (b := (hasI L0 ⟨n1, n2⟩)) rfl (by kernel_rfl) v80) ?_)
   refine wl (sp (wf (b := (hasI L0 ⟨n1, n2⟩)) rfl (by kernel_rfl) v80) ?_)
   refine wl (sv rfl (v := .bool false) (r_pkF (ebool (b := (hasI L0 ⟨n1, n2⟩)) (by kernel_rfl) v80) (by kernel_rfl)) ?_)
   refine was (v := .bool false) ?_
   refine wnil (then_n ?_)
   refine wp_cond_false (by kernel_rfl) ?_
   refine wp_skip (inb_n (then_n (wp_seq (wp_seq (rg_lit ?_)))))
   refine was (v := .int .i64 0) ?_
   refine wnil (then_n (wp_block ?_))
   have h81 := (up_ob u77 h74)
   have h82 := (up_ob u77 (chg_ob c72 (Nat.ne_of_lt l65) (up_ob u61 h64)))
   have h83 := (up_ob u77 (chg_ob c72 (Nat.ne_of_lt l67) (up_ob u61 h66)))
   have h84 := (up_ob u77 h71)
   have h85 := (OpRow.up hops (Mod.up M78))
   have h86 := (TreeIs.up h75 u77)
   have h87 := (ERow.up h36 (up_up (up_chgn (up_up (up_up u44 u55) u61) c72 (by rw [e59]; exact (up_up u44 u55).size)) u77))
   have h88 := (Dat.up h54 (up_up (up_chgn u61 c72 (by rw [e59]; exact Nat.le_refl _)) u77))
   refine lp (fun n a r1 => ∃ (k : Nat) (Z : Nat → Value), (n = DD.length - k) ∧ (a = ⟨#[.slice lA os.length lc, .agg #[.int .i64 n1, .int .i64 n2], undef, .pointer (some ⟨b1, 0, none⟩), (Z 4), .pointer (some ⟨tb, 0, none⟩), .slice A30 DD.length c31, .int .i64 ((kidK L0 ⟨n1, n2⟩)), .slice A41 (((kidsI ⟨n1, n2⟩ L0)).length) c42, .pointer (some ⟨b57, 0, none⟩), .bool ((hasI L0 ⟨n1, n2⟩)), .int .i64 ((k : Int)), (Z 12), (Z 13), undef, undef, undef, undef, .slice lA os.length lc, .bool lb9, .bool (!lb9), undef, .slice lA os.length lc, .pointer (some ⟨tb, 0, none⟩), .tuple #[.slice A30 DD.length c31, .int .i64 ((kidK L0 ⟨n1, n2⟩))], .pointer (some ⟨tb, 0, none⟩), .agg #[.int .i64 n1, .int .i64 n2], .tuple #[.slice A30 DD.length c31, .int .i64 ((kidK L0 ⟨n1, n2⟩))], .slice A30 DD.length c31, .int .i64 ((kidK L0 ⟨n1, n2⟩)), .pointer (some ⟨tb, 0, none⟩), .agg #[.int .i64 n1, .int .i64 n2], .slice A41 (((kidsI ⟨n1, n2⟩ L0)).length) c42, .tuple #[itV (gotI L0 ⟨n1, n2⟩) (.slice A51 n52 c53), .bool ((hasI L0 ⟨n1, n2⟩))], .pointer (some ⟨tb, 0, none⟩), .agg #[.int .i64 n1, .int .i64 n2], .tuple #[itV (gotI L0 ⟨n1, n2⟩) (.slice A51 n52 c53), .bool ((hasI L0 ⟨n1, n2⟩))], itV (gotI L0 ⟨n1, n2⟩) (.slice A51 n52 c53), .bool ((hasI L0 ⟨n1, n2⟩)), .bool (!((hangsI L0 301 ⟨n1, n2⟩))), .pointer (some ⟨tb, 0, none⟩), .agg #[.int .i64 n1, .int .i64 n2], .bool ((hangsI L0 301 ⟨n1, n2⟩)), .bool (!((hangsI L0 301 ⟨n1, n2⟩))), undef, undef, undef, undef, undef, undef, undef, undef, undef, undef, .bool false, .bool ((hasI L0 ⟨n1, n2⟩)), .bool ((hasI L0 ⟨n1, n2⟩)), undef, undef, undef, .bool false, undef, undef, undef, undef, undef, undef, undef, undef, undef, undef, undef, undef, undef, (Z 74), (Z 75), (Z 76), (Z 77), (Z 78), (Z 79), (Z 80), (Z 81), (Z 82), (Z 83), (Z 84), (Z 85), (Z 86), (Z 87), (Z 88), (Z 89), (Z 90), (Z 91), (Z 92), (Z 93), (Z 94), (Z 95), (Z 96), (Z 97), (Z 98), (Z 99), (Z 100), (Z 101), (Z 102), (Z 103), (Z 104), (Z 105), (Z 106), (Z 107), (Z 108), (Z 109), (Z 110), (Z 111), (Z 112), (Z 113), (Z 114), (Z 115), (Z 116), (Z 117), (Z 118), (Z 119), (Z 120), (Z 121), (Z 122), undef, undef, undef, undef, undef, undef, undef, undef, undef, undef, undef, undef, undef, undef, undef, undef, undef, undef, undef, undef, undef, undef, undef, undef, undef, undef, undef, undef, undef, undef, undef, undef, undef, undef, undef, undef, undef, undef, undef, undef, undef], []⟩) ∧ (Mod [] w76 r1) ∧ (k ≤ DD.length)) ⟨_, 0, tget [undef, undef, undef, undef, .bool false, undef, undef, undef, undef, undef, undef, undef, undef, undef, undef, undef, undef, undef, undef, undef, undef, undef, undef, undef, undef, undef, undef, undef, undef, undef, undef, undef, undef, undef, undef, undef, undef, undef, undef, undef, undef, undef, undef, undef, undef, undef, undef, undef, undef, undef, undef, undef, undef, undef, undef, undef, undef, undef, undef, undef, undef, undef, undef, undef, undef, undef, undef, undef, undef, undef, undef, undef, undef, undef, undef, undef, undef, undef, undef, undef, undef, undef, undef, undef, undef, undef, undef, undef, undef, undef, undef, undef, undef, undef, undef, undef, undef, undef, undef, undef, undef, undef, undef, undef, undef, undef, undef, undef, undef, undef, undef, undef, undef, undef, undef, undef, undef, undef, undef, undef, undef, undef, undef], rfl, (by kernel_rfl), Mod.refl _ _, (Nat.zero_le _)⟩ ?_
   rintro _ _ r1 ⟨k, Z, rfl, rfl, hM1, hF1_0⟩
   have M89 := Mod.thin M78 hM1 (by simp)
   refine wp_seq (wp_seq (rg_lit ?_))
   refine wmv (v := .int .i64 ((k : Int))) ?_
   refine wmv (v := .slice A30 DD.length c31) ?_
   refine wl (sv rfl (v := .int .i64 ((DD.length : Int))) (r_len Ty.un29 (ad := A30) (n := DD.length) (c := c31) (by kernel_rfl)) ?_)
   refine wl (sb rfl (r_lt (k := .i64) (m := ((k : Int))) (n := ((DD.length : Int))) (by kernel_rfl) (by kernel_rfl)) ?_)
   intro b90 k91
   refine wnil (then_n ?_)
   refine bcase b90 (fun v92 => ?_) (fun v92 => ?_)
   ·
    have p93 := of_decide_eq_false (k91.trans v92)
    refine wp_cond_false (ebool (b := b90) (by kernel_rfl) v92) ?_
    refine wp_exit (then_x (by nofun) (then_x (by nofun) (inb_hit (then_n (wp_seq (rg_lit ?_))))))
    have h94 := md_ob hM1 nin0 h81
    refine wl (sv rfl (v := .agg #[.int .i64 n1, .int .i64 n2]) (r_loads (k := 0) (by kernel_rfl) Ty.ag24 Ty.sz24 h94 (by kernel_rfl)) ?_)
    refine wl (sc rfl (r_callv (caps := []) (all := [.pointer none, .agg #[.int .i64 n1, .int .i64 n2]]) En.f16 (by kernel_rfl) (by kernel_rfl)) (listNil_at n1 n2) ?_)
    rintro e w95 ⟨rfl, u96⟩
    refine ⟨.tuple #[.slice none 0 0, .int .i64 23], rfl, ?_⟩
    have M97 := Mod.trans M89 (Mod.of_up u96)
    have M98 := Mod.trans hM1 (Mod.of_up u96)
    refine wmv (v := .tuple #[.slice none 0 0, .int .i64 23]) ?_
    refine wl (sv rfl (v := .slice none 0 0) (r_extract (vs := [.slice none 0 0, .int .i64 23]) (by kernel_rfl) rfl) ?_)
    refine wl (sv rfl (v := .int .i64 23) (r_extract (vs := [.slice none 0 0, .int .i64 23]) (by kernel_rfl) rfl) ?_)
    refine was (v := .slice none 0 0) ?_
    refine was (v := .int .i64 23) ?_
    refine wnil (then_n (wp_seq (rg_lit ?_)))
    have h99 := md_ob M98 nin0 h81
    refine wl (sv rfl (v := .agg #[.int .i64 n1, .int .i64 n2]) (r_loads (k := 0) (by kernel_rfl) Ty.ag24 Ty.sz24 h99 (by kernel_rfl)) ?_)
    refine wl (sc rfl (r_callv (caps := []) (all := [.pointer none, .agg #[.int .i64 n1, .int .i64 n2]]) En.f19 (by kernel_rfl) (by kernel_rfl)) (shownNil_at n1 n2) ?_)
    rintro e w100 ⟨rfl, u101⟩
    refine ⟨.tuple #[.string (⟨#[]⟩), .int .i64 23], rfl, ?_⟩
    have M102 := Mod.trans M97 (Mod.of_up u101)
    have M103 := Mod.trans M98 (Mod.of_up u101)
    refine wmv (v := .tuple #[.string (⟨#[]⟩), .int .i64 23]) ?_
    refine wl (sv rfl (v := .string (⟨#[]⟩)) (r_extract (vs := [.string (⟨#[]⟩), .int .i64 23]) (by kernel_rfl) rfl) ?_)
    refine wl (sv rfl (v := .int .i64 23) (r_extract (vs := [.string (⟨#[]⟩), .int .i64 23]) (by kernel_rfl) rfl) ?_)
    refine was (v := .string (⟨#[]⟩)) ?_
    refine was (v := .int .i64 23) ?_
    refine wnil (then_n (wp_seq (rg_lit ?_)))
    refine wmv (v := .int .i64 ((kidK L0 ⟨n1, n2⟩))) ?_
    refine wl (sb rfl (r_eq (k := .i64) (m := ((kidK L0 ⟨n1, n2⟩))) (n := 0) (by kernel_rfl) (by kernel_rfl)) ?_)
    intro b104 k105
    refine wmv (v := .bool b104) ?_
    refine bcase b104 (fun v106 => ?_) (fun v106 => ?_)
    ·
     have p107 := of_decide_eq_false (k105.trans v106)
     exact absurd hk0 p107
    have p107 := of_decide_eq_true (k105.trans v106)
    refine wl (sv (wt (b := b104) rfl (by kernel_rfl) v106) (v := .slice A30 DD.length c31) (r_move (by kernel_rfl)) ?_)
    refine wl (sv (wt (b := b104) rfl (by kernel_rfl) v106) (v := .int .i64 ((DD.length : Int))) (r_len Ty.un29 (ad := A30) (n := DD.length) (c := c31) (by kernel_rfl)) ?_)
    refine wl (sv (wt (b := b104) rfl (by kernel_rfl) v106) (v := .slice A41 (((kidsI ⟨n1, n2⟩ L0)).length) c42) (r_move (by kernel_rfl)) ?_)
    refine wl (sv (wt (b := b104) rfl (by kernel_rfl) v106) (v := .int .i64 (((((kidsI ⟨n1, n2⟩ L0)).length) : Int))) (r_len Ty.un74 (ad := A41) (n := (((kidsI ⟨n1, n2⟩ L0)).length)) (c := c42) (by kernel_rfl)) ?_)
    refine wl (sb (wt (b := b104) rfl (by kernel_rfl) v106) (r_eq (k := .i64) (m := ((DD.length : Int))) (n := (((((kidsI ⟨n1, n2⟩ L0)).length) : Int))) (by kernel_rfl) (by kernel_rfl)) ?_)
    intro b108 k109
    refine wl (sv rfl (v := .bool b108) (r_pkT (ebool (b := b104) (by kernel_rfl) v106) (by kernel_rfl)) ?_)
    refine wmv (v := .bool b108) ?_
    refine bcase b108 (fun v110 => ?_) (fun v110 => ?_)
    ·
     have p111 := of_decide_eq_false (k109.trans v110)
     omega
    have p111 := of_decide_eq_true (k109.trans v110)
    refine wl (sv (wt (b := b108) rfl (by kernel_rfl) v110) (v := .int .i64 23) (r_move (by kernel_rfl)) ?_)
    refine wl (sv (w' := w100) (wt (b := b108) rfl (by kernel_rfl) v110) (v := .bool true) (by kernel_rfl) ?_)
    refine wl (sv rfl (v := .bool true) (r_pkT (ebool (b := b108) (by kernel_rfl) v110) (by kernel_rfl)) ?_)
    refine wmv (v := .bool true) ?_
    refine wl (sv (by kernel_rfl) (v := .int .i64 23) (r_move (by kernel_rfl)) ?_)
    refine wl (sv (w' := w100) (by kernel_rfl) (v := .bool true) (by kernel_rfl) ?_)
    refine wl (sv rfl (v := .bool true) (r_pkT (by kernel_rfl) (by kernel_rfl)) ?_)
    refine wmv (v := .bool true) ?_
    have h112 := md_ob M103 nin0 h81
    refine wl (sv (by kernel_rfl) (v := .agg #[.int .i64 n1, .int .i64 n2]) (r_loads (k := 0) (by kernel_rfl) Ty.ag24 Ty.sz24 h112 (by kernel_rfl)) ?_)
    refine wl (sc (by kernel_rfl) (r_callv (caps := []) (all := [.pointer none, .agg #[.int .i64 n1, .int .i64 n2], .string (⟨#[97]⟩)]) En.f17 (by kernel_rfl) (by kernel_rfl)) (freeNil_at n1 n2 (⟨#[97]⟩)) ?_)
    rintro e w113 ⟨rfl, u114⟩
    refine ⟨.bool false, rfl, ?_⟩
    have M115 := Mod.trans M102 (Mod.of_up u114)
    have M116 := Mod.trans M103 (Mod.of_up u114)
    refine wl (sv (by kernel_rfl) (v := .bool true) (r_not (b := false) (by kernel_rfl)) ?_)
    refine wl (sv rfl (v := .bool true) (r_pkT (by kernel_rfl) (by kernel_rfl)) ?_)
    refine wmv (v := .bool true) ?_
    have h117 := md_ob M116 nin0 h81
    refine wl (sv (by kernel_rfl) (v := .agg #[.int .i64 n1, .int .i64 n2]) (r_loads (k := 0) (by kernel_rfl) Ty.ag24 Ty.sz24 h117 (by kernel_rfl)) ?_)
    refine wl (sc (by kernel_rfl) (r_callv (caps := []) (all := [.pointer none, .agg #[.int .i64 n1, .int .i64 n2]]) En.f34 (by kernel_rfl) (by kernel_rfl)) (clashesNil_at n1 n2) ?_)
    rintro e w118 ⟨rfl, u119⟩
    refine ⟨.slice none 0 0, rfl, ?_⟩
    have M120 := Mod.trans M115 (Mod.of_up u119)
    have M121 := Mod.trans M116 (Mod.of_up u119)
    refine wl (sv (by kernel_rfl) (v := .int .i64 0) (r_len Ty.un69 (ad := none) (n := 0) (c := 0) (by kernel_rfl)) ?_)
    refine wl (sv (w' := w118) (by kernel_rfl) (v := .bool true) (by kernel_rfl) ?_)
    refine wl (sv rfl (v := .bool true) (r_pkT (by kernel_rfl) (by kernel_rfl)) ?_)
    refine wmv (v := .bool true) ?_
    refine wl (sc (by kernel_rfl) (r_callv (caps := []) (all := []) En.f14 (by kernel_rfl) (by kernel_rfl)) (alive18_at (TabIs.up htab (Mod.up M120))) ?_)
    rintro e w122 ⟨rfl, u123⟩
    refine ⟨.bool true, rfl, ?_⟩
    have M124 := Mod.trans M120 (Mod.of_up u123)
    have M125 := Mod.trans M121 (Mod.of_up u123)
    refine wl (sv rfl (v := .bool true) (r_pkT (by kernel_rfl) (by kernel_rfl)) ?_)
    refine was (v := .bool true) ?_
    refine wnil (then_n (wp_ret ?_))
    refine bodyPost_ret (v := .bool true) (res1 rfl (rv_t (by kernel_rfl))) (by kernel_rfl) ?_
    exact ⟨rfl, (Mod.up M124)⟩
   have p93 := of_decide_eq_true (k91.trans v92)
   have q94 : k < DD.length := by omega
   have q95 : k < DD.length := by omega
   refine wp_cond_true (ebool (b := b90) (by kernel_rfl) v92) ?_
   refine wp_skip (then_n (wp_seq (wp_block (wp_seq (rg_lit ?_)))))
   refine wmv (v := .pointer (some ⟨tb, 0, none⟩)) ?_
   refine wmv (v := .slice A30 DD.length c31) ?_
   refine wmv (v := .int .i64 ((k : Int))) ?_
   have h96 := (ERow.up h87 (Mod.up hM1))
   obtain ⟨y97, hy97⟩ : ∃ x, DD[k]? = some x := ⟨_, List.getElem?_eq_getElem (by omega)⟩
   obtain ⟨g97, cp97, cu97, hA97, hg97, hb97, he97⟩ := ERow.get h96 hy97
   injection hA97 with hA97 _ _
   replace he97 : (cu97.toList.drop (0 + k * 5)).take 5 = enC y97 := by rw [Nat.zero_add]; exact he97
   refine wl (sv rfl (v := .pointer (some ⟨g97, 0 + k * 5, none⟩)) (r_ixaddr' (A := A30) (b := g97) (o := 0) (n := DD.length) (c := c31) (sz := 5) (j := ((k : Int))) (by kernel_rfl) hA97 (by kernel_rfl) Ty.un29 Ty.sz35 (by omega) (by omega) (by simp)) ?_)
   refine wl (sv rfl (v := .pointer (some ⟨g97, 0 + k * 5 + 1, none⟩)) (r_fieldAddr (u := .pointer (some ⟨g97, 0 + k * 5, none⟩)) (by kernel_rfl) (fun _ => (by kernel_rfl))) ?_)
   refine wl (sv rfl (v := .agg #[.int .i64 y97.node.t, .int .i64 y97.node.w]) (r_loads (k := 0 + k * 5 + 1) (by kernel_rfl) Ty.ag24 Ty.sz24 hb97 (el_sub he97 1 rfl)) ?_)
   obtain ⟨x98, hxg98, hxh98, hxp98, hxo98, hxd98, hxs98⟩ := kid_of hF (h33 hk0) hy97
   have h105 := (TreeIs.up h86 (Mod.up hM1))
   refine wl (sc rfl (r_callv (caps := []) (all := [.pointer (some ⟨tb, 0, none⟩), .agg #[.int .i64 y97.node.t, .int .i64 y97.node.w]]) En.f20 (by kernel_rfl) (by kernel_rfl)) (get_x h105 ⟨y97.node.t, y97.node.w⟩ (x := x98) (b := true) hxg98 hxh98) ?_)
   rintro e w99 ⟨A100, n101, c102, rfl, h103, u104⟩
   refine ⟨.tuple #[itV x98 (.slice A100 n101 c102), .bool true], rfl, ?_⟩
   have M106 := Mod.trans M89 (Mod.of_up u104)
   have M107 := Mod.trans hM1 (Mod.of_up u104)
   have hdl98 := (Dat.len h103).1
   refine wmv (v := .tuple #[itV x98 (.slice A100 n101 c102), .bool true]) ?_
   refine wl (sv rfl (v := itV x98 (.slice A100 n101 c102)) (r_extract (vs := [itV x98 (.slice A100 n101 c102), .bool true]) (by kernel_rfl) rfl) ?_)
   refine wl (sv rfl (v := .bool true) (r_extract (vs := [itV x98 (.slice A100 n101 c102), .bool true]) (by kernel_rfl) rfl) ?_)
   refine wl (sn rfl (cs := #[.int .i64 0, .int .i64 0, .int .i64 0, .int .i64 0, .string (⟨#[]⟩), .bool false, .bool false, .slice none 0 0, .int .i64 0, .int .i64 0]) (T := 42) (V := fun b => .pointer (some ⟨b, 0, none⟩)) (r_alloc Ty.zv42 rfl) ?_)
   intro b108 w109 e110 h111 u112
   have h113 := md_ob M107 nin0 h81
   have l114 : b1 < b108 := by rw [e110]; exact lt_ob h113
   have h115 := md_ob M107 nin0 h82
   have l116 : r < b108 := by rw [e110]; exact lt_ob h115
   have h117 := md_ob M107 nin0 h83
   have l118 : tb < b108 := by rw [e110]; exact lt_ob h117
   have h119 := md_ob M107 nin0 h84
   have l120 : b57 < b108 := by rw [e110]; exact lt_ob h119
   have h121 := (up_ob u104 hb97)
   have l122 : g97 < b108 := by rw [e110]; exact lt_ob h121
   have g123 : w.heap.size ≤ b108 := by rw [e110]; exact M106.size
   have g124 : w76.heap.size ≤ b108 := by rw [e110]; exact M107.size
   have M125 := Mod.trans M106 (Mod.of_up u112)
   have M126 := Mod.trans M107 (Mod.of_up u112)
   refine wl (ss rfl (k := 0) (v := itV x98 (.slice A100 n101 c102)) (vs := (itC x98 (.slice A100 n101 c102))) (cs' := (itC x98 (.slice A100 n101 c102))) (by kernel_rfl) (by kernel_rfl) rfl Ty.sz42 h111 rfl (Nat.le_of_ble_eq_true rfl) rfl ?_)
   intro w127 h128 c129
   have M130 := Mod.trans' M125 c129 (fun i hi => by injection hi with hi; rw [← hi]; exact g123)
   have M131 := Mod.trans' M126 c129 (fun i hi => by injection hi with hi; rw [← hi]; exact g124)
   refine was (v := .bool true) ?_
   refine wnil (then_n (wp_seq ?_))
   refine rg_all (by kernel_rfl) (by kernel_rfl) ?_
   refine qmv (v := .bool true) ?_
   refine qv rfl (v := .bool false) (fun _ _ => r_not (b := true) (by kernel_rfl)) ?_
   refine qmv (v := .bool false) ?_
   refine qv (by kernel_rfl) (v := .pointer (some ⟨b108, 2, none⟩)) (fun _ _ => r_fieldAddr (u := .pointer (some ⟨b108, 0, none⟩)) (by kernel_rfl) (fun _ => (by kernel_rfl))) ?_
   refine qv (by kernel_rfl) (v := .agg #[.int .i64 x98.parent.t, .int .i64 x98.parent.w]) (fun _ uz => r_loads (k := 2) (by kernel_rfl) Ty.ag24 Ty.sz24 (up_ob uz h128) (by kernel_rfl)) ?_
   have h132 := md_ob M131 nin0 h81
   refine qv (by kernel_rfl) (v := .agg #[.int .i64 n1, .int .i64 n2]) (fun _ uz => r_loads (k := 0) (by kernel_rfl) Ty.ag24 Ty.sz24 (up_ob uz h132) (by kernel_rfl)) ?_
   refine qb (by kernel_rfl) (fun _ _ => r_neS2 (a := x98.parent.t) (b := x98.parent.w) (c := n1) (e := n2) (by kernel_rfl) (by kernel_rfl)) ?_
   intro b133 k134
   refine qv rfl (v := .bool b133) (fun _ _ => r_pkF (by kernel_rfl) (by kernel_rfl)) ?_
   refine qmv (v := .bool b133) ?_
   refine bcase b133 (fun v135 => ?_) (fun v135 => ?_)
   ·
    have p136 := of_decide_eq_false (k134.trans v135)
    refine qv (wt (b := b133) rfl (by kernel_rfl) v135) (v := .pointer (some ⟨b108, 6, none⟩)) (fun _ _ => r_fieldAddr (u := .pointer (some ⟨b108, 0, none⟩)) (by kernel_rfl) (fun _ => (by kernel_rfl))) ?_
    refine qv (wt (b := b133) rfl (by kernel_rfl) v135) (v := .bool x98.gone) (fun _ uz => r_load (k := 6) (by kernel_rfl) Ty.ag4 (up_ob uz h128) (by kernel_rfl)) ?_
    refine qv rfl (v := .bool x98.gone) (fun _ _ => r_pkF (ebool (b := b133) (by kernel_rfl) v135) (by kernel_rfl)) ?_
    refine qmv (v := .bool x98.gone) ?_
    refine bcase x98.gone (fun v137 => ?_) (fun v137 => ?_)
    ·
     refine qv (wt (b := x98.gone) rfl (by kernel_rfl) v137) (v := .pointer (some ⟨b108, 5, none⟩)) (fun _ _ => r_fieldAddr (u := .pointer (some ⟨b108, 0, none⟩)) (by kernel_rfl) (fun _ => (by kernel_rfl))) ?_
     refine qv (wt (b := x98.gone) rfl (by kernel_rfl) v137) (v := .bool x98.dir) (fun _ uz => r_load (k := 5) (by kernel_rfl) Ty.ag4 (up_ob uz h128) (by kernel_rfl)) ?_
     refine qv (wt (b := x98.gone) rfl (by kernel_rfl) v137) (v := .slice A30 DD.length c31) (fun _ _ => r_move (by kernel_rfl)) ?_
     refine qv (wt (b := x98.gone) rfl (by kernel_rfl) v137) (v := .int .i64 ((k : Int))) (fun _ _ => r_move (by kernel_rfl)) ?_
     have h138 := (ERow.up h87 (Mod.up M131))
     obtain ⟨g139, cp139, cu139, hA139, hg139, hb139, he139⟩ := ERow.get h138 hy97
     injection hA139 with hA139 _ _
     replace he139 : (cu139.toList.drop (0 + k * 5)).take 5 = enC y97 := by rw [Nat.zero_add]; exact he139
     refine qv (wt (b := x98.gone) rfl (by kernel_rfl) v137) (v := .pointer (some ⟨g139, 0 + k * 5, none⟩)) (fun _ _ => r_ixaddr' (A := A30) (b := g139) (o := 0) (n := DD.length) (c := c31) (sz := 5) (j := ((k : Int))) (by kernel_rfl) hA139 (by kernel_rfl) Ty.un29 Ty.sz35 (by omega) (by omega) (by simp)) ?_
     refine qv (wt (b := x98.gone) rfl (by kernel_rfl) v137) (v := .pointer (some ⟨g139, 0 + k * 5 + 3, none⟩)) (fun _ _ => r_fieldAddr (u := .pointer (some ⟨g139, 0 + k * 5, none⟩)) (by kernel_rfl) (fun _ => (by kernel_rfl))) ?_
     refine qv (wt (b := x98.gone) rfl (by kernel_rfl) v137) (v := .bool y97.dir) (fun _ uz => r_load (k := 0 + k * 5 + 3) (v := .bool y97.dir) (by kernel_rfl) Ty.ag4 (up_ob uz hb139) (el_get he139 3 rfl)) ?_
     refine qv (wt (b := x98.gone) rfl (by kernel_rfl) v137) (v := .bool false) (fun _ _ => r_neb_eq hxd98 (by kernel_rfl) (by kernel_rfl) Tryz.underlying4) ?_
     refine qv rfl (v := .bool false) (fun _ _ => r_pkF (ebool (b := x98.gone) (by kernel_rfl) v137) (by kernel_rfl)) ?_
     refine qmv (v := .bool false) ?_
     refine qv (by kernel_rfl) (v := .pointer (some ⟨b108, 7, none⟩)) (fun _ _ => r_fieldAddr (u := .pointer (some ⟨b108, 0, none⟩)) (by kernel_rfl) (fun _ => (by kernel_rfl))) ?_
     refine qv (by kernel_rfl) (v := .slice A100 n101 c102) (fun _ uz => r_load (k := 7) (by kernel_rfl) Ty.ag40 (up_ob uz h128) (by kernel_rfl)) ?_
     refine qv (by kernel_rfl) (v := .int .i64 ((n101 : Int))) (fun _ _ => r_len Ty.un40 (ad := A100) (n := n101) (c := c102) (by kernel_rfl)) ?_
     refine qv (by kernel_rfl) (v := .slice A30 DD.length c31) (fun _ _ => r_move (by kernel_rfl)) ?_
     refine qv (by kernel_rfl) (v := .int .i64 ((k : Int))) (fun _ _ => r_move (by kernel_rfl)) ?_
     obtain ⟨g140, cp140, cu140, hA140, hg140, hb140, he140⟩ := ERow.get h138 hy97
     injection hA140 with hA140 _ _
     replace he140 : (cu140.toList.drop (0 + k * 5)).take 5 = enC y97 := by rw [Nat.zero_add]; exact he140
     refine qv (by kernel_rfl) (v := .pointer (some ⟨g140, 0 + k * 5, none⟩)) (fun _ _ => r_ixaddr' (A := A30) (b := g140) (o := 0) (n := DD.length) (c := c31) (sz := 5) (j := ((k : Int))) (by kernel_rfl) hA140 (by kernel_rfl) Ty.un29 Ty.sz35 (by omega) (by omega) (by simp)) ?_
     refine qv (by kernel_rfl) (v := .pointer (some ⟨g140, 0 + k * 5 + 4, none⟩)) (fun _ _ => r_fieldAddr (u := .pointer (some ⟨g140, 0 + k * 5, none⟩)) (by kernel_rfl) (fun _ => (by kernel_rfl))) ?_
     refine qv (by kernel_rfl) (v := .int .i64 y97.size) (fun _ uz => r_load (k := 0 + k * 5 + 4) (v := .int .i64 y97.size) (by kernel_rfl) Ty.ag3 (up_ob uz hb140) (el_get he140 4 rfl)) ?_
     refine qb (by kernel_rfl) (fun _ _ => r_ne (k := .i64) (m := ((n101 : Int))) (n := y97.size) (by kernel_rfl) (by kernel_rfl)) ?_
     intro b141 k142
     refine qv rfl (v := .bool b141) (fun _ _ => r_pkF (by kernel_rfl) (by kernel_rfl)) ?_
     refine qnil ?_
     intro w143 u144
     have M145 := Mod.trans M130 (Mod.of_up u144)
     have M146 := Mod.trans M131 (Mod.of_up u144)
     refine then_n ?_
     refine bcase b141 (fun v147 => ?_) (fun v147 => ?_)
     ·
      have p148 := of_decide_eq_false (k142.trans v147)
      refine wp_cond_false (ebool (b := b141) (by kernel_rfl) v147) ?_
      refine wp_skip (inb_n (then_n (rg_lit ?_)))
      refine wmv (v := .int .i64 ((k : Int))) ?_
      refine wl (sv rfl (v := .int .i64 (((k + 1 : Nat) : Int))) (r_add (k := .i64) (m := ((k : Int))) (n := 1) (c := (((k + 1 : Nat) : Int))) (by kernel_rfl) (by kernel_rfl) ((IntWalk.i64_in _ (by omega)).trans (by omega))) ?_)
      refine was (v := .int .i64 (((k + 1 : Nat) : Int))) ?_
      refine wnil (then_n ?_)
      refine ⟨DD.length - (k + 1), ?_, (k + 1), tget [undef, undef, undef, undef, (Z 4), undef, undef, undef, undef, undef, undef, undef, .pointer (some ⟨b108, 0, none⟩), .bool true, undef, undef, undef, undef, undef, undef, undef, undef, undef, undef, undef, undef, undef, undef, undef, undef, undef, undef, undef, undef, undef, undef, undef, undef, undef, undef, undef, undef, undef, undef, undef, undef, undef, undef, undef, undef, undef, undef, undef, undef, undef, undef, undef, undef, undef, undef, undef, undef, undef, undef, undef, undef, undef, undef, undef, undef, undef, undef, undef, undef, .int .i64 ((k : Int)), .slice A30 DD.length c31, .int .i64 ((DD.length : Int)), .bool b90, .int .i64 ((k : Int)), .int .i64 (((k + 1 : Nat) : Int)), .tuple #[itV x98 (.slice A100 n101 c102), .bool true], .pointer (some ⟨tb, 0, none⟩), .slice A30 DD.length c31, .int .i64 ((k : Int)), .pointer (some ⟨g97, 0 + k * 5, none⟩), .pointer (some ⟨g97, 0 + k * 5 + 1, none⟩), .agg #[.int .i64 y97.node.t, .int .i64 y97.node.w], .tuple #[itV x98 (.slice A100 n101 c102), .bool true], itV x98 (.slice A100 n101 c102), .bool true, .bool true, .bool false, .bool false, .pointer (some ⟨b108, 2, none⟩), .agg #[.int .i64 x98.parent.t, .int .i64 x98.parent.w], .agg #[.int .i64 n1, .int .i64 n2], .bool b133, .bool b133, .bool b133, .pointer (some ⟨b108, 6, none⟩), .bool x98.gone, .bool x98.gone, .bool x98.gone, .pointer (some ⟨b108, 5, none⟩), .bool x98.dir, .slice A30 DD.length c31, .int .i64 ((k : Int)), .pointer (some ⟨g139, 0 + k * 5, none⟩), .pointer (some ⟨g139, 0 + k * 5 + 3, none⟩), .bool y97.dir, .bool false, .bool false, .bool false, .pointer (some ⟨b108, 7, none⟩), .slice A100 n101 c102, .int .i64 ((n101 : Int)), .slice A30 DD.length c31, .int .i64 ((k : Int)), .pointer (some ⟨g140, 0 + k * 5, none⟩), .pointer (some ⟨g140, 0 + k * 5 + 4, none⟩), .int .i64 y97.size, .bool b141, .bool b141], rfl, (by kernel_rfl), M146, (by omega)⟩
      · omega
     have p148 := of_decide_eq_true (k142.trans v147)
     exact absurd (by rw [← hdl98]; exact hxs98) p148
    exact absurd (hxo98.symm.trans v137) (by decide)
   have p136 := of_decide_eq_true (k134.trans v135)
   exact absurd hxp98 p136
  refine wl (sv (wt (b := (hasI L0 ⟨n1, n2⟩)) rfl (by kernel_rfl) v80) (v := .pointer (some ⟨b57, 5, none⟩)) (r_fieldAddr (u := .pointer (some ⟨b57, 0, none⟩)) (by kernel_rfl) (fun _ => (by kernel_rfl))) ?_)
  have h81 := (up_ob u77 h71)
  refine wl (sv (wt (b := (hasI L0 ⟨n1, n2⟩)) rfl (by kernel_rfl) v80) (v := .bool ((gotI L0 ⟨n1, n2⟩).dir)) (r_load (k := 5) (by kernel_rfl) Ty.ag4 h81 (by kernel_rfl)) ?_)
  refine wl (sv (wt (b := (hasI L0 ⟨n1, n2⟩)) rfl (by kernel_rfl) v80) (v := .bool (!((gotI L0 ⟨n1, n2⟩).dir))) (r_not (b := ((gotI L0 ⟨n1, n2⟩).dir)) (by kernel_rfl)) ?_)
  refine wl (sv rfl (v := .bool (!((gotI L0 ⟨n1, n2⟩).dir))) (r_pkT (ebool (b := (hasI L0 ⟨n1, n2⟩)) (by kernel_rfl) v80) (by kernel_rfl)) ?_)
  refine was (v := .bool (!((gotI L0 ⟨n1, n2⟩).dir))) ?_
  refine wnil (then_n ?_)
  refine bcase ((gotI L0 ⟨n1, n2⟩).dir) (fun v82 => ?_) (fun v82 => ?_)
  ·
   have hkk := kidK_14 v79 v80 v82
   have hD0 : DD.length = 0 := by rw [h34 (by rw [hkk]; decide)]; rfl
   have hK0 := kids_file hF v80 v82
   refine wp_cond_true (ebool (b := !((gotI L0 ⟨n1, n2⟩).dir)) (by kernel_rfl) (bneg v82)) ?_
   refine wp_seq (rg_lit ?_)
   refine wmv (v := .int .i64 ((kidK L0 ⟨n1, n2⟩))) ?_
   refine wl (sb rfl (r_eq (k := .i64) (m := ((kidK L0 ⟨n1, n2⟩))) (n := 14) (by kernel_rfl) (by kernel_rfl)) ?_)
   intro b83 k84
   refine wmv (v := .bool b83) ?_
   refine bcase b83 (fun v85 => ?_) (fun v85 => ?_)
   ·
    have p86 := of_decide_eq_false (k84.trans v85)
    exact absurd hkk p86
   have p86 := of_decide_eq_true (k84.trans v85)
   refine wl (sv (wt (b := b83) rfl (by kernel_rfl) v85) (v := .slice A30 DD.length c31) (r_move (by kernel_rfl)) ?_)
   refine wl (sv (wt (b := b83) rfl (by kernel_rfl) v85) (v := .int .i64 ((DD.length : Int))) (r_len Ty.un29 (ad := A30) (n := DD.length) (c := c31) (by kernel_rfl)) ?_)
   refine wl (sv (wt (b := b83) rfl (by kernel_rfl) v85) (v := .slice A41 (((kidsI ⟨n1, n2⟩ L0)).length) c42) (r_move (by kernel_rfl)) ?_)
   refine wl (sv (wt (b := b83) rfl (by kernel_rfl) v85) (v := .int .i64 (((((kidsI ⟨n1, n2⟩ L0)).length) : Int))) (r_len Ty.un74 (ad := A41) (n := (((kidsI ⟨n1, n2⟩ L0)).length)) (c := c42) (by kernel_rfl)) ?_)
   refine wl (sv (wt (b := b83) rfl (by kernel_rfl) v85) (v := .int .i64 (((DD.length : Int)) + (((((kidsI ⟨n1, n2⟩ L0)).length) : Int)))) (r_add (k := .i64) (m := ((DD.length : Int))) (n := (((((kidsI ⟨n1, n2⟩ L0)).length) : Int))) (by kernel_rfl) (by kernel_rfl) (IntWalk.i64_in _ (by omega))) ?_)
   refine wl (sb (wt (b := b83) rfl (by kernel_rfl) v85) (r_eq (k := .i64) (m := (((DD.length : Int)) + (((((kidsI ⟨n1, n2⟩ L0)).length) : Int)))) (n := 0) (by kernel_rfl) (by kernel_rfl)) ?_)
   intro b87 k88
   refine wl (sv rfl (v := .bool b87) (r_pkT (ebool (b := b83) (by kernel_rfl) v85) (by kernel_rfl)) ?_)
   refine wmv (v := .bool b87) ?_
   refine bcase b87 (fun v89 => ?_) (fun v89 => ?_)
   ·
    have p90 := of_decide_eq_false (k88.trans v89)
    omega
   have p90 := of_decide_eq_true (k88.trans v89)
   refine wl (sc (wt (b := b87) rfl (by kernel_rfl) v89) (r_callv (caps := []) (all := []) En.f14 (by kernel_rfl) (by kernel_rfl)) (alive18_at (TabIs.up htab (Mod.up M78))) ?_)
   rintro e w91 ⟨rfl, u92⟩
   refine ⟨.bool true, rfl, ?_⟩
   have M93 := Mod.trans M78 (Mod.of_up u92)
   refine wl (sv rfl (v := .bool true) (r_pkT (ebool (b := b87) (by kernel_rfl) v89) (by kernel_rfl)) ?_)
   refine was (v := .bool true) ?_
   refine wnil (then_n (wp_ret (inb_r (then_x (by nofun) ?_))))
   refine bodyPost_ret (v := .bool true) (res1 rfl (rv_t (by kernel_rfl))) (by kernel_rfl) ?_
   exact ⟨rfl, (Mod.up M93)⟩
  have hk0 : kidK L0 ⟨n1, n2⟩ = 0 := kidK_0b v79 v80 v82
  have hln := listed_len (h33 hk0)
  have hkl := kids_300 hF ⟨n1, n2⟩
  refine wp_cond_false (ebool (b := !((gotI L0 ⟨n1, n2⟩).dir)) (by kernel_rfl) (bneg v82)) ?_
  refine wp_skip (inb_n (then_n (wp_seq (wp_seq (rg_lit ?_)))))
  refine was (v := .int .i64 0) ?_
  refine wnil (then_n (wp_block ?_))
  have h83 := (up_ob u77 h74)
  have h84 := (up_ob u77 (chg_ob c72 (Nat.ne_of_lt l65) (up_ob u61 h64)))
  have h85 := (up_ob u77 (chg_ob c72 (Nat.ne_of_lt l67) (up_ob u61 h66)))
  have h86 := (OpRow.up hops (Mod.up M78))
  have h87 := (TreeIs.up h75 u77)
  have h88 := (ERow.up h36 (up_up (up_chgn (up_up (up_up u44 u55) u61) c72 (by rw [e59]; exact (up_up u44 u55).size)) u77))
  have h89 := (Dat.up h54 (up_up (up_chgn u61 c72 (by rw [e59]; exact Nat.le_refl _)) u77))
  refine lp (fun n a r2 => ∃ (k : Nat) (Z : Nat → Value), (n = DD.length - k) ∧ (a = ⟨#[.slice lA os.length lc, .agg #[.int .i64 n1, .int .i64 n2], undef, .pointer (some ⟨b1, 0, none⟩), (Z 4), .pointer (some ⟨tb, 0, none⟩), .slice A30 DD.length c31, .int .i64 ((kidK L0 ⟨n1, n2⟩)), .slice A41 (((kidsI ⟨n1, n2⟩ L0)).length) c42, .pointer (some ⟨b57, 0, none⟩), .bool ((hasI L0 ⟨n1, n2⟩)), .int .i64 ((k : Int)), (Z 12), (Z 13), undef, undef, undef, undef, .slice lA os.length lc, .bool lb9, .bool (!lb9), undef, .slice lA os.length lc, .pointer (some ⟨tb, 0, none⟩), .tuple #[.slice A30 DD.length c31, .int .i64 ((kidK L0 ⟨n1, n2⟩))], .pointer (some ⟨tb, 0, none⟩), .agg #[.int .i64 n1, .int .i64 n2], .tuple #[.slice A30 DD.length c31, .int .i64 ((kidK L0 ⟨n1, n2⟩))], .slice A30 DD.length c31, .int .i64 ((kidK L0 ⟨n1, n2⟩)), .pointer (some ⟨tb, 0, none⟩), .agg #[.int .i64 n1, .int .i64 n2], .slice A41 (((kidsI ⟨n1, n2⟩ L0)).length) c42, .tuple #[itV (gotI L0 ⟨n1, n2⟩) (.slice A51 n52 c53), .bool ((hasI L0 ⟨n1, n2⟩))], .pointer (some ⟨tb, 0, none⟩), .agg #[.int .i64 n1, .int .i64 n2], .tuple #[itV (gotI L0 ⟨n1, n2⟩) (.slice A51 n52 c53), .bool ((hasI L0 ⟨n1, n2⟩))], itV (gotI L0 ⟨n1, n2⟩) (.slice A51 n52 c53), .bool ((hasI L0 ⟨n1, n2⟩)), .bool (!((hangsI L0 301 ⟨n1, n2⟩))), .pointer (some ⟨tb, 0, none⟩), .agg #[.int .i64 n1, .int .i64 n2], .bool ((hangsI L0 301 ⟨n1, n2⟩)), .bool (!((hangsI L0 301 ⟨n1, n2⟩))), undef, undef, undef, undef, undef, undef, undef, undef, undef, undef, .bool (!((gotI L0 ⟨n1, n2⟩).dir)), .bool ((hasI L0 ⟨n1, n2⟩)), .bool ((hasI L0 ⟨n1, n2⟩)), .pointer (some ⟨b57, 5, none⟩), .bool ((gotI L0 ⟨n1, n2⟩).dir), .bool (!((gotI L0 ⟨n1, n2⟩).dir)), .bool (!((gotI L0 ⟨n1, n2⟩).dir)), undef, undef, undef, undef, undef, undef, undef, undef, undef, undef, undef, undef, undef, (Z 74), (Z 75), (Z 76), (Z 77), (Z 78), (Z 79), (Z 80), (Z 81), (Z 82), (Z 83), (Z 84), (Z 85), (Z 86), (Z 87), (Z 88), (Z 89), (Z 90), (Z 91), (Z 92), (Z 93), (Z 94), (Z 95), (Z 96), (Z 97), (Z 98), (Z 99), (Z 100), (Z 101), (Z 102), (Z 103), (Z 104), (Z 105), (Z 106), (Z 107), (Z 108), (Z 109), (Z 110), (Z 111), (Z 112), (Z 113), (Z 114), (Z 115), (Z 116), (Z 117), (Z 118), (Z 119), (Z 120), (Z 121), (Z 122), undef, undef, undef, undef, undef, undef, undef, undef, undef, undef, undef, undef, undef, undef, undef, undef, undef, undef, undef, undef, undef, undef, undef, undef, undef, undef, undef, undef, undef, undef, undef, undef, undef, undef, undef, undef, undef, undef, undef, undef, undef], []⟩) ∧ (Mod [] w76 r2) ∧ (k ≤ DD.length)) ⟨_, 0, tget [undef, undef, undef, undef, .bool false, undef, undef, undef, undef, undef, undef, undef, undef, undef, undef, undef, undef, undef, undef, undef, undef, undef, undef, undef, undef, undef, undef, undef, undef, undef, undef, undef, undef, undef, undef, undef, undef, undef, undef, undef, undef, undef, undef, undef, undef, undef, undef, undef, undef, undef, undef, undef, undef, undef, undef, undef, undef, undef, undef, undef, undef, undef, undef, undef, undef, undef, undef, undef, undef, undef, undef, undef, undef, undef, undef, undef, undef, undef, undef, undef, undef, undef, undef, undef, undef, undef, undef, undef, undef, undef, undef, undef, undef, undef, undef, undef, undef, undef, undef, undef, undef, undef, undef, undef, undef, undef, undef, undef, undef, undef, undef, undef, undef, undef, undef, undef, undef, undef, undef, undef, undef, undef, undef], rfl, (by kernel_rfl), Mod.refl _ _, (Nat.zero_le _)⟩ ?_
  rintro _ _ r2 ⟨k, Z, rfl, rfl, hM2, hF2_0⟩
  have M90 := Mod.thin M78 hM2 (by simp)
  refine wp_seq (wp_seq (rg_lit ?_))
  refine wmv (v := .int .i64 ((k : Int))) ?_
  refine wmv (v := .slice A30 DD.length c31) ?_
  refine wl (sv rfl (v := .int .i64 ((DD.length : Int))) (r_len Ty.un29 (ad := A30) (n := DD.length) (c := c31) (by kernel_rfl)) ?_)
  refine wl (sb rfl (r_lt (k := .i64) (m := ((k : Int))) (n := ((DD.length : Int))) (by kernel_rfl) (by kernel_rfl)) ?_)
  intro b91 k92
  refine wnil (then_n ?_)
  refine bcase b91 (fun v93 => ?_) (fun v93 => ?_)
  ·
   have p94 := of_decide_eq_false (k92.trans v93)
   refine wp_cond_false (ebool (b := b91) (by kernel_rfl) v93) ?_
   refine wp_exit (then_x (by nofun) (then_x (by nofun) (inb_hit (then_n (wp_seq (rg_lit ?_))))))
   have h95 := md_ob hM2 nin0 h83
   refine wl (sv rfl (v := .agg #[.int .i64 n1, .int .i64 n2]) (r_loads (k := 0) (by kernel_rfl) Ty.ag24 Ty.sz24 h95 (by kernel_rfl)) ?_)
   refine wl (sc rfl (r_callv (caps := []) (all := [.pointer none, .agg #[.int .i64 n1, .int .i64 n2]]) En.f16 (by kernel_rfl) (by kernel_rfl)) (listNil_at n1 n2) ?_)
   rintro e w96 ⟨rfl, u97⟩
   refine ⟨.tuple #[.slice none 0 0, .int .i64 23], rfl, ?_⟩
   have M98 := Mod.trans M90 (Mod.of_up u97)
   have M99 := Mod.trans hM2 (Mod.of_up u97)
   refine wmv (v := .tuple #[.slice none 0 0, .int .i64 23]) ?_
   refine wl (sv rfl (v := .slice none 0 0) (r_extract (vs := [.slice none 0 0, .int .i64 23]) (by kernel_rfl) rfl) ?_)
   refine wl (sv rfl (v := .int .i64 23) (r_extract (vs := [.slice none 0 0, .int .i64 23]) (by kernel_rfl) rfl) ?_)
   refine was (v := .slice none 0 0) ?_
   refine was (v := .int .i64 23) ?_
   refine wnil (then_n (wp_seq (rg_lit ?_)))
   have h100 := md_ob M99 nin0 h83
   refine wl (sv rfl (v := .agg #[.int .i64 n1, .int .i64 n2]) (r_loads (k := 0) (by kernel_rfl) Ty.ag24 Ty.sz24 h100 (by kernel_rfl)) ?_)
   refine wl (sc rfl (r_callv (caps := []) (all := [.pointer none, .agg #[.int .i64 n1, .int .i64 n2]]) En.f19 (by kernel_rfl) (by kernel_rfl)) (shownNil_at n1 n2) ?_)
   rintro e w101 ⟨rfl, u102⟩
   refine ⟨.tuple #[.string (⟨#[]⟩), .int .i64 23], rfl, ?_⟩
   have M103 := Mod.trans M98 (Mod.of_up u102)
   have M104 := Mod.trans M99 (Mod.of_up u102)
   refine wmv (v := .tuple #[.string (⟨#[]⟩), .int .i64 23]) ?_
   refine wl (sv rfl (v := .string (⟨#[]⟩)) (r_extract (vs := [.string (⟨#[]⟩), .int .i64 23]) (by kernel_rfl) rfl) ?_)
   refine wl (sv rfl (v := .int .i64 23) (r_extract (vs := [.string (⟨#[]⟩), .int .i64 23]) (by kernel_rfl) rfl) ?_)
   refine was (v := .string (⟨#[]⟩)) ?_
   refine was (v := .int .i64 23) ?_
   refine wnil (then_n (wp_seq (rg_lit ?_)))
   refine wmv (v := .int .i64 ((kidK L0 ⟨n1, n2⟩))) ?_
   refine wl (sb rfl (r_eq (k := .i64) (m := ((kidK L0 ⟨n1, n2⟩))) (n := 0) (by kernel_rfl) (by kernel_rfl)) ?_)
   intro b105 k106
   refine wmv (v := .bool b105) ?_
   refine bcase b105 (fun v107 => ?_) (fun v107 => ?_)
   ·
    have p108 := of_decide_eq_false (k106.trans v107)
    exact absurd hk0 p108
   have p108 := of_decide_eq_true (k106.trans v107)
   refine wl (sv (wt (b := b105) rfl (by kernel_rfl) v107) (v := .slice A30 DD.length c31) (r_move (by kernel_rfl)) ?_)
   refine wl (sv (wt (b := b105) rfl (by kernel_rfl) v107) (v := .int .i64 ((DD.length : Int))) (r_len Ty.un29 (ad := A30) (n := DD.length) (c := c31) (by kernel_rfl)) ?_)
   refine wl (sv (wt (b := b105) rfl (by kernel_rfl) v107) (v := .slice A41 (((kidsI ⟨n1, n2⟩ L0)).length) c42) (r_move (by kernel_rfl)) ?_)
   refine wl (sv (wt (b := b105) rfl (by kernel_rfl) v107) (v := .int .i64 (((((kidsI ⟨n1, n2⟩ L0)).length) : Int))) (r_len Ty.un74 (ad := A41) (n := (((kidsI ⟨n1, n2⟩ L0)).length)) (c := c42) (by kernel_rfl)) ?_)
   refine wl (sb (wt (b := b105) rfl (by kernel_rfl) v107) (r_eq (k := .i64) (m := ((DD.length : Int))) (n := (((((kidsI ⟨n1, n2⟩ L0)).length) : Int))) (by kernel_rfl) (by kernel_rfl)) ?_)
   intro b109 k110
   refine wl (sv rfl (v := .bool b109) (r_pkT (ebool (b := b105) (by kernel_rfl) v107) (by kernel_rfl)) ?_)
   refine wmv (v := .bool b109) ?_
   refine bcase b109 (fun v111 => ?_) (fun v111 => ?_)
   ·
    have p112 := of_decide_eq_false (k110.trans v111)
    omega
   have p112 := of_decide_eq_true (k110.trans v111)
   refine wl (sv (wt (b := b109) rfl (by kernel_rfl) v111) (v := .int .i64 23) (r_move (by kernel_rfl)) ?_)
   refine wl (sv (w' := w101) (wt (b := b109) rfl (by kernel_rfl) v111) (v := .bool true) (by kernel_rfl) ?_)
   refine wl (sv rfl (v := .bool true) (r_pkT (ebool (b := b109) (by kernel_rfl) v111) (by kernel_rfl)) ?_)
   refine wmv (v := .bool true) ?_
   refine wl (sv (by kernel_rfl) (v := .int .i64 23) (r_move (by kernel_rfl)) ?_)
   refine wl (sv (w' := w101) (by kernel_rfl) (v := .bool true) (by kernel_rfl) ?_)
   refine wl (sv rfl (v := .bool true) (r_pkT (by kernel_rfl) (by kernel_rfl)) ?_)
   refine wmv (v := .bool true) ?_
   have h113 := md_ob M104 nin0 h83
   refine wl (sv (by kernel_rfl) (v := .agg #[.int .i64 n1, .int .i64 n2]) (r_loads (k := 0) (by kernel_rfl) Ty.ag24 Ty.sz24 h113 (by kernel_rfl)) ?_)
   refine wl (sc (by kernel_rfl) (r_callv (caps := []) (all := [.pointer none, .agg #[.int .i64 n1, .int .i64 n2], .string (⟨#[97]⟩)]) En.f17 (by kernel_rfl) (by kernel_rfl)) (freeNil_at n1 n2 (⟨#[97]⟩)) ?_)
   rintro e w114 ⟨rfl, u115⟩
   refine ⟨.bool false, rfl, ?_⟩
   have M116 := Mod.trans M103 (Mod.of_up u115)
   have M117 := Mod.trans M104 (Mod.of_up u115)
   refine wl (sv (by kernel_rfl) (v := .bool true) (r_not (b := false) (by kernel_rfl)) ?_)
   refine wl (sv rfl (v := .bool true) (r_pkT (by kernel_rfl) (by kernel_rfl)) ?_)
   refine wmv (v := .bool true) ?_
   have h118 := md_ob M117 nin0 h83
   refine wl (sv (by kernel_rfl) (v := .agg #[.int .i64 n1, .int .i64 n2]) (r_loads (k := 0) (by kernel_rfl) Ty.ag24 Ty.sz24 h118 (by kernel_rfl)) ?_)
   refine wl (sc (by kernel_rfl) (r_callv (caps := []) (all := [.pointer none, .agg #[.int .i64 n1, .int .i64 n2]]) En.f34 (by kernel_rfl) (by kernel_rfl)) (clashesNil_at n1 n2) ?_)
   rintro e w119 ⟨rfl, u120⟩
   refine ⟨.slice none 0 0, rfl, ?_⟩
   have M121 := Mod.trans M116 (Mod.of_up u120)
   have M122 := Mod.trans M117 (Mod.of_up u120)
   refine wl (sv (by kernel_rfl) (v := .int .i64 0) (r_len Ty.un69 (ad := none) (n := 0) (c := 0) (by kernel_rfl)) ?_)
   refine wl (sv (w' := w119) (by kernel_rfl) (v := .bool true) (by kernel_rfl) ?_)
   refine wl (sv rfl (v := .bool true) (r_pkT (by kernel_rfl) (by kernel_rfl)) ?_)
   refine wmv (v := .bool true) ?_
   refine wl (sc (by kernel_rfl) (r_callv (caps := []) (all := []) En.f14 (by kernel_rfl) (by kernel_rfl)) (alive18_at (TabIs.up htab (Mod.up M121))) ?_)
   rintro e w123 ⟨rfl, u124⟩
   refine ⟨.bool true, rfl, ?_⟩
   have M125 := Mod.trans M121 (Mod.of_up u124)
   have M126 := Mod.trans M122 (Mod.of_up u124)
   refine wl (sv rfl (v := .bool true) (r_pkT (by kernel_rfl) (by kernel_rfl)) ?_)
   refine was (v := .bool true) ?_
   refine wnil (then_n (wp_ret ?_))
   refine bodyPost_ret (v := .bool true) (res1 rfl (rv_t (by kernel_rfl))) (by kernel_rfl) ?_
   exact ⟨rfl, (Mod.up M125)⟩
  have p94 := of_decide_eq_true (k92.trans v93)
  have q95 : k < DD.length := by omega
  have q96 : k < DD.length := by omega
  refine wp_cond_true (ebool (b := b91) (by kernel_rfl) v93) ?_
  refine wp_skip (then_n (wp_seq (wp_block (wp_seq (rg_lit ?_)))))
  refine wmv (v := .pointer (some ⟨tb, 0, none⟩)) ?_
  refine wmv (v := .slice A30 DD.length c31) ?_
  refine wmv (v := .int .i64 ((k : Int))) ?_
  have h97 := (ERow.up h88 (Mod.up hM2))
  obtain ⟨y98, hy98⟩ : ∃ x, DD[k]? = some x := ⟨_, List.getElem?_eq_getElem (by omega)⟩
  obtain ⟨g98, cp98, cu98, hA98, hg98, hb98, he98⟩ := ERow.get h97 hy98
  injection hA98 with hA98 _ _
  replace he98 : (cu98.toList.drop (0 + k * 5)).take 5 = enC y98 := by rw [Nat.zero_add]; exact he98
  refine wl (sv rfl (v := .pointer (some ⟨g98, 0 + k * 5, none⟩)) (r_ixaddr' (A := A30) (b := g98) (o := 0) (n := DD.length) (c := c31) (sz := 5) (j := ((k : Int))) (by kernel_rfl) hA98 (by kernel_rfl) Ty.un29 Ty.sz35 (by omega) (by omega) (by simp)) ?_)
  refine wl (sv rfl (v := .pointer (some ⟨g98, 0 + k * 5 + 1, none⟩)) (r_fieldAddr (u := .pointer (some ⟨g98, 0 + k * 5, none⟩)) (by kernel_rfl) (fun _ => (by kernel_rfl))) ?_)
  refine wl (sv rfl (v := .agg #[.int .i64 y98.node.t, .int .i64 y98.node.w]) (r_loads (k := 0 + k * 5 + 1) (by kernel_rfl) Ty.ag24 Ty.sz24 hb98 (el_sub he98 1 rfl)) ?_)
  obtain ⟨x99, hxg99, hxh99, hxp99, hxo99, hxd99, hxs99⟩ := kid_of hF (h33 hk0) hy98
  have h106 := (TreeIs.up h87 (Mod.up hM2))
  refine wl (sc rfl (r_callv (caps := []) (all := [.pointer (some ⟨tb, 0, none⟩), .agg #[.int .i64 y98.node.t, .int .i64 y98.node.w]]) En.f20 (by kernel_rfl) (by kernel_rfl)) (get_x h106 ⟨y98.node.t, y98.node.w⟩ (x := x99) (b := true) hxg99 hxh99) ?_)
  rintro e w100 ⟨A101, n102, c103, rfl, h104, u105⟩
  refine ⟨.tuple #[itV x99 (.slice A101 n102 c103), .bool true], rfl, ?_⟩
  have M107 := Mod.trans M90 (Mod.of_up u105)
  have M108 := Mod.trans hM2 (Mod.of_up u105)
  have hdl99 := (Dat.len h104).1
  refine wmv (v := .tuple #[itV x99 (.slice A101 n102 c103), .bool true]) ?_
  refine wl (sv rfl (v := itV x99 (.slice A101 n102 c103)) (r_extract (vs := [itV x99 (.slice A101 n102 c103), .bool true]) (by kernel_rfl) rfl) ?_)
  refine wl (sv rfl (v := .bool true) (r_extract (vs := [itV x99 (.slice A101 n102 c103), .bool true]) (by kernel_rfl) rfl) ?_)
  refine wl (sn rfl (cs := #[.int .i64 0, .int .i64 0, .int .i64 0, .int .i64 0, .string (⟨#[]⟩), .bool false, .bool false, .slice none 0 0, .int .i64 0, .int .i64 0]) (T := 42) (V := fun b => .pointer (some ⟨b, 0, none⟩)) (r_alloc Ty.zv42 rfl) ?_)
  intro b109 w110 e111 h112 u113
  have h114 := md_ob M108 nin0 h83
  have l115 : b1 < b109 := by rw [e111]; exact lt_ob h114
  have h116 := md_ob M108 nin0 h84
  have l117 : r < b109 := by rw [e111]; exact lt_ob h116
  have h118 := md_ob M108 nin0 h85
  have l119 : tb < b109 := by rw [e111]; exact lt_ob h118
  have h120 := md_ob M108 nin0 h81
  have l121 : b57 < b109 := by rw [e111]; exact lt_ob h120
  have h122 := (up_ob u105 hb98)
  have l123 : g98 < b109 := by rw [e111]; exact lt_ob h122
  have g124 : w.heap.size ≤ b109 := by rw [e111]; exact M107.size
  have g125 : w76.heap.size ≤ b109 := by rw [e111]; exact M108.size
  have M126 := Mod.trans M107 (Mod.of_up u113)
  have M127 := Mod.trans M108 (Mod.of_up u113)
  refine wl (ss rfl (k := 0) (v := itV x99 (.slice A101 n102 c103)) (vs := (itC x99 (.slice A101 n102 c103))) (cs' := (itC x99 (.slice A101 n102 c103))) (by kernel_rfl) (by kernel_rfl) rfl Ty.sz42 h112 rfl (Nat.le_of_ble_eq_true rfl) rfl ?_)
  intro w128 h129 c130
  have M131 := Mod.trans' M126 c130 (fun i hi => by injection hi with hi; rw [← hi]; exact g124)
  have M132 := Mod.trans' M127 c130 (fun i hi => by injection hi with hi; rw [← hi]; exact g125)
  refine was (v := .bool true) ?_
  refine wnil (then_n (wp_seq ?_))
  refine rg_all (by kernel_rfl) (by kernel_rfl) ?_
  refine qmv (v := .bool true) ?_
  refine qv rfl (v := .bool false) (fun _ _ => r_not (b := true) (by kernel_rfl)) ?_
  refine qmv (v := .bool false) ?_
  refine qv (by kernel_rfl) (v := .pointer (some ⟨b109, 2, none⟩)) (fun _ _ => r_fieldAddr (u := .pointer (some ⟨b109, 0, none⟩)) (by kernel_rfl) (fun _ => (by kernel_rfl))) ?_
  refine qv (by kernel_rfl) (v := .agg #[.int .i64 x99.parent.t, .int .i64 x99.parent.w]) (fun _ uz => r_loads (k := 2) (by kernel_rfl) Ty.ag24 Ty.sz24 (up_ob uz h129) (by kernel_rfl)) ?_
  have h133 := md_ob M132 nin0 h83
  refine qv (by kernel_rfl) (v := .agg #[.int .i64 n1, .int .i64 n2]) (fun _ uz => r_loads (k := 0) (by kernel_rfl) Ty.ag24 Ty.sz24 (up_ob uz h133) (by kernel_rfl)) ?_
  refine qb (by kernel_rfl) (fun _ _ => r_neS2 (a := x99.parent.t) (b := x99.parent.w) (c := n1) (e := n2) (by kernel_rfl) (by kernel_rfl)) ?_
  intro b134 k135
  refine qv rfl (v := .bool b134) (fun _ _ => r_pkF (by kernel_rfl) (by kernel_rfl)) ?_
  refine qmv (v := .bool b134) ?_
  refine bcase b134 (fun v136 => ?_) (fun v136 => ?_)
  ·
   have p137 := of_decide_eq_false (k135.trans v136)
   refine qv (wt (b := b134) rfl (by kernel_rfl) v136) (v := .pointer (some ⟨b109, 6, none⟩)) (fun _ _ => r_fieldAddr (u := .pointer (some ⟨b109, 0, none⟩)) (by kernel_rfl) (fun _ => (by kernel_rfl))) ?_
   refine qv (wt (b := b134) rfl (by kernel_rfl) v136) (v := .bool x99.gone) (fun _ uz => r_load (k := 6) (by kernel_rfl) Ty.ag4 (up_ob uz h129) (by kernel_rfl)) ?_
   refine qv rfl (v := .bool x99.gone) (fun _ _ => r_pkF (ebool (b := b134) (by kernel_rfl) v136) (by kernel_rfl)) ?_
   refine qmv (v := .bool x99.gone) ?_
   refine bcase x99.gone (fun v138 => ?_) (fun v138 => ?_)
   ·
    refine qv (wt (b := x99.gone) rfl (by kernel_rfl) v138) (v := .pointer (some ⟨b109, 5, none⟩)) (fun _ _ => r_fieldAddr (u := .pointer (some ⟨b109, 0, none⟩)) (by kernel_rfl) (fun _ => (by kernel_rfl))) ?_
    refine qv (wt (b := x99.gone) rfl (by kernel_rfl) v138) (v := .bool x99.dir) (fun _ uz => r_load (k := 5) (by kernel_rfl) Ty.ag4 (up_ob uz h129) (by kernel_rfl)) ?_
    refine qv (wt (b := x99.gone) rfl (by kernel_rfl) v138) (v := .slice A30 DD.length c31) (fun _ _ => r_move (by kernel_rfl)) ?_
    refine qv (wt (b := x99.gone) rfl (by kernel_rfl) v138) (v := .int .i64 ((k : Int))) (fun _ _ => r_move (by kernel_rfl)) ?_
    have h139 := (ERow.up h88 (Mod.up M132))
    obtain ⟨g140, cp140, cu140, hA140, hg140, hb140, he140⟩ := ERow.get h139 hy98
    injection hA140 with hA140 _ _
    replace he140 : (cu140.toList.drop (0 + k * 5)).take 5 = enC y98 := by rw [Nat.zero_add]; exact he140
    refine qv (wt (b := x99.gone) rfl (by kernel_rfl) v138) (v := .pointer (some ⟨g140, 0 + k * 5, none⟩)) (fun _ _ => r_ixaddr' (A := A30) (b := g140) (o := 0) (n := DD.length) (c := c31) (sz := 5) (j := ((k : Int))) (by kernel_rfl) hA140 (by kernel_rfl) Ty.un29 Ty.sz35 (by omega) (by omega) (by simp)) ?_
    refine qv (wt (b := x99.gone) rfl (by kernel_rfl) v138) (v := .pointer (some ⟨g140, 0 + k * 5 + 3, none⟩)) (fun _ _ => r_fieldAddr (u := .pointer (some ⟨g140, 0 + k * 5, none⟩)) (by kernel_rfl) (fun _ => (by kernel_rfl))) ?_
    refine qv (wt (b := x99.gone) rfl (by kernel_rfl) v138) (v := .bool y98.dir) (fun _ uz => r_load (k := 0 + k * 5 + 3) (v := .bool y98.dir) (by kernel_rfl) Ty.ag4 (up_ob uz hb140) (el_get he140 3 rfl)) ?_
    refine qv (wt (b := x99.gone) rfl (by kernel_rfl) v138) (v := .bool false) (fun _ _ => r_neb_eq hxd99 (by kernel_rfl) (by kernel_rfl) Tryz.underlying4) ?_
    refine qv rfl (v := .bool false) (fun _ _ => r_pkF (ebool (b := x99.gone) (by kernel_rfl) v138) (by kernel_rfl)) ?_
    refine qmv (v := .bool false) ?_
    refine qv (by kernel_rfl) (v := .pointer (some ⟨b109, 7, none⟩)) (fun _ _ => r_fieldAddr (u := .pointer (some ⟨b109, 0, none⟩)) (by kernel_rfl) (fun _ => (by kernel_rfl))) ?_
    refine qv (by kernel_rfl) (v := .slice A101 n102 c103) (fun _ uz => r_load (k := 7) (by kernel_rfl) Ty.ag40 (up_ob uz h129) (by kernel_rfl)) ?_
    refine qv (by kernel_rfl) (v := .int .i64 ((n102 : Int))) (fun _ _ => r_len Ty.un40 (ad := A101) (n := n102) (c := c103) (by kernel_rfl)) ?_
    refine qv (by kernel_rfl) (v := .slice A30 DD.length c31) (fun _ _ => r_move (by kernel_rfl)) ?_
    refine qv (by kernel_rfl) (v := .int .i64 ((k : Int))) (fun _ _ => r_move (by kernel_rfl)) ?_
    obtain ⟨g141, cp141, cu141, hA141, hg141, hb141, he141⟩ := ERow.get h139 hy98
    injection hA141 with hA141 _ _
    replace he141 : (cu141.toList.drop (0 + k * 5)).take 5 = enC y98 := by rw [Nat.zero_add]; exact he141
    refine qv (by kernel_rfl) (v := .pointer (some ⟨g141, 0 + k * 5, none⟩)) (fun _ _ => r_ixaddr' (A := A30) (b := g141) (o := 0) (n := DD.length) (c := c31) (sz := 5) (j := ((k : Int))) (by kernel_rfl) hA141 (by kernel_rfl) Ty.un29 Ty.sz35 (by omega) (by omega) (by simp)) ?_
    refine qv (by kernel_rfl) (v := .pointer (some ⟨g141, 0 + k * 5 + 4, none⟩)) (fun _ _ => r_fieldAddr (u := .pointer (some ⟨g141, 0 + k * 5, none⟩)) (by kernel_rfl) (fun _ => (by kernel_rfl))) ?_
    refine qv (by kernel_rfl) (v := .int .i64 y98.size) (fun _ uz => r_load (k := 0 + k * 5 + 4) (v := .int .i64 y98.size) (by kernel_rfl) Ty.ag3 (up_ob uz hb141) (el_get he141 4 rfl)) ?_
    refine qb (by kernel_rfl) (fun _ _ => r_ne (k := .i64) (m := ((n102 : Int))) (n := y98.size) (by kernel_rfl) (by kernel_rfl)) ?_
    intro b142 k143
    refine qv rfl (v := .bool b142) (fun _ _ => r_pkF (by kernel_rfl) (by kernel_rfl)) ?_
    refine qnil ?_
    intro w144 u145
    have M146 := Mod.trans M131 (Mod.of_up u145)
    have M147 := Mod.trans M132 (Mod.of_up u145)
    refine then_n ?_
    refine bcase b142 (fun v148 => ?_) (fun v148 => ?_)
    ·
     have p149 := of_decide_eq_false (k143.trans v148)
     refine wp_cond_false (ebool (b := b142) (by kernel_rfl) v148) ?_
     refine wp_skip (inb_n (then_n (rg_lit ?_)))
     refine wmv (v := .int .i64 ((k : Int))) ?_
     refine wl (sv rfl (v := .int .i64 (((k + 1 : Nat) : Int))) (r_add (k := .i64) (m := ((k : Int))) (n := 1) (c := (((k + 1 : Nat) : Int))) (by kernel_rfl) (by kernel_rfl) ((IntWalk.i64_in _ (by omega)).trans (by omega))) ?_)
     refine was (v := .int .i64 (((k + 1 : Nat) : Int))) ?_
     refine wnil (then_n ?_)
     refine ⟨DD.length - (k + 1), ?_, (k + 1), tget [undef, undef, undef, undef, (Z 4), undef, undef, undef, undef, undef, undef, undef, .pointer (some ⟨b109, 0, none⟩), .bool true, undef, undef, undef, undef, undef, undef, undef, undef, undef, undef, undef, undef, undef, undef, undef, undef, undef, undef, undef, undef, undef, undef, undef, undef, undef, undef, undef, undef, undef, undef, undef, undef, undef, undef, undef, undef, undef, undef, undef, undef, undef, undef, undef, undef, undef, undef, undef, undef, undef, undef, undef, undef, undef, undef, undef, undef, undef, undef, undef, undef, .int .i64 ((k : Int)), .slice A30 DD.length c31, .int .i64 ((DD.length : Int)), .bool b91, .int .i64 ((k : Int)), .int .i64 (((k + 1 : Nat) : Int)), .tuple #[itV x99 (.slice A101 n102 c103), .bool true], .pointer (some ⟨tb, 0, none⟩), .slice A30 DD.length c31, .int .i64 ((k : Int)), .pointer (some ⟨g98, 0 + k * 5, none⟩), .pointer (some ⟨g98, 0 + k * 5 + 1, none⟩), .agg #[.int .i64 y98.node.t, .int .i64 y98.node.w], .tuple #[itV x99 (.slice A101 n102 c103), .bool true], itV x99 (.slice A101 n102 c103), .bool true, .bool true, .bool false, .bool false, .pointer (some ⟨b109, 2, none⟩), .agg #[.int .i64 x99.parent.t, .int .i64 x99.parent.w], .agg #[.int .i64 n1, .int .i64 n2], .bool b134, .bool b134, .bool b134, .pointer (some ⟨b109, 6, none⟩), .bool x99.gone, .bool x99.gone, .bool x99.gone, .pointer (some ⟨b109, 5, none⟩), .bool x99.dir, .slice A30 DD.length c31, .int .i64 ((k : Int)), .pointer (some ⟨g140, 0 + k * 5, none⟩), .pointer (some ⟨g140, 0 + k * 5 + 3, none⟩), .bool y98.dir, .bool false, .bool false, .bool false, .pointer (some ⟨b109, 7, none⟩), .slice A101 n102 c103, .int .i64 ((n102 : Int)), .slice A30 DD.length c31, .int .i64 ((k : Int)), .pointer (some ⟨g141, 0 + k * 5, none⟩), .pointer (some ⟨g141, 0 + k * 5 + 4, none⟩), .int .i64 y98.size, .bool b142, .bool b142], rfl, (by kernel_rfl), M147, (by omega)⟩
     · omega
    have p149 := of_decide_eq_true (k143.trans v148)
    exact absurd (by rw [← hdl99]; exact hxs99) p149
   exact absurd (hxo99.symm.trans v138) (by decide)
  have p137 := of_decide_eq_true (k135.trans v136)
  exact absurd hxp99 p137
end Go.Proofs.YtefhfoioeoijlaaGreatDoor

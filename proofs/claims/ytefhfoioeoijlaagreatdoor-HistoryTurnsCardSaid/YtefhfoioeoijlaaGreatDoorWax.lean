/- HY -/
import Derived.Test.YtefhfoioeoijlaaGreatDoorWaw
set_option linter.unusedVariables false
set_option linter.unusedSimpArgs false
namespace Go.Proofs.YtefhfoioeoijlaaGreatDoor
open Go Go.RowKit Go.Sort
set_option maxRecDepth 20000 in
set_option maxHeartbeats 2000000 in
theorem historyTurns_at {B : Nat} {w : World} {lA : Option Addr} {lc : Nat} {os : List OpD} (h0 : OpRow0 w lA os) (hfull : Small os → OpRow B w lA os) (hB : B ≤ w.heap.size) (hn : os.length ≤ 9223372036854775807)
    {mA : Option Addr} {mc : Nat} {ps : List OpD} (g0 : OpRow0 w mA ps) (gfull : Small ps → OpRow B w mA ps) (hB' : B ≤ w.heap.size) (gn : ps.length ≤ 9223372036854775807) (htab : Tab w) :
    Calls Tryz.prog 5 #[.slice lA os.length lc, .slice mA ps.length mc] w fun e w' => e = .returned (.bool true) ∧ Up w w' := by
  go_enter Tryz.func5, Tryz.ntmps5
  refine wp_seq (rg_lit ?_)
  refine was (v := .bool false) ?_
  refine wnil (then_n (wp_seq (wp_seq (rg_lit ?_))))
  refine wmv (v := .slice lA os.length lc) ?_
  refine wl (sc rfl (r_callv (caps := []) (all := [.slice lA os.length lc, .int .i64 30]) En.f13 (by kernel_rfl) (by kernel_rfl)) (light2_at (OpRow0.up h0 (Mod.up (Mod.refl [] w))) hn 30) ?_)
  rintro e w1 ⟨lb2, rfl, h3, u4⟩
  refine ⟨.bool lb2, rfl, ?_⟩
  have M5 := Mod.trans (Mod.refl [] w) (Mod.of_up u4)
  refine wl (sv rfl (v := .bool (!lb2)) (r_not (b := lb2) (by kernel_rfl)) ?_)
  refine wmv (v := .bool (!lb2)) ?_
  refine bcase lb2 (fun v6 => ?_) (fun v6 => ?_)
  ·
   refine wl (sp (wf (b := !lb2) rfl (by kernel_rfl) (bneg v6)) ?_)
   refine wl (sp (wf (b := !lb2) rfl (by kernel_rfl) (bneg v6)) ?_)
   refine wl (sp (wf (b := !lb2) rfl (by kernel_rfl) (bneg v6)) ?_)
   refine wl (sv rfl (v := .bool true) (r_pkT (ebool (b := !lb2) (by kernel_rfl) (bneg v6)) (by kernel_rfl)) ?_)
   refine wnil (then_n ?_)
   refine wp_cond_true (by kernel_rfl) ?_
   refine wp_seq (rg_lit ?_)
   refine wl (sc rfl (r_callv (caps := []) (all := []) En.f23 (by kernel_rfl) (by kernel_rfl)) (alive20_at) ?_)
   rintro e w7 ⟨rfl, u8⟩
   refine ⟨.bool true, rfl, ?_⟩
   have M9 := Mod.trans M5 (Mod.of_up u8)
   refine was (v := .bool true) ?_
   refine wnil (then_n (wp_ret (then_x (by nofun) ?_)))
   refine bodyPost_ret (v := .bool true) (res1 rfl (rv_t (by kernel_rfl))) (by kernel_rfl) ?_
   exact ⟨rfl, (Mod.up M9)⟩
  obtain ⟨hsma, hlea⟩ := h3 v6
  have hopsa := hfull hsma
  refine wl (sv (wt (b := !lb2) rfl (by kernel_rfl) (bneg v6)) (v := .slice mA ps.length mc) (r_move (by kernel_rfl)) ?_)
  refine wl (sc (wt (b := !lb2) rfl (by kernel_rfl) (bneg v6)) (r_callv (caps := []) (all := [.slice mA ps.length mc, .int .i64 30]) En.f13 (by kernel_rfl) (by kernel_rfl)) (light2_at (OpRow0.up g0 (Mod.up M5)) gn 30) ?_)
  rintro e w8 ⟨lb9, rfl, h10, u11⟩
  refine ⟨.bool lb9, rfl, ?_⟩
  have M12 := Mod.trans M5 (Mod.of_up u11)
  refine wl (sv (wt (b := !lb2) rfl (by kernel_rfl) (bneg v6)) (v := .bool (!lb9)) (r_not (b := lb9) (by kernel_rfl)) ?_)
  refine wl (sv rfl (v := .bool (!lb9)) (r_pkF (ebool (b := !lb2) (by kernel_rfl) (bneg v6)) (by kernel_rfl)) ?_)
  refine wnil (then_n ?_)
  refine bcase lb9 (fun v13 => ?_) (fun v13 => ?_)
  ·
   refine wp_cond_true (ebool (b := !lb9) (by kernel_rfl) (bneg v13)) ?_
   refine wp_seq (rg_lit ?_)
   refine wl (sc rfl (r_callv (caps := []) (all := []) En.f23 (by kernel_rfl) (by kernel_rfl)) (alive20_at) ?_)
   rintro e w14 ⟨rfl, u15⟩
   refine ⟨.bool true, rfl, ?_⟩
   have M16 := Mod.trans M12 (Mod.of_up u15)
   refine was (v := .bool true) ?_
   refine wnil (then_n (wp_ret (then_x (by nofun) ?_)))
   refine bodyPost_ret (v := .bool true) (res1 rfl (rv_t (by kernel_rfl))) (by kernel_rfl) ?_
   exact ⟨rfl, (Mod.up M16)⟩
  obtain ⟨hsmb, hleb⟩ := h10 v13
  have hopsb := gfull hsmb
  refine wp_cond_false (ebool (b := !lb9) (by kernel_rfl) (bneg v13)) ?_
  refine wp_skip (then_n (wp_seq (rg_lit ?_)))
  refine wmv (v := .slice lA os.length lc) ?_
  have h15 := (OpRow.up hopsa (Mod.up M12))
  refine wl (sc rfl (r_callv (caps := []) (all := [.slice lA os.length lc]) En.f15 (by kernel_rfl) (by kernel_rfl)) (build_at h15 (Nat.le_trans hB M12.size) (by omega)) ?_)
  rintro e w16 ⟨ta, ra, rfl, h17, u18, z19, z20⟩
  refine ⟨.pointer (some ⟨ta, 0, none⟩), rfl, ?_⟩
  have M22 := Mod.trans M12 (Mod.of_up u18)
  have hFa := fit_build os
  obtain ⟨La, hLa⟩ : ∃ L, buildI os = L := ⟨_, rfl⟩
  rw [hLa] at hFa h17
  have h21 := OT.of h17
  refine wmv (v := .slice mA ps.length mc) ?_
  have h23 := (OpRow.up hopsb (Mod.up M22))
  refine wl (sc rfl (r_callv (caps := []) (all := [.slice mA ps.length mc]) En.f15 (by kernel_rfl) (by kernel_rfl)) (build_at h23 (Nat.le_trans hB M22.size) (by omega)) ?_)
  rintro e w24 ⟨tb, rb, rfl, h25, u26, z27, z28⟩
  refine ⟨.pointer (some ⟨tb, 0, none⟩), rfl, ?_⟩
  have M30 := Mod.trans M22 (Mod.of_up u26)
  have hFb := fit_build ps
  obtain ⟨Lb, hLb⟩ : ∃ L, buildI ps = L := ⟨_, rfl⟩
  rw [hLb] at hFb h25
  have h29 := OT.of h25
  refine was (v := .pointer (some ⟨ta, 0, none⟩)) ?_
  refine was (v := .pointer (some ⟨tb, 0, none⟩)) ?_
  refine wnil (then_n (wp_seq (rg_lit ?_)))
  refine wmv (v := .pointer (some ⟨ta, 0, none⟩)) ?_
  refine wmv (v := .pointer (some ⟨tb, 0, none⟩)) ?_
  have h31 := (OT.up h21 u26)
  refine wl (sc rfl (r_callv (caps := []) (all := [.pointer (some ⟨ta, 0, none⟩), .pointer (some ⟨tb, 0, none⟩)]) En.f26 (by kernel_rfl) (by kernel_rfl)) (changesX_at h31 h29 (Nat.le_trans hB M30.size) hFa hFb (TabIs.up htab (Mod.up M30))) ?_)
  rintro e w32 ⟨Aab, cab, Dab, Xab, hXab, hDab, hlab, rfl, hCab, u33⟩
  refine ⟨.slice Aab Xab.length cab, rfl, ?_⟩
  have M34 := Mod.trans M30 (Mod.of_up u33)
  refine wmv (v := .pointer (some ⟨tb, 0, none⟩)) ?_
  refine wmv (v := .pointer (some ⟨ta, 0, none⟩)) ?_
  have h35 := (OT.up h29 u33)
  have h36 := (OT.up h31 u33)
  refine wl (sc rfl (r_callv (caps := []) (all := [.pointer (some ⟨tb, 0, none⟩), .pointer (some ⟨ta, 0, none⟩)]) En.f26 (by kernel_rfl) (by kernel_rfl)) (changesX_at h35 h36 (Nat.le_trans hB M34.size) hFb hFa (TabIs.up htab (Mod.up M34))) ?_)
  rintro e w37 ⟨Aba, cba, Dba, Xba, hXba, hDba, hlba, rfl, hCba, u38⟩
  have hYX := chgs_two hXab hDab hXba hDba
  refine ⟨.slice Aba Xba.length cba, rfl, ?_⟩
  have M39 := Mod.trans M34 (Mod.of_up u38)
  refine was (v := .slice Aab Xab.length cab) ?_
  refine was (v := .slice Aba Xba.length cba) ?_
  refine wnil (then_n (wp_seq (wp_seq (rg_lit ?_))))
  refine wmv (v := .slice Aab Xab.length cab) ?_
  refine wl (sv rfl (v := .int .i64 (Xab.length : Int)) (r_len Ty.un54 (ad := Aab) (n := Xab.length) (c := cab) (by kernel_rfl)) ?_)
  refine wmv (v := .slice Aba Xba.length cba) ?_
  refine wl (sv rfl (v := .int .i64 (Xba.length : Int)) (r_len Ty.un54 (ad := Aba) (n := Xba.length) (c := cba) (by kernel_rfl)) ?_)
  refine wl (sv rfl (v := .bool false) (dec_false (fun h9 => h9 (by rw [hYX, List.length_map])) (r_ne (k := .i64) (m := (Xab.length : Int)) (n := (Xba.length : Int)) (by kernel_rfl) (by kernel_rfl))) ?_)
  refine wnil (then_n ?_)
  refine wp_cond_false (by kernel_rfl) ?_
  refine wp_skip (then_n (wp_seq (wp_seq (rg_lit ?_))))
  refine was (v := .int .i64 0) ?_
  refine wnil (then_n (wp_block ?_))
  have h40 := (OpRow.up hopsa (Mod.up M39))
  have h41 := (OpRow.up hopsb (Mod.up M39))
  have h42 := (OT.up h36 u38)
  have h43 := (OT.up h35 u38)
  have h44 := (CRow.up hCab u38)
  refine lp (fun n a r1 => ∃ (k : Nat) (Zk : Nat → Value), (n = Xab.length - k) ∧ (a = ⟨#[.slice lA os.length lc, .slice mA ps.length mc, undef, undef, (Zk 4), .pointer (some ⟨ta, 0, none⟩), .pointer (some ⟨tb, 0, none⟩), .slice Aab Xab.length cab, .slice Aba Xba.length cba, .int .i64 (k : Int), (Zk 10), .slice lA os.length lc, .bool lb2, .bool (!lb2), .bool (!lb2), .slice mA ps.length mc, .bool lb9, .bool (!lb9), .bool (!lb9), undef, .slice lA os.length lc, .pointer (some ⟨ta, 0, none⟩), .slice mA ps.length mc, .pointer (some ⟨tb, 0, none⟩), .pointer (some ⟨ta, 0, none⟩), .pointer (some ⟨tb, 0, none⟩), .slice Aab Xab.length cab, .pointer (some ⟨tb, 0, none⟩), .pointer (some ⟨ta, 0, none⟩), .slice Aba Xba.length cba, .slice Aab Xab.length cab, .int .i64 (Xab.length : Int), .slice Aba Xba.length cba, .int .i64 (Xba.length : Int), .bool false, (Zk 35), (Zk 36), (Zk 37), (Zk 38), (Zk 39), (Zk 40), (Zk 41), (Zk 42), (Zk 43), (Zk 44), (Zk 45), (Zk 46), (Zk 47), (Zk 48), (Zk 49), (Zk 50), (Zk 51), (Zk 52), (Zk 53), (Zk 54), (Zk 55), (Zk 56), (Zk 57), (Zk 58), (Zk 59), (Zk 60), (Zk 61), (Zk 62), (Zk 63), (Zk 64), (Zk 65), (Zk 66), (Zk 67), (Zk 68), (Zk 69), (Zk 70), (Zk 71), (Zk 72), (Zk 73), (Zk 74), (Zk 75), (Zk 76), (Zk 77), (Zk 78), (Zk 79), (Zk 80), (Zk 81), (Zk 82), (Zk 83), (Zk 84), (Zk 85), (Zk 86), (Zk 87), (Zk 88), (Zk 89), (Zk 90), (Zk 91), (Zk 92), (Zk 93), (Zk 94), (Zk 95), undef, undef, undef, undef, undef, undef, undef, undef, undef, undef, undef, undef, undef, undef, undef, undef, undef, undef, undef, undef], []⟩) ∧ (Mod [] w37 r1) ∧ (k ≤ Xab.length)) ⟨_, 0, tget [undef, undef, undef, undef, .bool false, undef, undef, undef, undef, undef, undef, undef, undef, undef, undef, undef, undef, undef, undef, undef, undef, undef, undef, undef, undef, undef, undef, undef, undef, undef, undef, undef, undef, undef, undef, undef, undef, undef, undef, undef, undef, undef, undef, undef, undef, undef, undef, undef, undef, undef, undef, undef, undef, undef, undef, undef, undef, undef, undef, undef, undef, undef, undef, undef, undef, undef, undef, undef, undef, undef, undef, undef, undef, undef, undef, undef, undef, undef, undef, undef, undef, undef, undef, undef, undef, undef, undef, undef, undef, undef, undef, undef, undef, undef, undef, undef], rfl, (by kernel_rfl), Mod.refl _ _, (Nat.zero_le _)⟩ ?_
  rintro _ _ r1 ⟨k, Zk, rfl, rfl, hM1, hF1_0⟩
  have M45 := Mod.thin M39 hM1 (by simp)
  refine wp_seq (wp_seq (rg_lit ?_))
  refine wmv (v := .int .i64 (k : Int)) ?_
  refine wmv (v := .slice Aab Xab.length cab) ?_
  refine wl (sv rfl (v := .int .i64 (Xab.length : Int)) (r_len Ty.un54 (ad := Aab) (n := Xab.length) (c := cab) (by kernel_rfl)) ?_)
  refine wl (sb rfl (r_lt (k := .i64) (m := (k : Int)) (n := (Xab.length : Int)) (by kernel_rfl) (by kernel_rfl)) ?_)
  intro b46 k47
  refine wnil (then_n ?_)
  refine bcase b46 (fun v48 => ?_) (fun v48 => ?_)
  ·
   have p49 := of_decide_eq_false (k47.trans v48)
   refine wp_cond_false (ebool (b := b46) (by kernel_rfl) v48) ?_
   refine wp_exit (then_x (by nofun) (then_x (by nofun) (inb_hit (then_n (wp_seq (rg_lit ?_))))))
   refine wl (sc rfl (r_callv (caps := []) (all := [.pointer none]) En.f29 (by kernel_rfl) (by kernel_rfl)) (bytes20_at (OT.no (B := B)) (Nat.le_trans hB M45.size) fit_nil) ?_)
   rintro e w50 ⟨rfl, u51⟩
   refine ⟨.int .i64 ((bytesI [] [] : Nat) : Int), rfl, ?_⟩
   have M52 := Mod.trans M45 (Mod.of_up u51)
   have M53 := Mod.trans hM1 (Mod.of_up u51)
   refine wl (sv rfl (v := .bool true) (dec_true (by kernel_rfl) (r_eq (k := .i64) (m := ((bytesI [] [] : Nat) : Int)) (n := 0) (by kernel_rfl) (by kernel_rfl))) ?_)
   refine wmv (v := .bool true) ?_
   refine wl (sc (by kernel_rfl) (r_callv (caps := []) (all := [.pointer none, .pointer none]) En.f26 (by kernel_rfl) (by kernel_rfl)) (changesX_at (OT.no (B := B)) (OT.no (B := B)) (Nat.le_trans hB M52.size) fit_nil fit_nil (TabIs.up htab (Mod.up M52))) ?_)
   rintro e w54 ⟨Ann, cnn, Dnn, Xnn, hXnn, hDnn, hlnn, rfl, hCnn, u55⟩
   obtain rfl := chgs_none hXnn hDnn
   refine ⟨.slice Ann 0 cnn, rfl, ?_⟩
   have M56 := Mod.trans M52 (Mod.of_up u55)
   have M57 := Mod.trans M53 (Mod.of_up u55)
   refine wl (sv (by kernel_rfl) (v := .int .i64 0) (r_len Ty.un54 (ad := Ann) (n := 0) (c := cnn) (by kernel_rfl)) ?_)
   refine wl (sv (by kernel_rfl) (v := .bool true) (dec_true (by kernel_rfl) (r_eq (k := .i64) (m := 0) (n := 0) (by kernel_rfl) (by kernel_rfl))) ?_)
   refine wl (sv rfl (v := .bool true) (r_pkT (by kernel_rfl) (by kernel_rfl)) ?_)
   refine wmv (v := .bool true) ?_
   refine wl (sv (by kernel_rfl) (v := .pointer (some ⟨ta, 0, none⟩)) (r_move (by kernel_rfl)) ?_)
   have h58 := (OT.up h42 (Mod.up M57))
   refine wl (sc (by kernel_rfl) (r_callv (caps := []) (all := [.pointer none, .pointer (some ⟨ta, 0, none⟩)]) En.f26 (by kernel_rfl) (by kernel_rfl)) (changesX_at (OT.no (B := B)) h58 (Nat.le_trans hB M56.size) fit_nil hFa (TabIs.up htab (Mod.up M56))) ?_)
   rintro e w59 ⟨Ana, cna, Dna, Xna, hXna, hDna, hlna, rfl, hCna, u60⟩
   refine ⟨.slice Ana Xna.length cna, rfl, ?_⟩
   have M61 := Mod.trans M56 (Mod.of_up u60)
   have M62 := Mod.trans M57 (Mod.of_up u60)
   refine wl (sc (by kernel_rfl) (r_callv (caps := []) (all := [.slice Ana Xna.length cna]) En.f25 (by kernel_rfl) (by kernel_rfl)) (back_at hCna hlna) ?_)
   rintro e w63 ⟨A64, c65, rfl, h66, u67⟩
   refine ⟨.slice A64 Xna.length c65, rfl, ?_⟩
   have M68 := Mod.trans M61 (Mod.of_up u67)
   have M69 := Mod.trans M62 (Mod.of_up u67)
   refine wl (sc (by kernel_rfl) (r_callv (caps := []) (all := []) En.f30 (by kernel_rfl) (by kernel_rfl)) (tnew_any (Nat.le_trans hB M68.size)) ?_)
   rintro e w70 ⟨tw, rw_, rfl, h71, u72, z73, z74⟩
   refine ⟨.pointer (some ⟨tw, 0, none⟩), rfl, ?_⟩
   have M76 := Mod.trans M68 (Mod.of_up u72)
   have M77 := Mod.trans M69 (Mod.of_up u72)
   have h75 := OT.of h71
   refine wl (sv (by kernel_rfl) (v := .pointer (some ⟨ta, 0, none⟩)) (r_move (by kernel_rfl)) ?_)
   have h78 := (OT.up h42 (Mod.up M77))
   refine wl (sc (by kernel_rfl) (r_callv (caps := []) (all := [.pointer (some ⟨tw, 0, none⟩), .pointer (some ⟨ta, 0, none⟩)]) En.f26 (by kernel_rfl) (by kernel_rfl)) (changesX_at h75 h78 (Nat.le_trans hB M76.size) fit_nil hFa (TabIs.up htab (Mod.up M76))) ?_)
   rintro e w79 ⟨Awa, cwa, Dwa, Xwa, hXwa, hDwa, hlwa, rfl, hCwa, u80⟩
   obtain rfl := (chgs_one hXna hDna hXwa hDwa).symm
   refine ⟨.slice Awa Xna.length cwa, rfl, ?_⟩
   have M81 := Mod.trans M76 (Mod.of_up u80)
   have M82 := Mod.trans M77 (Mod.of_up u80)
   refine wl (sc (by kernel_rfl) (r_callv (caps := []) (all := [.slice Awa Xna.length cwa]) En.f25 (by kernel_rfl) (by kernel_rfl)) (back_at hCwa hlna) ?_)
   rintro e w83 ⟨A84, c85, rfl, h86, u87⟩
   refine ⟨.slice A84 Xna.length c85, rfl, ?_⟩
   have M88 := Mod.trans M81 (Mod.of_up u87)
   have M89 := Mod.trans M82 (Mod.of_up u87)
   have h90 := (CRow.up h66 (up_up (up_up u72 u80) u87))
   refine wl (sc (by kernel_rfl) (r_callv (caps := []) (all := [.slice A64 Xna.length c65, .slice A84 Xna.length c85]) En.f24 (by kernel_rfl) (by kernel_rfl)) (same20_at h90 h86 hlna) ?_)
   rintro e w91 ⟨rfl, u92⟩
   refine ⟨.bool true, rfl, ?_⟩
   have M93 := Mod.trans M88 (Mod.of_up u92)
   have M94 := Mod.trans M89 (Mod.of_up u92)
   refine wl (sv rfl (v := .bool true) (r_pkT (by kernel_rfl) (by kernel_rfl)) ?_)
   refine wmv (v := .bool true) ?_
   refine wl (sc (by kernel_rfl) (r_callv (caps := []) (all := []) En.f23 (by kernel_rfl) (by kernel_rfl)) (alive20_at) ?_)
   rintro e w95 ⟨rfl, u96⟩
   refine ⟨.bool true, rfl, ?_⟩
   have M97 := Mod.trans M93 (Mod.of_up u96)
   have M98 := Mod.trans M94 (Mod.of_up u96)
   refine wl (sv rfl (v := .bool true) (r_pkT (by kernel_rfl) (by kernel_rfl)) ?_)
   refine was (v := .bool true) ?_
   refine wnil (then_n (wp_ret ?_))
   refine bodyPost_ret (v := .bool true) (res1 rfl (rv_t (by kernel_rfl))) (by kernel_rfl) ?_
   exact ⟨rfl, (Mod.up M97)⟩
  have p49 := of_decide_eq_true (k47.trans v48)
  have q50 : k < Xab.length := by omega
  have q51 : k < Xab.length := by omega
  refine wp_cond_true (ebool (b := b46) (by kernel_rfl) v48) ?_
  refine wp_skip (then_n (wp_seq (wp_block (wp_seq (rg_lit ?_)))))
  refine wmv (v := .slice Aab Xab.length cab) ?_
  refine wmv (v := .int .i64 (k : Int)) ?_
  have h52 := (CRow.up h44 (Mod.up hM1))
  obtain ⟨y54, hy54⟩ : ∃ x, Xab[k]? = some x := ⟨_, List.getElem?_eq_getElem (by omega)⟩
  have hkr54 := chgs_kind hXab hy54
  have hyl54 := congrArg List.length hYX
  rw [List.length_map] at hyl54
  obtain ⟨g53, hA53, hl53, _, cu53, hb53, he53⟩ := CRow.get h52 hy54
  replace he53 : (cu53.toList.drop (0 + k * 5)).take 5 = chC y54 := by rw [Nat.zero_add]; exact he53
  refine wl (sv rfl (v := .pointer (some ⟨g53, 0 + k * 5, none⟩)) (r_ixaddr' (A := Aab) (b := g53) (o := 0) (n := Xab.length) (c := cab) (sz := 5) (j := (k : Int)) (by kernel_rfl) hA53 (by kernel_rfl) Ty.un54 Ty.sz61 (by omega) (by omega) (by simp)) ?_)
  refine wl (sv rfl (v := .pointer (some ⟨g53, 0 + k * 5, none⟩)) (r_fieldAddr (u := .pointer (some ⟨g53, 0 + k * 5, none⟩)) (by kernel_rfl) (fun _ => (by kernel_rfl))) ?_)
  refine wl (sv rfl (v := .int .i64 y54.kind) (r_load (k := 0 + k * 5) (v := .int .i64 y54.kind) (by kernel_rfl) Ty.ag3 hb53 (el_get he53 0 rfl)) ?_)
  refine was (v := .int .i64 y54.kind) ?_
  refine wnil (then_n (wp_seq (wp_seq (rg_lit ?_))))
  refine wmv (v := .int .i64 y54.kind) ?_
  refine wl (sb rfl (r_lt (k := .i64) (m := y54.kind) (n := 3) (by kernel_rfl) (by kernel_rfl)) ?_)
  intro b55 k56
  refine wnil (then_n ?_)
  refine bcase b55 (fun v57 => ?_) (fun v57 => ?_)
  ·
   have p58 := of_decide_eq_false (k56.trans v57)
   refine wp_cond_false (ebool (b := b55) (by kernel_rfl) v57) ?_
   refine wp_skip (then_n (wp_seq ?_))
   refine rg_all (by kernel_rfl) (by kernel_rfl) ?_
   refine qmv (v := .slice Aba Xba.length cba) ?_
   refine qmv (v := .int .i64 (k : Int)) ?_
   have h59 := (CRow.up hCba (Mod.up hM1))
   obtain ⟨g60, hA60, hl60, _, cu60, hb60, he60⟩ := CRow.get h59 (turn_get hYX hy54)
   replace he60 : (cu60.toList.drop (0 + k * 5)).take 5 = chC (turnC y54) := by rw [Nat.zero_add]; exact he60
   refine qv rfl (v := .pointer (some ⟨g60, 0 + k * 5, none⟩)) (fun _ _ => r_ixaddr' (A := Aba) (b := g60) (o := 0) (n := Xba.length) (c := cba) (sz := 5) (j := (k : Int)) (by kernel_rfl) hA60 (by kernel_rfl) Ty.un54 Ty.sz61 (by omega) (by omega) (by simp)) ?_
   refine qv rfl (v := .pointer (some ⟨g60, 0 + k * 5, none⟩)) (fun _ _ => r_fieldAddr (u := .pointer (some ⟨g60, 0 + k * 5, none⟩)) (by kernel_rfl) (fun _ => (by kernel_rfl))) ?_
   refine qv rfl (v := .int .i64 ((turnC y54).kind)) (fun _ uz => r_load (k := 0 + k * 5) (v := .int .i64 ((turnC y54).kind)) (by kernel_rfl) Ty.ag3 (up_ob uz hb60) (el_get he60 0 rfl)) ?_
   refine qmv (v := .int .i64 y54.kind) ?_
   refine qv rfl (v := .bool false) (fun _ _ => dec_false (fun h9 => h9 (turn_ge p58)) (r_ne (k := .i64) (m := ((turnC y54).kind)) (n := y54.kind) (by kernel_rfl) (by kernel_rfl))) ?_
   refine qmv (v := .bool false) ?_
   refine qv (by kernel_rfl) (v := .slice Aba Xba.length cba) (fun _ _ => r_move (by kernel_rfl)) ?_
   refine qv (by kernel_rfl) (v := .int .i64 (k : Int)) (fun _ _ => r_move (by kernel_rfl)) ?_
   obtain ⟨g61, hA61, hl61, _, cu61, hb61, he61⟩ := CRow.get h59 (turn_get hYX hy54)
   replace he61 : (cu61.toList.drop (0 + k * 5)).take 5 = chC (turnC y54) := by rw [Nat.zero_add]; exact he61
   refine qv (by kernel_rfl) (v := .pointer (some ⟨g61, 0 + k * 5, none⟩)) (fun _ _ => r_ixaddr' (A := Aba) (b := g61) (o := 0) (n := Xba.length) (c := cba) (sz := 5) (j := (k : Int)) (by kernel_rfl) hA61 (by kernel_rfl) Ty.un54 Ty.sz61 (by omega) (by omega) (by simp)) ?_
   refine qv (by kernel_rfl) (v := .pointer (some ⟨g61, 0 + k * 5 + 1, none⟩)) (fun _ _ => r_fieldAddr (u := .pointer (some ⟨g61, 0 + k * 5, none⟩)) (by kernel_rfl) (fun _ => (by kernel_rfl))) ?_
   refine qv (by kernel_rfl) (v := .agg #[.int .i64 ((turnC y54).node.t), .int .i64 ((turnC y54).node.w)]) (fun _ uz => r_loads (k := 0 + k * 5 + 1) (by kernel_rfl) Ty.ag24 Ty.sz24 (up_ob uz hb61) (el_sub he61 1 rfl)) ?_
   refine qv (by kernel_rfl) (v := .slice Aab Xab.length cab) (fun _ _ => r_move (by kernel_rfl)) ?_
   refine qv (by kernel_rfl) (v := .int .i64 (k : Int)) (fun _ _ => r_move (by kernel_rfl)) ?_
   obtain ⟨g62, hA62, hl62, _, cu62, hb62, he62⟩ := CRow.get h52 hy54
   replace he62 : (cu62.toList.drop (0 + k * 5)).take 5 = chC y54 := by rw [Nat.zero_add]; exact he62
   refine qv (by kernel_rfl) (v := .pointer (some ⟨g62, 0 + k * 5, none⟩)) (fun _ _ => r_ixaddr' (A := Aab) (b := g62) (o := 0) (n := Xab.length) (c := cab) (sz := 5) (j := (k : Int)) (by kernel_rfl) hA62 (by kernel_rfl) Ty.un54 Ty.sz61 (by omega) (by omega) (by simp)) ?_
   refine qv (by kernel_rfl) (v := .pointer (some ⟨g62, 0 + k * 5 + 1, none⟩)) (fun _ _ => r_fieldAddr (u := .pointer (some ⟨g62, 0 + k * 5, none⟩)) (by kernel_rfl) (fun _ => (by kernel_rfl))) ?_
   refine qv (by kernel_rfl) (v := .agg #[.int .i64 y54.node.t, .int .i64 y54.node.w]) (fun _ uz => r_loads (k := 0 + k * 5 + 1) (by kernel_rfl) Ty.ag24 Ty.sz24 (up_ob uz hb62) (el_sub he62 1 rfl)) ?_
   refine qv (by kernel_rfl) (v := .bool false) (fun _ _ => dec_false (fun h9 => h9 rfl) (r_neS2 (a := ((turnC y54).node.t)) (b := ((turnC y54).node.w)) (c := y54.node.t) (e := y54.node.w) (by kernel_rfl) (by kernel_rfl))) ?_
   refine qv rfl (v := .bool false) (fun _ _ => r_pkF (by kernel_rfl) (by kernel_rfl)) ?_
   refine qmv (v := .bool false) ?_
   refine qv (by kernel_rfl) (v := .slice Aba Xba.length cba) (fun _ _ => r_move (by kernel_rfl)) ?_
   refine qv (by kernel_rfl) (v := .int .i64 (k : Int)) (fun _ _ => r_move (by kernel_rfl)) ?_
   obtain ⟨g63, hA63, hl63, _, cu63, hb63, he63⟩ := CRow.get h59 (turn_get hYX hy54)
   replace he63 : (cu63.toList.drop (0 + k * 5)).take 5 = chC (turnC y54) := by rw [Nat.zero_add]; exact he63
   refine qv (by kernel_rfl) (v := .pointer (some ⟨g63, 0 + k * 5, none⟩)) (fun _ _ => r_ixaddr' (A := Aba) (b := g63) (o := 0) (n := Xba.length) (c := cba) (sz := 5) (j := (k : Int)) (by kernel_rfl) hA63 (by kernel_rfl) Ty.un54 Ty.sz61 (by omega) (by omega) (by simp)) ?_
   refine qv (by kernel_rfl) (v := .pointer (some ⟨g63, 0 + k * 5 + 3, none⟩)) (fun _ _ => r_fieldAddr (u := .pointer (some ⟨g63, 0 + k * 5, none⟩)) (by kernel_rfl) (fun _ => (by kernel_rfl))) ?_
   refine qv (by kernel_rfl) (v := .string ((turnC y54).fr)) (fun _ uz => r_load (k := 0 + k * 5 + 3) (v := .string ((turnC y54).fr)) (by kernel_rfl) Ty.ag9 (up_ob uz hb63) (el_get he63 3 rfl)) ?_
   refine qv (by kernel_rfl) (v := .slice Aab Xab.length cab) (fun _ _ => r_move (by kernel_rfl)) ?_
   refine qv (by kernel_rfl) (v := .int .i64 (k : Int)) (fun _ _ => r_move (by kernel_rfl)) ?_
   obtain ⟨g64, hA64, hl64, _, cu64, hb64, he64⟩ := CRow.get h52 hy54
   replace he64 : (cu64.toList.drop (0 + k * 5)).take 5 = chC y54 := by rw [Nat.zero_add]; exact he64
   refine qv (by kernel_rfl) (v := .pointer (some ⟨g64, 0 + k * 5, none⟩)) (fun _ _ => r_ixaddr' (A := Aab) (b := g64) (o := 0) (n := Xab.length) (c := cab) (sz := 5) (j := (k : Int)) (by kernel_rfl) hA64 (by kernel_rfl) Ty.un54 Ty.sz61 (by omega) (by omega) (by simp)) ?_
   refine qv (by kernel_rfl) (v := .pointer (some ⟨g64, 0 + k * 5 + 4, none⟩)) (fun _ _ => r_fieldAddr (u := .pointer (some ⟨g64, 0 + k * 5, none⟩)) (by kernel_rfl) (fun _ => (by kernel_rfl))) ?_
   refine qv (by kernel_rfl) (v := .string y54.tt) (fun _ uz => r_load (k := 0 + k * 5 + 4) (v := .string y54.tt) (by kernel_rfl) Ty.ag9 (up_ob uz hb64) (el_get he64 4 rfl)) ?_
   refine qv (by kernel_rfl) (v := .bool false) (fun _ _ => dec_false (fun h9 => h9 rfl) (r_nes (m := ((turnC y54).fr)) (n := y54.tt) (by kernel_rfl) (by kernel_rfl))) ?_
   refine qv rfl (v := .bool false) (fun _ _ => r_pkF (by kernel_rfl) (by kernel_rfl)) ?_
   refine qmv (v := .bool false) ?_
   refine qv (by kernel_rfl) (v := .slice Aba Xba.length cba) (fun _ _ => r_move (by kernel_rfl)) ?_
   refine qv (by kernel_rfl) (v := .int .i64 (k : Int)) (fun _ _ => r_move (by kernel_rfl)) ?_
   obtain ⟨g65, hA65, hl65, _, cu65, hb65, he65⟩ := CRow.get h59 (turn_get hYX hy54)
   replace he65 : (cu65.toList.drop (0 + k * 5)).take 5 = chC (turnC y54) := by rw [Nat.zero_add]; exact he65
   refine qv (by kernel_rfl) (v := .pointer (some ⟨g65, 0 + k * 5, none⟩)) (fun _ _ => r_ixaddr' (A := Aba) (b := g65) (o := 0) (n := Xba.length) (c := cba) (sz := 5) (j := (k : Int)) (by kernel_rfl) hA65 (by kernel_rfl) Ty.un54 Ty.sz61 (by omega) (by omega) (by simp)) ?_
   refine qv (by kernel_rfl) (v := .pointer (some ⟨g65, 0 + k * 5 + 4, none⟩)) (fun _ _ => r_fieldAddr (u := .pointer (some ⟨g65, 0 + k * 5, none⟩)) (by kernel_rfl) (fun _ => (by kernel_rfl))) ?_
   refine qv (by kernel_rfl) (v := .string ((turnC y54).tt)) (fun _ uz => r_load (k := 0 + k * 5 + 4) (v := .string ((turnC y54).tt)) (by kernel_rfl) Ty.ag9 (up_ob uz hb65) (el_get he65 4 rfl)) ?_
   refine qv (by kernel_rfl) (v := .slice Aab Xab.length cab) (fun _ _ => r_move (by kernel_rfl)) ?_
   refine qv (by kernel_rfl) (v := .int .i64 (k : Int)) (fun _ _ => r_move (by kernel_rfl)) ?_
   obtain ⟨g66, hA66, hl66, _, cu66, hb66, he66⟩ := CRow.get h52 hy54
   replace he66 : (cu66.toList.drop (0 + k * 5)).take 5 = chC y54 := by rw [Nat.zero_add]; exact he66
   refine qv (by kernel_rfl) (v := .pointer (some ⟨g66, 0 + k * 5, none⟩)) (fun _ _ => r_ixaddr' (A := Aab) (b := g66) (o := 0) (n := Xab.length) (c := cab) (sz := 5) (j := (k : Int)) (by kernel_rfl) hA66 (by kernel_rfl) Ty.un54 Ty.sz61 (by omega) (by omega) (by simp)) ?_
   refine qv (by kernel_rfl) (v := .pointer (some ⟨g66, 0 + k * 5 + 3, none⟩)) (fun _ _ => r_fieldAddr (u := .pointer (some ⟨g66, 0 + k * 5, none⟩)) (by kernel_rfl) (fun _ => (by kernel_rfl))) ?_
   refine qv (by kernel_rfl) (v := .string y54.fr) (fun _ uz => r_load (k := 0 + k * 5 + 3) (v := .string y54.fr) (by kernel_rfl) Ty.ag9 (up_ob uz hb66) (el_get he66 3 rfl)) ?_
   refine qv (by kernel_rfl) (v := .bool false) (fun _ _ => dec_false (fun h9 => h9 rfl) (r_nes (m := ((turnC y54).tt)) (n := y54.fr) (by kernel_rfl) (by kernel_rfl))) ?_
   refine qv rfl (v := .bool false) (fun _ _ => r_pkF (by kernel_rfl) (by kernel_rfl)) ?_
   refine qnil ?_
   intro w67 u68
   have M69 := Mod.trans M45 (Mod.of_up u68)
   have M70 := Mod.trans hM1 (Mod.of_up u68)
   refine then_n ?_
   refine wp_cond_false (by kernel_rfl) ?_
   refine wp_skip (inb_n (then_n (rg_lit ?_)))
   refine wmv (v := .int .i64 (k : Int)) ?_
   refine wl (sv rfl (v := .int .i64 ((k + 1 : Nat) : Int)) (r_add (k := .i64) (m := (k : Int)) (n := 1) (c := ((k + 1 : Nat) : Int)) (by kernel_rfl) (by kernel_rfl) ((IntWalk.i64_in _ (by omega)).trans (by omega))) ?_)
   refine was (v := .int .i64 ((k + 1 : Nat) : Int)) ?_
   refine wnil (then_n ?_)
   refine ⟨Xab.length - (k + 1), ?_, (k + 1), tget [undef, undef, undef, undef, (Zk 4), undef, undef, undef, undef, undef, .int .i64 y54.kind, undef, undef, undef, undef, undef, undef, undef, undef, undef, undef, undef, undef, undef, undef, undef, undef, undef, undef, undef, undef, undef, undef, undef, undef, .int .i64 (k : Int), .slice Aab Xab.length cab, .int .i64 (Xab.length : Int), .bool b46, .int .i64 (k : Int), .int .i64 ((k + 1 : Nat) : Int), .slice Aab Xab.length cab, .int .i64 (k : Int), .pointer (some ⟨g53, 0 + k * 5, none⟩), .pointer (some ⟨g53, 0 + k * 5, none⟩), .int .i64 y54.kind, .int .i64 y54.kind, .bool b55, (Zk 48), (Zk 49), .slice Aba Xba.length cba, .int .i64 (k : Int), .pointer (some ⟨g60, 0 + k * 5, none⟩), .pointer (some ⟨g60, 0 + k * 5, none⟩), .int .i64 ((turnC y54).kind), .int .i64 y54.kind, .bool false, .bool false, .slice Aba Xba.length cba, .int .i64 (k : Int), .pointer (some ⟨g61, 0 + k * 5, none⟩), .pointer (some ⟨g61, 0 + k * 5 + 1, none⟩), .agg #[.int .i64 ((turnC y54).node.t), .int .i64 ((turnC y54).node.w)], .slice Aab Xab.length cab, .int .i64 (k : Int), .pointer (some ⟨g62, 0 + k * 5, none⟩), .pointer (some ⟨g62, 0 + k * 5 + 1, none⟩), .agg #[.int .i64 y54.node.t, .int .i64 y54.node.w], .bool false, .bool false, .bool false, .slice Aba Xba.length cba, .int .i64 (k : Int), .pointer (some ⟨g63, 0 + k * 5, none⟩), .pointer (some ⟨g63, 0 + k * 5 + 3, none⟩), .string ((turnC y54).fr), .slice Aab Xab.length cab, .int .i64 (k : Int), .pointer (some ⟨g64, 0 + k * 5, none⟩), .pointer (some ⟨g64, 0 + k * 5 + 4, none⟩), .string y54.tt, .bool false, .bool false, .bool false, .slice Aba Xba.length cba, .int .i64 (k : Int), .pointer (some ⟨g65, 0 + k * 5, none⟩), .pointer (some ⟨g65, 0 + k * 5 + 4, none⟩), .string ((turnC y54).tt), .slice Aab Xab.length cab, .int .i64 (k : Int), .pointer (some ⟨g66, 0 + k * 5, none⟩), .pointer (some ⟨g66, 0 + k * 5 + 3, none⟩), .string y54.fr, .bool false, .bool false], rfl, (by kernel_rfl), M70, (by omega)⟩
   · omega
  have p58 := of_decide_eq_true (k56.trans v57)
  refine wp_cond_true (ebool (b := b55) (by kernel_rfl) v57) ?_
  refine rg_lit ?_
  refine wmv (v := .int .i64 y54.kind) ?_
  refine wl (sv rfl (v := .int .i64 (3 - y54.kind)) (r_sub (k := .i64) (m := 3) (n := y54.kind) (by kernel_rfl) (by kernel_rfl) (IntWalk.i64_in _ (by omega))) ?_)
  refine was (v := .int .i64 (3 - y54.kind)) ?_
  refine wnil (then_n (wp_seq ?_))
  refine rg_all (by kernel_rfl) (by kernel_rfl) ?_
  refine qmv (v := .slice Aba Xba.length cba) ?_
  refine qmv (v := .int .i64 (k : Int)) ?_
  have h59 := (CRow.up hCba (Mod.up hM1))
  obtain ⟨g60, hA60, hl60, _, cu60, hb60, he60⟩ := CRow.get h59 (turn_get hYX hy54)
  replace he60 : (cu60.toList.drop (0 + k * 5)).take 5 = chC (turnC y54) := by rw [Nat.zero_add]; exact he60
  refine qv rfl (v := .pointer (some ⟨g60, 0 + k * 5, none⟩)) (fun _ _ => r_ixaddr' (A := Aba) (b := g60) (o := 0) (n := Xba.length) (c := cba) (sz := 5) (j := (k : Int)) (by kernel_rfl) hA60 (by kernel_rfl) Ty.un54 Ty.sz61 (by omega) (by omega) (by simp)) ?_
  refine qv rfl (v := .pointer (some ⟨g60, 0 + k * 5, none⟩)) (fun _ _ => r_fieldAddr (u := .pointer (some ⟨g60, 0 + k * 5, none⟩)) (by kernel_rfl) (fun _ => (by kernel_rfl))) ?_
  refine qv rfl (v := .int .i64 ((turnC y54).kind)) (fun _ uz => r_load (k := 0 + k * 5) (v := .int .i64 ((turnC y54).kind)) (by kernel_rfl) Ty.ag3 (up_ob uz hb60) (el_get he60 0 rfl)) ?_
  refine qmv (v := .int .i64 (3 - y54.kind)) ?_
  refine qv rfl (v := .bool false) (fun _ _ => dec_false (fun h9 => h9 (turn_lt p58)) (r_ne (k := .i64) (m := ((turnC y54).kind)) (n := (3 - y54.kind)) (by kernel_rfl) (by kernel_rfl))) ?_
  refine qmv (v := .bool false) ?_
  refine qv (by kernel_rfl) (v := .slice Aba Xba.length cba) (fun _ _ => r_move (by kernel_rfl)) ?_
  refine qv (by kernel_rfl) (v := .int .i64 (k : Int)) (fun _ _ => r_move (by kernel_rfl)) ?_
  obtain ⟨g61, hA61, hl61, _, cu61, hb61, he61⟩ := CRow.get h59 (turn_get hYX hy54)
  replace he61 : (cu61.toList.drop (0 + k * 5)).take 5 = chC (turnC y54) := by rw [Nat.zero_add]; exact he61
  refine qv (by kernel_rfl) (v := .pointer (some ⟨g61, 0 + k * 5, none⟩)) (fun _ _ => r_ixaddr' (A := Aba) (b := g61) (o := 0) (n := Xba.length) (c := cba) (sz := 5) (j := (k : Int)) (by kernel_rfl) hA61 (by kernel_rfl) Ty.un54 Ty.sz61 (by omega) (by omega) (by simp)) ?_
  refine qv (by kernel_rfl) (v := .pointer (some ⟨g61, 0 + k * 5 + 1, none⟩)) (fun _ _ => r_fieldAddr (u := .pointer (some ⟨g61, 0 + k * 5, none⟩)) (by kernel_rfl) (fun _ => (by kernel_rfl))) ?_
  refine qv (by kernel_rfl) (v := .agg #[.int .i64 ((turnC y54).node.t), .int .i64 ((turnC y54).node.w)]) (fun _ uz => r_loads (k := 0 + k * 5 + 1) (by kernel_rfl) Ty.ag24 Ty.sz24 (up_ob uz hb61) (el_sub he61 1 rfl)) ?_
  refine qv (by kernel_rfl) (v := .slice Aab Xab.length cab) (fun _ _ => r_move (by kernel_rfl)) ?_
  refine qv (by kernel_rfl) (v := .int .i64 (k : Int)) (fun _ _ => r_move (by kernel_rfl)) ?_
  obtain ⟨g62, hA62, hl62, _, cu62, hb62, he62⟩ := CRow.get h52 hy54
  replace he62 : (cu62.toList.drop (0 + k * 5)).take 5 = chC y54 := by rw [Nat.zero_add]; exact he62
  refine qv (by kernel_rfl) (v := .pointer (some ⟨g62, 0 + k * 5, none⟩)) (fun _ _ => r_ixaddr' (A := Aab) (b := g62) (o := 0) (n := Xab.length) (c := cab) (sz := 5) (j := (k : Int)) (by kernel_rfl) hA62 (by kernel_rfl) Ty.un54 Ty.sz61 (by omega) (by omega) (by simp)) ?_
  refine qv (by kernel_rfl) (v := .pointer (some ⟨g62, 0 + k * 5 + 1, none⟩)) (fun _ _ => r_fieldAddr (u := .pointer (some ⟨g62, 0 + k * 5, none⟩)) (by kernel_rfl) (fun _ => (by kernel_rfl))) ?_
  refine qv (by kernel_rfl) (v := .agg #[.int .i64 y54.node.t, .int .i64 y54.node.w]) (fun _ uz => r_loads (k := 0 + k * 5 + 1) (by kernel_rfl) Ty.ag24 Ty.sz24 (up_ob uz hb62) (el_sub he62 1 rfl)) ?_
  refine qv (by kernel_rfl) (v := .bool false) (fun _ _ => dec_false (fun h9 => h9 rfl) (r_neS2 (a := ((turnC y54).node.t)) (b := ((turnC y54).node.w)) (c := y54.node.t) (e := y54.node.w) (by kernel_rfl) (by kernel_rfl))) ?_
  refine qv rfl (v := .bool false) (fun _ _ => r_pkF (by kernel_rfl) (by kernel_rfl)) ?_
  refine qmv (v := .bool false) ?_
  refine qv (by kernel_rfl) (v := .slice Aba Xba.length cba) (fun _ _ => r_move (by kernel_rfl)) ?_
  refine qv (by kernel_rfl) (v := .int .i64 (k : Int)) (fun _ _ => r_move (by kernel_rfl)) ?_
  obtain ⟨g63, hA63, hl63, _, cu63, hb63, he63⟩ := CRow.get h59 (turn_get hYX hy54)
  replace he63 : (cu63.toList.drop (0 + k * 5)).take 5 = chC (turnC y54) := by rw [Nat.zero_add]; exact he63
  refine qv (by kernel_rfl) (v := .pointer (some ⟨g63, 0 + k * 5, none⟩)) (fun _ _ => r_ixaddr' (A := Aba) (b := g63) (o := 0) (n := Xba.length) (c := cba) (sz := 5) (j := (k : Int)) (by kernel_rfl) hA63 (by kernel_rfl) Ty.un54 Ty.sz61 (by omega) (by omega) (by simp)) ?_
  refine qv (by kernel_rfl) (v := .pointer (some ⟨g63, 0 + k * 5 + 3, none⟩)) (fun _ _ => r_fieldAddr (u := .pointer (some ⟨g63, 0 + k * 5, none⟩)) (by kernel_rfl) (fun _ => (by kernel_rfl))) ?_
  refine qv (by kernel_rfl) (v := .string ((turnC y54).fr)) (fun _ uz => r_load (k := 0 + k * 5 + 3) (v := .string ((turnC y54).fr)) (by kernel_rfl) Ty.ag9 (up_ob uz hb63) (el_get he63 3 rfl)) ?_
  refine qv (by kernel_rfl) (v := .slice Aab Xab.length cab) (fun _ _ => r_move (by kernel_rfl)) ?_
  refine qv (by kernel_rfl) (v := .int .i64 (k : Int)) (fun _ _ => r_move (by kernel_rfl)) ?_
  obtain ⟨g64, hA64, hl64, _, cu64, hb64, he64⟩ := CRow.get h52 hy54
  replace he64 : (cu64.toList.drop (0 + k * 5)).take 5 = chC y54 := by rw [Nat.zero_add]; exact he64
  refine qv (by kernel_rfl) (v := .pointer (some ⟨g64, 0 + k * 5, none⟩)) (fun _ _ => r_ixaddr' (A := Aab) (b := g64) (o := 0) (n := Xab.length) (c := cab) (sz := 5) (j := (k : Int)) (by kernel_rfl) hA64 (by kernel_rfl) Ty.un54 Ty.sz61 (by omega) (by omega) (by simp)) ?_
  refine qv (by kernel_rfl) (v := .pointer (some ⟨g64, 0 + k * 5 + 4, none⟩)) (fun _ _ => r_fieldAddr (u := .pointer (some ⟨g64, 0 + k * 5, none⟩)) (by kernel_rfl) (fun _ => (by kernel_rfl))) ?_
  refine qv (by kernel_rfl) (v := .string y54.tt) (fun _ uz => r_load (k := 0 + k * 5 + 4) (v := .string y54.tt) (by kernel_rfl) Ty.ag9 (up_ob uz hb64) (el_get he64 4 rfl)) ?_
  refine qv (by kernel_rfl) (v := .bool false) (fun _ _ => dec_false (fun h9 => h9 rfl) (r_nes (m := ((turnC y54).fr)) (n := y54.tt) (by kernel_rfl) (by kernel_rfl))) ?_
  refine qv rfl (v := .bool false) (fun _ _ => r_pkF (by kernel_rfl) (by kernel_rfl)) ?_
  refine qmv (v := .bool false) ?_
  refine qv (by kernel_rfl) (v := .slice Aba Xba.length cba) (fun _ _ => r_move (by kernel_rfl)) ?_
  refine qv (by kernel_rfl) (v := .int .i64 (k : Int)) (fun _ _ => r_move (by kernel_rfl)) ?_
  obtain ⟨g65, hA65, hl65, _, cu65, hb65, he65⟩ := CRow.get h59 (turn_get hYX hy54)
  replace he65 : (cu65.toList.drop (0 + k * 5)).take 5 = chC (turnC y54) := by rw [Nat.zero_add]; exact he65
  refine qv (by kernel_rfl) (v := .pointer (some ⟨g65, 0 + k * 5, none⟩)) (fun _ _ => r_ixaddr' (A := Aba) (b := g65) (o := 0) (n := Xba.length) (c := cba) (sz := 5) (j := (k : Int)) (by kernel_rfl) hA65 (by kernel_rfl) Ty.un54 Ty.sz61 (by omega) (by omega) (by simp)) ?_
  refine qv (by kernel_rfl) (v := .pointer (some ⟨g65, 0 + k * 5 + 4, none⟩)) (fun _ _ => r_fieldAddr (u := .pointer (some ⟨g65, 0 + k * 5, none⟩)) (by kernel_rfl) (fun _ => (by kernel_rfl))) ?_
  refine qv (by kernel_rfl) (v := .string ((turnC y54).tt)) (fun _ uz => r_load (k := 0 + k * 5 + 4) (v := .string ((turnC y54).tt)) (by kernel_rfl) Ty.ag9 (up_ob uz hb65) (el_get he65 4 rfl)) ?_
  refine qv (by kernel_rfl) (v := .slice Aab Xab.length cab) (fun _ _ => r_move (by kernel_rfl)) ?_
  refine qv (by kernel_rfl) (v := .int .i64 (k : Int)) (fun _ _ => r_move (by kernel_rfl)) ?_
  obtain ⟨g66, hA66, hl66, _, cu66, hb66, he66⟩ := CRow.get h52 hy54
  replace he66 : (cu66.toList.drop (0 + k * 5)).take 5 = chC y54 := by rw [Nat.zero_add]; exact he66
  refine qv (by kernel_rfl) (v := .pointer (some ⟨g66, 0 + k * 5, none⟩)) (fun _ _ => r_ixaddr' (A := Aab) (b := g66) (o := 0) (n := Xab.length) (c := cab) (sz := 5) (j := (k : Int)) (by kernel_rfl) hA66 (by kernel_rfl) Ty.un54 Ty.sz61 (by omega) (by omega) (by simp)) ?_
  refine qv (by kernel_rfl) (v := .pointer (some ⟨g66, 0 + k * 5 + 3, none⟩)) (fun _ _ => r_fieldAddr (u := .pointer (some ⟨g66, 0 + k * 5, none⟩)) (by kernel_rfl) (fun _ => (by kernel_rfl))) ?_
  refine qv (by kernel_rfl) (v := .string y54.fr) (fun _ uz => r_load (k := 0 + k * 5 + 3) (v := .string y54.fr) (by kernel_rfl) Ty.ag9 (up_ob uz hb66) (el_get he66 3 rfl)) ?_
  refine qv (by kernel_rfl) (v := .bool false) (fun _ _ => dec_false (fun h9 => h9 rfl) (r_nes (m := ((turnC y54).tt)) (n := y54.fr) (by kernel_rfl) (by kernel_rfl))) ?_
  refine qv rfl (v := .bool false) (fun _ _ => r_pkF (by kernel_rfl) (by kernel_rfl)) ?_
  refine qnil ?_
  intro w67 u68
  have M69 := Mod.trans M45 (Mod.of_up u68)
  have M70 := Mod.trans hM1 (Mod.of_up u68)
  refine then_n ?_
  refine wp_cond_false (by kernel_rfl) ?_
  refine wp_skip (inb_n (then_n (rg_lit ?_)))
  refine wmv (v := .int .i64 (k : Int)) ?_
  refine wl (sv rfl (v := .int .i64 ((k + 1 : Nat) : Int)) (r_add (k := .i64) (m := (k : Int)) (n := 1) (c := ((k + 1 : Nat) : Int)) (by kernel_rfl) (by kernel_rfl) ((IntWalk.i64_in _ (by omega)).trans (by omega))) ?_)
  refine was (v := .int .i64 ((k + 1 : Nat) : Int)) ?_
  refine wnil (then_n ?_)
  refine ⟨Xab.length - (k + 1), ?_, (k + 1), tget [undef, undef, undef, undef, (Zk 4), undef, undef, undef, undef, undef, .int .i64 (3 - y54.kind), undef, undef, undef, undef, undef, undef, undef, undef, undef, undef, undef, undef, undef, undef, undef, undef, undef, undef, undef, undef, undef, undef, undef, undef, .int .i64 (k : Int), .slice Aab Xab.length cab, .int .i64 (Xab.length : Int), .bool b46, .int .i64 (k : Int), .int .i64 ((k + 1 : Nat) : Int), .slice Aab Xab.length cab, .int .i64 (k : Int), .pointer (some ⟨g53, 0 + k * 5, none⟩), .pointer (some ⟨g53, 0 + k * 5, none⟩), .int .i64 y54.kind, .int .i64 y54.kind, .bool b55, .int .i64 y54.kind, .int .i64 (3 - y54.kind), .slice Aba Xba.length cba, .int .i64 (k : Int), .pointer (some ⟨g60, 0 + k * 5, none⟩), .pointer (some ⟨g60, 0 + k * 5, none⟩), .int .i64 ((turnC y54).kind), .int .i64 (3 - y54.kind), .bool false, .bool false, .slice Aba Xba.length cba, .int .i64 (k : Int), .pointer (some ⟨g61, 0 + k * 5, none⟩), .pointer (some ⟨g61, 0 + k * 5 + 1, none⟩), .agg #[.int .i64 ((turnC y54).node.t), .int .i64 ((turnC y54).node.w)], .slice Aab Xab.length cab, .int .i64 (k : Int), .pointer (some ⟨g62, 0 + k * 5, none⟩), .pointer (some ⟨g62, 0 + k * 5 + 1, none⟩), .agg #[.int .i64 y54.node.t, .int .i64 y54.node.w], .bool false, .bool false, .bool false, .slice Aba Xba.length cba, .int .i64 (k : Int), .pointer (some ⟨g63, 0 + k * 5, none⟩), .pointer (some ⟨g63, 0 + k * 5 + 3, none⟩), .string ((turnC y54).fr), .slice Aab Xab.length cab, .int .i64 (k : Int), .pointer (some ⟨g64, 0 + k * 5, none⟩), .pointer (some ⟨g64, 0 + k * 5 + 4, none⟩), .string y54.tt, .bool false, .bool false, .bool false, .slice Aba Xba.length cba, .int .i64 (k : Int), .pointer (some ⟨g65, 0 + k * 5, none⟩), .pointer (some ⟨g65, 0 + k * 5 + 4, none⟩), .string ((turnC y54).tt), .slice Aab Xab.length cab, .int .i64 (k : Int), .pointer (some ⟨g66, 0 + k * 5, none⟩), .pointer (some ⟨g66, 0 + k * 5 + 3, none⟩), .string y54.fr, .bool false, .bool false], rfl, (by kernel_rfl), M70, (by omega)⟩
  · omega
end Go.Proofs.YtefhfoioeoijlaaGreatDoor

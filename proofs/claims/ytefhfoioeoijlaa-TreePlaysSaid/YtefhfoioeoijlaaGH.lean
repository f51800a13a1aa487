/- GH: printed by gen.py -/
import Derived.Test.YtefhfoioeoijlaaGG
import Derived.Test.YtefhfoioeoijlaaRefE
set_option linter.unusedVariables false
set_option linter.unusedSimpArgs false
namespace Go.Proofs.Ytefhfoioeoijlaa
open Go Go.RowKit Go.Sort
set_option maxHeartbeats 2000000 in
theorem treePlays_at {B : Nat} {w : World} {lA : Option Addr} {lc : Nat} {os : List OpD} (h0 : OpRow0 w lA os) (hfull : Small os → OpRow B w lA os) (hB : B ≤ w.heap.size) (hn : os.length ≤ 9223372036854775807) (m1 m2 n1 n2 : Int) :
    Calls Try.prog 3 #[.slice lA os.length lc, .agg #[.int .i64 m1, .int .i64 m2], .agg #[.int .i64 n1, .int .i64 n2]] w fun e w' => e = .returned (.bool true) ∧ Up w w' := by
  go_enter Try.func3, Try.ntmps3
  refine wp_seq ?_
  refine rg_lit ?_
  refine wl (sn rfl (cs := #[.int .i64 m1, .int .i64 m2]) (T := 24) (V := fun b => .pointer (some ⟨b, 0, none⟩)) (r_box (v := .agg #[.int .i64 m1, .int .i64 m2]) (by kernel_rfl) rfl) ?_)
  intro b1 w2 e3 h4 u5
  have g6 : w.heap.size ≤ b1 := by rw [e3]; exact (Mod.refl [] w).size
  have M7 := Mod.trans (Mod.refl [] w) (Mod.of_up u5)
  refine wl (sn rfl (cs := #[.int .i64 n1, .int .i64 n2]) (T := 24) (V := fun b => .pointer (some ⟨b, 0, none⟩)) (r_box (v := .agg #[.int .i64 n1, .int .i64 n2]) (by kernel_rfl) rfl) ?_)
  intro b8 w9 e10 h11 u12
  have l13 : b1 < b8 := by rw [e10]; exact lt_ob h4
  have g14 : w.heap.size ≤ b8 := by rw [e10]; exact M7.size
  have M15 := Mod.trans M7 (Mod.of_up u12)
  refine wl (sv rfl (v := .bool false) (r_assign (by kernel_rfl)) ?_)
  refine wnil ?_
  refine then_n ?_
  refine wp_seq ?_
  refine wp_seq ?_
  refine rg_lit ?_
  refine wl (sv rfl (v := .slice lA os.length lc) (r_move (by kernel_rfl)) ?_)
  refine wl (sc rfl (r_callv (caps := []) (all := [.slice lA os.length lc, .int .i64 60]) En.f12 (by kernel_rfl) (by kernel_rfl)) (light_at (OpRow0.up h0 (Mod.up M15)) hn 60) ?_)
  rintro e w16 ⟨lb17, rfl, h18, u19⟩
  refine ⟨.bool lb17, rfl, ?_⟩
  have M20 := Mod.trans M15 (Mod.of_up u19)
  refine wl (sv rfl (v := .bool (!lb17)) (r_not (b := lb17) (by kernel_rfl)) ?_)
  refine wnil ?_
  refine then_n ?_
  refine bcase lb17 (fun v21 => ?_) (fun v21 => ?_)
  · refine wp_cond_true (ebool (b := !lb17) (by kernel_rfl) (bneg v21)) ?_
    refine wp_seq ?_
    refine rg_lit ?_
    refine wl (sc rfl (r_callv (caps := []) (all := []) En.f13 (by kernel_rfl) (by kernel_rfl)) (alive_at) ?_)
    rintro e w22 ⟨rfl, u23⟩
    refine ⟨.bool true, rfl, ?_⟩
    have M24 := Mod.trans M20 (Mod.of_up u23)
    refine wl (sv rfl (v := .bool true) (r_assign (by kernel_rfl)) ?_)
    refine wnil ?_
    refine then_n ?_
    refine wp_ret ?_
    refine then_x (by nofun) ?_
    refine bodyPost_ret (v := .bool true) (res1 rfl (rv_t (by kernel_rfl))) (by kernel_rfl) ?_
    exact ⟨rfl, (Mod.up M24)⟩
  · have hops := hfull (h18 v21)
    refine wp_cond_false (ebool (b := !lb17) (by kernel_rfl) (bneg v21)) ?_
    refine wp_skip ?_
    refine then_n ?_
    refine wp_seq ?_
    refine rg_lit ?_
    refine wl (sc rfl (r_callv (caps := []) (all := []) En.f14 (by kernel_rfl) (by kernel_rfl)) (tnew_any (Nat.le_trans hB M20.size)) ?_)
    rintro e w22 ⟨tb, r, rfl, h25, u26, z27, z28⟩
    refine ⟨.pointer (some ⟨tb, 0, none⟩), rfl, ?_⟩
    have h29 := (up_ob u19 (up_ob u12 h4))
    have l30 : b1 < r := Nat.lt_of_lt_of_le (lt_ob h29) z28
    have h31 := (up_ob u19 h11)
    have l32 : b8 < r := Nat.lt_of_lt_of_le (lt_ob h31) z28
    have l33 : b1 < tb := Nat.lt_of_lt_of_le (lt_ob h29) z27
    have l34 : b8 < tb := Nat.lt_of_lt_of_le (lt_ob h31) z27
    have M35 := Mod.trans M20 (Mod.of_up u26)
    obtain ⟨eshr36, clhr36, xshr36, hr36, _⟩ := h25.2.2.2.1
    refine wl (sv rfl (v := .pointer (some ⟨tb, 0, none⟩)) (r_assign (by kernel_rfl)) ?_)
    refine wnil ?_
    refine then_n ?_
    refine wp_seq ?_
    refine rg_lit ?_
    refine wl (sv rfl (v := .agg #[.slice none 0 0]) (r_build (ps := []) (cs := [.slice none 0 0]) Ty.un32 Ty.zv32 Ty.pl32 (by kernel_rfl) (by kernel_rfl)) ?_)
    refine wl (sn rfl (cs := #[.slice none 0 0]) (T := 32) (V := fun b => .pointer (some ⟨b, 0, none⟩)) (r_box (v := .agg #[.slice none 0 0]) (by kernel_rfl) rfl) ?_)
    intro ub w37 e38 h39 u40
    have h41 := (up_ob u26 h29)
    have l42 : b1 < ub := by rw [e38]; exact lt_ob h41
    have h43 := (up_ob u26 h31)
    have l44 : b8 < ub := by rw [e38]; exact lt_ob h43
    have l45 : r < ub := by rw [e38]; exact lt_ob hr36
    have l46 : tb < ub := by rw [e38]; exact lt_ob h25.1
    have g47 : w.heap.size ≤ ub := by rw [e38]; exact M35.size
    have M48 := Mod.trans M35 (Mod.of_up u40)
    have h49 : RIs B w37 ub [] := ⟨Nat.le_trans hB g47, _, h39, RowI.nil _ _ _, (by nofun), (by simp)⟩
    refine wl (sv rfl (v := .pointer (some ⟨ub, 0, none⟩)) (r_assign (by kernel_rfl)) ?_)
    refine wnil ?_
    refine then_n ?_
    refine wp_seq ?_
    refine wp_seq ?_
    refine rg_lit ?_
    refine wl (sv rfl (v := .pointer (some ⟨tb, 0, none⟩)) (r_move (by kernel_rfl)) ?_)
    refine wl (sv (w' := w37) rfl (v := .bool false) (by kernel_rfl) ?_)
    refine wl (sv rfl (v := .bool false) (r_move (by kernel_rfl)) ?_)
    refine wl (sc (by kernel_rfl) (r_callv (caps := []) (all := []) En.f13 (by kernel_rfl) (by kernel_rfl)) (alive_at) ?_)
    rintro e w50 ⟨rfl, u51⟩
    refine ⟨.bool true, rfl, ?_⟩
    have M52 := Mod.trans M48 (Mod.of_up u51)
    refine wl (sv (by kernel_rfl) (v := .bool false) (r_not (b := true) (by kernel_rfl)) ?_)
    refine wl (sv rfl (v := .bool false) (r_pick (b := false) (u := .bool true) (v := .bool false) (by kernel_rfl) (by kernel_rfl) (by kernel_rfl)) ?_)
    refine wnil ?_
    refine then_n ?_
    refine wp_cond_false (by kernel_rfl) ?_
    refine wp_skip ?_
    refine then_n ?_
    refine wp_seq ?_
    refine wp_seq ?_
    refine rg_lit ?_
    refine wl (sv rfl (v := .int .i64 0) (r_assign (by kernel_rfl)) ?_)
    refine wnil ?_
    refine then_n ?_
    refine wp_block ?_
    have h53 := (up_ob u51 (up_ob u40 h41))
    have h54 := (up_ob u51 (up_ob u40 h43))
    have h55 := (up_ob u51 (up_ob u40 hr36))
    have h56 := (up_ob u51 (up_ob u40 h25.1))
    have h57 := (up_ob u51 h39)
    have h58 := h18
    have h59 := (OpRow.up hops (Mod.up M52))
    have h60 := (TreeIs.up h25 (up_up u40 u51))
    have h61 := (RIs.up h49 u51)
    refine lp (fun n a r1 => ∃ (k : Nat) (L : List Item) (Z : Nat → Value), (n = os.length - k) ∧ (a = ⟨#[.slice lA os.length lc, .agg #[.int .i64 m1, .int .i64 m2], .agg #[.int .i64 n1, .int .i64 n2], undef, .pointer (some ⟨b1, 0, none⟩), .pointer (some ⟨b8, 0, none⟩), (Z 6), .pointer (some ⟨tb, 0, none⟩), .pointer (some ⟨ub, 0, none⟩), .int .i64 ((k : Int)), (Z 10), (Z 11), (Z 12), (Z 13), (Z 14), (Z 15), (Z 16), (Z 17), .slice lA os.length lc, .bool lb17, .bool (!lb17), undef, .pointer (some ⟨tb, 0, none⟩), .agg #[.slice none 0 0], .pointer (some ⟨ub, 0, none⟩), .pointer (some ⟨tb, 0, none⟩), .bool false, .bool false, .bool true, .bool false, .bool false, (Z 31), (Z 32), (Z 33), (Z 34), (Z 35), (Z 36), (Z 37), (Z 38), (Z 39), (Z 40), (Z 41), (Z 42), (Z 43), (Z 44), (Z 45), (Z 46), (Z 47), (Z 48), (Z 49), (Z 50), (Z 51), (Z 52), (Z 53), (Z 54), (Z 55), (Z 56), (Z 57), (Z 58), (Z 59), (Z 60), (Z 61), (Z 62), (Z 63), (Z 64), (Z 65), (Z 66), (Z 67), (Z 68), (Z 69), (Z 70), (Z 71), (Z 72), (Z 73), (Z 74), (Z 75), (Z 76), (Z 77), (Z 78), (Z 79), (Z 80), (Z 81), (Z 82), (Z 83), (Z 84), (Z 85), (Z 86), (Z 87), (Z 88), (Z 89), (Z 90), (Z 91), (Z 92), (Z 93), (Z 94), (Z 95), (Z 96), (Z 97), (Z 98), (Z 99), (Z 100), (Z 101), (Z 102), (Z 103), (Z 104), (Z 105), (Z 106), (Z 107), (Z 108), (Z 109), (Z 110), (Z 111), (Z 112), (Z 113), (Z 114), (Z 115), (Z 116), (Z 117), (Z 118), (Z 119), (Z 120), (Z 121), (Z 122), (Z 123), (Z 124), (Z 125), (Z 126), (Z 127), (Z 128), (Z 129), (Z 130), (Z 131), (Z 132), (Z 133), (Z 134), (Z 135), (Z 136), (Z 137), (Z 138), (Z 139), (Z 140), (Z 141), (Z 142), (Z 143), (Z 144), (Z 145)], []⟩) ∧ (Mod [r, ub] w50 r1) ∧ (k ≤ os.length) ∧ (TreeIs B r1 tb r L) ∧ (RIs B r1 ub L)) ⟨_, 0, [], tget [undef, undef, undef, undef, undef, undef, .bool false, undef, undef, undef, undef, undef, undef, undef, undef, undef, undef, undef, undef, undef, undef, undef, undef, undef, undef, undef, undef, undef, undef, undef, undef, undef, undef, undef, undef, undef, undef, undef, undef, undef, undef, undef, undef, undef, undef, undef, undef, undef, undef, undef, undef, undef, undef, undef, undef, undef, undef, undef, undef, undef, undef, undef, undef, undef, undef, undef, undef, undef, undef, undef, undef, undef, undef, undef, undef, undef, undef, undef, undef, undef, undef, undef, undef, undef, undef, undef, undef, undef, undef, undef, undef, undef, undef, undef, undef, undef, undef, undef, undef, undef, undef, undef, undef, undef, undef, undef, undef, undef, undef, undef, undef, undef, undef, undef, undef, undef, undef, undef, undef, undef, undef, undef, undef, undef, undef, undef, undef, undef, undef, undef, undef, undef, undef, undef, undef, undef, undef, undef, undef, undef, undef, undef, undef, undef, undef, undef], rfl, (by kernel_rfl), Mod.refl _ _, Nat.zero_le _, h60, h61⟩ ?_
    rintro _ _ r1 ⟨k, L, Z, rfl, rfl, hM1, hF1_0, hF1_1, hF1_2⟩
    have M62 := Mod.thin M52 hM1 (fun y hy => by simp only [List.mem_cons, List.not_mem_nil, or_false] at hy; rcases hy with rfl | rfl; exact .inr (Nat.le_trans M20.size z28); exact .inr g47)
    obtain ⟨eshr63, clhr63, xshr63, hr63, _⟩ := hF1_1.2.2.2.1
    have srt64 := hF1_1.2.2.2.1.srt
    have hhu65 := hF1_2
    obtain ⟨_, vu65, hvu65, hlu65, _, _⟩ := hhu65
    rw [rowI_is] at hlu65
    obtain ⟨Au65, cu65, rfl⟩ := hlu65.form
    refine wp_seq ?_
    refine wp_seq ?_
    refine rg_lit ?_
    refine wl (sv rfl (v := .int .i64 ((k : Int))) (r_move (by kernel_rfl)) ?_)
    refine wl (sv rfl (v := .slice lA os.length lc) (r_move (by kernel_rfl)) ?_)
    refine wl (sv rfl (v := .int .i64 ((os.length : Int))) (r_len Ty.un22 (ad := lA) (n := os.length) (c := lc) (by kernel_rfl)) ?_)
    refine wl (sb rfl (r_lt (k := .i64) (m := ((k : Int))) (n := ((os.length : Int))) (by kernel_rfl) (by kernel_rfl)) ?_)
    intro b66 k67
    refine wnil ?_
    refine then_n ?_
    refine bcase b66 (fun v68 => ?_) (fun v68 => ?_)
    · have p69 := of_decide_eq_false (k67.trans v68)
      refine wp_cond_false (ebool (b := b66) (by kernel_rfl) v68) ?_
      refine wp_exit ?_
      refine then_x (by nofun) ?_
      refine then_x (by nofun) ?_
      refine inb_hit ?_
      refine then_n ?_
      refine wp_seq ?_
      refine rg_lit ?_
      refine wl (sv rfl (v := .bool true) (r_assign (by kernel_rfl)) ?_)
      refine wnil ?_
      refine then_n ?_
      refine wp_ret ?_
      refine bodyPost_ret (v := .bool true) (res1 rfl (rv_t (by kernel_rfl))) (by kernel_rfl) ?_
      exact ⟨rfl, (Mod.up M62)⟩
    · have p69 := of_decide_eq_true (k67.trans v68)
      have q70 : k < os.length := by omega
      have q71 : k < os.length := by omega
      refine wp_cond_true (ebool (b := b66) (by kernel_rfl) v68) ?_
      refine wp_skip ?_
      refine then_n ?_
      refine wp_seq ?_
      refine wp_block ?_
      refine wp_seq ?_
      refine rg_lit ?_
      refine wl (sv rfl (v := .pointer (some ⟨tb, 0, none⟩)) (r_move (by kernel_rfl)) ?_)
      refine wl (sv rfl (v := .slice lA os.length lc) (r_move (by kernel_rfl)) ?_)
      refine wl (sv rfl (v := .int .i64 ((k : Int))) (r_move (by kernel_rfl)) ?_)
      have h72 := (OpRow.up hops (Mod.up M62))
      obtain ⟨o73, ho73⟩ : ∃ x, os[k]? = some x := ⟨_, List.getElem?_eq_getElem q71⟩
      obtain ⟨g73, f73, oA73, on73, oc73, hA73, hl73, hc73, hD73, hs73⟩ := h72 k o73 ho73
      refine wl (sv rfl (v := .pointer (some ⟨g73, f73 + k * 10, none⟩)) (r_ixaddr' (A := lA) (b := g73) (o := f73) (n := os.length) (c := lc) (sz := 10) (j := (k : Int)) (m := f73 + k * 10) (by kernel_rfl) hA73 (by kernel_rfl) Ty.un22 Ty.sz40 (by omega) (by omega) (by simp)) ?_)
      refine wl (sv rfl (v := .agg #[.int .i64 o73.kind, .int .i64 o73.at_.t, .int .i64 o73.at_.w, .int .i64 o73.node.t, .int .i64 o73.node.w, .int .i64 o73.parent.t, .int .i64 o73.parent.w, .bool o73.dir, .string o73.name, .slice oA73 on73 oc73]) (r_loadcN (vs := [.int .i64 o73.kind, .int .i64 o73.at_.t, .int .i64 o73.at_.w, .int .i64 o73.node.t, .int .i64 o73.node.w, .int .i64 o73.parent.t, .int .i64 o73.parent.w, .bool o73.dir, .string o73.name, .slice oA73 on73 oc73]) (by kernel_rfl) Ty.ag40 Ty.sz40 hc73) ?_)
      have h81 := md_ob hM1 (ninc (Nat.ne_of_lt l30) (nin1 (Nat.ne_of_lt l42))) h53
      have h82 := md_ob hM1 (ninc (Nat.ne_of_lt l32) (nin1 (Nat.ne_of_lt l44))) h54
      refine wl (sc rfl (r_callv (caps := []) (all := [.pointer (some ⟨tb, 0, none⟩), .agg #[.int .i64 o73.kind, .int .i64 o73.at_.t, .int .i64 o73.at_.w, .int .i64 o73.node.t, .int .i64 o73.node.w, .int .i64 o73.parent.t, .int .i64 o73.parent.w, .bool o73.dir, .string o73.name, .slice oA73 on73 oc73]]) En.f15 (by kernel_rfl) (by kernel_rfl)) (do_x (L' := (doI L o73).2) hF1_1 (Nat.le_trans hB M62.size) o73 oA73 on73 oc73 hD73 hs73 rfl) ?_)
      rintro e w74 ⟨A75, n76, c77, rfl, h78, h79, u80⟩
      refine ⟨.tuple #[.agg #[.int .i64 ((doI L o73).1.1.node.t), .int .i64 ((doI L o73).1.1.node.w), .int .i64 ((doI L o73).1.1.parent.t), .int .i64 ((doI L o73).1.1.parent.w), .string ((doI L o73).1.1.name), .bool ((doI L o73).1.1.dir), .bool ((doI L o73).1.1.gone), .slice A75 n76 c77, .int .i64 ((doI L o73).1.1.by_.t), .int .i64 ((doI L o73).1.1.by_.w)], .bool ((doI L o73).1.2.1), .int .i64 ((doI L o73).1.2.2)], rfl, ?_⟩
      have M83 := Mod.trans' M62 u80 (fun i hi => by injection hi with hi; rw [← hi]; exact (Nat.le_trans M20.size z28))
      have M84 := Mod.trans hM1 (Mod.of_chg u80 (by simp))
      obtain ⟨eshr85, clhr85, xshr85, hr85, _⟩ := h79.2.2.2.1
      refine wl (sv rfl (v := .tuple #[.agg #[.int .i64 ((doI L o73).1.1.node.t), .int .i64 ((doI L o73).1.1.node.w), .int .i64 ((doI L o73).1.1.parent.t), .int .i64 ((doI L o73).1.1.parent.w), .string ((doI L o73).1.1.name), .bool ((doI L o73).1.1.dir), .bool ((doI L o73).1.1.gone), .slice A75 n76 c77, .int .i64 ((doI L o73).1.1.by_.t), .int .i64 ((doI L o73).1.1.by_.w)], .bool ((doI L o73).1.2.1), .int .i64 ((doI L o73).1.2.2)]) (r_move (by kernel_rfl)) ?_)
      refine wl (sv rfl (v := .agg #[.int .i64 ((doI L o73).1.1.node.t), .int .i64 ((doI L o73).1.1.node.w), .int .i64 ((doI L o73).1.1.parent.t), .int .i64 ((doI L o73).1.1.parent.w), .string ((doI L o73).1.1.name), .bool ((doI L o73).1.1.dir), .bool ((doI L o73).1.1.gone), .slice A75 n76 c77, .int .i64 ((doI L o73).1.1.by_.t), .int .i64 ((doI L o73).1.1.by_.w)]) (r_extract (vs := [.agg #[.int .i64 ((doI L o73).1.1.node.t), .int .i64 ((doI L o73).1.1.node.w), .int .i64 ((doI L o73).1.1.parent.t), .int .i64 ((doI L o73).1.1.parent.w), .string ((doI L o73).1.1.name), .bool ((doI L o73).1.1.dir), .bool ((doI L o73).1.1.gone), .slice A75 n76 c77, .int .i64 ((doI L o73).1.1.by_.t), .int .i64 ((doI L o73).1.1.by_.w)], .bool ((doI L o73).1.2.1), .int .i64 ((doI L o73).1.2.2)]) (by kernel_rfl) rfl) ?_)
      refine wl (sv rfl (v := .bool ((doI L o73).1.2.1)) (r_extract (vs := [.agg #[.int .i64 ((doI L o73).1.1.node.t), .int .i64 ((doI L o73).1.1.node.w), .int .i64 ((doI L o73).1.1.parent.t), .int .i64 ((doI L o73).1.1.parent.w), .string ((doI L o73).1.1.name), .bool ((doI L o73).1.1.dir), .bool ((doI L o73).1.1.gone), .slice A75 n76 c77, .int .i64 ((doI L o73).1.1.by_.t), .int .i64 ((doI L o73).1.1.by_.w)], .bool ((doI L o73).1.2.1), .int .i64 ((doI L o73).1.2.2)]) (by kernel_rfl) rfl) ?_)
      refine wl (sv rfl (v := .int .i64 ((doI L o73).1.2.2)) (r_extract (vs := [.agg #[.int .i64 ((doI L o73).1.1.node.t), .int .i64 ((doI L o73).1.1.node.w), .int .i64 ((doI L o73).1.1.parent.t), .int .i64 ((doI L o73).1.1.parent.w), .string ((doI L o73).1.1.name), .bool ((doI L o73).1.1.dir), .bool ((doI L o73).1.1.gone), .slice A75 n76 c77, .int .i64 ((doI L o73).1.1.by_.t), .int .i64 ((doI L o73).1.1.by_.w)], .bool ((doI L o73).1.2.1), .int .i64 ((doI L o73).1.2.2)]) (by kernel_rfl) rfl) ?_)
      refine wl (sn rfl (cs := #[.int .i64 0, .int .i64 0, .int .i64 0, .int .i64 0, .string (⟨#[]⟩), .bool false, .bool false, .slice none 0 0, .int .i64 0, .int .i64 0]) (T := 35) (V := fun b => .pointer (some ⟨b, 0, none⟩)) (r_alloc Ty.zv35 rfl) ?_)
      intro b86 w87 e88 h89 u90
      have h91 := md_ob M84 (ninc (Nat.ne_of_lt l30) (nin1 (Nat.ne_of_lt l42))) h53
      have l92 : b1 < b86 := by rw [e88]; exact lt_ob h91
      have h93 := md_ob M84 (ninc (Nat.ne_of_lt l32) (nin1 (Nat.ne_of_lt l44))) h54
      have l94 : b8 < b86 := by rw [e88]; exact lt_ob h93
      have l95 : r < b86 := by rw [e88]; exact lt_ob hr85
      have l96 : tb < b86 := by rw [e88]; exact lt_ob h79.1
      have h97 := (chg_ob u80 (Nat.ne_of_gt l45) hvu65)
      have l98 : ub < b86 := by rw [e88]; exact lt_ob h97
      have g99 : w.heap.size ≤ b86 := by rw [e88]; exact M83.size
      have g100 : w50.heap.size ≤ b86 := by rw [e88]; exact M84.size
      have M101 := Mod.trans M83 (Mod.of_up u90)
      have M102 := Mod.trans M84 (Mod.of_up u90)
      refine wl (ss rfl (k := 0) (v := .agg #[.int .i64 ((doI L o73).1.1.node.t), .int .i64 ((doI L o73).1.1.node.w), .int .i64 ((doI L o73).1.1.parent.t), .int .i64 ((doI L o73).1.1.parent.w), .string ((doI L o73).1.1.name), .bool ((doI L o73).1.1.dir), .bool ((doI L o73).1.1.gone), .slice A75 n76 c77, .int .i64 ((doI L o73).1.1.by_.t), .int .i64 ((doI L o73).1.1.by_.w)]) (vs := [.int .i64 ((doI L o73).1.1.node.t), .int .i64 ((doI L o73).1.1.node.w), .int .i64 ((doI L o73).1.1.parent.t), .int .i64 ((doI L o73).1.1.parent.w), .string ((doI L o73).1.1.name), .bool ((doI L o73).1.1.dir), .bool ((doI L o73).1.1.gone), .slice A75 n76 c77, .int .i64 ((doI L o73).1.1.by_.t), .int .i64 ((doI L o73).1.1.by_.w)]) (cs' := [.int .i64 ((doI L o73).1.1.node.t), .int .i64 ((doI L o73).1.1.node.w), .int .i64 ((doI L o73).1.1.parent.t), .int .i64 ((doI L o73).1.1.parent.w), .string ((doI L o73).1.1.name), .bool ((doI L o73).1.1.dir), .bool ((doI L o73).1.1.gone), .slice A75 n76 c77, .int .i64 ((doI L o73).1.1.by_.t), .int .i64 ((doI L o73).1.1.by_.w)]) (by kernel_rfl) (by kernel_rfl) rfl Ty.sz35 h89 rfl (Nat.le_of_ble_eq_true rfl) rfl ?_)
      intro w103 h104 c105
      have M106 := Mod.trans' M101 c105 (fun i hi => by injection hi with hi; rw [← hi]; exact g99)
      have M107 := Mod.trans' M102 c105 (fun i hi => by injection hi with hi; rw [← hi]; exact g100)
      refine wl (sv rfl (v := .bool ((doI L o73).1.2.1)) (r_assign (by kernel_rfl)) ?_)
      refine wl (sv rfl (v := .int .i64 ((doI L o73).1.2.2)) (r_assign (by kernel_rfl)) ?_)
      refine wnil ?_
      refine then_n ?_
      refine wp_seq ?_
      refine rg_lit ?_
      refine wl (sv rfl (v := .pointer (some ⟨ub, 0, none⟩)) (r_move (by kernel_rfl)) ?_)
      refine wl (sv rfl (v := .slice lA os.length lc) (r_move (by kernel_rfl)) ?_)
      refine wl (sv rfl (v := .int .i64 ((k : Int))) (r_move (by kernel_rfl)) ?_)
      have h108 := (OpRow.up hops (Mod.up M106))
      obtain ⟨g109, f109, oA109, on109, oc109, hA109, hl109, hc109, hD109, hs109⟩ := h108 k o73 ho73
      refine wl (sv rfl (v := .pointer (some ⟨g109, f109 + k * 10, none⟩)) (r_ixaddr' (A := lA) (b := g109) (o := f109) (n := os.length) (c := lc) (sz := 10) (j := (k : Int)) (m := f109 + k * 10) (by kernel_rfl) hA109 (by kernel_rfl) Ty.un22 Ty.sz40 (by omega) (by omega) (by simp)) ?_)
      refine wl (sv rfl (v := .agg #[.int .i64 o73.kind, .int .i64 o73.at_.t, .int .i64 o73.at_.w, .int .i64 o73.node.t, .int .i64 o73.node.w, .int .i64 o73.parent.t, .int .i64 o73.parent.w, .bool o73.dir, .string o73.name, .slice oA109 on109 oc109]) (r_loadcN (vs := [.int .i64 o73.kind, .int .i64 o73.at_.t, .int .i64 o73.at_.w, .int .i64 o73.node.t, .int .i64 o73.node.w, .int .i64 o73.parent.t, .int .i64 o73.parent.w, .bool o73.dir, .string o73.name, .slice oA109 on109 oc109]) (by kernel_rfl) Ty.ag40 Ty.sz40 hc109) ?_)
      have h110 := (RIs.up (RIs.chgm hF1_2 hr63 hF1_1.2.2.1 u80) (up_chgn u90 c105 (by rw [e88]; exact Nat.le_refl _)))
      have h118 := md_ob M107 (ninc (Nat.ne_of_lt l30) (nin1 (Nat.ne_of_lt l42))) h53
      have h119 := md_ob M107 (ninc (Nat.ne_of_lt l32) (nin1 (Nat.ne_of_lt l44))) h54
      have h120 := (chg_ob c105 (Nat.ne_of_lt l95) (up_ob u90 hr85))
      have h121 := (chg_ob c105 (Nat.ne_of_lt l96) (up_ob u90 h79.1))
      have h122 := (chg_ob c105 (Nat.ne_of_lt l98) (up_ob u90 h97))
      have h123 := (TreeIs.up h79 (up_chgn u90 c105 (by rw [e88]; exact Nat.le_refl _)))
      refine wl (sc rfl (r_callv (caps := []) (all := [.pointer (some ⟨ub, 0, none⟩), .agg #[.int .i64 o73.kind, .int .i64 o73.at_.t, .int .i64 o73.at_.w, .int .i64 o73.node.t, .int .i64 o73.node.w, .int .i64 o73.parent.t, .int .i64 o73.parent.w, .bool o73.dir, .string o73.name, .slice oA109 on109 oc109]]) En.f16 (by kernel_rfl) (by kernel_rfl)) (rdo_x h110 (Nat.le_trans hB M106.size) srt64 o73 oA109 on109 oc109 hD109 hs109 (rdo_at h110 (Nat.le_trans hB M106.size) srt64 o73 oA109 on109 oc109 hD109 hs109)) ?_)
      rintro e w111 ⟨A112, n113, c114, rfl, h115, h116, u117⟩
      refine ⟨.tuple #[.agg #[.int .i64 ((doI L o73).1.1.node.t), .int .i64 ((doI L o73).1.1.node.w), .int .i64 ((doI L o73).1.1.parent.t), .int .i64 ((doI L o73).1.1.parent.w), .string ((doI L o73).1.1.name), .bool ((doI L o73).1.1.dir), .bool ((doI L o73).1.1.gone), .slice A112 n113 c114, .int .i64 ((doI L o73).1.1.by_.t), .int .i64 ((doI L o73).1.1.by_.w)], .bool ((doI L o73).1.2.1), .int .i64 ((doI L o73).1.2.2)], rfl, ?_⟩
      have M124 := Mod.trans' M106 u117 (fun i hi => by injection hi with hi; rw [← hi]; exact g47)
      have M125 := Mod.trans M107 (Mod.of_chg u117 (by simp))
      have hhu126 := h116
      obtain ⟨_, vu126, hvu126, hlu126, _, _⟩ := hhu126
      rw [rowI_is] at hlu126
      obtain ⟨Au126, cu126, rfl⟩ := hlu126.form
      refine wl (sv rfl (v := .tuple #[.agg #[.int .i64 ((doI L o73).1.1.node.t), .int .i64 ((doI L o73).1.1.node.w), .int .i64 ((doI L o73).1.1.parent.t), .int .i64 ((doI L o73).1.1.parent.w), .string ((doI L o73).1.1.name), .bool ((doI L o73).1.1.dir), .bool ((doI L o73).1.1.gone), .slice A112 n113 c114, .int .i64 ((doI L o73).1.1.by_.t), .int .i64 ((doI L o73).1.1.by_.w)], .bool ((doI L o73).1.2.1), .int .i64 ((doI L o73).1.2.2)]) (r_move (by kernel_rfl)) ?_)
      refine wl (sv rfl (v := .agg #[.int .i64 ((doI L o73).1.1.node.t), .int .i64 ((doI L o73).1.1.node.w), .int .i64 ((doI L o73).1.1.parent.t), .int .i64 ((doI L o73).1.1.parent.w), .string ((doI L o73).1.1.name), .bool ((doI L o73).1.1.dir), .bool ((doI L o73).1.1.gone), .slice A112 n113 c114, .int .i64 ((doI L o73).1.1.by_.t), .int .i64 ((doI L o73).1.1.by_.w)]) (r_extract (vs := [.agg #[.int .i64 ((doI L o73).1.1.node.t), .int .i64 ((doI L o73).1.1.node.w), .int .i64 ((doI L o73).1.1.parent.t), .int .i64 ((doI L o73).1.1.parent.w), .string ((doI L o73).1.1.name), .bool ((doI L o73).1.1.dir), .bool ((doI L o73).1.1.gone), .slice A112 n113 c114, .int .i64 ((doI L o73).1.1.by_.t), .int .i64 ((doI L o73).1.1.by_.w)], .bool ((doI L o73).1.2.1), .int .i64 ((doI L o73).1.2.2)]) (by kernel_rfl) rfl) ?_)
      refine wl (sv rfl (v := .bool ((doI L o73).1.2.1)) (r_extract (vs := [.agg #[.int .i64 ((doI L o73).1.1.node.t), .int .i64 ((doI L o73).1.1.node.w), .int .i64 ((doI L o73).1.1.parent.t), .int .i64 ((doI L o73).1.1.parent.w), .string ((doI L o73).1.1.name), .bool ((doI L o73).1.1.dir), .bool ((doI L o73).1.1.gone), .slice A112 n113 c114, .int .i64 ((doI L o73).1.1.by_.t), .int .i64 ((doI L o73).1.1.by_.w)], .bool ((doI L o73).1.2.1), .int .i64 ((doI L o73).1.2.2)]) (by kernel_rfl) rfl) ?_)
      refine wl (sv rfl (v := .int .i64 ((doI L o73).1.2.2)) (r_extract (vs := [.agg #[.int .i64 ((doI L o73).1.1.node.t), .int .i64 ((doI L o73).1.1.node.w), .int .i64 ((doI L o73).1.1.parent.t), .int .i64 ((doI L o73).1.1.parent.w), .string ((doI L o73).1.1.name), .bool ((doI L o73).1.1.dir), .bool ((doI L o73).1.1.gone), .slice A112 n113 c114, .int .i64 ((doI L o73).1.1.by_.t), .int .i64 ((doI L o73).1.1.by_.w)], .bool ((doI L o73).1.2.1), .int .i64 ((doI L o73).1.2.2)]) (by kernel_rfl) rfl) ?_)
      refine wl (sn rfl (cs := #[.int .i64 0, .int .i64 0, .int .i64 0, .int .i64 0, .string (⟨#[]⟩), .bool false, .bool false, .slice none 0 0, .int .i64 0, .int .i64 0]) (T := 41) (V := fun b => .pointer (some ⟨b, 0, none⟩)) (r_alloc Ty.zv41 rfl) ?_)
      intro b127 w128 e129 h130 u131
      have h132 := md_ob M125 (ninc (Nat.ne_of_lt l30) (nin1 (Nat.ne_of_lt l42))) h53
      have l133 : b1 < b127 := by rw [e129]; exact lt_ob h132
      have h134 := md_ob M125 (ninc (Nat.ne_of_lt l32) (nin1 (Nat.ne_of_lt l44))) h54
      have l135 : b8 < b127 := by rw [e129]; exact lt_ob h134
      have h136 := (chg_ob u117 (Nat.ne_of_lt l45) h120)
      have l137 : r < b127 := by rw [e129]; exact lt_ob h136
      have h138 := (chg_ob u117 (Nat.ne_of_lt l46) h121)
      have l139 : tb < b127 := by rw [e129]; exact lt_ob h138
      have l140 : ub < b127 := by rw [e129]; exact lt_ob hvu126
      have h141 := (chg_ob u117 (Nat.ne_of_gt l98) h104)
      have l142 : b86 < b127 := by rw [e129]; exact lt_ob h141
      have g143 : w.heap.size ≤ b127 := by rw [e129]; exact M124.size
      have g144 : w50.heap.size ≤ b127 := by rw [e129]; exact M125.size
      have M145 := Mod.trans M124 (Mod.of_up u131)
      have M146 := Mod.trans M125 (Mod.of_up u131)
      refine wl (ss rfl (k := 0) (v := .agg #[.int .i64 ((doI L o73).1.1.node.t), .int .i64 ((doI L o73).1.1.node.w), .int .i64 ((doI L o73).1.1.parent.t), .int .i64 ((doI L o73).1.1.parent.w), .string ((doI L o73).1.1.name), .bool ((doI L o73).1.1.dir), .bool ((doI L o73).1.1.gone), .slice A112 n113 c114, .int .i64 ((doI L o73).1.1.by_.t), .int .i64 ((doI L o73).1.1.by_.w)]) (vs := [.int .i64 ((doI L o73).1.1.node.t), .int .i64 ((doI L o73).1.1.node.w), .int .i64 ((doI L o73).1.1.parent.t), .int .i64 ((doI L o73).1.1.parent.w), .string ((doI L o73).1.1.name), .bool ((doI L o73).1.1.dir), .bool ((doI L o73).1.1.gone), .slice A112 n113 c114, .int .i64 ((doI L o73).1.1.by_.t), .int .i64 ((doI L o73).1.1.by_.w)]) (cs' := [.int .i64 ((doI L o73).1.1.node.t), .int .i64 ((doI L o73).1.1.node.w), .int .i64 ((doI L o73).1.1.parent.t), .int .i64 ((doI L o73).1.1.parent.w), .string ((doI L o73).1.1.name), .bool ((doI L o73).1.1.dir), .bool ((doI L o73).1.1.gone), .slice A112 n113 c114, .int .i64 ((doI L o73).1.1.by_.t), .int .i64 ((doI L o73).1.1.by_.w)]) (by kernel_rfl) (by kernel_rfl) rfl Ty.sz41 h130 rfl (Nat.le_of_ble_eq_true rfl) rfl ?_)
      intro w147 h148 c149
      have M150 := Mod.trans' M145 c149 (fun i hi => by injection hi with hi; rw [← hi]; exact g143)
      have M151 := Mod.trans' M146 c149 (fun i hi => by injection hi with hi; rw [← hi]; exact g144)
      refine wl (sv rfl (v := .bool ((doI L o73).1.2.1)) (r_assign (by kernel_rfl)) ?_)
      refine wl (sv rfl (v := .int .i64 ((doI L o73).1.2.2)) (r_assign (by kernel_rfl)) ?_)
      refine wnil ?_
      refine then_n ?_
      refine wp_seq ?_
      refine wp_seq ?_
      refine rg_held [] (n := 36) (by kernel_rfl) rfl ?_
      intro w152 u153
      have M154 := Mod.trans M150 (Mod.of_up u153)
      have M155 := Mod.trans M151 (Mod.of_up u153)
      have h156 := (up_ob u153 (chg_ob c149 (Nat.ne_of_lt l142) (up_ob u131 h141)))
      refine hv (i := 0) (fuel := 35) rfl (by kernel_rfl) (by kernel_rfl) (by kernel_rfl) (fun _ _ _ h => h) (Mod.refl _ _) rfl (v := .agg #[.int .i64 ((doI L o73).1.1.node.t), .int .i64 ((doI L o73).1.1.node.w), .int .i64 ((doI L o73).1.1.parent.t), .int .i64 ((doI L o73).1.1.parent.w), .string ((doI L o73).1.1.name), .bool ((doI L o73).1.1.dir), .bool ((doI L o73).1.1.gone), .slice A75 n76 c77, .int .i64 ((doI L o73).1.1.by_.t), .int .i64 ((doI L o73).1.1.by_.w)]) (fun _ uz => r_loads (k := 0) (vs := [.int .i64 ((doI L o73).1.1.node.t), .int .i64 ((doI L o73).1.1.node.w), .int .i64 ((doI L o73).1.1.parent.t), .int .i64 ((doI L o73).1.1.parent.w), .string ((doI L o73).1.1.name), .bool ((doI L o73).1.1.dir), .bool ((doI L o73).1.1.gone), .slice A75 n76 c77, .int .i64 ((doI L o73).1.1.by_.t), .int .i64 ((doI L o73).1.1.by_.w)]) (by kernel_rfl) Ty.ag35 Ty.sz35 (md_ob uz nin0 h156) (by kernel_rfl)) ?_
      have h157 := (up_ob u153 h148)
      refine hv (i := 2) (fuel := 34) rfl (by kernel_rfl) (by kernel_rfl) (by kernel_rfl) (fun _ _ _ h => h) (Mod.refl _ _) rfl (v := .agg #[.int .i64 ((doI L o73).1.1.node.t), .int .i64 ((doI L o73).1.1.node.w), .int .i64 ((doI L o73).1.1.parent.t), .int .i64 ((doI L o73).1.1.parent.w), .string ((doI L o73).1.1.name), .bool ((doI L o73).1.1.dir), .bool ((doI L o73).1.1.gone), .slice A112 n113 c114, .int .i64 ((doI L o73).1.1.by_.t), .int .i64 ((doI L o73).1.1.by_.w)]) (fun _ uz => r_loads (k := 0) (vs := [.int .i64 ((doI L o73).1.1.node.t), .int .i64 ((doI L o73).1.1.node.w), .int .i64 ((doI L o73).1.1.parent.t), .int .i64 ((doI L o73).1.1.parent.w), .string ((doI L o73).1.1.name), .bool ((doI L o73).1.1.dir), .bool ((doI L o73).1.1.gone), .slice A112 n113 c114, .int .i64 ((doI L o73).1.1.by_.t), .int .i64 ((doI L o73).1.1.by_.w)]) (by kernel_rfl) Ty.ag41 Ty.sz41 (md_ob uz nin0 h157) (by kernel_rfl)) ?_
      refine h1 (i := 1) (fuel := 33) (by kernel_rfl) rfl (sc rfl (r_callv (caps := []) (all := [.agg #[.int .i64 ((doI L o73).1.1.node.t), .int .i64 ((doI L o73).1.1.node.w), .int .i64 ((doI L o73).1.1.parent.t), .int .i64 ((doI L o73).1.1.parent.w), .string ((doI L o73).1.1.name), .bool ((doI L o73).1.1.dir), .bool ((doI L o73).1.1.gone), .slice A75 n76 c77, .int .i64 ((doI L o73).1.1.by_.t), .int .i64 ((doI L o73).1.1.by_.w)]]) En.f18 (by kernel_rfl) (by kernel_rfl)) (litem_at (doI L o73).1.1 A75 n76 c77) ?_)
      rintro e w158 ⟨rfl, u159⟩
      refine ⟨.agg #[.int .i64 ((doI L o73).1.1.node.t), .int .i64 ((doI L o73).1.1.node.w), .int .i64 ((doI L o73).1.1.parent.t), .int .i64 ((doI L o73).1.1.parent.w), .string ((doI L o73).1.1.name), .bool ((doI L o73).1.1.dir), .bool ((doI L o73).1.1.gone), .slice A75 n76 c77, .int .i64 ((doI L o73).1.1.by_.t), .int .i64 ((doI L o73).1.1.by_.w)], rfl, ?_⟩
      have M160 := Mod.trans M154 (Mod.of_up u159)
      have M161 := Mod.trans M155 (Mod.of_up u159)
      refine hx (Y := []) (Mod.of_up u159) (fun y hy => .inl hy) ?_
      have h162 := (Dat.up (Dat.chg (Dat.up h78 (up_chgn u90 c105 (by rw [e88]; exact Nat.le_refl _))) u117 ⟨h110.1, NotU8.of h122 (by decide)⟩) (up_up (up_up (up_chgn u131 c149 (by rw [e129]; exact Nat.le_refl _)) u153) u159))
      have h163 := (Dat.up h115 (up_up (up_up (up_chgn u131 c149 (by rw [e129]; exact Nat.le_refl _)) u153) u159))
      refine h1 (i := 3) (fuel := 32) (by kernel_rfl) rfl (sc rfl (r_callv (caps := []) (all := [.agg #[.int .i64 ((doI L o73).1.1.node.t), .int .i64 ((doI L o73).1.1.node.w), .int .i64 ((doI L o73).1.1.parent.t), .int .i64 ((doI L o73).1.1.parent.w), .string ((doI L o73).1.1.name), .bool ((doI L o73).1.1.dir), .bool ((doI L o73).1.1.gone), .slice A75 n76 c77, .int .i64 ((doI L o73).1.1.by_.t), .int .i64 ((doI L o73).1.1.by_.w)], .agg #[.int .i64 ((doI L o73).1.1.node.t), .int .i64 ((doI L o73).1.1.node.w), .int .i64 ((doI L o73).1.1.parent.t), .int .i64 ((doI L o73).1.1.parent.w), .string ((doI L o73).1.1.name), .bool ((doI L o73).1.1.dir), .bool ((doI L o73).1.1.gone), .slice A112 n113 c114, .int .i64 ((doI L o73).1.1.by_.t), .int .i64 ((doI L o73).1.1.by_.w)]]) En.f17 (by kernel_rfl) (by kernel_rfl)) (bool_true rfl (rsameItem_at (doI L o73).1.1 (doI L o73).1.1 A75 n76 c77 A112 n113 c114 h162 h163)) ?_)
      rintro e w164 ⟨rfl, u165⟩
      refine ⟨.bool true, rfl, ?_⟩
      have M166 := Mod.trans M160 (Mod.of_up u165)
      have M167 := Mod.trans M161 (Mod.of_up u165)
      refine hx (Y := []) (Mod.of_up u165) (fun y hy => .inl hy) ?_
      refine hv (i := 4) (fuel := 31) rfl (by kernel_rfl) (by kernel_rfl) (by kernel_rfl) (fun _ _ _ h => h) (Mod.refl _ _) rfl (v := .bool false) (fun _ _ => r_not (b := true) (by kernel_rfl)) ?_
      refine hv (i := 5) (fuel := 30) rfl (by kernel_rfl) (by kernel_rfl) (by kernel_rfl) (fun _ _ _ h => h) (Mod.refl _ _) rfl (v := .bool false) (fun _ _ => r_move (by kernel_rfl)) ?_
      refine hv (i := 6) (fuel := 29) rfl (by kernel_rfl) (by kernel_rfl) (by kernel_rfl) (fun _ _ _ h => h) (Mod.refl _ _) (by kernel_rfl) (v := .bool ((doI L o73).1.2.1)) (fun _ _ => r_move (by kernel_rfl)) ?_
      refine hv (i := 7) (fuel := 28) rfl (by kernel_rfl) (by kernel_rfl) (by kernel_rfl) (fun _ _ _ h => h) (Mod.refl _ _) (by kernel_rfl) (v := .bool ((doI L o73).1.2.1)) (fun _ _ => r_move (by kernel_rfl)) ?_
      refine hv (i := 8) (fuel := 27) rfl (by kernel_rfl) (by kernel_rfl) (by kernel_rfl) (fun _ _ _ h => h) (Mod.refl _ _) (by kernel_rfl) (v := .bool false) (fun _ _ => r_neb_same (b := ((doI L o73).1.2.1)) (by kernel_rfl) (by kernel_rfl) Try.underlying4) ?_
      refine hv (i := 9) (fuel := 26) rfl (by kernel_rfl) (by kernel_rfl) (by kernel_rfl) (fun _ _ _ h => h) (Mod.refl _ _) rfl (v := .bool false) (fun _ _ => r_pick (b := false) (u := .bool true) (v := .bool false) (by kernel_rfl) (by kernel_rfl) (by kernel_rfl)) ?_
      refine hv (i := 10) (fuel := 25) rfl (by kernel_rfl) (by kernel_rfl) (by kernel_rfl) (fun _ _ _ h => h) (Mod.refl _ _) rfl (v := .bool false) (fun _ _ => r_move (by kernel_rfl)) ?_
      refine hv (i := 11) (fuel := 24) rfl (by kernel_rfl) (by kernel_rfl) (by kernel_rfl) (fun _ _ _ h => h) (Mod.refl _ _) (by kernel_rfl) (v := .int .i64 ((doI L o73).1.2.2)) (fun _ _ => r_move (by kernel_rfl)) ?_
      refine hv (i := 12) (fuel := 23) rfl (by kernel_rfl) (by kernel_rfl) (by kernel_rfl) (fun _ _ _ h => h) (Mod.refl _ _) (by kernel_rfl) (v := .int .i64 ((doI L o73).1.2.2)) (fun _ _ => r_move (by kernel_rfl)) ?_
      refine hv (i := 13) (fuel := 22) rfl (by kernel_rfl) (by kernel_rfl) (by kernel_rfl) (fun _ _ _ h => h) (Mod.refl _ _) (by kernel_rfl) (v := .bool false) (fun _ _ => ne_same (r_ne (k := .i64) (m := ((doI L o73).1.2.2)) (n := ((doI L o73).1.2.2)) (by kernel_rfl) (by kernel_rfl))) ?_
      refine hv (i := 14) (fuel := 21) rfl (by kernel_rfl) (by kernel_rfl) (by kernel_rfl) (fun _ _ _ h => h) (Mod.refl _ _) rfl (v := .bool false) (fun _ _ => r_pick (b := false) (u := .bool true) (v := .bool false) (by kernel_rfl) (by kernel_rfl) (by kernel_rfl)) ?_
      refine hv (i := 15) (fuel := 20) rfl (by kernel_rfl) (by kernel_rfl) (by kernel_rfl) (fun _ _ _ h => h) (Mod.refl _ _) rfl (v := .bool false) (fun _ _ => r_move (by kernel_rfl)) ?_
      refine hv (i := 16) (fuel := 19) rfl (by kernel_rfl) (by kernel_rfl) (by kernel_rfl) (fun _ _ _ h => h) (Mod.refl _ _) (by kernel_rfl) (v := .pointer (some ⟨tb, 0, none⟩)) (fun _ _ => r_move (by kernel_rfl)) ?_
      refine hv (i := 19) (fuel := 18) rfl (by kernel_rfl) (by kernel_rfl) (by kernel_rfl) (fun _ _ _ h => h) (Mod.refl _ _) (by kernel_rfl) (v := .pointer (some ⟨ub, 0, none⟩)) (fun _ _ => r_move (by kernel_rfl)) ?_
      refine hv (i := 20) (fuel := 17) rfl (by kernel_rfl) (by kernel_rfl) (by kernel_rfl) (fun _ _ _ h => h) (Mod.refl _ _) (by kernel_rfl) (v := .pointer (some ⟨ub, 0, none⟩)) (fun _ _ => r_nilCheck (by kernel_rfl)) ?_
      refine hv (i := 21) (fuel := 16) rfl (by kernel_rfl) (by kernel_rfl) (by kernel_rfl) (fun _ _ _ h => h) (Mod.refl _ _) (by kernel_rfl) (v := .pointer (some ⟨ub, 0, none⟩)) (fun _ _ => r_fieldAddr (u := .pointer (some ⟨ub, 0, none⟩)) (v := .pointer (some ⟨ub, 0, none⟩)) (by kernel_rfl) (fun _ => (by kernel_rfl))) ?_
      have h168 := (up_ob u165 (up_ob u159 (up_ob u153 (chg_ob c149 (Nat.ne_of_lt l140) (up_ob u131 hvu126)))))
      refine hv (i := 22) (fuel := 15) rfl (by kernel_rfl) (by kernel_rfl) (by kernel_rfl) (fun _ _ _ h => h) (Mod.refl _ _) (by kernel_rfl) (v := .slice Au126 (((doI L o73).2).length) cu126) (fun _ uz => r_load (k := 0) (v := .slice Au126 (((doI L o73).2).length) cu126) (by kernel_rfl) Ty.ag30 (md_ob uz nin0 h168) (by kernel_rfl)) ?_
      have h174 := (TreeIs.up (TreeIs.chgu h123 h110 u117) (up_up (up_up (up_up (up_chgn u131 c149 (by rw [e129]; exact Nat.le_refl _)) u153) u159) u165))
      refine h1 (i := 17) (fuel := 14) (by kernel_rfl) rfl (sc (by kernel_rfl) (r_callv (caps := []) (all := [.pointer (some ⟨tb, 0, none⟩)]) En.f21 (by kernel_rfl) (by kernel_rfl)) (row_sl (all_at h174 (Nat.le_trans hB M166.size))) ?_)
      rintro e w169 ⟨A170, c171, rfl, h172, u173⟩
      refine ⟨.slice A170 (((doI L o73).2).length) c171, rfl, ?_⟩
      have M175 := Mod.trans M166 (Mod.of_up u173)
      have M176 := Mod.trans M167 (Mod.of_up u173)
      refine hx (Y := []) (Mod.of_up u173) (fun y hy => .inl hy) ?_
      have h182 := (TreeIs.up h174 u173)
      refine h1 (i := 18) (fuel := 13) (by kernel_rfl) rfl (sc (by kernel_rfl) (r_callv (caps := []) (all := [.slice A170 (((doI L o73).2).length) c171]) En.f20 (by kernel_rfl) (by kernel_rfl)) (row_sl (litems_at h172 (Nat.le_trans hB M175.size) (Nat.le_trans h182.2.2.2.2 (by decide)))) ?_)
      rintro e w177 ⟨A178, c179, rfl, h180, u181⟩
      refine ⟨.slice A178 (((doI L o73).2).length) c179, rfl, ?_⟩
      have M183 := Mod.trans M175 (Mod.of_up u181)
      have M184 := Mod.trans M176 (Mod.of_up u181)
      refine hx (Y := []) (Mod.of_up u181) (fun y hy => .inl hy) ?_
      have h185 := (IRow.up hlu126 (up_up (up_up (up_up (up_up (up_up (up_chgn u131 c149 (by rw [e129]; exact Nat.le_refl _)) u153) u159) u165) u173) u181))
      have h186 := (TreeIs.up h182 u181)
      refine h1 (i := 23) (fuel := 12) (by kernel_rfl) rfl (sc (by kernel_rfl) (r_callv (caps := []) (all := [.slice A178 (((doI L o73).2).length) c179, .slice Au126 (((doI L o73).2).length) cu126]) En.f19 (by kernel_rfl) (by kernel_rfl)) (bool_true rfl (rsame_at h180 h185 (Nat.le_trans h186.2.2.2.2 (by decide)))) ?_)
      rintro e w187 ⟨rfl, u188⟩
      refine ⟨.bool true, rfl, ?_⟩
      have M189 := Mod.trans M183 (Mod.of_up u188)
      have M190 := Mod.trans M184 (Mod.of_up u188)
      refine hx (Y := []) (Mod.of_up u188) (fun y hy => .inl hy) ?_
      refine hv (i := 24) (fuel := 11) rfl (by kernel_rfl) (by kernel_rfl) (by kernel_rfl) (fun _ _ _ h => h) (Mod.refl _ _) (by kernel_rfl) (v := .bool false) (fun _ _ => r_not (b := true) (by kernel_rfl)) ?_
      refine hv (i := 25) (fuel := 10) rfl (by kernel_rfl) (by kernel_rfl) (by kernel_rfl) (fun _ _ _ h => h) (Mod.refl _ _) rfl (v := .bool false) (fun _ _ => r_pick (b := false) (u := .bool true) (v := .bool false) (by kernel_rfl) (by kernel_rfl) (by kernel_rfl)) ?_
      refine hv (i := 26) (fuel := 9) rfl (by kernel_rfl) (by kernel_rfl) (by kernel_rfl) (fun _ _ _ h => h) (Mod.refl _ _) rfl (v := .bool false) (fun _ _ => r_move (by kernel_rfl)) ?_
      refine hv (i := 27) (fuel := 8) rfl (by kernel_rfl) (by kernel_rfl) (by kernel_rfl) (fun _ _ _ h => h) (Mod.refl _ _) (by kernel_rfl) (v := .pointer (some ⟨tb, 0, none⟩)) (fun _ _ => r_move (by kernel_rfl)) ?_
      refine hv (i := 29) (fuel := 7) rfl (by kernel_rfl) (by kernel_rfl) (by kernel_rfl) (fun _ _ _ h => h) (Mod.refl _ _) (by kernel_rfl) (v := .pointer (some ⟨ub, 0, none⟩)) (fun _ _ => r_move (by kernel_rfl)) ?_
      refine hv (i := 30) (fuel := 6) rfl (by kernel_rfl) (by kernel_rfl) (by kernel_rfl) (fun _ _ _ h => h) (Mod.refl _ _) (by kernel_rfl) (v := .pointer (some ⟨ub, 0, none⟩)) (fun _ _ => r_nilCheck (by kernel_rfl)) ?_
      refine hv (i := 31) (fuel := 5) rfl (by kernel_rfl) (by kernel_rfl) (by kernel_rfl) (fun _ _ _ h => h) (Mod.refl _ _) (by kernel_rfl) (v := .pointer (some ⟨ub, 0, none⟩)) (fun _ _ => r_fieldAddr (u := .pointer (some ⟨ub, 0, none⟩)) (v := .pointer (some ⟨ub, 0, none⟩)) (by kernel_rfl) (fun _ => (by kernel_rfl))) ?_
      have h191 := (up_ob u188 (up_ob u181 (up_ob u173 h168)))
      refine hv (i := 32) (fuel := 4) rfl (by kernel_rfl) (by kernel_rfl) (by kernel_rfl) (fun _ _ _ h => h) (Mod.refl _ _) (by kernel_rfl) (v := .slice Au126 (((doI L o73).2).length) cu126) (fun _ uz => r_load (k := 0) (v := .slice Au126 (((doI L o73).2).length) cu126) (by kernel_rfl) Ty.ag30 (md_ob uz nin0 h191) (by kernel_rfl)) ?_
      refine hv (i := 33) (fuel := 3) rfl (by kernel_rfl) (by kernel_rfl) (by kernel_rfl) (fun _ _ _ h => h) (Mod.refl _ _) (by kernel_rfl) (v := .int .i64 (((((doI L o73).2).length) : Int))) (fun _ _ => r_len Ty.un30 (ad := Au126) (n := (((doI L o73).2).length)) (c := cu126) (by kernel_rfl)) ?_
      have h192 := (TreeIs.up h186 u188)
      refine h1 (i := 28) (fuel := 2) (by kernel_rfl) rfl (sc (by kernel_rfl) (r_callv (caps := []) (all := [.pointer (some ⟨tb, 0, none⟩)]) En.f22 (by kernel_rfl) (by kernel_rfl)) (tlen_any h192) ?_)
      rintro e w193 ⟨rfl, rfl⟩
      refine ⟨.int .i64 (((((doI L o73).2).length) : Int)), rfl, ?_⟩
      refine hx (Y := []) (Mod.refl _ _) (fun y hy => .inl hy) ?_
      refine hv (i := 34) (fuel := 1) rfl (by kernel_rfl) (by kernel_rfl) (by kernel_rfl) (fun _ _ _ h => h) (Mod.refl _ _) (by kernel_rfl) (v := .bool false) (fun _ _ => ne_same (r_ne (k := .i64) (m := (((((doI L o73).2).length) : Int))) (n := (((((doI L o73).2).length) : Int))) (by kernel_rfl) (by kernel_rfl))) ?_
      refine hv (i := 35) (fuel := 0) rfl (by kernel_rfl) (by kernel_rfl) (by kernel_rfl) (fun _ _ _ h => h) (Mod.refl _ _) rfl (v := .bool false) (fun _ _ => r_pick (b := false) (u := .bool true) (v := .bool false) (by kernel_rfl) (by kernel_rfl) (by kernel_rfl)) ?_
      refine hend (by kernel_rfl) ?_
      refine then_n ?_
      refine wp_cond_false (by kernel_rfl) ?_
      refine wp_skip ?_
      refine then_n ?_
      refine wp_seq ?_
      refine rg_lit ?_
      refine wl (sv rfl (v := .pointer (some ⟨tb, 0, none⟩)) (r_move (by kernel_rfl)) ?_)
      have h194 := md_ob M190 (ninc (Nat.ne_of_lt l30) (nin1 (Nat.ne_of_lt l42))) h53
      refine wl (sv rfl (v := .agg #[.int .i64 m1, .int .i64 m2]) (r_loads (k := 0) (vs := [.int .i64 m1, .int .i64 m2]) (by kernel_rfl) Ty.ag24 Ty.sz24 h194 (by kernel_rfl)) ?_)
      refine wl (sc rfl (r_callv (caps := []) (all := [.pointer (some ⟨tb, 0, none⟩), .agg #[.int .i64 m1, .int .i64 m2]]) En.f23 (by kernel_rfl) (by kernel_rfl)) (get_x h192 ⟨m1, m2⟩ (x := (gotI ((doI L o73).2) ⟨m1, m2⟩)) (b := (hasI ((doI L o73).2) ⟨m1, m2⟩)) rfl rfl) ?_)
      rintro e w195 ⟨A196, n197, c198, rfl, h199, u200⟩
      refine ⟨.tuple #[.agg #[.int .i64 ((gotI ((doI L o73).2) ⟨m1, m2⟩).node.t), .int .i64 ((gotI ((doI L o73).2) ⟨m1, m2⟩).node.w), .int .i64 ((gotI ((doI L o73).2) ⟨m1, m2⟩).parent.t), .int .i64 ((gotI ((doI L o73).2) ⟨m1, m2⟩).parent.w), .string ((gotI ((doI L o73).2) ⟨m1, m2⟩).name), .bool ((gotI ((doI L o73).2) ⟨m1, m2⟩).dir), .bool ((gotI ((doI L o73).2) ⟨m1, m2⟩).gone), .slice A196 n197 c198, .int .i64 ((gotI ((doI L o73).2) ⟨m1, m2⟩).by_.t), .int .i64 ((gotI ((doI L o73).2) ⟨m1, m2⟩).by_.w)], .bool ((hasI ((doI L o73).2) ⟨m1, m2⟩))], rfl, ?_⟩
      have M201 := Mod.trans M189 (Mod.of_up u200)
      have M202 := Mod.trans M190 (Mod.of_up u200)
      refine wl (sv rfl (v := .tuple #[.agg #[.int .i64 ((gotI ((doI L o73).2) ⟨m1, m2⟩).node.t), .int .i64 ((gotI ((doI L o73).2) ⟨m1, m2⟩).node.w), .int .i64 ((gotI ((doI L o73).2) ⟨m1, m2⟩).parent.t), .int .i64 ((gotI ((doI L o73).2) ⟨m1, m2⟩).parent.w), .string ((gotI ((doI L o73).2) ⟨m1, m2⟩).name), .bool ((gotI ((doI L o73).2) ⟨m1, m2⟩).dir), .bool ((gotI ((doI L o73).2) ⟨m1, m2⟩).gone), .slice A196 n197 c198, .int .i64 ((gotI ((doI L o73).2) ⟨m1, m2⟩).by_.t), .int .i64 ((gotI ((doI L o73).2) ⟨m1, m2⟩).by_.w)], .bool ((hasI ((doI L o73).2) ⟨m1, m2⟩))]) (r_move (by kernel_rfl)) ?_)
      refine wl (sv rfl (v := .agg #[.int .i64 ((gotI ((doI L o73).2) ⟨m1, m2⟩).node.t), .int .i64 ((gotI ((doI L o73).2) ⟨m1, m2⟩).node.w), .int .i64 ((gotI ((doI L o73).2) ⟨m1, m2⟩).parent.t), .int .i64 ((gotI ((doI L o73).2) ⟨m1, m2⟩).parent.w), .string ((gotI ((doI L o73).2) ⟨m1, m2⟩).name), .bool ((gotI ((doI L o73).2) ⟨m1, m2⟩).dir), .bool ((gotI ((doI L o73).2) ⟨m1, m2⟩).gone), .slice A196 n197 c198, .int .i64 ((gotI ((doI L o73).2) ⟨m1, m2⟩).by_.t), .int .i64 ((gotI ((doI L o73).2) ⟨m1, m2⟩).by_.w)]) (r_extract (vs := [.agg #[.int .i64 ((gotI ((doI L o73).2) ⟨m1, m2⟩).node.t), .int .i64 ((gotI ((doI L o73).2) ⟨m1, m2⟩).node.w), .int .i64 ((gotI ((doI L o73).2) ⟨m1, m2⟩).parent.t), .int .i64 ((gotI ((doI L o73).2) ⟨m1, m2⟩).parent.w), .string ((gotI ((doI L o73).2) ⟨m1, m2⟩).name), .bool ((gotI ((doI L o73).2) ⟨m1, m2⟩).dir), .bool ((gotI ((doI L o73).2) ⟨m1, m2⟩).gone), .slice A196 n197 c198, .int .i64 ((gotI ((doI L o73).2) ⟨m1, m2⟩).by_.t), .int .i64 ((gotI ((doI L o73).2) ⟨m1, m2⟩).by_.w)], .bool ((hasI ((doI L o73).2) ⟨m1, m2⟩))]) (by kernel_rfl) rfl) ?_)
      refine wl (sv rfl (v := .bool ((hasI ((doI L o73).2) ⟨m1, m2⟩))) (r_extract (vs := [.agg #[.int .i64 ((gotI ((doI L o73).2) ⟨m1, m2⟩).node.t), .int .i64 ((gotI ((doI L o73).2) ⟨m1, m2⟩).node.w), .int .i64 ((gotI ((doI L o73).2) ⟨m1, m2⟩).parent.t), .int .i64 ((gotI ((doI L o73).2) ⟨m1, m2⟩).parent.w), .string ((gotI ((doI L o73).2) ⟨m1, m2⟩).name), .bool ((gotI ((doI L o73).2) ⟨m1, m2⟩).dir), .bool ((gotI ((doI L o73).2) ⟨m1, m2⟩).gone), .slice A196 n197 c198, .int .i64 ((gotI ((doI L o73).2) ⟨m1, m2⟩).by_.t), .int .i64 ((gotI ((doI L o73).2) ⟨m1, m2⟩).by_.w)], .bool ((hasI ((doI L o73).2) ⟨m1, m2⟩))]) (by kernel_rfl) rfl) ?_)
      refine wl (sn rfl (cs := #[.int .i64 0, .int .i64 0, .int .i64 0, .int .i64 0, .string (⟨#[]⟩), .bool false, .bool false, .slice none 0 0, .int .i64 0, .int .i64 0]) (T := 35) (V := fun b => .pointer (some ⟨b, 0, none⟩)) (r_alloc Ty.zv35 rfl) ?_)
      intro b203 w204 e205 h206 u207
      have h208 := md_ob M202 (ninc (Nat.ne_of_lt l30) (nin1 (Nat.ne_of_lt l42))) h53
      have l209 : b1 < b203 := by rw [e205]; exact lt_ob h208
      have h210 := md_ob M202 (ninc (Nat.ne_of_lt l32) (nin1 (Nat.ne_of_lt l44))) h54
      have l211 : b8 < b203 := by rw [e205]; exact lt_ob h210
      have h212 := (up_ob u200 (up_ob u188 (up_ob u181 (up_ob u173 (up_ob u165 (up_ob u159 (up_ob u153 (chg_ob c149 (Nat.ne_of_lt l137) (up_ob u131 h136)))))))))
      have l213 : r < b203 := by rw [e205]; exact lt_ob h212
      have h214 := (up_ob u200 (up_ob u188 (up_ob u181 (up_ob u173 (up_ob u165 (up_ob u159 (up_ob u153 (chg_ob c149 (Nat.ne_of_lt l139) (up_ob u131 h138)))))))))
      have l215 : tb < b203 := by rw [e205]; exact lt_ob h214
      have h216 := (up_ob u200 h191)
      have l217 : ub < b203 := by rw [e205]; exact lt_ob h216
      have h218 := (up_ob u200 (up_ob u188 (up_ob u181 (up_ob u173 (up_ob u165 (up_ob u159 h156))))))
      have l219 : b86 < b203 := by rw [e205]; exact lt_ob h218
      have h220 := (up_ob u200 (up_ob u188 (up_ob u181 (up_ob u173 (up_ob u165 (up_ob u159 h157))))))
      have l221 : b127 < b203 := by rw [e205]; exact lt_ob h220
      have g222 : w.heap.size ≤ b203 := by rw [e205]; exact M201.size
      have g223 : w50.heap.size ≤ b203 := by rw [e205]; exact M202.size
      have M224 := Mod.trans M201 (Mod.of_up u207)
      have M225 := Mod.trans M202 (Mod.of_up u207)
      refine wl (ss rfl (k := 0) (v := .agg #[.int .i64 ((gotI ((doI L o73).2) ⟨m1, m2⟩).node.t), .int .i64 ((gotI ((doI L o73).2) ⟨m1, m2⟩).node.w), .int .i64 ((gotI ((doI L o73).2) ⟨m1, m2⟩).parent.t), .int .i64 ((gotI ((doI L o73).2) ⟨m1, m2⟩).parent.w), .string ((gotI ((doI L o73).2) ⟨m1, m2⟩).name), .bool ((gotI ((doI L o73).2) ⟨m1, m2⟩).dir), .bool ((gotI ((doI L o73).2) ⟨m1, m2⟩).gone), .slice A196 n197 c198, .int .i64 ((gotI ((doI L o73).2) ⟨m1, m2⟩).by_.t), .int .i64 ((gotI ((doI L o73).2) ⟨m1, m2⟩).by_.w)]) (vs := [.int .i64 ((gotI ((doI L o73).2) ⟨m1, m2⟩).node.t), .int .i64 ((gotI ((doI L o73).2) ⟨m1, m2⟩).node.w), .int .i64 ((gotI ((doI L o73).2) ⟨m1, m2⟩).parent.t), .int .i64 ((gotI ((doI L o73).2) ⟨m1, m2⟩).parent.w), .string ((gotI ((doI L o73).2) ⟨m1, m2⟩).name), .bool ((gotI ((doI L o73).2) ⟨m1, m2⟩).dir), .bool ((gotI ((doI L o73).2) ⟨m1, m2⟩).gone), .slice A196 n197 c198, .int .i64 ((gotI ((doI L o73).2) ⟨m1, m2⟩).by_.t), .int .i64 ((gotI ((doI L o73).2) ⟨m1, m2⟩).by_.w)]) (cs' := [.int .i64 ((gotI ((doI L o73).2) ⟨m1, m2⟩).node.t), .int .i64 ((gotI ((doI L o73).2) ⟨m1, m2⟩).node.w), .int .i64 ((gotI ((doI L o73).2) ⟨m1, m2⟩).parent.t), .int .i64 ((gotI ((doI L o73).2) ⟨m1, m2⟩).parent.w), .string ((gotI ((doI L o73).2) ⟨m1, m2⟩).name), .bool ((gotI ((doI L o73).2) ⟨m1, m2⟩).dir), .bool ((gotI ((doI L o73).2) ⟨m1, m2⟩).gone), .slice A196 n197 c198, .int .i64 ((gotI ((doI L o73).2) ⟨m1, m2⟩).by_.t), .int .i64 ((gotI ((doI L o73).2) ⟨m1, m2⟩).by_.w)]) (by kernel_rfl) (by kernel_rfl) rfl Ty.sz35 h206 rfl (Nat.le_of_ble_eq_true rfl) rfl ?_)
      intro w226 h227 c228
      have M229 := Mod.trans' M224 c228 (fun i hi => by injection hi with hi; rw [← hi]; exact g222)
      have M230 := Mod.trans' M225 c228 (fun i hi => by injection hi with hi; rw [← hi]; exact g223)
      refine wl (sv rfl (v := .bool ((hasI ((doI L o73).2) ⟨m1, m2⟩))) (r_assign (by kernel_rfl)) ?_)
      refine wnil ?_
      refine then_n ?_
      refine wp_seq ?_
      refine rg_lit ?_
      refine wl (sv rfl (v := .pointer (some ⟨ub, 0, none⟩)) (r_move (by kernel_rfl)) ?_)
      have h231 := md_ob M230 (ninc (Nat.ne_of_lt l30) (nin1 (Nat.ne_of_lt l42))) h53
      refine wl (sv rfl (v := .agg #[.int .i64 m1, .int .i64 m2]) (r_loads (k := 0) (vs := [.int .i64 m1, .int .i64 m2]) (by kernel_rfl) Ty.ag24 Ty.sz24 h231 (by kernel_rfl)) ?_)
      have h232 := (RIs.up h116 (up_chgn (up_up (up_up (up_up (up_up (up_up (up_up (up_up (up_up (up_chgn u131 c149 (by rw [e129]; exact Nat.le_refl _)) u153) u159) u165) u173) u181) u188) u200) u207) c228 (by rw [e205]; exact (up_up (up_up (up_up (up_up (up_up (up_up (up_up (up_chgn u131 c149 (by rw [e129]; exact Nat.le_refl _)) u153) u159) u165) u173) u181) u188) u200).size)))
      refine wl (sc rfl (r_callv (caps := []) (all := [.pointer (some ⟨ub, 0, none⟩), .agg #[.int .i64 m1, .int .i64 m2]]) En.f24 (by kernel_rfl) (by kernel_rfl)) (rget_x h232 m1 m2) ?_)
      rintro e w233 ⟨A234, n235, c236, rfl, h237, u238⟩
      refine ⟨.tuple #[.agg #[.int .i64 ((gotI ((doI L o73).2) ⟨m1, m2⟩).node.t), .int .i64 ((gotI ((doI L o73).2) ⟨m1, m2⟩).node.w), .int .i64 ((gotI ((doI L o73).2) ⟨m1, m2⟩).parent.t), .int .i64 ((gotI ((doI L o73).2) ⟨m1, m2⟩).parent.w), .string ((gotI ((doI L o73).2) ⟨m1, m2⟩).name), .bool ((gotI ((doI L o73).2) ⟨m1, m2⟩).dir), .bool ((gotI ((doI L o73).2) ⟨m1, m2⟩).gone), .slice A234 n235 c236, .int .i64 ((gotI ((doI L o73).2) ⟨m1, m2⟩).by_.t), .int .i64 ((gotI ((doI L o73).2) ⟨m1, m2⟩).by_.w)], .bool ((hasI ((doI L o73).2) ⟨m1, m2⟩))], rfl, ?_⟩
      have M239 := Mod.trans M229 (Mod.of_up u238)
      have M240 := Mod.trans M230 (Mod.of_up u238)
      refine wl (sv rfl (v := .tuple #[.agg #[.int .i64 ((gotI ((doI L o73).2) ⟨m1, m2⟩).node.t), .int .i64 ((gotI ((doI L o73).2) ⟨m1, m2⟩).node.w), .int .i64 ((gotI ((doI L o73).2) ⟨m1, m2⟩).parent.t), .int .i64 ((gotI ((doI L o73).2) ⟨m1, m2⟩).parent.w), .string ((gotI ((doI L o73).2) ⟨m1, m2⟩).name), .bool ((gotI ((doI L o73).2) ⟨m1, m2⟩).dir), .bool ((gotI ((doI L o73).2) ⟨m1, m2⟩).gone), .slice A234 n235 c236, .int .i64 ((gotI ((doI L o73).2) ⟨m1, m2⟩).by_.t), .int .i64 ((gotI ((doI L o73).2) ⟨m1, m2⟩).by_.w)], .bool ((hasI ((doI L o73).2) ⟨m1, m2⟩))]) (r_move (by kernel_rfl)) ?_)
      refine wl (sv rfl (v := .agg #[.int .i64 ((gotI ((doI L o73).2) ⟨m1, m2⟩).node.t), .int .i64 ((gotI ((doI L o73).2) ⟨m1, m2⟩).node.w), .int .i64 ((gotI ((doI L o73).2) ⟨m1, m2⟩).parent.t), .int .i64 ((gotI ((doI L o73).2) ⟨m1, m2⟩).parent.w), .string ((gotI ((doI L o73).2) ⟨m1, m2⟩).name), .bool ((gotI ((doI L o73).2) ⟨m1, m2⟩).dir), .bool ((gotI ((doI L o73).2) ⟨m1, m2⟩).gone), .slice A234 n235 c236, .int .i64 ((gotI ((doI L o73).2) ⟨m1, m2⟩).by_.t), .int .i64 ((gotI ((doI L o73).2) ⟨m1, m2⟩).by_.w)]) (r_extract (vs := [.agg #[.int .i64 ((gotI ((doI L o73).2) ⟨m1, m2⟩).node.t), .int .i64 ((gotI ((doI L o73).2) ⟨m1, m2⟩).node.w), .int .i64 ((gotI ((doI L o73).2) ⟨m1, m2⟩).parent.t), .int .i64 ((gotI ((doI L o73).2) ⟨m1, m2⟩).parent.w), .string ((gotI ((doI L o73).2) ⟨m1, m2⟩).name), .bool ((gotI ((doI L o73).2) ⟨m1, m2⟩).dir), .bool ((gotI ((doI L o73).2) ⟨m1, m2⟩).gone), .slice A234 n235 c236, .int .i64 ((gotI ((doI L o73).2) ⟨m1, m2⟩).by_.t), .int .i64 ((gotI ((doI L o73).2) ⟨m1, m2⟩).by_.w)], .bool ((hasI ((doI L o73).2) ⟨m1, m2⟩))]) (by kernel_rfl) rfl) ?_)
      refine wl (sv rfl (v := .bool ((hasI ((doI L o73).2) ⟨m1, m2⟩))) (r_extract (vs := [.agg #[.int .i64 ((gotI ((doI L o73).2) ⟨m1, m2⟩).node.t), .int .i64 ((gotI ((doI L o73).2) ⟨m1, m2⟩).node.w), .int .i64 ((gotI ((doI L o73).2) ⟨m1, m2⟩).parent.t), .int .i64 ((gotI ((doI L o73).2) ⟨m1, m2⟩).parent.w), .string ((gotI ((doI L o73).2) ⟨m1, m2⟩).name), .bool ((gotI ((doI L o73).2) ⟨m1, m2⟩).dir), .bool ((gotI ((doI L o73).2) ⟨m1, m2⟩).gone), .slice A234 n235 c236, .int .i64 ((gotI ((doI L o73).2) ⟨m1, m2⟩).by_.t), .int .i64 ((gotI ((doI L o73).2) ⟨m1, m2⟩).by_.w)], .bool ((hasI ((doI L o73).2) ⟨m1, m2⟩))]) (by kernel_rfl) rfl) ?_)
      refine wl (sn rfl (cs := #[.int .i64 0, .int .i64 0, .int .i64 0, .int .i64 0, .string (⟨#[]⟩), .bool false, .bool false, .slice none 0 0, .int .i64 0, .int .i64 0]) (T := 41) (V := fun b => .pointer (some ⟨b, 0, none⟩)) (r_alloc Ty.zv41 rfl) ?_)
      intro b241 w242 e243 h244 u245
      have h246 := md_ob M240 (ninc (Nat.ne_of_lt l30) (nin1 (Nat.ne_of_lt l42))) h53
      have l247 : b1 < b241 := by rw [e243]; exact lt_ob h246
      have h248 := md_ob M240 (ninc (Nat.ne_of_lt l32) (nin1 (Nat.ne_of_lt l44))) h54
      have l249 : b8 < b241 := by rw [e243]; exact lt_ob h248
      have h250 := (up_ob u238 (chg_ob c228 (Nat.ne_of_lt l213) (up_ob u207 h212)))
      have l251 : r < b241 := by rw [e243]; exact lt_ob h250
      have h252 := (up_ob u238 (chg_ob c228 (Nat.ne_of_lt l215) (up_ob u207 h214)))
      have l253 : tb < b241 := by rw [e243]; exact lt_ob h252
      have h254 := (up_ob u238 (chg_ob c228 (Nat.ne_of_lt l217) (up_ob u207 h216)))
      have l255 : ub < b241 := by rw [e243]; exact lt_ob h254
      have h256 := (up_ob u238 (chg_ob c228 (Nat.ne_of_lt l219) (up_ob u207 h218)))
      have l257 : b86 < b241 := by rw [e243]; exact lt_ob h256
      have h258 := (up_ob u238 (chg_ob c228 (Nat.ne_of_lt l221) (up_ob u207 h220)))
      have l259 : b127 < b241 := by rw [e243]; exact lt_ob h258
      have h260 := (up_ob u238 h227)
      have l261 : b203 < b241 := by rw [e243]; exact lt_ob h260
      have g262 : w.heap.size ≤ b241 := by rw [e243]; exact M239.size
      have g263 : w50.heap.size ≤ b241 := by rw [e243]; exact M240.size
      have M264 := Mod.trans M239 (Mod.of_up u245)
      have M265 := Mod.trans M240 (Mod.of_up u245)
      refine wl (ss rfl (k := 0) (v := .agg #[.int .i64 ((gotI ((doI L o73).2) ⟨m1, m2⟩).node.t), .int .i64 ((gotI ((doI L o73).2) ⟨m1, m2⟩).node.w), .int .i64 ((gotI ((doI L o73).2) ⟨m1, m2⟩).parent.t), .int .i64 ((gotI ((doI L o73).2) ⟨m1, m2⟩).parent.w), .string ((gotI ((doI L o73).2) ⟨m1, m2⟩).name), .bool ((gotI ((doI L o73).2) ⟨m1, m2⟩).dir), .bool ((gotI ((doI L o73).2) ⟨m1, m2⟩).gone), .slice A234 n235 c236, .int .i64 ((gotI ((doI L o73).2) ⟨m1, m2⟩).by_.t), .int .i64 ((gotI ((doI L o73).2) ⟨m1, m2⟩).by_.w)]) (vs := [.int .i64 ((gotI ((doI L o73).2) ⟨m1, m2⟩).node.t), .int .i64 ((gotI ((doI L o73).2) ⟨m1, m2⟩).node.w), .int .i64 ((gotI ((doI L o73).2) ⟨m1, m2⟩).parent.t), .int .i64 ((gotI ((doI L o73).2) ⟨m1, m2⟩).parent.w), .string ((gotI ((doI L o73).2) ⟨m1, m2⟩).name), .bool ((gotI ((doI L o73).2) ⟨m1, m2⟩).dir), .bool ((gotI ((doI L o73).2) ⟨m1, m2⟩).gone), .slice A234 n235 c236, .int .i64 ((gotI ((doI L o73).2) ⟨m1, m2⟩).by_.t), .int .i64 ((gotI ((doI L o73).2) ⟨m1, m2⟩).by_.w)]) (cs' := [.int .i64 ((gotI ((doI L o73).2) ⟨m1, m2⟩).node.t), .int .i64 ((gotI ((doI L o73).2) ⟨m1, m2⟩).node.w), .int .i64 ((gotI ((doI L o73).2) ⟨m1, m2⟩).parent.t), .int .i64 ((gotI ((doI L o73).2) ⟨m1, m2⟩).parent.w), .string ((gotI ((doI L o73).2) ⟨m1, m2⟩).name), .bool ((gotI ((doI L o73).2) ⟨m1, m2⟩).dir), .bool ((gotI ((doI L o73).2) ⟨m1, m2⟩).gone), .slice A234 n235 c236, .int .i64 ((gotI ((doI L o73).2) ⟨m1, m2⟩).by_.t), .int .i64 ((gotI ((doI L o73).2) ⟨m1, m2⟩).by_.w)]) (by kernel_rfl) (by kernel_rfl) rfl Ty.sz41 h244 rfl (Nat.le_of_ble_eq_true rfl) rfl ?_)
      intro w266 h267 c268
      have M269 := Mod.trans' M264 c268 (fun i hi => by injection hi with hi; rw [← hi]; exact g262)
      have M270 := Mod.trans' M265 c268 (fun i hi => by injection hi with hi; rw [← hi]; exact g263)
      refine wl (sv rfl (v := .bool ((hasI ((doI L o73).2) ⟨m1, m2⟩))) (r_assign (by kernel_rfl)) ?_)
      refine wnil ?_
      refine then_n ?_
      refine wp_seq ?_
      refine rg_held [] (n := 41) (by kernel_rfl) rfl ?_
      intro w271 u272
      have M273 := Mod.trans M269 (Mod.of_up u272)
      have M274 := Mod.trans M270 (Mod.of_up u272)
      have h275 := (up_ob u272 (chg_ob c268 (Nat.ne_of_lt l261) (up_ob u245 h260)))
      refine hv (i := 0) (fuel := 40) rfl (by kernel_rfl) (by kernel_rfl) (by kernel_rfl) (fun _ _ _ h => h) (Mod.refl _ _) rfl (v := .agg #[.int .i64 ((gotI ((doI L o73).2) ⟨m1, m2⟩).node.t), .int .i64 ((gotI ((doI L o73).2) ⟨m1, m2⟩).node.w), .int .i64 ((gotI ((doI L o73).2) ⟨m1, m2⟩).parent.t), .int .i64 ((gotI ((doI L o73).2) ⟨m1, m2⟩).parent.w), .string ((gotI ((doI L o73).2) ⟨m1, m2⟩).name), .bool ((gotI ((doI L o73).2) ⟨m1, m2⟩).dir), .bool ((gotI ((doI L o73).2) ⟨m1, m2⟩).gone), .slice A196 n197 c198, .int .i64 ((gotI ((doI L o73).2) ⟨m1, m2⟩).by_.t), .int .i64 ((gotI ((doI L o73).2) ⟨m1, m2⟩).by_.w)]) (fun _ uz => r_loads (k := 0) (vs := [.int .i64 ((gotI ((doI L o73).2) ⟨m1, m2⟩).node.t), .int .i64 ((gotI ((doI L o73).2) ⟨m1, m2⟩).node.w), .int .i64 ((gotI ((doI L o73).2) ⟨m1, m2⟩).parent.t), .int .i64 ((gotI ((doI L o73).2) ⟨m1, m2⟩).parent.w), .string ((gotI ((doI L o73).2) ⟨m1, m2⟩).name), .bool ((gotI ((doI L o73).2) ⟨m1, m2⟩).dir), .bool ((gotI ((doI L o73).2) ⟨m1, m2⟩).gone), .slice A196 n197 c198, .int .i64 ((gotI ((doI L o73).2) ⟨m1, m2⟩).by_.t), .int .i64 ((gotI ((doI L o73).2) ⟨m1, m2⟩).by_.w)]) (by kernel_rfl) Ty.ag35 Ty.sz35 (md_ob uz nin0 h275) (by kernel_rfl)) ?_
      have h276 := (up_ob u272 h267)
      refine hv (i := 2) (fuel := 39) rfl (by kernel_rfl) (by kernel_rfl) (by kernel_rfl) (fun _ _ _ h => h) (Mod.refl _ _) rfl (v := .agg #[.int .i64 ((gotI ((doI L o73).2) ⟨m1, m2⟩).node.t), .int .i64 ((gotI ((doI L o73).2) ⟨m1, m2⟩).node.w), .int .i64 ((gotI ((doI L o73).2) ⟨m1, m2⟩).parent.t), .int .i64 ((gotI ((doI L o73).2) ⟨m1, m2⟩).parent.w), .string ((gotI ((doI L o73).2) ⟨m1, m2⟩).name), .bool ((gotI ((doI L o73).2) ⟨m1, m2⟩).dir), .bool ((gotI ((doI L o73).2) ⟨m1, m2⟩).gone), .slice A234 n235 c236, .int .i64 ((gotI ((doI L o73).2) ⟨m1, m2⟩).by_.t), .int .i64 ((gotI ((doI L o73).2) ⟨m1, m2⟩).by_.w)]) (fun _ uz => r_loads (k := 0) (vs := [.int .i64 ((gotI ((doI L o73).2) ⟨m1, m2⟩).node.t), .int .i64 ((gotI ((doI L o73).2) ⟨m1, m2⟩).node.w), .int .i64 ((gotI ((doI L o73).2) ⟨m1, m2⟩).parent.t), .int .i64 ((gotI ((doI L o73).2) ⟨m1, m2⟩).parent.w), .string ((gotI ((doI L o73).2) ⟨m1, m2⟩).name), .bool ((gotI ((doI L o73).2) ⟨m1, m2⟩).dir), .bool ((gotI ((doI L o73).2) ⟨m1, m2⟩).gone), .slice A234 n235 c236, .int .i64 ((gotI ((doI L o73).2) ⟨m1, m2⟩).by_.t), .int .i64 ((gotI ((doI L o73).2) ⟨m1, m2⟩).by_.w)]) (by kernel_rfl) Ty.ag41 Ty.sz41 (md_ob uz nin0 h276) (by kernel_rfl)) ?_
      refine h1 (i := 1) (fuel := 38) (by kernel_rfl) rfl (sc rfl (r_callv (caps := []) (all := [.agg #[.int .i64 ((gotI ((doI L o73).2) ⟨m1, m2⟩).node.t), .int .i64 ((gotI ((doI L o73).2) ⟨m1, m2⟩).node.w), .int .i64 ((gotI ((doI L o73).2) ⟨m1, m2⟩).parent.t), .int .i64 ((gotI ((doI L o73).2) ⟨m1, m2⟩).parent.w), .string ((gotI ((doI L o73).2) ⟨m1, m2⟩).name), .bool ((gotI ((doI L o73).2) ⟨m1, m2⟩).dir), .bool ((gotI ((doI L o73).2) ⟨m1, m2⟩).gone), .slice A196 n197 c198, .int .i64 ((gotI ((doI L o73).2) ⟨m1, m2⟩).by_.t), .int .i64 ((gotI ((doI L o73).2) ⟨m1, m2⟩).by_.w)]]) En.f18 (by kernel_rfl) (by kernel_rfl)) (litem_at (gotI ((doI L o73).2) ⟨m1, m2⟩) A196 n197 c198) ?_)
      rintro e w277 ⟨rfl, u278⟩
      refine ⟨.agg #[.int .i64 ((gotI ((doI L o73).2) ⟨m1, m2⟩).node.t), .int .i64 ((gotI ((doI L o73).2) ⟨m1, m2⟩).node.w), .int .i64 ((gotI ((doI L o73).2) ⟨m1, m2⟩).parent.t), .int .i64 ((gotI ((doI L o73).2) ⟨m1, m2⟩).parent.w), .string ((gotI ((doI L o73).2) ⟨m1, m2⟩).name), .bool ((gotI ((doI L o73).2) ⟨m1, m2⟩).dir), .bool ((gotI ((doI L o73).2) ⟨m1, m2⟩).gone), .slice A196 n197 c198, .int .i64 ((gotI ((doI L o73).2) ⟨m1, m2⟩).by_.t), .int .i64 ((gotI ((doI L o73).2) ⟨m1, m2⟩).by_.w)], rfl, ?_⟩
      have M279 := Mod.trans M273 (Mod.of_up u278)
      have M280 := Mod.trans M274 (Mod.of_up u278)
      refine hx (Y := []) (Mod.of_up u278) (fun y hy => .inl hy) ?_
      have h281 := (Dat.up h199 (up_up (up_up (up_chgn (up_up (up_up (up_chgn u207 c228 (by rw [e205]; exact Nat.le_refl _)) u238) u245) c268 (by rw [e243]; exact (up_up (up_chgn u207 c228 (by rw [e205]; exact Nat.le_refl _)) u238).size)) u272) u278))
      have h282 := (Dat.up h237 (up_up (up_up (up_chgn u245 c268 (by rw [e243]; exact Nat.le_refl _)) u272) u278))
      refine h1 (i := 3) (fuel := 37) (by kernel_rfl) rfl (sc rfl (r_callv (caps := []) (all := [.agg #[.int .i64 ((gotI ((doI L o73).2) ⟨m1, m2⟩).node.t), .int .i64 ((gotI ((doI L o73).2) ⟨m1, m2⟩).node.w), .int .i64 ((gotI ((doI L o73).2) ⟨m1, m2⟩).parent.t), .int .i64 ((gotI ((doI L o73).2) ⟨m1, m2⟩).parent.w), .string ((gotI ((doI L o73).2) ⟨m1, m2⟩).name), .bool ((gotI ((doI L o73).2) ⟨m1, m2⟩).dir), .bool ((gotI ((doI L o73).2) ⟨m1, m2⟩).gone), .slice A196 n197 c198, .int .i64 ((gotI ((doI L o73).2) ⟨m1, m2⟩).by_.t), .int .i64 ((gotI ((doI L o73).2) ⟨m1, m2⟩).by_.w)], .agg #[.int .i64 ((gotI ((doI L o73).2) ⟨m1, m2⟩).node.t), .int .i64 ((gotI ((doI L o73).2) ⟨m1, m2⟩).node.w), .int .i64 ((gotI ((doI L o73).2) ⟨m1, m2⟩).parent.t), .int .i64 ((gotI ((doI L o73).2) ⟨m1, m2⟩).parent.w), .string ((gotI ((doI L o73).2) ⟨m1, m2⟩).name), .bool ((gotI ((doI L o73).2) ⟨m1, m2⟩).dir), .bool ((gotI ((doI L o73).2) ⟨m1, m2⟩).gone), .slice A234 n235 c236, .int .i64 ((gotI ((doI L o73).2) ⟨m1, m2⟩).by_.t), .int .i64 ((gotI ((doI L o73).2) ⟨m1, m2⟩).by_.w)]]) En.f17 (by kernel_rfl) (by kernel_rfl)) (bool_true rfl (rsameItem_at (gotI ((doI L o73).2) ⟨m1, m2⟩) (gotI ((doI L o73).2) ⟨m1, m2⟩) A196 n197 c198 A234 n235 c236 h281 h282)) ?_)
      rintro e w283 ⟨rfl, u284⟩
      refine ⟨.bool true, rfl, ?_⟩
      have M285 := Mod.trans M279 (Mod.of_up u284)
      have M286 := Mod.trans M280 (Mod.of_up u284)
      refine hx (Y := []) (Mod.of_up u284) (fun y hy => .inl hy) ?_
      refine hv (i := 4) (fuel := 36) rfl (by kernel_rfl) (by kernel_rfl) (by kernel_rfl) (fun _ _ _ h => h) (Mod.refl _ _) rfl (v := .bool false) (fun _ _ => r_not (b := true) (by kernel_rfl)) ?_
      refine hv (i := 5) (fuel := 35) rfl (by kernel_rfl) (by kernel_rfl) (by kernel_rfl) (fun _ _ _ h => h) (Mod.refl _ _) rfl (v := .bool false) (fun _ _ => r_move (by kernel_rfl)) ?_
      refine hv (i := 6) (fuel := 34) rfl (by kernel_rfl) (by kernel_rfl) (by kernel_rfl) (fun _ _ _ h => h) (Mod.refl _ _) (by kernel_rfl) (v := .bool ((hasI ((doI L o73).2) ⟨m1, m2⟩))) (fun _ _ => r_move (by kernel_rfl)) ?_
      refine hv (i := 7) (fuel := 33) rfl (by kernel_rfl) (by kernel_rfl) (by kernel_rfl) (fun _ _ _ h => h) (Mod.refl _ _) (by kernel_rfl) (v := .bool ((hasI ((doI L o73).2) ⟨m1, m2⟩))) (fun _ _ => r_move (by kernel_rfl)) ?_
      refine hv (i := 8) (fuel := 32) rfl (by kernel_rfl) (by kernel_rfl) (by kernel_rfl) (fun _ _ _ h => h) (Mod.refl _ _) (by kernel_rfl) (v := .bool false) (fun _ _ => r_neb_same (b := ((hasI ((doI L o73).2) ⟨m1, m2⟩))) (by kernel_rfl) (by kernel_rfl) Try.underlying4) ?_
      refine hv (i := 9) (fuel := 31) rfl (by kernel_rfl) (by kernel_rfl) (by kernel_rfl) (fun _ _ _ h => h) (Mod.refl _ _) rfl (v := .bool false) (fun _ _ => r_pick (b := false) (u := .bool true) (v := .bool false) (by kernel_rfl) (by kernel_rfl) (by kernel_rfl)) ?_
      refine hv (i := 10) (fuel := 30) rfl (by kernel_rfl) (by kernel_rfl) (by kernel_rfl) (fun _ _ _ h => h) (Mod.refl _ _) rfl (v := .bool false) (fun _ _ => r_move (by kernel_rfl)) ?_
      refine hv (i := 11) (fuel := 29) rfl (by kernel_rfl) (by kernel_rfl) (by kernel_rfl) (fun _ _ _ h => h) (Mod.refl _ _) (by kernel_rfl) (v := .pointer (some ⟨tb, 0, none⟩)) (fun _ _ => r_move (by kernel_rfl)) ?_
      have h287 := md_ob M286 (ninc (Nat.ne_of_lt l30) (nin1 (Nat.ne_of_lt l42))) h53
      refine hv (i := 12) (fuel := 28) rfl (by kernel_rfl) (by kernel_rfl) (by kernel_rfl) (fun _ _ _ h => h) (Mod.refl _ _) (by kernel_rfl) (v := .agg #[.int .i64 m1, .int .i64 m2]) (fun _ uz => r_loads (k := 0) (vs := [.int .i64 m1, .int .i64 m2]) (by kernel_rfl) Ty.ag24 Ty.sz24 (md_ob uz nin0 h287) (by kernel_rfl)) ?_
      have h288 := md_ob M286 (ninc (Nat.ne_of_lt l32) (nin1 (Nat.ne_of_lt l44))) h54
      refine hv (i := 13) (fuel := 27) rfl (by kernel_rfl) (by kernel_rfl) (by kernel_rfl) (fun _ _ _ h => h) (Mod.refl _ _) (by kernel_rfl) (v := .agg #[.int .i64 n1, .int .i64 n2]) (fun _ uz => r_loads (k := 0) (vs := [.int .i64 n1, .int .i64 n2]) (by kernel_rfl) Ty.ag24 Ty.sz24 (md_ob uz nin0 h288) (by kernel_rfl)) ?_
      refine hv (i := 15) (fuel := 26) rfl (by kernel_rfl) (by kernel_rfl) (by kernel_rfl) (fun _ _ _ h => h) (Mod.refl _ _) (by kernel_rfl) (v := .pointer (some ⟨ub, 0, none⟩)) (fun _ _ => r_move (by kernel_rfl)) ?_
      refine hv (i := 16) (fuel := 25) rfl (by kernel_rfl) (by kernel_rfl) (by kernel_rfl) (fun _ _ _ h => h) (Mod.refl _ _) (by kernel_rfl) (v := .agg #[.int .i64 m1, .int .i64 m2]) (fun _ uz => r_loads (k := 0) (vs := [.int .i64 m1, .int .i64 m2]) (by kernel_rfl) Ty.ag24 Ty.sz24 (md_ob uz nin0 h287) (by kernel_rfl)) ?_
      refine hv (i := 17) (fuel := 24) rfl (by kernel_rfl) (by kernel_rfl) (by kernel_rfl) (fun _ _ _ h => h) (Mod.refl _ _) (by kernel_rfl) (v := .agg #[.int .i64 n1, .int .i64 n2]) (fun _ uz => r_loads (k := 0) (vs := [.int .i64 n1, .int .i64 n2]) (by kernel_rfl) Ty.ag24 Ty.sz24 (md_ob uz nin0 h288) (by kernel_rfl)) ?_
      have h289 := (TreeIs.up h192 (up_up (up_up (up_up (up_chgn (up_up (up_up (up_chgn (up_up u200 u207) c228 (by rw [e205]; exact u200.size)) u238) u245) c268 (by rw [e243]; exact (up_up (up_chgn (up_up u200 u207) c228 (by rw [e205]; exact u200.size)) u238).size)) u272) u278) u284))
      refine h1 (i := 14) (fuel := 23) (by kernel_rfl) rfl (sc (by kernel_rfl) (r_callv (caps := []) (all := [.pointer (some ⟨tb, 0, none⟩), .agg #[.int .i64 m1, .int .i64 m2], .agg #[.int .i64 n1, .int .i64 n2]]) En.f25 (by kernel_rfl) (by kernel_rfl)) (within_at h289 m1 m2 n1 n2) ?_)
      rintro e w290 ⟨rfl, u291⟩
      refine ⟨.bool ((withinI ((doI L o73).2) ⟨m1, m2⟩ 301 ⟨n1, n2⟩)), rfl, ?_⟩
      have M292 := Mod.trans M285 (Mod.of_up u291)
      have M293 := Mod.trans M286 (Mod.of_up u291)
      refine hx (Y := []) (Mod.of_up u291) (fun y hy => .inl hy) ?_
      have h294 := (RIs.up h232 (up_up (up_up (up_up (up_up (up_chgn (up_up u238 u245) c268 (by rw [e243]; exact u238.size)) u272) u278) u284) u291))
      refine h1 (i := 18) (fuel := 22) (by kernel_rfl) rfl (sc (by kernel_rfl) (r_callv (caps := []) (all := [.pointer (some ⟨ub, 0, none⟩), .agg #[.int .i64 m1, .int .i64 m2], .agg #[.int .i64 n1, .int .i64 n2]]) En.f26 (by kernel_rfl) (by kernel_rfl)) (rwithin_at h294 m1 m2 n1 n2) ?_)
      rintro e w295 ⟨rfl, u296⟩
      refine ⟨.bool ((withinI ((doI L o73).2) ⟨m1, m2⟩ 301 ⟨n1, n2⟩)), rfl, ?_⟩
      have M297 := Mod.trans M292 (Mod.of_up u296)
      have M298 := Mod.trans M293 (Mod.of_up u296)
      refine hx (Y := []) (Mod.of_up u296) (fun y hy => .inl hy) ?_
      refine hv (i := 19) (fuel := 21) rfl (by kernel_rfl) (by kernel_rfl) (by kernel_rfl) (fun _ _ _ h => h) (Mod.refl _ _) (by kernel_rfl) (v := .bool false) (fun _ _ => r_neb_same (b := ((withinI ((doI L o73).2) ⟨m1, m2⟩ 301 ⟨n1, n2⟩))) (by kernel_rfl) (by kernel_rfl) Try.underlying4) ?_
      refine hv (i := 20) (fuel := 20) rfl (by kernel_rfl) (by kernel_rfl) (by kernel_rfl) (fun _ _ _ h => h) (Mod.refl _ _) rfl (v := .bool false) (fun _ _ => r_pick (b := false) (u := .bool true) (v := .bool false) (by kernel_rfl) (by kernel_rfl) (by kernel_rfl)) ?_
      refine hv (i := 21) (fuel := 19) rfl (by kernel_rfl) (by kernel_rfl) (by kernel_rfl) (fun _ _ _ h => h) (Mod.refl _ _) rfl (v := .bool false) (fun _ _ => r_move (by kernel_rfl)) ?_
      refine hv (i := 22) (fuel := 18) rfl (by kernel_rfl) (by kernel_rfl) (by kernel_rfl) (fun _ _ _ h => h) (Mod.refl _ _) (by kernel_rfl) (v := .pointer (some ⟨tb, 0, none⟩)) (fun _ _ => r_move (by kernel_rfl)) ?_
      have h299 := md_ob M298 (ninc (Nat.ne_of_lt l30) (nin1 (Nat.ne_of_lt l42))) h53
      refine hv (i := 23) (fuel := 17) rfl (by kernel_rfl) (by kernel_rfl) (by kernel_rfl) (fun _ _ _ h => h) (Mod.refl _ _) (by kernel_rfl) (v := .agg #[.int .i64 m1, .int .i64 m2]) (fun _ uz => r_loads (k := 0) (vs := [.int .i64 m1, .int .i64 m2]) (by kernel_rfl) Ty.ag24 Ty.sz24 (md_ob uz nin0 h299) (by kernel_rfl)) ?_
      refine hv (i := 25) (fuel := 16) rfl (by kernel_rfl) (by kernel_rfl) (by kernel_rfl) (fun _ _ _ h => h) (Mod.refl _ _) (by kernel_rfl) (v := .pointer (some ⟨ub, 0, none⟩)) (fun _ _ => r_move (by kernel_rfl)) ?_
      refine hv (i := 26) (fuel := 15) rfl (by kernel_rfl) (by kernel_rfl) (by kernel_rfl) (fun _ _ _ h => h) (Mod.refl _ _) (by kernel_rfl) (v := .agg #[.int .i64 m1, .int .i64 m2]) (fun _ uz => r_loads (k := 0) (vs := [.int .i64 m1, .int .i64 m2]) (by kernel_rfl) Ty.ag24 Ty.sz24 (md_ob uz nin0 h299) (by kernel_rfl)) ?_
      have h300 := (TreeIs.up h289 (up_up u291 u296))
      refine h1 (i := 24) (fuel := 14) (by kernel_rfl) rfl (sc (by kernel_rfl) (r_callv (caps := []) (all := [.pointer (some ⟨tb, 0, none⟩), .agg #[.int .i64 m1, .int .i64 m2]]) En.f27 (by kernel_rfl) (by kernel_rfl)) (hangs_at h300 m1 m2) ?_)
      rintro e w301 ⟨rfl, u302⟩
      refine ⟨.bool ((hangsI ((doI L o73).2) 301 ⟨m1, m2⟩)), rfl, ?_⟩
      have M303 := Mod.trans M297 (Mod.of_up u302)
      have M304 := Mod.trans M298 (Mod.of_up u302)
      refine hx (Y := []) (Mod.of_up u302) (fun y hy => .inl hy) ?_
      have h305 := (RIs.up h294 (up_up u296 u302))
      refine h1 (i := 27) (fuel := 13) (by kernel_rfl) rfl (sc (by kernel_rfl) (r_callv (caps := []) (all := [.pointer (some ⟨ub, 0, none⟩), .agg #[.int .i64 m1, .int .i64 m2]]) En.f28 (by kernel_rfl) (by kernel_rfl)) (rhangs_at h305 m1 m2) ?_)
      rintro e w306 ⟨rfl, u307⟩
      refine ⟨.bool ((hangsI ((doI L o73).2) 301 ⟨m1, m2⟩)), rfl, ?_⟩
      have M308 := Mod.trans M303 (Mod.of_up u307)
      have M309 := Mod.trans M304 (Mod.of_up u307)
      refine hx (Y := []) (Mod.of_up u307) (fun y hy => .inl hy) ?_
      refine hv (i := 28) (fuel := 12) rfl (by kernel_rfl) (by kernel_rfl) (by kernel_rfl) (fun _ _ _ h => h) (Mod.refl _ _) (by kernel_rfl) (v := .bool false) (fun _ _ => r_neb_same (b := ((hangsI ((doI L o73).2) 301 ⟨m1, m2⟩))) (by kernel_rfl) (by kernel_rfl) Try.underlying4) ?_
      refine hv (i := 29) (fuel := 11) rfl (by kernel_rfl) (by kernel_rfl) (by kernel_rfl) (fun _ _ _ h => h) (Mod.refl _ _) rfl (v := .bool false) (fun _ _ => r_pick (b := false) (u := .bool true) (v := .bool false) (by kernel_rfl) (by kernel_rfl) (by kernel_rfl)) ?_
      refine hv (i := 30) (fuel := 10) rfl (by kernel_rfl) (by kernel_rfl) (by kernel_rfl) (fun _ _ _ h => h) (Mod.refl _ _) rfl (v := .bool false) (fun _ _ => r_move (by kernel_rfl)) ?_
      refine hv (i := 31) (fuel := 9) rfl (by kernel_rfl) (by kernel_rfl) (by kernel_rfl) (fun _ _ _ h => h) (Mod.refl _ _) (by kernel_rfl) (v := .pointer (some ⟨tb, 0, none⟩)) (fun _ _ => r_move (by kernel_rfl)) ?_
      have h310 := md_ob M309 (ninc (Nat.ne_of_lt l30) (nin1 (Nat.ne_of_lt l42))) h53
      refine hv (i := 32) (fuel := 8) rfl (by kernel_rfl) (by kernel_rfl) (by kernel_rfl) (fun _ _ _ h => h) (Mod.refl _ _) (by kernel_rfl) (v := .agg #[.int .i64 m1, .int .i64 m2]) (fun _ uz => r_loads (k := 0) (vs := [.int .i64 m1, .int .i64 m2]) (by kernel_rfl) Ty.ag24 Ty.sz24 (md_ob uz nin0 h310) (by kernel_rfl)) ?_
      refine hv (i := 35) (fuel := 7) rfl (by kernel_rfl) (by kernel_rfl) (by kernel_rfl) (fun _ _ _ h => h) (Mod.refl _ _) (by kernel_rfl) (v := .pointer (some ⟨ub, 0, none⟩)) (fun _ _ => r_move (by kernel_rfl)) ?_
      refine hv (i := 36) (fuel := 6) rfl (by kernel_rfl) (by kernel_rfl) (by kernel_rfl) (fun _ _ _ h => h) (Mod.refl _ _) (by kernel_rfl) (v := .agg #[.int .i64 m1, .int .i64 m2]) (fun _ uz => r_loads (k := 0) (vs := [.int .i64 m1, .int .i64 m2]) (by kernel_rfl) Ty.ag24 Ty.sz24 (md_ob uz nin0 h310) (by kernel_rfl)) ?_
      have h316 := (TreeIs.up h300 (up_up u302 u307))
      refine h1 (i := 33) (fuel := 5) (by kernel_rfl) rfl (sc (by kernel_rfl) (r_callv (caps := []) (all := [.pointer (some ⟨tb, 0, none⟩), .agg #[.int .i64 m1, .int .i64 m2]]) En.f29 (by kernel_rfl) (by kernel_rfl)) (row_sl (kids_at h316 (Nat.le_trans hB M308.size) m1 m2)) ?_)
      rintro e w311 ⟨A312, c313, rfl, h314, u315⟩
      refine ⟨.slice A312 (((kidsI ⟨m1, m2⟩ ((doI L o73).2))).length) c313, rfl, ?_⟩
      have M317 := Mod.trans M308 (Mod.of_up u315)
      have M318 := Mod.trans M309 (Mod.of_up u315)
      refine hx (Y := []) (Mod.of_up u315) (fun y hy => .inl hy) ?_
      have h324 := (TreeIs.up h316 u315)
      refine h1 (i := 34) (fuel := 4) (by kernel_rfl) rfl (sc (by kernel_rfl) (r_callv (caps := []) (all := [.slice A312 (((kidsI ⟨m1, m2⟩ ((doI L o73).2))).length) c313]) En.f20 (by kernel_rfl) (by kernel_rfl)) (row_sl (litems_at h314 (Nat.le_trans hB M317.size) (Nat.le_trans (kids_len _ _) (Nat.le_trans h324.2.2.2.2 (by decide))))) ?_)
      rintro e w319 ⟨A320, c321, rfl, h322, u323⟩
      refine ⟨.slice A320 (((kidsI ⟨m1, m2⟩ ((doI L o73).2))).length) c321, rfl, ?_⟩
      have M325 := Mod.trans M317 (Mod.of_up u323)
      have M326 := Mod.trans M318 (Mod.of_up u323)
      refine hx (Y := []) (Mod.of_up u323) (fun y hy => .inl hy) ?_
      have h332 := (RIs.up h305 (up_up (up_up u307 u315) u323))
      refine h1 (i := 37) (fuel := 3) (by kernel_rfl) rfl (sc (by kernel_rfl) (r_callv (caps := []) (all := [.pointer (some ⟨ub, 0, none⟩), .agg #[.int .i64 m1, .int .i64 m2]]) En.f30 (by kernel_rfl) (by kernel_rfl)) (row_sl (rkids_at h332 (Nat.le_trans hB M325.size) m1 m2)) ?_)
      rintro e w327 ⟨A328, c329, rfl, h330, u331⟩
      refine ⟨.slice A328 (((kidsI ⟨m1, m2⟩ ((doI L o73).2))).length) c329, rfl, ?_⟩
      have M333 := Mod.trans M325 (Mod.of_up u331)
      have M334 := Mod.trans M326 (Mod.of_up u331)
      refine hx (Y := []) (Mod.of_up u331) (fun y hy => .inl hy) ?_
      have h335 := (IRow.up h322 u331)
      have h336 := (TreeIs.up h324 (up_up u323 u331))
      refine h1 (i := 38) (fuel := 2) (by kernel_rfl) rfl (sc (by kernel_rfl) (r_callv (caps := []) (all := [.slice A320 (((kidsI ⟨m1, m2⟩ ((doI L o73).2))).length) c321, .slice A328 (((kidsI ⟨m1, m2⟩ ((doI L o73).2))).length) c329]) En.f19 (by kernel_rfl) (by kernel_rfl)) (bool_true rfl (rsame_at h335 h330 (Nat.le_trans (kids_len _ _) (Nat.le_trans h336.2.2.2.2 (by decide))))) ?_)
      rintro e w337 ⟨rfl, u338⟩
      refine ⟨.bool true, rfl, ?_⟩
      have M339 := Mod.trans M333 (Mod.of_up u338)
      have M340 := Mod.trans M334 (Mod.of_up u338)
      refine hx (Y := []) (Mod.of_up u338) (fun y hy => .inl hy) ?_
      refine hv (i := 39) (fuel := 1) rfl (by kernel_rfl) (by kernel_rfl) (by kernel_rfl) (fun _ _ _ h => h) (Mod.refl _ _) (by kernel_rfl) (v := .bool false) (fun _ _ => r_not (b := true) (by kernel_rfl)) ?_
      refine hv (i := 40) (fuel := 0) rfl (by kernel_rfl) (by kernel_rfl) (by kernel_rfl) (fun _ _ _ h => h) (Mod.refl _ _) rfl (v := .bool false) (fun _ _ => r_pick (b := false) (u := .bool true) (v := .bool false) (by kernel_rfl) (by kernel_rfl) (by kernel_rfl)) ?_
      refine hend (by kernel_rfl) ?_
      refine then_n ?_
      refine wp_cond_false (by kernel_rfl) ?_
      refine wp_skip ?_
      refine inb_n ?_
      refine then_n ?_
      refine rg_lit ?_
      refine wl (sv rfl (v := .int .i64 ((k : Int))) (r_move (by kernel_rfl)) ?_)
      refine wl (sv rfl (v := .int .i64 (((k : Int)) + 1)) (r_add (k := .i64) (m := ((k : Int))) (n := 1) (by kernel_rfl) (by kernel_rfl) (IntWalk.i64_in _ (by omega))) ?_)
      refine wl (sv rfl (v := .int .i64 (((k : Int)) + 1)) (r_assign (by kernel_rfl)) ?_)
      refine wnil ?_
      refine then_n ?_
      have h341 := (TreeIs.up h336 u338)
      have h342 := (RIs.up h332 (up_up u331 u338))
      refine ⟨os.length - (k + 1), ?_, (k + 1), (doI L o73).2, tget [undef, undef, undef, undef, undef, undef, (Z 6), undef, undef, undef, .pointer (some ⟨b86, 0, none⟩), .bool ((hasI ((doI L o73).2) ⟨m1, m2⟩)), .int .i64 ((doI L o73).1.2.2), .pointer (some ⟨b127, 0, none⟩), .bool ((hasI ((doI L o73).2) ⟨m1, m2⟩)), .int .i64 ((doI L o73).1.2.2), .pointer (some ⟨b203, 0, none⟩), .pointer (some ⟨b241, 0, none⟩), undef, undef, undef, undef, undef, undef, undef, undef, undef, undef, undef, undef, undef, .int .i64 ((k : Int)), .slice lA os.length lc, .int .i64 ((os.length : Int)), .bool b66, .int .i64 ((k : Int)), .int .i64 (((k : Int)) + 1), .tuple #[.agg #[.int .i64 ((doI L o73).1.1.node.t), .int .i64 ((doI L o73).1.1.node.w), .int .i64 ((doI L o73).1.1.parent.t), .int .i64 ((doI L o73).1.1.parent.w), .string ((doI L o73).1.1.name), .bool ((doI L o73).1.1.dir), .bool ((doI L o73).1.1.gone), .slice A75 n76 c77, .int .i64 ((doI L o73).1.1.by_.t), .int .i64 ((doI L o73).1.1.by_.w)], .bool ((doI L o73).1.2.1), .int .i64 ((doI L o73).1.2.2)], .pointer (some ⟨tb, 0, none⟩), .slice lA os.length lc, .int .i64 ((k : Int)), .pointer (some ⟨g73, f73 + k * 10, none⟩), .agg #[.int .i64 o73.kind, .int .i64 o73.at_.t, .int .i64 o73.at_.w, .int .i64 o73.node.t, .int .i64 o73.node.w, .int .i64 o73.parent.t, .int .i64 o73.parent.w, .bool o73.dir, .string o73.name, .slice oA73 on73 oc73], .tuple #[.agg #[.int .i64 ((doI L o73).1.1.node.t), .int .i64 ((doI L o73).1.1.node.w), .int .i64 ((doI L o73).1.1.parent.t), .int .i64 ((doI L o73).1.1.parent.w), .string ((doI L o73).1.1.name), .bool ((doI L o73).1.1.dir), .bool ((doI L o73).1.1.gone), .slice A75 n76 c77, .int .i64 ((doI L o73).1.1.by_.t), .int .i64 ((doI L o73).1.1.by_.w)], .bool ((doI L o73).1.2.1), .int .i64 ((doI L o73).1.2.2)], .agg #[.int .i64 ((doI L o73).1.1.node.t), .int .i64 ((doI L o73).1.1.node.w), .int .i64 ((doI L o73).1.1.parent.t), .int .i64 ((doI L o73).1.1.parent.w), .string ((doI L o73).1.1.name), .bool ((doI L o73).1.1.dir), .bool ((doI L o73).1.1.gone), .slice A75 n76 c77, .int .i64 ((doI L o73).1.1.by_.t), .int .i64 ((doI L o73).1.1.by_.w)], .bool ((doI L o73).1.2.1), .int .i64 ((doI L o73).1.2.2), .tuple #[.agg #[.int .i64 ((doI L o73).1.1.node.t), .int .i64 ((doI L o73).1.1.node.w), .int .i64 ((doI L o73).1.1.parent.t), .int .i64 ((doI L o73).1.1.parent.w), .string ((doI L o73).1.1.name), .bool ((doI L o73).1.1.dir), .bool ((doI L o73).1.1.gone), .slice A112 n113 c114, .int .i64 ((doI L o73).1.1.by_.t), .int .i64 ((doI L o73).1.1.by_.w)], .bool ((doI L o73).1.2.1), .int .i64 ((doI L o73).1.2.2)], .pointer (some ⟨ub, 0, none⟩), .slice lA os.length lc, .int .i64 ((k : Int)), .pointer (some ⟨g109, f109 + k * 10, none⟩), .agg #[.int .i64 o73.kind, .int .i64 o73.at_.t, .int .i64 o73.at_.w, .int .i64 o73.node.t, .int .i64 o73.node.w, .int .i64 o73.parent.t, .int .i64 o73.parent.w, .bool o73.dir, .string o73.name, .slice oA109 on109 oc109], .tuple #[.agg #[.int .i64 ((doI L o73).1.1.node.t), .int .i64 ((doI L o73).1.1.node.w), .int .i64 ((doI L o73).1.1.parent.t), .int .i64 ((doI L o73).1.1.parent.w), .string ((doI L o73).1.1.name), .bool ((doI L o73).1.1.dir), .bool ((doI L o73).1.1.gone), .slice A112 n113 c114, .int .i64 ((doI L o73).1.1.by_.t), .int .i64 ((doI L o73).1.1.by_.w)], .bool ((doI L o73).1.2.1), .int .i64 ((doI L o73).1.2.2)], .agg #[.int .i64 ((doI L o73).1.1.node.t), .int .i64 ((doI L o73).1.1.node.w), .int .i64 ((doI L o73).1.1.parent.t), .int .i64 ((doI L o73).1.1.parent.w), .string ((doI L o73).1.1.name), .bool ((doI L o73).1.1.dir), .bool ((doI L o73).1.1.gone), .slice A112 n113 c114, .int .i64 ((doI L o73).1.1.by_.t), .int .i64 ((doI L o73).1.1.by_.w)], .bool ((doI L o73).1.2.1), .int .i64 ((doI L o73).1.2.2), .agg #[.int .i64 ((doI L o73).1.1.node.t), .int .i64 ((doI L o73).1.1.node.w), .int .i64 ((doI L o73).1.1.parent.t), .int .i64 ((doI L o73).1.1.parent.w), .string ((doI L o73).1.1.name), .bool ((doI L o73).1.1.dir), .bool ((doI L o73).1.1.gone), .slice A75 n76 c77, .int .i64 ((doI L o73).1.1.by_.t), .int .i64 ((doI L o73).1.1.by_.w)], .agg #[.int .i64 ((doI L o73).1.1.node.t), .int .i64 ((doI L o73).1.1.node.w), .int .i64 ((doI L o73).1.1.parent.t), .int .i64 ((doI L o73).1.1.parent.w), .string ((doI L o73).1.1.name), .bool ((doI L o73).1.1.dir), .bool ((doI L o73).1.1.gone), .slice A75 n76 c77, .int .i64 ((doI L o73).1.1.by_.t), .int .i64 ((doI L o73).1.1.by_.w)], .agg #[.int .i64 ((doI L o73).1.1.node.t), .int .i64 ((doI L o73).1.1.node.w), .int .i64 ((doI L o73).1.1.parent.t), .int .i64 ((doI L o73).1.1.parent.w), .string ((doI L o73).1.1.name), .bool ((doI L o73).1.1.dir), .bool ((doI L o73).1.1.gone), .slice A112 n113 c114, .int .i64 ((doI L o73).1.1.by_.t), .int .i64 ((doI L o73).1.1.by_.w)], .bool true, .bool false, .bool false, .bool ((doI L o73).1.2.1), .bool ((doI L o73).1.2.1), .bool false, .bool false, .bool false, .int .i64 ((doI L o73).1.2.2), .int .i64 ((doI L o73).1.2.2), .bool false, .bool false, .bool false, .pointer (some ⟨tb, 0, none⟩), .slice A170 (((doI L o73).2).length) c171, .slice A178 (((doI L o73).2).length) c179, .pointer (some ⟨ub, 0, none⟩), .pointer (some ⟨ub, 0, none⟩), .pointer (some ⟨ub, 0, none⟩), .slice Au126 (((doI L o73).2).length) cu126, .bool true, .bool false, .bool false, .bool false, .pointer (some ⟨tb, 0, none⟩), .int .i64 (((((doI L o73).2).length) : Int)), .pointer (some ⟨ub, 0, none⟩), .pointer (some ⟨ub, 0, none⟩), .pointer (some ⟨ub, 0, none⟩), .slice Au126 (((doI L o73).2).length) cu126, .int .i64 (((((doI L o73).2).length) : Int)), .bool false, .bool false, .tuple #[.agg #[.int .i64 ((gotI ((doI L o73).2) ⟨m1, m2⟩).node.t), .int .i64 ((gotI ((doI L o73).2) ⟨m1, m2⟩).node.w), .int .i64 ((gotI ((doI L o73).2) ⟨m1, m2⟩).parent.t), .int .i64 ((gotI ((doI L o73).2) ⟨m1, m2⟩).parent.w), .string ((gotI ((doI L o73).2) ⟨m1, m2⟩).name), .bool ((gotI ((doI L o73).2) ⟨m1, m2⟩).dir), .bool ((gotI ((doI L o73).2) ⟨m1, m2⟩).gone), .slice A196 n197 c198, .int .i64 ((gotI ((doI L o73).2) ⟨m1, m2⟩).by_.t), .int .i64 ((gotI ((doI L o73).2) ⟨m1, m2⟩).by_.w)], .bool ((hasI ((doI L o73).2) ⟨m1, m2⟩))], .pointer (some ⟨tb, 0, none⟩), .agg #[.int .i64 m1, .int .i64 m2], .tuple #[.agg #[.int .i64 ((gotI ((doI L o73).2) ⟨m1, m2⟩).node.t), .int .i64 ((gotI ((doI L o73).2) ⟨m1, m2⟩).node.w), .int .i64 ((gotI ((doI L o73).2) ⟨m1, m2⟩).parent.t), .int .i64 ((gotI ((doI L o73).2) ⟨m1, m2⟩).parent.w), .string ((gotI ((doI L o73).2) ⟨m1, m2⟩).name), .bool ((gotI ((doI L o73).2) ⟨m1, m2⟩).dir), .bool ((gotI ((doI L o73).2) ⟨m1, m2⟩).gone), .slice A196 n197 c198, .int .i64 ((gotI ((doI L o73).2) ⟨m1, m2⟩).by_.t), .int .i64 ((gotI ((doI L o73).2) ⟨m1, m2⟩).by_.w)], .bool ((hasI ((doI L o73).2) ⟨m1, m2⟩))], .agg #[.int .i64 ((gotI ((doI L o73).2) ⟨m1, m2⟩).node.t), .int .i64 ((gotI ((doI L o73).2) ⟨m1, m2⟩).node.w), .int .i64 ((gotI ((doI L o73).2) ⟨m1, m2⟩).parent.t), .int .i64 ((gotI ((doI L o73).2) ⟨m1, m2⟩).parent.w), .string ((gotI ((doI L o73).2) ⟨m1, m2⟩).name), .bool ((gotI ((doI L o73).2) ⟨m1, m2⟩).dir), .bool ((gotI ((doI L o73).2) ⟨m1, m2⟩).gone), .slice A196 n197 c198, .int .i64 ((gotI ((doI L o73).2) ⟨m1, m2⟩).by_.t), .int .i64 ((gotI ((doI L o73).2) ⟨m1, m2⟩).by_.w)], .bool ((hasI ((doI L o73).2) ⟨m1, m2⟩)), .tuple #[.agg #[.int .i64 ((gotI ((doI L o73).2) ⟨m1, m2⟩).node.t), .int .i64 ((gotI ((doI L o73).2) ⟨m1, m2⟩).node.w), .int .i64 ((gotI ((doI L o73).2) ⟨m1, m2⟩).parent.t), .int .i64 ((gotI ((doI L o73).2) ⟨m1, m2⟩).parent.w), .string ((gotI ((doI L o73).2) ⟨m1, m2⟩).name), .bool ((gotI ((doI L o73).2) ⟨m1, m2⟩).dir), .bool ((gotI ((doI L o73).2) ⟨m1, m2⟩).gone), .slice A234 n235 c236, .int .i64 ((gotI ((doI L o73).2) ⟨m1, m2⟩).by_.t), .int .i64 ((gotI ((doI L o73).2) ⟨m1, m2⟩).by_.w)], .bool ((hasI ((doI L o73).2) ⟨m1, m2⟩))], .pointer (some ⟨ub, 0, none⟩), .agg #[.int .i64 m1, .int .i64 m2], .tuple #[.agg #[.int .i64 ((gotI ((doI L o73).2) ⟨m1, m2⟩).node.t), .int .i64 ((gotI ((doI L o73).2) ⟨m1, m2⟩).node.w), .int .i64 ((gotI ((doI L o73).2) ⟨m1, m2⟩).parent.t), .int .i64 ((gotI ((doI L o73).2) ⟨m1, m2⟩).parent.w), .string ((gotI ((doI L o73).2) ⟨m1, m2⟩).name), .bool ((gotI ((doI L o73).2) ⟨m1, m2⟩).dir), .bool ((gotI ((doI L o73).2) ⟨m1, m2⟩).gone), .slice A234 n235 c236, .int .i64 ((gotI ((doI L o73).2) ⟨m1, m2⟩).by_.t), .int .i64 ((gotI ((doI L o73).2) ⟨m1, m2⟩).by_.w)], .bool ((hasI ((doI L o73).2) ⟨m1, m2⟩))], .agg #[.int .i64 ((gotI ((doI L o73).2) ⟨m1, m2⟩).node.t), .int .i64 ((gotI ((doI L o73).2) ⟨m1, m2⟩).node.w), .int .i64 ((gotI ((doI L o73).2) ⟨m1, m2⟩).parent.t), .int .i64 ((gotI ((doI L o73).2) ⟨m1, m2⟩).parent.w), .string ((gotI ((doI L o73).2) ⟨m1, m2⟩).name), .bool ((gotI ((doI L o73).2) ⟨m1, m2⟩).dir), .bool ((gotI ((doI L o73).2) ⟨m1, m2⟩).gone), .slice A234 n235 c236, .int .i64 ((gotI ((doI L o73).2) ⟨m1, m2⟩).by_.t), .int .i64 ((gotI ((doI L o73).2) ⟨m1, m2⟩).by_.w)], .bool ((hasI ((doI L o73).2) ⟨m1, m2⟩)), .agg #[.int .i64 ((gotI ((doI L o73).2) ⟨m1, m2⟩).node.t), .int .i64 ((gotI ((doI L o73).2) ⟨m1, m2⟩).node.w), .int .i64 ((gotI ((doI L o73).2) ⟨m1, m2⟩).parent.t), .int .i64 ((gotI ((doI L o73).2) ⟨m1, m2⟩).parent.w), .string ((gotI ((doI L o73).2) ⟨m1, m2⟩).name), .bool ((gotI ((doI L o73).2) ⟨m1, m2⟩).dir), .bool ((gotI ((doI L o73).2) ⟨m1, m2⟩).gone), .slice A196 n197 c198, .int .i64 ((gotI ((doI L o73).2) ⟨m1, m2⟩).by_.t), .int .i64 ((gotI ((doI L o73).2) ⟨m1, m2⟩).by_.w)], .agg #[.int .i64 ((gotI ((doI L o73).2) ⟨m1, m2⟩).node.t), .int .i64 ((gotI ((doI L o73).2) ⟨m1, m2⟩).node.w), .int .i64 ((gotI ((doI L o73).2) ⟨m1, m2⟩).parent.t), .int .i64 ((gotI ((doI L o73).2) ⟨m1, m2⟩).parent.w), .string ((gotI ((doI L o73).2) ⟨m1, m2⟩).name), .bool ((gotI ((doI L o73).2) ⟨m1, m2⟩).dir), .bool ((gotI ((doI L o73).2) ⟨m1, m2⟩).gone), .slice A196 n197 c198, .int .i64 ((gotI ((doI L o73).2) ⟨m1, m2⟩).by_.t), .int .i64 ((gotI ((doI L o73).2) ⟨m1, m2⟩).by_.w)], .agg #[.int .i64 ((gotI ((doI L o73).2) ⟨m1, m2⟩).node.t), .int .i64 ((gotI ((doI L o73).2) ⟨m1, m2⟩).node.w), .int .i64 ((gotI ((doI L o73).2) ⟨m1, m2⟩).parent.t), .int .i64 ((gotI ((doI L o73).2) ⟨m1, m2⟩).parent.w), .string ((gotI ((doI L o73).2) ⟨m1, m2⟩).name), .bool ((gotI ((doI L o73).2) ⟨m1, m2⟩).dir), .bool ((gotI ((doI L o73).2) ⟨m1, m2⟩).gone), .slice A234 n235 c236, .int .i64 ((gotI ((doI L o73).2) ⟨m1, m2⟩).by_.t), .int .i64 ((gotI ((doI L o73).2) ⟨m1, m2⟩).by_.w)], .bool true, .bool false, .bool false, .bool ((hasI ((doI L o73).2) ⟨m1, m2⟩)), .bool ((hasI ((doI L o73).2) ⟨m1, m2⟩)), .bool false, .bool false, .bool false, .pointer (some ⟨tb, 0, none⟩), .agg #[.int .i64 m1, .int .i64 m2], .agg #[.int .i64 n1, .int .i64 n2], .bool ((withinI ((doI L o73).2) ⟨m1, m2⟩ 301 ⟨n1, n2⟩)), .pointer (some ⟨ub, 0, none⟩), .agg #[.int .i64 m1, .int .i64 m2], .agg #[.int .i64 n1, .int .i64 n2], .bool ((withinI ((doI L o73).2) ⟨m1, m2⟩ 301 ⟨n1, n2⟩)), .bool false, .bool false, .bool false, .pointer (some ⟨tb, 0, none⟩), .agg #[.int .i64 m1, .int .i64 m2], .bool ((hangsI ((doI L o73).2) 301 ⟨m1, m2⟩)), .pointer (some ⟨ub, 0, none⟩), .agg #[.int .i64 m1, .int .i64 m2], .bool ((hangsI ((doI L o73).2) 301 ⟨m1, m2⟩)), .bool false, .bool false, .bool false, .pointer (some ⟨tb, 0, none⟩), .agg #[.int .i64 m1, .int .i64 m2], .slice A312 (((kidsI ⟨m1, m2⟩ ((doI L o73).2))).length) c313, .slice A320 (((kidsI ⟨m1, m2⟩ ((doI L o73).2))).length) c321, .pointer (some ⟨ub, 0, none⟩), .agg #[.int .i64 m1, .int .i64 m2], .slice A328 (((kidsI ⟨m1, m2⟩ ((doI L o73).2))).length) c329, .bool true, .bool false, .bool false], rfl, (by kernel_rfl), M340, (by omega), h341, h342⟩
      · omega
end Go.Proofs.Ytefhfoioeoijlaa

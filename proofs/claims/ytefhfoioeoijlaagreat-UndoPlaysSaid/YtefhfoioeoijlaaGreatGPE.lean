/- GPE: printed by gen.py -/
import Derived.Test.YtefhfoioeoijlaaGreatGPD
import Derived.Test.YtefhfoioeoijlaaGreatPlb
set_option linter.unusedVariables false
set_option linter.unusedSimpArgs false
namespace Go.Proofs.YtefhfoioeoijlaaGreat
open Go Go.RowKit Go.Sort
set_option maxRecDepth 20000 in
set_option maxHeartbeats 2000000 in
theorem undoPlays_at {w : World} {lA : Option Addr} {lc : Nat} {ss : List GStep} (h0 : StRow0 w lA ss) (hfull : SmallS ss → StRow w.heap.size w lA ss) (hB : w.heap.size ≤ w.heap.size) (hnS : ss.length ≤ 1300000000000) :
    Calls Tryz.prog 3 #[.slice lA ss.length lc] w fun e w' => e = .returned (.bool true) ∧ Up w w' := by
  go_enter Tryz.func3, Tryz.ntmps3
  refine wp_seq (rg_lit ?_)
  refine was (v := .bool false) ?_
  refine wnil (then_n (wp_seq (wp_seq (rg_lit ?_))))
  refine wmv (v := .slice lA ss.length lc) ?_
  refine wl (sc rfl (r_callv (caps := []) (all := [.slice lA ss.length lc, .int .i64 30]) En.f4 (by kernel_rfl) (by kernel_rfl)) (light17_at (StRow0.up h0 (Mod.up (Mod.refl [] w))) hnS 30) ?_)
  rintro e w1 ⟨lb2, rfl, h3, u4⟩
  refine ⟨.bool lb2, rfl, ?_⟩
  have M5 := Mod.trans (Mod.refl [] w) (Mod.of_up u4)
  refine wl (sv rfl (v := .bool (!lb2)) (r_not (b := lb2) (by kernel_rfl)) ?_)
  refine wnil (then_n ?_)
  refine bcase lb2 (fun v6 => ?_) (fun v6 => ?_)
  ·
   refine wp_cond_true (ebool (b := !lb2) (by kernel_rfl) (bneg v6)) ?_
   refine wp_seq (rg_lit ?_)
   refine wl (sc rfl (r_callv (caps := []) (all := []) En.f5 (by kernel_rfl) (by kernel_rfl)) (alive17_at) ?_)
   rintro e w7 ⟨rfl, u8⟩
   refine ⟨.bool true, rfl, ?_⟩
   have M9 := Mod.trans M5 (Mod.of_up u8)
   refine was (v := .bool true) ?_
   refine wnil (then_n (wp_ret (then_x (by nofun) ?_)))
   refine bodyPost_ret (v := .bool true) (res1 rfl (rv_t (by kernel_rfl))) (by kernel_rfl) ?_
   exact ⟨rfl, Mod.up M9⟩
  obtain ⟨hsm, hle⟩ := h3 v6
  have hsteps := hfull hsm
  refine wp_cond_false (ebool (b := !lb2) (by kernel_rfl) (bneg v6)) ?_
  refine wp_skip (then_n (wp_seq (rg_lit ?_)))
  refine wl (sc rfl (r_callv (caps := []) (all := []) En.f6 (by kernel_rfl) (by kernel_rfl)) (lognew_at (Nat.le_trans hB M5.size)) ?_)
  rintro e w7 ⟨la, ta, ra, rfl, hL8, u9, _, _, _⟩
  refine ⟨.pointer (some ⟨la, 0, none⟩), rfl, ?_⟩
  have hO10 : One w.heap.size w7 la [] := ⟨ta, ra, _, hL8⟩
  have M11 := Mod.trans M5 (Mod.of_up u9)
  refine was (v := .pointer (some ⟨la, 0, none⟩)) ?_
  refine wnil (then_n (wp_seq (rg_lit ?_)))
  refine wl (sv rfl (v := .agg #[.slice none 0 0]) (r_build (ps := []) (cs := [.slice none 0 0]) Ty.un30 Ty.zv30 Ty.pl30 (by kernel_rfl) (by kernel_rfl)) ?_)
  refine wl (sn rfl (cs := #[.slice none 0 0]) (T := 30) (V := fun b => .pointer (some ⟨b, 0, none⟩)) (r_box (v := .agg #[.slice none 0 0]) (by kernel_rfl) rfl) ?_)
  intro b12 w13 e14 h15 u16
  have g17 : w.heap.size ≤ b12 := by rw [e14]; exact M11.size
  have M18 := Mod.trans M11 (Mod.of_up u16)
  refine was (v := .pointer (some ⟨b12, 0, none⟩)) ?_
  refine wnil (then_n (wp_seq (wp_seq (rg_lit ?_))))
  refine wmv (v := .pointer (some ⟨la, 0, none⟩)) ?_
  refine wl (sv (w' := w13) rfl (v := .bool false) (by kernel_rfl) ?_)
  refine wmv (v := .bool false) ?_
  refine wl (sc (by kernel_rfl) (r_callv (caps := []) (all := []) En.f5 (by kernel_rfl) (by kernel_rfl)) (alive17_at) ?_)
  rintro e w19 ⟨rfl, u20⟩
  refine ⟨.bool true, rfl, ?_⟩
  have M21 := Mod.trans M18 (Mod.of_up u20)
  refine wl (sv (by kernel_rfl) (v := .bool false) (r_not (b := true) (by kernel_rfl)) ?_)
  refine wl (sv rfl (v := .bool false) (r_pkF (by kernel_rfl) (by kernel_rfl)) ?_)
  refine wnil (then_n ?_)
  refine wp_cond_false (by kernel_rfl) ?_
  refine wp_skip (then_n (wp_seq (wp_seq (rg_lit ?_))))
  refine was (v := .int .i64 0) ?_
  refine wnil (then_n (wp_block ?_))
  have h22 := (One.up (One.up hO10 u16) u20)
  have h23 := (up_ob u20 h15)
  refine lp (fun n a r1 => ∃ (kd : Nat) (Z : Nat → Value), (n = ss.length - kd) ∧ (a = ⟨#[.slice lA ss.length lc, undef, (Z 2), .pointer (some ⟨la, 0, none⟩), .pointer (some ⟨b12, 0, none⟩), .int .i64 ((kd : Int)), (Z 6), (Z 7), (Z 8), (Z 9), (Z 10), (Z 11), .slice lA ss.length lc, .bool lb2, .bool (!lb2), undef, .pointer (some ⟨la, 0, none⟩), .agg #[.slice none 0 0], .pointer (some ⟨b12, 0, none⟩), .pointer (some ⟨la, 0, none⟩), .bool false, .bool false, .bool true, .bool false, .bool false, (Z 25), (Z 26), (Z 27), (Z 28), (Z 29), (Z 30), (Z 31), (Z 32), (Z 33), (Z 34), (Z 35), (Z 36), (Z 37), (Z 38), (Z 39), (Z 40), (Z 41), (Z 42), (Z 43), (Z 44), (Z 45), (Z 46), (Z 47), (Z 48), (Z 49), (Z 50), (Z 51), (Z 52), (Z 53), (Z 54), (Z 55), (Z 56), (Z 57), (Z 58), (Z 59), (Z 60), (Z 61), (Z 62), (Z 63), (Z 64), (Z 65), (Z 66), (Z 67), (Z 68), (Z 69), (Z 70), (Z 71), (Z 72), (Z 73), (Z 74), (Z 75), (Z 76), (Z 77), (Z 78), (Z 79), (Z 80), (Z 81), (Z 82), (Z 83), (Z 84), (Z 85), (Z 86), (Z 87), (Z 88), (Z 89), (Z 90), (Z 91), (Z 92), (Z 93), (Z 94), (Z 95), (Z 96), (Z 97), (Z 98), (Z 99), (Z 100), (Z 101), (Z 102), (Z 103), (Z 104), (Z 105), (Z 106), (Z 107), (Z 108), (Z 109), (Z 110), (Z 111), (Z 112), (Z 113), (Z 114), (Z 115), (Z 116), (Z 117), (Z 118), (Z 119), (Z 120), (Z 121), (Z 122), (Z 123), (Z 124), (Z 125), (Z 126), (Z 127), (Z 128), (Z 129), (Z 130), (Z 131), (Z 132), (Z 133), (Z 134), (Z 135), (Z 136), (Z 137), (Z 138), (Z 139), (Z 140), (Z 141), (Z 142), (Z 143), (Z 144), (Z 145), (Z 146)], []⟩) ∧ (Up w r1) ∧ (kd ≤ ss.length) ∧ (One w.heap.size r1 la ((ss.take kd).foldl stepL [])) ∧ (RLog w.heap.size (b12 + 1) r1 b12 ((ss.take kd).foldl stepL []))) ⟨_, 0, tget [undef, undef, .bool false, undef, undef, undef, undef, undef, undef, undef, undef, undef, undef, undef, undef, undef, undef, undef, undef, undef, undef, undef, undef, undef, undef, undef, undef, undef, undef, undef, undef, undef, undef, undef, undef, undef, undef, undef, undef, undef, undef, undef, undef, undef, undef, undef, undef, undef, undef, undef, undef, undef, undef, undef, undef, undef, undef, undef, undef, undef, undef, undef, undef, undef, undef, undef, undef, undef, undef, undef, undef, undef, undef, undef, undef, undef, undef, undef, undef, undef, undef, undef, undef, undef, undef, undef, undef, undef, undef, undef, undef, undef, undef, undef, undef, undef, undef, undef, undef, undef, undef, undef, undef, undef, undef, undef, undef, undef, undef, undef, undef, undef, undef, undef, undef, undef, undef, undef, undef, undef, undef, undef, undef, undef, undef, undef, undef, undef, undef, undef, undef, undef, undef, undef, undef, undef, undef, undef, undef, undef, undef, undef, undef, undef, undef, undef, undef], rfl, (by kernel_rfl), (Mod.up M21), (Nat.zero_le _), h22, ⟨_, h23, ORow.nil _ _ _ _⟩⟩ ?_
  rintro _ _ r1 ⟨kd, Z, rfl, rfl, hU1, hF1_0, hF1_1, hF1_2⟩
  obtain ⟨X, hX⟩ : ∃ X, X = (ss.take kd).foldl stepL [] := ⟨_, rfl⟩
  rw [← hX] at hF1_1 hF1_2
  have hXl : X.length ≤ 30 := by rw [hX]; have h9 := foldT_len ss kd; omega
  obtain ⟨v24, h25, h26⟩ := hF1_2
  obtain ⟨A27, c28, rfl⟩ := ORow.form h26
  refine wp_seq (wp_seq (rg_lit ?_))
  refine wmv (v := .int .i64 ((kd : Int))) ?_
  refine wmv (v := .slice lA ss.length lc) ?_
  refine wl (sv rfl (v := .int .i64 ((ss.length : Int))) (r_len Ty.un22 (ad := lA) (n := ss.length) (c := lc) (by kernel_rfl)) ?_)
  refine wl (sb rfl (r_lt (k := .i64) (m := ((kd : Int))) (n := ((ss.length : Int))) (by kernel_rfl) (by kernel_rfl)) ?_)
  intro b29 k30
  refine wnil (then_n ?_)
  refine bcase b29 (fun v31 => ?_) (fun v31 => ?_)
  ·
   have p32 := of_decide_eq_false (k30.trans v31)
   refine wp_cond_false (ebool (b := b29) (by kernel_rfl) v31) ?_
   refine wp_exit (then_x (by nofun) (then_x (by nofun) (inb_hit (then_n (wp_seq (rg_lit ?_))))))
   refine was (v := .bool true) ?_
   refine wnil (then_n (wp_ret ?_))
   refine bodyPost_ret (v := .bool true) (res1 rfl (rv_t (by kernel_rfl))) (by kernel_rfl) ?_
   exact ⟨rfl, Mod.up (Mod.of_up (X := []) hU1)⟩
  have p32 := of_decide_eq_true (k30.trans v31)
  refine wp_cond_true (ebool (b := b29) (by kernel_rfl) v31) ?_
  refine wp_skip (then_n (wp_seq (wp_block (wp_seq (rg_lit ?_)))))
  refine wmv (v := .pointer (some ⟨la, 0, none⟩)) ?_
  refine wmv (v := .slice lA ss.length lc) ?_
  refine wmv (v := .int .i64 ((kd : Int))) ?_
  have h34 := (StRow.up hsteps (Mod.up (Mod.of_up (X := []) hU1)))
  obtain ⟨s33, hs33⟩ : ∃ x, ss[kd]? = some x := ⟨_, List.getElem?_eq_getElem (by omega)⟩
  obtain ⟨g33, f33, dA33, dn33, dc33, hA33, hl33, hc33, hD33, hz33⟩ := h34 kd s33 hs33
  refine wl (sv rfl (v := .pointer (some ⟨g33, f33 + kd * 11, none⟩)) (r_ixaddr' (A := lA) (b := g33) (o := f33) (n := ss.length) (c := lc) (sz := 11) (j := ((kd : Int))) (m := f33 + kd * 11) (by kernel_rfl) hA33 (by kernel_rfl) Ty.un22 Ty.sz40 (by omega) (by omega) (by simp)) ?_)
  refine wl (sv rfl (v := .agg #[.bool s33.gone, .int .i64 s33.o.kind, .int .i64 s33.o.at_.t, .int .i64 s33.o.at_.w, .int .i64 s33.o.node.t, .int .i64 s33.o.node.w, .int .i64 s33.o.parent.t, .int .i64 s33.o.parent.w, .bool s33.o.dir, .string s33.o.name, .slice dA33 dn33 dc33]) (r_loadcN (k := f33 + kd * 11) (vs := [.bool s33.gone, .int .i64 s33.o.kind, .int .i64 s33.o.at_.t, .int .i64 s33.o.at_.w, .int .i64 s33.o.node.t, .int .i64 s33.o.node.w, .int .i64 s33.o.parent.t, .int .i64 s33.o.parent.w, .bool s33.o.dir, .string s33.o.name, .slice dA33 dn33 dc33]) (by kernel_rfl) Ty.ag40 Ty.sz40 hc33) ?_)
  have hsX := One.srt hF1_1
  have hnX := One.names hF1_1
  refine wl (sc rfl (r_callv (caps := []) (all := [.pointer (some ⟨la, 0, none⟩), .agg #[.bool s33.gone, .int .i64 s33.o.kind, .int .i64 s33.o.at_.t, .int .i64 s33.o.at_.w, .int .i64 s33.o.node.t, .int .i64 s33.o.node.w, .int .i64 s33.o.parent.t, .int .i64 s33.o.parent.w, .bool s33.o.dir, .string s33.o.name, .slice dA33 dn33 dc33]]) En.f7 (by kernel_rfl) (by kernel_rfl)) (step17ans_at hF1_1 (Nat.le_trans hB (Mod.of_up (X := []) hU1).size) (by omega) s33 dA33 dn33 dc33 hD33 hz33) ?_)
  rintro e w35 ⟨nn37, kk37, rfl, h36, ho37, ha38⟩
  refine ⟨.tuple #[.int .i64 nn37, .int .i64 kk37], rfl, ?_⟩
  obtain ⟨Y, hY⟩ : ∃ Y, Y = stepL X s33 := ⟨_, rfl⟩
  rw [← hY] at h36
  have hYl : Y.length ≤ 31 := by rw [hY]; have h9 := stepL_len X s33; omega
  have hsY := One.srt h36
  have hnY := One.names h36
  have hPi : (playA Y).length ≤ 1000 := by have h9 := play_one Y []; unfold playA; simp only [List.length_nil] at h9; omega
  have h39 := Only.ob ho37 h25 (by decide) (by decide)
  have M40 := Only.of_up (Mod.up (Mod.of_up (X := []) hU1)) ho37
  have h41 := ORow.only h26 ho37
  refine wmv (v := .tuple #[.int .i64 nn37, .int .i64 kk37]) ?_
  refine wl (sv rfl (v := .int .i64 nn37) (r_extract (vs := [.int .i64 nn37, .int .i64 kk37]) (by kernel_rfl) rfl) ?_)
  refine wl (sv rfl (v := .int .i64 kk37) (r_extract (vs := [.int .i64 nn37, .int .i64 kk37]) (by kernel_rfl) rfl) ?_)
  refine was (v := .int .i64 nn37) ?_
  refine was (v := .int .i64 kk37) ?_
  refine wnil (then_n (wp_seq (rg_lit ?_)))
  refine was (v := .int .i64 0) ?_
  refine was (v := .int .i64 0) ?_
  refine wnil (then_n (wp_seq (wp_seq (rg_lit ?_))))
  refine wmv (v := .slice lA ss.length lc) ?_
  refine wmv (v := .int .i64 ((kd : Int))) ?_
  have h43 := (StRow.up hsteps (Mod.up (Mod.of_up (X := []) M40)))
  obtain ⟨g42, f42, dA42, dn42, dc42, hA42, hl42, hc42, hD42, hz42⟩ := h43 kd s33 hs33
  refine wl (sv rfl (v := .pointer (some ⟨g42, f42 + kd * 11, none⟩)) (r_ixaddr' (A := lA) (b := g42) (o := f42) (n := ss.length) (c := lc) (sz := 11) (j := ((kd : Int))) (m := f42 + kd * 11) (by kernel_rfl) hA42 (by kernel_rfl) Ty.un22 Ty.sz40 (by omega) (by omega) (by simp)) ?_)
  refine wl (sv rfl (v := .pointer (some ⟨g42, f42 + kd * 11, none⟩)) (r_fieldAddr (u := .pointer (some ⟨g42, f42 + kd * 11, none⟩)) (by kernel_rfl) (fun _ => (by kernel_rfl))) ?_)
  refine wl (sv rfl (v := .bool s33.gone) (r_loadc (by kernel_rfl) Ty.ag4 (hc42 0 _ rfl)) ?_)
  refine wnil (then_n ?_)
  refine bcase s33.gone (fun v44 => ?_) (fun v44 => ?_)
  ·
   refine wp_cond_false (ebool (b := s33.gone) (by kernel_rfl) v44) ?_
   refine rg_lit ?_
   refine wmv (v := .pointer (some ⟨b12, 0, none⟩)) ?_
   refine wmv (v := .slice lA ss.length lc) ?_
   refine wmv (v := .int .i64 ((kd : Int))) ?_
   obtain ⟨g45, f45, dA45, dn45, dc45, hA45, hl45, hc45, hD45, hz45⟩ := h43 kd s33 hs33
   refine wl (sv rfl (v := .pointer (some ⟨g45, f45 + kd * 11, none⟩)) (r_ixaddr' (A := lA) (b := g45) (o := f45) (n := ss.length) (c := lc) (sz := 11) (j := ((kd : Int))) (m := f45 + kd * 11) (by kernel_rfl) hA45 (by kernel_rfl) Ty.un22 Ty.sz40 (by omega) (by omega) (by simp)) ?_)
   refine wl (sv rfl (v := .pointer (some ⟨g45, f45 + kd * 11 + 1, none⟩)) (r_fieldAddr (u := .pointer (some ⟨g45, f45 + kd * 11, none⟩)) (by kernel_rfl) (fun _ => (by kernel_rfl))) ?_)
   refine wl (sv rfl (v := opV s33.o (.slice dA45 dn45 dc45)) (r_loadcN (k := f45 + kd * 11 + 1) (vs := (opC s33.o (.slice dA45 dn45 dc45))) (by kernel_rfl) Ty.ag38 Ty.sz38 (sub_cells (l := [.bool s33.gone, .int .i64 s33.o.kind, .int .i64 s33.o.at_.t, .int .i64 s33.o.at_.w, .int .i64 s33.o.node.t, .int .i64 s33.o.node.w, .int .i64 s33.o.parent.t, .int .i64 s33.o.parent.w, .bool s33.o.dir, .string s33.o.name, .slice dA45 dn45 dc45]) 1 10 hc45)) ?_)
   refine wl (sc rfl (r_callv (caps := []) (all := [.pointer (some ⟨b12, 0, none⟩), opV s33.o (.slice dA45 dn45 dc45)]) En.f9 (by kernel_rfl) (by kernel_rfl)) (rins_is h39 h41 (by omega) g17 (Nat.le_trans hB (Mod.of_up (X := []) M40).size) hsX hnX s33.o dA45 dn45 dc45 hD45 hz45 (ha38.2 v44)) ?_)
   rintro e w46 ⟨rfl, h47, c48⟩
   refine ⟨.tuple #[.int .i64 nn37, .int .i64 kk37], rfl, ?_⟩
   obtain ⟨v49, h50, h51⟩ := RLog.to h47 (show _ = Y by rw [hY]; exact stepL_no v44)
   obtain ⟨A52, c53, rfl⟩ := ORow.form h51
   have M54 := Mod.trans' (Mod.of_up (X := []) M40) c48 (fun i hi => by injection hi with hi; rw [← hi]; exact g17)
   refine wmv (v := .tuple #[.int .i64 nn37, .int .i64 kk37]) ?_
   refine wl (sv rfl (v := .int .i64 nn37) (r_extract (vs := [.int .i64 nn37, .int .i64 kk37]) (by kernel_rfl) rfl) ?_)
   refine wl (sv rfl (v := .int .i64 kk37) (r_extract (vs := [.int .i64 nn37, .int .i64 kk37]) (by kernel_rfl) rfl) ?_)
   refine was (v := .int .i64 nn37) ?_
   refine was (v := .int .i64 kk37) ?_
   refine wnil (then_n (wp_seq (wp_seq ?_)))
   refine rg_held [] (n := 44) (by kernel_rfl) rfl ?_
   intro w55 u56
   have M57 := Mod.trans M54 (Mod.of_up u56)
   refine hvq (i := 0) (fuel := 43) rfl (fun _ _ _ h => h) (Mod.refl _ _) rfl (v := .int .i64 nn37) (fun _ _ => r_move (by kernel_rfl)) ?_
   refine hvq (i := 1) (fuel := 42) rfl (fun _ _ _ h => h) (Mod.refl _ _) rfl (v := .int .i64 nn37) (fun _ _ => r_move (by kernel_rfl)) ?_
   refine hvq (i := 2) (fuel := 41) rfl (fun _ _ _ h => h) (Mod.refl _ _) rfl (v := .bool false) (fun _ _ => ne_same (r_ne (k := .i64) (m := nn37) (n := nn37) (by kernel_rfl) (by kernel_rfl))) ?_
   refine hvq (i := 3) (fuel := 40) rfl (fun _ _ _ h => h) (Mod.refl _ _) rfl (v := .bool false) (fun _ _ => r_move (by kernel_rfl)) ?_
   refine hvq (i := 4) (fuel := 39) rfl (fun _ _ _ h => h) (Mod.refl _ _) (by kernel_rfl) (v := .int .i64 kk37) (fun _ _ => r_move (by kernel_rfl)) ?_
   refine hvq (i := 5) (fuel := 38) rfl (fun _ _ _ h => h) (Mod.refl _ _) (by kernel_rfl) (v := .int .i64 kk37) (fun _ _ => r_move (by kernel_rfl)) ?_
   refine hvq (i := 6) (fuel := 37) rfl (fun _ _ _ h => h) (Mod.refl _ _) (by kernel_rfl) (v := .bool false) (fun _ _ => ne_same (r_ne (k := .i64) (m := kk37) (n := kk37) (by kernel_rfl) (by kernel_rfl))) ?_
   refine hvq (i := 7) (fuel := 36) rfl (fun _ _ _ h => h) (Mod.refl _ _) rfl (v := .bool false) (fun _ _ => r_pkF (by kernel_rfl) (by kernel_rfl)) ?_
   refine hvq (i := 8) (fuel := 35) rfl (fun _ _ _ h => h) (Mod.refl _ _) rfl (v := .bool false) (fun _ _ => r_move (by kernel_rfl)) ?_
   refine hvq (i := 9) (fuel := 34) rfl (fun _ _ _ h => h) (Mod.refl _ _) (by kernel_rfl) (v := .pointer (some ⟨la, 0, none⟩)) (fun _ _ => r_move (by kernel_rfl)) ?_
   refine hvq (i := 11) (fuel := 33) rfl (fun _ _ _ h => h) (Mod.refl _ _) (by kernel_rfl) (v := .pointer (some ⟨b12, 0, none⟩)) (fun _ _ => r_move (by kernel_rfl)) ?_
   refine hvq (i := 12) (fuel := 32) rfl (fun _ _ _ h => h) (Mod.refl _ _) (by kernel_rfl) (v := .pointer (some ⟨b12, 0, none⟩)) (fun _ _ => r_nilCheck (by kernel_rfl)) ?_
   refine hvq (i := 13) (fuel := 31) rfl (fun _ _ _ h => h) (Mod.refl _ _) (by kernel_rfl) (v := .pointer (some ⟨b12, 0, none⟩)) (fun _ _ => r_fieldAddr (u := .pointer (some ⟨b12, 0, none⟩)) (by kernel_rfl) (fun _ => (by kernel_rfl))) ?_
   have h58 := (up_ob u56 h50)
   refine hvq (i := 14) (fuel := 30) rfl (fun _ _ _ h => h) (Mod.refl _ _) (by kernel_rfl) (v := .slice A52 Y.length c53) (fun _ uz => r_load (k := 0) (by kernel_rfl) Ty.ag28 (md_ob uz nin0 h58) (by kernel_rfl)) ?_
   refine hvq (i := 15) (fuel := 29) rfl (fun _ _ _ h => h) (Mod.refl _ _) (by kernel_rfl) (v := .int .i64 ((Y.length : Int))) (fun _ _ => r_len Ty.un28 (ad := A52) (n := Y.length) (c := c53) (by kernel_rfl)) ?_
   have h59 := (One.up (One.chgT h36 c48 h39 (Nat.le_trans hB g17) (by decide)) u56)
   refine h1 (i := 10) (fuel := 28) (by kernel_rfl) rfl (sc (by kernel_rfl) (r_callv (caps := []) (all := [.pointer (some ⟨la, 0, none⟩)]) En.f10 (by kernel_rfl) (by kernel_rfl)) (one_len h59 (by omega)) ?_)
   rintro e w60 ⟨rfl, u61⟩
   refine ⟨.int .i64 ((Y.length : Int)), rfl, ?_⟩
   have M62 := Mod.trans M57 (Mod.of_up u61)
   refine hx (Y := []) (Mod.of_up u61) (fun y hy => .inl hy) ?_
   refine hvq (i := 16) (fuel := 27) rfl (fun _ _ _ h => h) (Mod.refl _ _) (by kernel_rfl) (v := .bool false) (fun _ _ => ne_same (r_ne (k := .i64) (m := ((Y.length : Int))) (n := ((Y.length : Int))) (by kernel_rfl) (by kernel_rfl))) ?_
   refine hvq (i := 17) (fuel := 26) rfl (fun _ _ _ h => h) (Mod.refl _ _) rfl (v := .bool false) (fun _ _ => r_pkF (by kernel_rfl) (by kernel_rfl)) ?_
   refine hvq (i := 18) (fuel := 25) rfl (fun _ _ _ h => h) (Mod.refl _ _) rfl (v := .bool false) (fun _ _ => r_move (by kernel_rfl)) ?_
   refine hvq (i := 19) (fuel := 24) rfl (fun _ _ _ h => h) (Mod.refl _ _) (by kernel_rfl) (v := .pointer (some ⟨la, 0, none⟩)) (fun _ _ => r_move (by kernel_rfl)) ?_
   refine hvq (i := 21) (fuel := 23) rfl (fun _ _ _ h => h) (Mod.refl _ _) (by kernel_rfl) (v := .pointer (some ⟨b12, 0, none⟩)) (fun _ _ => r_move (by kernel_rfl)) ?_
   refine hvq (i := 22) (fuel := 22) rfl (fun _ _ _ h => h) (Mod.refl _ _) (by kernel_rfl) (v := .pointer (some ⟨b12, 0, none⟩)) (fun _ _ => r_nilCheck (by kernel_rfl)) ?_
   refine hvq (i := 23) (fuel := 21) rfl (fun _ _ _ h => h) (Mod.refl _ _) (by kernel_rfl) (v := .pointer (some ⟨b12, 0, none⟩)) (fun _ _ => r_fieldAddr (u := .pointer (some ⟨b12, 0, none⟩)) (by kernel_rfl) (fun _ => (by kernel_rfl))) ?_
   have h63 := (up_ob u61 h58)
   refine hvq (i := 24) (fuel := 20) rfl (fun _ _ _ h => h) (Mod.refl _ _) (by kernel_rfl) (v := .slice A52 Y.length c53) (fun _ uz => r_load (k := 0) (by kernel_rfl) Ty.ag28 (md_ob uz nin0 h63) (by kernel_rfl)) ?_
   have h64 := (One.up h59 u61)
   refine h1 (i := 20) (fuel := 19) (by kernel_rfl) rfl (sc (by kernel_rfl) (r_callv (caps := []) (all := [.pointer (some ⟨la, 0, none⟩)]) En.f12 (by kernel_rfl) (by kernel_rfl)) (one_ops h64 (Nat.le_trans hB M62.size) (by omega)) ?_)
   rintro e w65 ⟨A66, c67, rfl, h68, u69⟩
   refine ⟨.slice A66 Y.length c67, rfl, ?_⟩
   have M70 := Mod.trans M62 (Mod.of_up u69)
   refine hx (Y := []) (Mod.of_up u69) (fun y hy => .inl hy) ?_
   have h71 := (ORow.up (ORow.up (ORow.up h51 u56) u61) u69)
   refine h1 (i := 25) (fuel := 18) (by kernel_rfl) rfl (sc (by kernel_rfl) (r_callv (caps := []) (all := [.slice A66 Y.length c67, .slice A52 Y.length c53]) En.f11 (by kernel_rfl) (by kernel_rfl)) (bool_true rfl (r15all_at h68 h71 (by omega))) ?_)
   rintro e w72 ⟨rfl, u73⟩
   refine ⟨.bool true, rfl, ?_⟩
   have M74 := Mod.trans M70 (Mod.of_up u73)
   refine hx (Y := []) (Mod.of_up u73) (fun y hy => .inl hy) ?_
   refine hvq (i := 26) (fuel := 17) rfl (fun _ _ _ h => h) (Mod.refl _ _) (by kernel_rfl) (v := .bool false) (fun _ _ => r_not (b := true) (by kernel_rfl)) ?_
   refine hvq (i := 27) (fuel := 16) rfl (fun _ _ _ h => h) (Mod.refl _ _) rfl (v := .bool false) (fun _ _ => r_pkF (by kernel_rfl) (by kernel_rfl)) ?_
   refine hvq (i := 28) (fuel := 15) rfl (fun _ _ _ h => h) (Mod.refl _ _) rfl (v := .bool false) (fun _ _ => r_move (by kernel_rfl)) ?_
   refine hvq (i := 29) (fuel := 14) rfl (fun _ _ _ h => h) (Mod.refl _ _) (by kernel_rfl) (v := .pointer (some ⟨la, 0, none⟩)) (fun _ _ => r_move (by kernel_rfl)) ?_
   refine hvq (i := 33) (fuel := 13) rfl (fun _ _ _ h => h) (Mod.refl _ _) (by kernel_rfl) (v := .pointer (some ⟨b12, 0, none⟩)) (fun _ _ => r_move (by kernel_rfl)) ?_
   refine hvq (i := 34) (fuel := 12) rfl (fun _ _ _ h => h) (Mod.refl _ _) (by kernel_rfl) (v := .pointer (some ⟨b12, 0, none⟩)) (fun _ _ => r_nilCheck (by kernel_rfl)) ?_
   refine hvq (i := 35) (fuel := 11) rfl (fun _ _ _ h => h) (Mod.refl _ _) (by kernel_rfl) (v := .pointer (some ⟨b12, 0, none⟩)) (fun _ _ => r_fieldAddr (u := .pointer (some ⟨b12, 0, none⟩)) (by kernel_rfl) (fun _ => (by kernel_rfl))) ?_
   have h75 := (up_ob u73 (up_ob u69 h63))
   refine hvq (i := 36) (fuel := 10) rfl (fun _ _ _ h => h) (Mod.refl _ _) (by kernel_rfl) (v := .slice A52 Y.length c53) (fun _ uz => r_load (k := 0) (by kernel_rfl) Ty.ag28 (md_ob uz nin0 h75) (by kernel_rfl)) ?_
   have h76 := (One.up (One.up h64 u69) u73)
   refine h1 (i := 30) (fuel := 9) (by kernel_rfl) rfl (sc (by kernel_rfl) (r_callv (caps := []) (all := [.pointer (some ⟨la, 0, none⟩)]) En.f15 (by kernel_rfl) (by kernel_rfl)) (one_tree h76 (by omega)) ?_)
   rintro e w77 ⟨tz78, rz79, rfl, h80, u81⟩
   refine ⟨.pointer (some ⟨tz78, 0, none⟩), rfl, ?_⟩
   have M82 := Mod.trans M74 (Mod.of_up u81)
   refine hx (Y := []) (Mod.of_up u81) (fun y hy => .inl hy) ?_
   refine h1 (i := 31) (fuel := 8) (by kernel_rfl) rfl (sc (by kernel_rfl) (r_callv (caps := []) (all := [.pointer (some ⟨tz78, 0, none⟩)]) En.f16 (by kernel_rfl) (by kernel_rfl)) (all_row h80 (Nat.le_trans hB M82.size)) ?_)
   rintro e w83 ⟨v, rfl, h86, u87⟩
   obtain ⟨A84, c85, rfl⟩ := h86.form
   refine ⟨.slice A84 ((playA Y).length) c85, rfl, ?_⟩
   have M88 := Mod.trans M82 (Mod.of_up u87)
   refine hx (Y := []) (Mod.of_up u87) (fun y hy => .inl hy) ?_
   refine h1 (i := 32) (fuel := 7) (by kernel_rfl) rfl (sc (by kernel_rfl) (r_callv (caps := []) (all := [.slice A84 ((playA Y).length) c85]) En.f14 (by kernel_rfl) (by kernel_rfl)) (litems_at h86 (Nat.le_trans hB M88.size) hPi) ?_)
   rintro e w89 ⟨v, rfl, h92, u93⟩
   obtain ⟨A90, c91, rfl⟩ := h92.form
   refine ⟨.slice A90 ((playA Y).length) c91, rfl, ?_⟩
   have M94 := Mod.trans M88 (Mod.of_up u93)
   refine hx (Y := []) (Mod.of_up u93) (fun y hy => .inl hy) ?_
   have h95 := (ORow.up (ORow.up (ORow.up (ORow.up h71 u73) u81) u87) u93)
   refine h1 (i := 37) (fuel := 6) (by kernel_rfl) rfl (sc (by kernel_rfl) (r_callv (caps := []) (all := [.slice A52 Y.length c53]) En.f17 (by kernel_rfl) (by kernel_rfl)) (rbuild_open h95 hsY hnY (Nat.le_trans hB M94.size) (by omega)) ?_)
   rintro e w96 ⟨ub97, A98, c99, rfl, h100, h101, u102⟩
   refine ⟨.pointer (some ⟨ub97, 0, none⟩), rfl, ?_⟩
   have M103 := Mod.trans M94 (Mod.of_up u102)
   refine hx (Y := []) (Mod.of_up u102) (fun y hy => .inl hy) ?_
   refine hvq (i := 38) (fuel := 5) rfl (fun _ _ _ h => h) (Mod.refl _ _) (by kernel_rfl) (v := .pointer (some ⟨ub97, 0, none⟩)) (fun _ _ => r_nilCheck (by kernel_rfl)) ?_
   refine hvq (i := 39) (fuel := 4) rfl (fun _ _ _ h => h) (Mod.refl _ _) (by kernel_rfl) (v := .pointer (some ⟨ub97, 0, none⟩)) (fun _ _ => r_fieldAddr (u := .pointer (some ⟨ub97, 0, none⟩)) (by kernel_rfl) (fun _ => (by kernel_rfl))) ?_
   refine hvq (i := 40) (fuel := 3) rfl (fun _ _ _ h => h) (Mod.refl _ _) (by kernel_rfl) (v := .slice A98 ((playA Y).length) c99) (fun _ uz => r_load (k := 0) (by kernel_rfl) Ty.ag47 (md_ob uz nin0 h100) (by kernel_rfl)) ?_
   have h104 := (IRow.up h92 u102)
   refine h1 (i := 41) (fuel := 2) (by kernel_rfl) rfl (sc (by kernel_rfl) (r_callv (caps := []) (all := [.slice A90 ((playA Y).length) c91, .slice A98 ((playA Y).length) c99]) En.f13 (by kernel_rfl) (by kernel_rfl)) (bool_true rfl (rsame_at h104 h101 hPi)) ?_)
   rintro e w105 ⟨rfl, u106⟩
   refine ⟨.bool true, rfl, ?_⟩
   have M107 := Mod.trans M103 (Mod.of_up u106)
   refine hx (Y := []) (Mod.of_up u106) (fun y hy => .inl hy) ?_
   refine hvq (i := 42) (fuel := 1) rfl (fun _ _ _ h => h) (Mod.refl _ _) (by kernel_rfl) (v := .bool false) (fun _ _ => r_not (b := true) (by kernel_rfl)) ?_
   refine hvq (i := 43) (fuel := 0) rfl (fun _ _ _ h => h) (Mod.refl _ _) rfl (v := .bool false) (fun _ _ => r_pkF (by kernel_rfl) (by kernel_rfl)) ?_
   refine hend (by kernel_rfl) ?_
   refine then_n ?_
   refine wp_cond_false (by kernel_rfl) ?_
   refine wp_skip (then_n (wp_seq (rg_lit ?_)))
   refine was (v := .bool false) ?_
   refine wnil (then_n (wp_seq (wp_seq (rg_lit ?_))))
   refine was (v := .int .i64 0) ?_
   refine wnil (then_n (wp_block ?_))
   have h108 := (up_ob u106 (up_ob u102 (up_ob u93 (up_ob u87 (up_ob u81 h75)))))
   have h109 := (up_ob u106 h100)
   have h110 := (StRow0.up h0 (Mod.up M107))
   have h111 := (StRow.up hsteps (Mod.up M107))
   have h112 := (One.up (One.up (One.up (One.up (One.up h76 u81) u87) u93) u102) u106)
   have h113 := (ORow.up (ORow.up h95 u102) u106)
   have h114 := (ORow.up (ORow.up (ORow.up (ORow.up (ORow.up (ORow.up h68 u73) u81) u87) u93) u102) u106)
   have h115 := (TreeIs.up (TreeIs.up (TreeIs.up (TreeIs.up h80 u87) u93) u102) u106)
   have h116 := (IRow.up (IRow.up (IRow.up h86 u93) u102) u106)
   have h117 := (IRow.up h104 u106)
   have h118 := (IRow.up h101 u106)
   refine lp (fun n a r2 => ∃ (ke : Nat) (hb : Bool) (z110 z111 z112 z113 z114 z115 z116 z117 z118 z119 z120 z121 z122 z123 z124 z125 z126 z127 z128 z129 z130 z131 z132 z133 z134 z135 z136 : Value), (n = Y.length - ke) ∧ (a = ⟨#[.slice lA ss.length lc, undef, (Z 2), .pointer (some ⟨la, 0, none⟩), .pointer (some ⟨b12, 0, none⟩), .int .i64 ((kd : Int)), .int .i64 nn37, .int .i64 kk37, .int .i64 nn37, .int .i64 kk37, .bool hb, .int .i64 ((ke : Int)), .slice lA ss.length lc, .bool lb2, .bool (!lb2), undef, .pointer (some ⟨la, 0, none⟩), .agg #[.slice none 0 0], .pointer (some ⟨b12, 0, none⟩), .pointer (some ⟨la, 0, none⟩), .bool false, .bool false, .bool true, .bool false, .bool false, .int .i64 ((kd : Int)), .slice lA ss.length lc, .int .i64 ((ss.length : Int)), .bool b29, (Z 29), (Z 30), .tuple #[.int .i64 nn37, .int .i64 kk37], .pointer (some ⟨la, 0, none⟩), .slice lA ss.length lc, .int .i64 ((kd : Int)), .pointer (some ⟨g33, f33 + kd * 11, none⟩), .agg #[.bool s33.gone, .int .i64 s33.o.kind, .int .i64 s33.o.at_.t, .int .i64 s33.o.at_.w, .int .i64 s33.o.node.t, .int .i64 s33.o.node.w, .int .i64 s33.o.parent.t, .int .i64 s33.o.parent.w, .bool s33.o.dir, .string s33.o.name, .slice dA33 dn33 dc33], .tuple #[.int .i64 nn37, .int .i64 kk37], .int .i64 nn37, .int .i64 kk37, .slice lA ss.length lc, .int .i64 ((kd : Int)), .pointer (some ⟨g42, f42 + kd * 11, none⟩), .pointer (some ⟨g42, f42 + kd * 11, none⟩), .bool s33.gone, (Z 45), (Z 46), (Z 47), (Z 48), (Z 49), (Z 50), (Z 51), (Z 52), (Z 53), (Z 54), (Z 55), .tuple #[.int .i64 nn37, .int .i64 kk37], .pointer (some ⟨b12, 0, none⟩), .slice lA ss.length lc, .int .i64 ((kd : Int)), .pointer (some ⟨g45, f45 + kd * 11, none⟩), .pointer (some ⟨g45, f45 + kd * 11 + 1, none⟩), opV s33.o (.slice dA45 dn45 dc45), .tuple #[.int .i64 nn37, .int .i64 kk37], .int .i64 nn37, .int .i64 kk37, .int .i64 nn37, .int .i64 nn37, .bool false, .bool false, .int .i64 kk37, .int .i64 kk37, .bool false, .bool false, .bool false, .pointer (some ⟨la, 0, none⟩), .int .i64 ((Y.length : Int)), .pointer (some ⟨b12, 0, none⟩), .pointer (some ⟨b12, 0, none⟩), .pointer (some ⟨b12, 0, none⟩), .slice A52 Y.length c53, .int .i64 ((Y.length : Int)), .bool false, .bool false, .bool false, .pointer (some ⟨la, 0, none⟩), .slice A66 Y.length c67, .pointer (some ⟨b12, 0, none⟩), .pointer (some ⟨b12, 0, none⟩), .pointer (some ⟨b12, 0, none⟩), .slice A52 Y.length c53, .bool true, .bool false, .bool false, .bool false, .pointer (some ⟨la, 0, none⟩), .pointer (some ⟨tz78, 0, none⟩), .slice A84 ((playA Y).length) c85, .slice A90 ((playA Y).length) c91, .pointer (some ⟨b12, 0, none⟩), .pointer (some ⟨b12, 0, none⟩), .pointer (some ⟨b12, 0, none⟩), .slice A52 Y.length c53, .pointer (some ⟨ub97, 0, none⟩), .pointer (some ⟨ub97, 0, none⟩), .pointer (some ⟨ub97, 0, none⟩), .slice A98 ((playA Y).length) c99, .bool true, .bool false, .bool false, z110, z111, z112, z113, z114, z115, z116, z117, z118, z119, z120, z121, z122, z123, z124, z125, z126, z127, z128, z129, z130, z131, z132, z133, z134, z135, z136, (Z 137), (Z 138), (Z 139), (Z 140), (Z 141), (Z 142), (Z 143), (Z 144), (Z 145), (Z 146)], []⟩) ∧ (Mod [] w105 r2) ∧ (ke ≤ Y.length) ∧ (hb = hasL (Y.take ke) s33.o.at_)) ⟨_, 0, false, (Z 110), (Z 111), (Z 112), (Z 113), (Z 114), (Z 115), (Z 116), (Z 117), (Z 118), (Z 119), (Z 120), (Z 121), (Z 122), (Z 123), (Z 124), (Z 125), (Z 126), (Z 127), (Z 128), (Z 129), (Z 130), (Z 131), (Z 132), (Z 133), (Z 134), (Z 135), (Z 136), rfl, (by kernel_rfl), Mod.refl _ _, (Nat.zero_le _), rfl⟩ ?_
   rintro _ _ r2 ⟨ke, hb, z110, z111, z112, z113, z114, z115, z116, z117, z118, z119, z120, z121, z122, z123, z124, z125, z126, z127, z128, z129, z130, z131, z132, z133, z134, z135, z136, rfl, rfl, hM2, hF2_0, hF2_1⟩
   have M119 := Mod.thin M107 hM2 (by simp)
   refine wp_seq (wp_seq (rg_lit ?_))
   refine wmv (v := .int .i64 ((ke : Int))) ?_
   refine wmv (v := .pointer (some ⟨b12, 0, none⟩)) ?_
   refine wl (sv rfl (v := .pointer (some ⟨b12, 0, none⟩)) (r_nilCheck (by kernel_rfl)) ?_)
   refine wl (sv rfl (v := .pointer (some ⟨b12, 0, none⟩)) (r_fieldAddr (u := .pointer (some ⟨b12, 0, none⟩)) (by kernel_rfl) (fun _ => (by kernel_rfl))) ?_)
   have h120 := md_ob hM2 nin0 h108
   refine wl (sv rfl (v := .slice A52 Y.length c53) (r_load (k := 0) (by kernel_rfl) Ty.ag28 h120 (by kernel_rfl)) ?_)
   refine wl (sv rfl (v := .int .i64 ((Y.length : Int))) (r_len Ty.un28 (ad := A52) (n := Y.length) (c := c53) (by kernel_rfl)) ?_)
   refine wl (sb rfl (r_lt (k := .i64) (m := ((ke : Int))) (n := ((Y.length : Int))) (by kernel_rfl) (by kernel_rfl)) ?_)
   intro b121 k122
   refine wnil (then_n ?_)
   refine bcase b121 (fun v123 => ?_) (fun v123 => ?_)
   ·
    have p124 := of_decide_eq_false (k122.trans v123)
    refine wp_cond_false (ebool (b := b121) (by kernel_rfl) v123) ?_
    refine wp_exit (then_x (by nofun) (then_x (by nofun) (inb_hit (then_n (wp_seq (rg_lit ?_))))))
    refine wmv (v := .pointer (some ⟨la, 0, none⟩)) ?_
    refine wmv (v := .slice lA ss.length lc) ?_
    refine wmv (v := .int .i64 ((kd : Int))) ?_
    have h126 := (StRow.up hsteps (Mod.up M119))
    obtain ⟨g125, f125, dA125, dn125, dc125, hA125, hl125, hc125, hD125, hz125⟩ := h126 kd s33 hs33
    refine wl (sv rfl (v := .pointer (some ⟨g125, f125 + kd * 11, none⟩)) (r_ixaddr' (A := lA) (b := g125) (o := f125) (n := ss.length) (c := lc) (sz := 11) (j := ((kd : Int))) (m := f125 + kd * 11) (by kernel_rfl) hA125 (by kernel_rfl) Ty.un22 Ty.sz40 (by omega) (by omega) (by simp)) ?_)
    refine wl (sv rfl (v := .pointer (some ⟨g125, f125 + kd * 11 + 1, none⟩)) (r_fieldAddr (u := .pointer (some ⟨g125, f125 + kd * 11, none⟩)) (by kernel_rfl) (fun _ => (by kernel_rfl))) ?_)
    refine wl (sv rfl (v := .pointer (some ⟨g125, f125 + kd * 11 + 2, none⟩)) (r_fieldAddr (u := .pointer (some ⟨g125, f125 + kd * 11 + 1, none⟩)) (by kernel_rfl) (fun _ => (by kernel_rfl))) ?_)
    refine wl (sv rfl (v := .agg #[.int .i64 s33.o.at_.t, .int .i64 s33.o.at_.w]) (r_loadcN (k := f125 + kd * 11 + 2) (vs := [.int .i64 s33.o.at_.t, .int .i64 s33.o.at_.w]) (by kernel_rfl) Ty.ag35 Ty.sz35 (sub_cells (l := [.bool s33.gone, .int .i64 s33.o.kind, .int .i64 s33.o.at_.t, .int .i64 s33.o.at_.w, .int .i64 s33.o.node.t, .int .i64 s33.o.node.w, .int .i64 s33.o.parent.t, .int .i64 s33.o.parent.w, .bool s33.o.dir, .string s33.o.name, .slice dA125 dn125 dc125]) 2 2 hc125)) ?_)
    have h127 := (One.up h112 (Mod.up hM2))
    refine wl (sc rfl (r_callv (caps := []) (all := [.pointer (some ⟨la, 0, none⟩), .agg #[.int .i64 s33.o.at_.t, .int .i64 s33.o.at_.w]]) En.f18 (by kernel_rfl) (by kernel_rfl)) (one_has h127 (by omega) s33.o.at_.t s33.o.at_.w) ?_)
    rintro e w128 ⟨rfl, u129⟩
    refine ⟨.bool ((hasL Y ⟨s33.o.at_.t, s33.o.at_.w⟩)), rfl, ?_⟩
    have M130 := Mod.trans M119 (Mod.of_up u129)
    have M131 := Mod.trans hM2 (Mod.of_up u129)
    refine wmv (v := .bool hb) ?_
    refine bcase ((hasL Y ⟨s33.o.at_.t, s33.o.at_.w⟩)) (fun v132 => ?_) (fun v132 => ?_)
    ·
     refine bcase hb (fun v133 => ?_) (fun v133 => ?_)
     ·
      refine wl (sv rfl (v := .bool false) (r_neb (a := false) (b := false) Tryz.underlying4 (ebool (b := (hasL Y ⟨s33.o.at_.t, s33.o.at_.w⟩)) (by kernel_rfl) v132) (ebool (b := hb) (by kernel_rfl) v133)) ?_)
      refine wnil (then_n ?_)
      refine wp_cond_false (by kernel_rfl) ?_
      refine wp_skip (inb_n (then_n (rg_lit ?_)))
      refine wmv (v := .int .i64 ((kd : Int))) ?_
      refine wl (sv rfl (v := .int .i64 (((kd + 1 : Nat) : Int))) (r_add (k := .i64) (m := ((kd : Int))) (n := 1) (c := (((kd + 1 : Nat) : Int))) (by kernel_rfl) (by kernel_rfl) ((IntWalk.i64_in _ (by omega)).trans (by omega))) ?_)
      refine was (v := .int .i64 (((kd + 1 : Nat) : Int))) ?_
      refine wnil (then_n ?_)
      have h134 := (One.up h112 (Mod.up M131))
      have h135 := md_ob M131 nin0 h108
      have h136 := (ORow.up h113 (Mod.up M131))
      refine ⟨ss.length - (kd + 1), ?_, (kd + 1), tget [undef, undef, (Z 2), undef, undef, undef, .int .i64 nn37, .int .i64 kk37, .int .i64 nn37, .int .i64 kk37, .bool hb, .int .i64 ((ke : Int)), undef, undef, undef, undef, undef, undef, undef, undef, undef, undef, undef, undef, undef, .int .i64 ((kd : Int)), .slice lA ss.length lc, .int .i64 ((ss.length : Int)), .bool b29, .int .i64 ((kd : Int)), .int .i64 (((kd + 1 : Nat) : Int)), .tuple #[.int .i64 nn37, .int .i64 kk37], .pointer (some ⟨la, 0, none⟩), .slice lA ss.length lc, .int .i64 ((kd : Int)), .pointer (some ⟨g33, f33 + kd * 11, none⟩), .agg #[.bool s33.gone, .int .i64 s33.o.kind, .int .i64 s33.o.at_.t, .int .i64 s33.o.at_.w, .int .i64 s33.o.node.t, .int .i64 s33.o.node.w, .int .i64 s33.o.parent.t, .int .i64 s33.o.parent.w, .bool s33.o.dir, .string s33.o.name, .slice dA33 dn33 dc33], .tuple #[.int .i64 nn37, .int .i64 kk37], .int .i64 nn37, .int .i64 kk37, .slice lA ss.length lc, .int .i64 ((kd : Int)), .pointer (some ⟨g42, f42 + kd * 11, none⟩), .pointer (some ⟨g42, f42 + kd * 11, none⟩), .bool s33.gone, (Z 45), (Z 46), (Z 47), (Z 48), (Z 49), (Z 50), (Z 51), (Z 52), (Z 53), (Z 54), (Z 55), .tuple #[.int .i64 nn37, .int .i64 kk37], .pointer (some ⟨b12, 0, none⟩), .slice lA ss.length lc, .int .i64 ((kd : Int)), .pointer (some ⟨g45, f45 + kd * 11, none⟩), .pointer (some ⟨g45, f45 + kd * 11 + 1, none⟩), opV s33.o (.slice dA45 dn45 dc45), .tuple #[.int .i64 nn37, .int .i64 kk37], .int .i64 nn37, .int .i64 kk37, .int .i64 nn37, .int .i64 nn37, .bool false, .bool false, .int .i64 kk37, .int .i64 kk37, .bool false, .bool false, .bool false, .pointer (some ⟨la, 0, none⟩), .int .i64 ((Y.length : Int)), .pointer (some ⟨b12, 0, none⟩), .pointer (some ⟨b12, 0, none⟩), .pointer (some ⟨b12, 0, none⟩), .slice A52 Y.length c53, .int .i64 ((Y.length : Int)), .bool false, .bool false, .bool false, .pointer (some ⟨la, 0, none⟩), .slice A66 Y.length c67, .pointer (some ⟨b12, 0, none⟩), .pointer (some ⟨b12, 0, none⟩), .pointer (some ⟨b12, 0, none⟩), .slice A52 Y.length c53, .bool true, .bool false, .bool false, .bool false, .pointer (some ⟨la, 0, none⟩), .pointer (some ⟨tz78, 0, none⟩), .slice A84 ((playA Y).length) c85, .slice A90 ((playA Y).length) c91, .pointer (some ⟨b12, 0, none⟩), .pointer (some ⟨b12, 0, none⟩), .pointer (some ⟨b12, 0, none⟩), .slice A52 Y.length c53, .pointer (some ⟨ub97, 0, none⟩), .pointer (some ⟨ub97, 0, none⟩), .pointer (some ⟨ub97, 0, none⟩), .slice A98 ((playA Y).length) c99, .bool true, .bool false, .bool false, .int .i64 ((ke : Int)), .pointer (some ⟨b12, 0, none⟩), .pointer (some ⟨b12, 0, none⟩), .pointer (some ⟨b12, 0, none⟩), .slice A52 Y.length c53, .int .i64 ((Y.length : Int)), .bool b121, z117, z118, z119, z120, z121, z122, z123, z124, z125, z126, z127, z128, z129, z130, z131, z132, z133, z134, z135, z136, .pointer (some ⟨la, 0, none⟩), .slice lA ss.length lc, .int .i64 ((kd : Int)), .pointer (some ⟨g125, f125 + kd * 11, none⟩), .pointer (some ⟨g125, f125 + kd * 11 + 1, none⟩), .pointer (some ⟨g125, f125 + kd * 11 + 2, none⟩), .agg #[.int .i64 s33.o.at_.t, .int .i64 s33.o.at_.w], .bool ((hasL Y ⟨s33.o.at_.t, s33.o.at_.w⟩)), .bool hb, .bool false], rfl, (by kernel_rfl), (Mod.up M130), (by omega), (One.to h134 (by rw [hY, hX]; exact foldS_next hs33)), (RLog.to ⟨_, h135, h136⟩ (by rw [hY, hX]; exact foldS_next hs33))⟩
      · omega
     exact absurd ((has_end hF2_1 (by omega)).symm.trans v132) (by rw [v133]; decide)
    refine bcase hb (fun v133 => ?_) (fun v133 => ?_)
    ·
     exact absurd ((has_end hF2_1 (by omega)).symm.trans v132) (by rw [v133]; decide)
    refine wl (sv rfl (v := .bool false) (r_neb (a := true) (b := true) Tryz.underlying4 (ebool (b := (hasL Y ⟨s33.o.at_.t, s33.o.at_.w⟩)) (by kernel_rfl) v132) (ebool (b := hb) (by kernel_rfl) v133)) ?_)
    refine wnil (then_n ?_)
    refine wp_cond_false (by kernel_rfl) ?_
    refine wp_skip (inb_n (then_n (rg_lit ?_)))
    refine wmv (v := .int .i64 ((kd : Int))) ?_
    refine wl (sv rfl (v := .int .i64 (((kd + 1 : Nat) : Int))) (r_add (k := .i64) (m := ((kd : Int))) (n := 1) (c := (((kd + 1 : Nat) : Int))) (by kernel_rfl) (by kernel_rfl) ((IntWalk.i64_in _ (by omega)).trans (by omega))) ?_)
    refine was (v := .int .i64 (((kd + 1 : Nat) : Int))) ?_
    refine wnil (then_n ?_)
    have h134 := (One.up h112 (Mod.up M131))
    have h135 := md_ob M131 nin0 h108
    have h136 := (ORow.up h113 (Mod.up M131))
    refine ⟨ss.length - (kd + 1), ?_, (kd + 1), tget [undef, undef, (Z 2), undef, undef, undef, .int .i64 nn37, .int .i64 kk37, .int .i64 nn37, .int .i64 kk37, .bool hb, .int .i64 ((ke : Int)), undef, undef, undef, undef, undef, undef, undef, undef, undef, undef, undef, undef, undef, .int .i64 ((kd : Int)), .slice lA ss.length lc, .int .i64 ((ss.length : Int)), .bool b29, .int .i64 ((kd : Int)), .int .i64 (((kd + 1 : Nat) : Int)), .tuple #[.int .i64 nn37, .int .i64 kk37], .pointer (some ⟨la, 0, none⟩), .slice lA ss.length lc, .int .i64 ((kd : Int)), .pointer (some ⟨g33, f33 + kd * 11, none⟩), .agg #[.bool s33.gone, .int .i64 s33.o.kind, .int .i64 s33.o.at_.t, .int .i64 s33.o.at_.w, .int .i64 s33.o.node.t, .int .i64 s33.o.node.w, .int .i64 s33.o.parent.t, .int .i64 s33.o.parent.w, .bool s33.o.dir, .string s33.o.name, .slice dA33 dn33 dc33], .tuple #[.int .i64 nn37, .int .i64 kk37], .int .i64 nn37, .int .i64 kk37, .slice lA ss.length lc, .int .i64 ((kd : Int)), .pointer (some ⟨g42, f42 + kd * 11, none⟩), .pointer (some ⟨g42, f42 + kd * 11, none⟩), .bool s33.gone, (Z 45), (Z 46), (Z 47), (Z 48), (Z 49), (Z 50), (Z 51), (Z 52), (Z 53), (Z 54), (Z 55), .tuple #[.int .i64 nn37, .int .i64 kk37], .pointer (some ⟨b12, 0, none⟩), .slice lA ss.length lc, .int .i64 ((kd : Int)), .pointer (some ⟨g45, f45 + kd * 11, none⟩), .pointer (some ⟨g45, f45 + kd * 11 + 1, none⟩), opV s33.o (.slice dA45 dn45 dc45), .tuple #[.int .i64 nn37, .int .i64 kk37], .int .i64 nn37, .int .i64 kk37, .int .i64 nn37, .int .i64 nn37, .bool false, .bool false, .int .i64 kk37, .int .i64 kk37, .bool false, .bool false, .bool false, .pointer (some ⟨la, 0, none⟩), .int .i64 ((Y.length : Int)), .pointer (some ⟨b12, 0, none⟩), .pointer (some ⟨b12, 0, none⟩), .pointer (some ⟨b12, 0, none⟩), .slice A52 Y.length c53, .int .i64 ((Y.length : Int)), .bool false, .bool false, .bool false, .pointer (some ⟨la, 0, none⟩), .slice A66 Y.length c67, .pointer (some ⟨b12, 0, none⟩), .pointer (some ⟨b12, 0, none⟩), .pointer (some ⟨b12, 0, none⟩), .slice A52 Y.length c53, .bool true, .bool false, .bool false, .bool false, .pointer (some ⟨la, 0, none⟩), .pointer (some ⟨tz78, 0, none⟩), .slice A84 ((playA Y).length) c85, .slice A90 ((playA Y).length) c91, .pointer (some ⟨b12, 0, none⟩), .pointer (some ⟨b12, 0, none⟩), .pointer (some ⟨b12, 0, none⟩), .slice A52 Y.length c53, .pointer (some ⟨ub97, 0, none⟩), .pointer (some ⟨ub97, 0, none⟩), .pointer (some ⟨ub97, 0, none⟩), .slice A98 ((playA Y).length) c99, .bool true, .bool false, .bool false, .int .i64 ((ke : Int)), .pointer (some ⟨b12, 0, none⟩), .pointer (some ⟨b12, 0, none⟩), .pointer (some ⟨b12, 0, none⟩), .slice A52 Y.length c53, .int .i64 ((Y.length : Int)), .bool b121, z117, z118, z119, z120, z121, z122, z123, z124, z125, z126, z127, z128, z129, z130, z131, z132, z133, z134, z135, z136, .pointer (some ⟨la, 0, none⟩), .slice lA ss.length lc, .int .i64 ((kd : Int)), .pointer (some ⟨g125, f125 + kd * 11, none⟩), .pointer (some ⟨g125, f125 + kd * 11 + 1, none⟩), .pointer (some ⟨g125, f125 + kd * 11 + 2, none⟩), .agg #[.int .i64 s33.o.at_.t, .int .i64 s33.o.at_.w], .bool ((hasL Y ⟨s33.o.at_.t, s33.o.at_.w⟩)), .bool hb, .bool false], rfl, (by kernel_rfl), (Mod.up M130), (by omega), (One.to h134 (by rw [hY, hX]; exact foldS_next hs33)), (RLog.to ⟨_, h135, h136⟩ (by rw [hY, hX]; exact foldS_next hs33))⟩
    · omega
   have p124 := of_decide_eq_true (k122.trans v123)
   refine wp_cond_true (ebool (b := b121) (by kernel_rfl) v123) ?_
   refine wp_skip (then_n (wp_seq (wp_block ?_)))
   refine rg_all (by kernel_rfl) (by kernel_rfl) ?_
   refine qmv (v := .bool hb) ?_
   refine qmv (v := .bool hb) ?_
   refine bcase hb (fun v125 => ?_) (fun v125 => ?_)
   ·
    refine qv (wt (b := hb) rfl (by kernel_rfl) v125) (v := .pointer (some ⟨b12, 0, none⟩)) (fun _ _ => r_move (by kernel_rfl)) ?_
    refine qv (wt (b := hb) rfl (by kernel_rfl) v125) (v := .pointer (some ⟨b12, 0, none⟩)) (fun _ _ => r_nilCheck (by kernel_rfl)) ?_
    refine qv (wt (b := hb) rfl (by kernel_rfl) v125) (v := .pointer (some ⟨b12, 0, none⟩)) (fun _ _ => r_fieldAddr (u := .pointer (some ⟨b12, 0, none⟩)) (by kernel_rfl) (fun _ => (by kernel_rfl))) ?_
    refine qv (wt (b := hb) rfl (by kernel_rfl) v125) (v := .slice A52 Y.length c53) (fun _ uz => r_load (k := 0) (by kernel_rfl) Ty.ag28 (up_ob uz h120) (by kernel_rfl)) ?_
    refine qv (wt (b := hb) rfl (by kernel_rfl) v125) (v := .int .i64 ((ke : Int))) (fun _ _ => r_move (by kernel_rfl)) ?_
    have h126 := (ORow.up h113 (Mod.up hM2))
    obtain ⟨o127, ho127⟩ : ∃ x, Y[ke]? = some x := ⟨_, List.getElem?_eq_getElem (by omega)⟩
    obtain ⟨g127, cp127, cu127, dA127, dn127, dc127, hA127, hg127, hb127, he127, hD127⟩ := ORow.get h126 ho127
    injection hA127 with hA127 _ _
    replace he127 : (cu127.toList.drop (0 + ke * 10)).take 10 = opC o127 (.slice dA127 dn127 dc127) := by rw [Nat.zero_add]; exact he127
    refine qv (wt (b := hb) rfl (by kernel_rfl) v125) (v := .pointer (some ⟨g127, 0 + ke * 10, none⟩)) (fun _ _ => r_ixaddr' (A := A52) (b := g127) (o := 0) (n := Y.length) (c := c53) (sz := 10) (j := ((ke : Int))) (by kernel_rfl) hA127 (by kernel_rfl) Ty.un28 Ty.sz38 (by omega) (by omega) (by simp)) ?_
    refine qv (wt (b := hb) rfl (by kernel_rfl) v125) (v := .pointer (some ⟨g127, 0 + ke * 10 + 1, none⟩)) (fun _ _ => r_fieldAddr (u := .pointer (some ⟨g127, 0 + ke * 10, none⟩)) (by kernel_rfl) (fun _ => (by kernel_rfl))) ?_
    refine qv (wt (b := hb) rfl (by kernel_rfl) v125) (v := .agg #[.int .i64 o127.at_.t, .int .i64 o127.at_.w]) (fun _ uz => r_loads (k := 0 + ke * 10 + 1) (by kernel_rfl) Ty.ag35 Ty.sz35 (up_ob uz hb127) (el_sub he127 1 rfl)) ?_
    refine qv (wt (b := hb) rfl (by kernel_rfl) v125) (v := .slice lA ss.length lc) (fun _ _ => r_move (by kernel_rfl)) ?_
    refine qv (wt (b := hb) rfl (by kernel_rfl) v125) (v := .int .i64 ((kd : Int))) (fun _ _ => r_move (by kernel_rfl)) ?_
    have h129 := (StRow.up hsteps (Mod.up M119))
    obtain ⟨g128, f128, dA128, dn128, dc128, hA128, hl128, hc128, hD128, hz128⟩ := h129 kd s33 hs33
    refine qv (wt (b := hb) rfl (by kernel_rfl) v125) (v := .pointer (some ⟨g128, f128 + kd * 11, none⟩)) (fun _ _ => r_ixaddr' (A := lA) (b := g128) (o := f128) (n := ss.length) (c := lc) (sz := 11) (j := ((kd : Int))) (m := f128 + kd * 11) (by kernel_rfl) hA128 (by kernel_rfl) Ty.un22 Ty.sz40 (by omega) (by omega) (by simp)) ?_
    refine qv (wt (b := hb) rfl (by kernel_rfl) v125) (v := .pointer (some ⟨g128, f128 + kd * 11 + 1, none⟩)) (fun _ _ => r_fieldAddr (u := .pointer (some ⟨g128, f128 + kd * 11, none⟩)) (by kernel_rfl) (fun _ => (by kernel_rfl))) ?_
    refine qv (wt (b := hb) rfl (by kernel_rfl) v125) (v := .pointer (some ⟨g128, f128 + kd * 11 + 2, none⟩)) (fun _ _ => r_fieldAddr (u := .pointer (some ⟨g128, f128 + kd * 11 + 1, none⟩)) (by kernel_rfl) (fun _ => (by kernel_rfl))) ?_
    refine qv (wt (b := hb) rfl (by kernel_rfl) v125) (v := .agg #[.int .i64 s33.o.at_.t, .int .i64 s33.o.at_.w]) (fun _ uz => r_loadcN (k := f128 + kd * 11 + 2) (vs := [.int .i64 s33.o.at_.t, .int .i64 s33.o.at_.w]) (by kernel_rfl) Ty.ag35 Ty.sz35 (sub_cells (l := [.bool s33.gone, .int .i64 s33.o.kind, .int .i64 s33.o.at_.t, .int .i64 s33.o.at_.w, .int .i64 s33.o.node.t, .int .i64 s33.o.node.w, .int .i64 s33.o.parent.t, .int .i64 s33.o.parent.w, .bool s33.o.dir, .string s33.o.name, .slice dA128 dn128 dc128]) 2 2 (fun j v hj => (uz.cell (p := ⟨g128, f128 + kd * 11 + j, none⟩) hl128).trans (hc128 j v hj)))) ?_
    refine qb (wt (b := hb) rfl (by kernel_rfl) v125) (fun _ _ => r_eqS (a := o127.at_.t) (b := o127.at_.w) (c := s33.o.at_.t) (e := s33.o.at_.w) (by kernel_rfl) (by kernel_rfl)) ?_
    intro b130 k131
    refine qv rfl (v := .bool b130) (fun _ _ => r_pkF (ebool (b := hb) (by kernel_rfl) v125) (by kernel_rfl)) ?_
    refine qas (v := .bool b130) ?_
    refine qnil ?_
    intro w132 u133
    have M134 := Mod.trans M119 (Mod.of_up u133)
    have M135 := Mod.trans hM2 (Mod.of_up u133)
    refine inb_n (then_n (rg_lit ?_))
    refine wmv (v := .int .i64 ((ke : Int))) ?_
    refine wl (sv rfl (v := .int .i64 (((ke + 1 : Nat) : Int))) (r_add (k := .i64) (m := ((ke : Int))) (n := 1) (c := (((ke + 1 : Nat) : Int))) (by kernel_rfl) (by kernel_rfl) ((IntWalk.i64_in _ (by omega)).trans (by omega))) ?_)
    refine was (v := .int .i64 (((ke + 1 : Nat) : Int))) ?_
    refine wnil (then_n ?_)
    refine ⟨Y.length - (ke + 1), ?_, (ke + 1), b130, .int .i64 ((ke : Int)), .pointer (some ⟨b12, 0, none⟩), .pointer (some ⟨b12, 0, none⟩), .pointer (some ⟨b12, 0, none⟩), .slice A52 Y.length c53, .int .i64 ((Y.length : Int)), .bool b121, .int .i64 ((ke : Int)), .int .i64 (((ke + 1 : Nat) : Int)), .bool hb, .bool hb, .pointer (some ⟨b12, 0, none⟩), .pointer (some ⟨b12, 0, none⟩), .pointer (some ⟨b12, 0, none⟩), .slice A52 Y.length c53, .int .i64 ((ke : Int)), .pointer (some ⟨g127, 0 + ke * 10, none⟩), .pointer (some ⟨g127, 0 + ke * 10 + 1, none⟩), .agg #[.int .i64 o127.at_.t, .int .i64 o127.at_.w], .slice lA ss.length lc, .int .i64 ((kd : Int)), .pointer (some ⟨g128, f128 + kd * 11, none⟩), .pointer (some ⟨g128, f128 + kd * 11 + 1, none⟩), .pointer (some ⟨g128, f128 + kd * 11 + 2, none⟩), .agg #[.int .i64 s33.o.at_.t, .int .i64 s33.o.at_.w], .bool b130, .bool b130, rfl, (by kernel_rfl), M135, (by omega), (k131.symm.trans (by have h9 := has_step ho127 hF2_1; rw [v125] at h9; exact h9))⟩
    · omega
   refine qp (wf (b := hb) rfl (by kernel_rfl) v125) ?_
   refine qp (wf (b := hb) rfl (by kernel_rfl) v125) ?_
   refine qp (wf (b := hb) rfl (by kernel_rfl) v125) ?_
   refine qp (wf (b := hb) rfl (by kernel_rfl) v125) ?_
   refine qp (wf (b := hb) rfl (by kernel_rfl) v125) ?_
   refine qp (wf (b := hb) rfl (by kernel_rfl) v125) ?_
   refine qp (wf (b := hb) rfl (by kernel_rfl) v125) ?_
   refine qp (wf (b := hb) rfl (by kernel_rfl) v125) ?_
   refine qp (wf (b := hb) rfl (by kernel_rfl) v125) ?_
   refine qp (wf (b := hb) rfl (by kernel_rfl) v125) ?_
   refine qp (wf (b := hb) rfl (by kernel_rfl) v125) ?_
   refine qp (wf (b := hb) rfl (by kernel_rfl) v125) ?_
   refine qp (wf (b := hb) rfl (by kernel_rfl) v125) ?_
   refine qp (wf (b := hb) rfl (by kernel_rfl) v125) ?_
   refine qp (wf (b := hb) rfl (by kernel_rfl) v125) ?_
   refine qv rfl (v := .bool true) (fun _ _ => r_pkT (ebool (b := hb) (by kernel_rfl) v125) (by kernel_rfl)) ?_
   refine qas (v := .bool true) ?_
   refine qnil ?_
   intro w126 u127
   have M128 := Mod.trans M119 (Mod.of_up u127)
   have M129 := Mod.trans hM2 (Mod.of_up u127)
   refine inb_n (then_n (rg_lit ?_))
   refine wmv (v := .int .i64 ((ke : Int))) ?_
   refine wl (sv rfl (v := .int .i64 (((ke + 1 : Nat) : Int))) (r_add (k := .i64) (m := ((ke : Int))) (n := 1) (c := (((ke + 1 : Nat) : Int))) (by kernel_rfl) (by kernel_rfl) ((IntWalk.i64_in _ (by omega)).trans (by omega))) ?_)
   refine was (v := .int .i64 (((ke + 1 : Nat) : Int))) ?_
   refine wnil (then_n ?_)
   refine ⟨Y.length - (ke + 1), ?_, (ke + 1), true, .int .i64 ((ke : Int)), .pointer (some ⟨b12, 0, none⟩), .pointer (some ⟨b12, 0, none⟩), .pointer (some ⟨b12, 0, none⟩), .slice A52 Y.length c53, .int .i64 ((Y.length : Int)), .bool b121, .int .i64 ((ke : Int)), .int .i64 (((ke + 1 : Nat) : Int)), .bool hb, .bool hb, undef, undef, undef, undef, undef, undef, undef, undef, undef, undef, undef, undef, undef, undef, undef, .bool true, rfl, (by kernel_rfl), M129, (by omega), (has_keep hF2_1 v125)⟩
   · omega
  refine wp_cond_true (ebool (b := s33.gone) (by kernel_rfl) v44) ?_
  refine rg_lit ?_
  refine wmv (v := .pointer (some ⟨b12, 0, none⟩)) ?_
  refine wmv (v := .slice lA ss.length lc) ?_
  refine wmv (v := .int .i64 ((kd : Int))) ?_
  obtain ⟨g45, f45, dA45, dn45, dc45, hA45, hl45, hc45, hD45, hz45⟩ := h43 kd s33 hs33
  refine wl (sv rfl (v := .pointer (some ⟨g45, f45 + kd * 11, none⟩)) (r_ixaddr' (A := lA) (b := g45) (o := f45) (n := ss.length) (c := lc) (sz := 11) (j := ((kd : Int))) (m := f45 + kd * 11) (by kernel_rfl) hA45 (by kernel_rfl) Ty.un22 Ty.sz40 (by omega) (by omega) (by simp)) ?_)
  refine wl (sv rfl (v := .pointer (some ⟨g45, f45 + kd * 11 + 1, none⟩)) (r_fieldAddr (u := .pointer (some ⟨g45, f45 + kd * 11, none⟩)) (by kernel_rfl) (fun _ => (by kernel_rfl))) ?_)
  refine wl (sv rfl (v := .pointer (some ⟨g45, f45 + kd * 11 + 2, none⟩)) (r_fieldAddr (u := .pointer (some ⟨g45, f45 + kd * 11 + 1, none⟩)) (by kernel_rfl) (fun _ => (by kernel_rfl))) ?_)
  refine wl (sv rfl (v := .agg #[.int .i64 s33.o.at_.t, .int .i64 s33.o.at_.w]) (r_loadcN (k := f45 + kd * 11 + 2) (vs := [.int .i64 s33.o.at_.t, .int .i64 s33.o.at_.w]) (by kernel_rfl) Ty.ag35 Ty.sz35 (sub_cells (l := [.bool s33.gone, .int .i64 s33.o.kind, .int .i64 s33.o.at_.t, .int .i64 s33.o.at_.w, .int .i64 s33.o.node.t, .int .i64 s33.o.node.w, .int .i64 s33.o.parent.t, .int .i64 s33.o.parent.w, .bool s33.o.dir, .string s33.o.name, .slice dA45 dn45 dc45]) 2 2 hc45)) ?_)
  refine wl (sc rfl (r_callv (caps := []) (all := [.pointer (some ⟨b12, 0, none⟩), .agg #[.int .i64 s33.o.at_.t, .int .i64 s33.o.at_.w]]) En.f8 (by kernel_rfl) (by kernel_rfl)) (rrem_is h39 h41 (by omega) g17 (Nat.le_trans hB (Mod.of_up (X := []) M40).size) hsX hnX s33.o.at_.t s33.o.at_.w (ha38.1 v44)) ?_)
  rintro e w46 ⟨rfl, h47, c48⟩
  refine ⟨.tuple #[.int .i64 nn37, .int .i64 kk37], rfl, ?_⟩
  obtain ⟨v49, h50, h51⟩ := RLog.to h47 (show _ = Y by rw [hY]; exact stepL_yes v44)
  obtain ⟨A52, c53, rfl⟩ := ORow.form h51
  have M54 := Mod.trans' (Mod.of_up (X := []) M40) c48 (fun i hi => by injection hi with hi; rw [← hi]; exact g17)
  refine wmv (v := .tuple #[.int .i64 nn37, .int .i64 kk37]) ?_
  refine wl (sv rfl (v := .int .i64 nn37) (r_extract (vs := [.int .i64 nn37, .int .i64 kk37]) (by kernel_rfl) rfl) ?_)
  refine wl (sv rfl (v := .int .i64 kk37) (r_extract (vs := [.int .i64 nn37, .int .i64 kk37]) (by kernel_rfl) rfl) ?_)
  refine was (v := .int .i64 nn37) ?_
  refine was (v := .int .i64 kk37) ?_
  refine wnil (then_n (wp_seq (wp_seq ?_)))
  refine rg_held [] (n := 44) (by kernel_rfl) rfl ?_
  intro w55 u56
  have M57 := Mod.trans M54 (Mod.of_up u56)
  refine hvq (i := 0) (fuel := 43) rfl (fun _ _ _ h => h) (Mod.refl _ _) rfl (v := .int .i64 nn37) (fun _ _ => r_move (by kernel_rfl)) ?_
  refine hvq (i := 1) (fuel := 42) rfl (fun _ _ _ h => h) (Mod.refl _ _) rfl (v := .int .i64 nn37) (fun _ _ => r_move (by kernel_rfl)) ?_
  refine hvq (i := 2) (fuel := 41) rfl (fun _ _ _ h => h) (Mod.refl _ _) rfl (v := .bool false) (fun _ _ => ne_same (r_ne (k := .i64) (m := nn37) (n := nn37) (by kernel_rfl) (by kernel_rfl))) ?_
  refine hvq (i := 3) (fuel := 40) rfl (fun _ _ _ h => h) (Mod.refl _ _) rfl (v := .bool false) (fun _ _ => r_move (by kernel_rfl)) ?_
  refine hvq (i := 4) (fuel := 39) rfl (fun _ _ _ h => h) (Mod.refl _ _) (by kernel_rfl) (v := .int .i64 kk37) (fun _ _ => r_move (by kernel_rfl)) ?_
  refine hvq (i := 5) (fuel := 38) rfl (fun _ _ _ h => h) (Mod.refl _ _) (by kernel_rfl) (v := .int .i64 kk37) (fun _ _ => r_move (by kernel_rfl)) ?_
  refine hvq (i := 6) (fuel := 37) rfl (fun _ _ _ h => h) (Mod.refl _ _) (by kernel_rfl) (v := .bool false) (fun _ _ => ne_same (r_ne (k := .i64) (m := kk37) (n := kk37) (by kernel_rfl) (by kernel_rfl))) ?_
  refine hvq (i := 7) (fuel := 36) rfl (fun _ _ _ h => h) (Mod.refl _ _) rfl (v := .bool false) (fun _ _ => r_pkF (by kernel_rfl) (by kernel_rfl)) ?_
  refine hvq (i := 8) (fuel := 35) rfl (fun _ _ _ h => h) (Mod.refl _ _) rfl (v := .bool false) (fun _ _ => r_move (by kernel_rfl)) ?_
  refine hvq (i := 9) (fuel := 34) rfl (fun _ _ _ h => h) (Mod.refl _ _) (by kernel_rfl) (v := .pointer (some ⟨la, 0, none⟩)) (fun _ _ => r_move (by kernel_rfl)) ?_
  refine hvq (i := 11) (fuel := 33) rfl (fun _ _ _ h => h) (Mod.refl _ _) (by kernel_rfl) (v := .pointer (some ⟨b12, 0, none⟩)) (fun _ _ => r_move (by kernel_rfl)) ?_
  refine hvq (i := 12) (fuel := 32) rfl (fun _ _ _ h => h) (Mod.refl _ _) (by kernel_rfl) (v := .pointer (some ⟨b12, 0, none⟩)) (fun _ _ => r_nilCheck (by kernel_rfl)) ?_
  refine hvq (i := 13) (fuel := 31) rfl (fun _ _ _ h => h) (Mod.refl _ _) (by kernel_rfl) (v := .pointer (some ⟨b12, 0, none⟩)) (fun _ _ => r_fieldAddr (u := .pointer (some ⟨b12, 0, none⟩)) (by kernel_rfl) (fun _ => (by kernel_rfl))) ?_
  have h58 := (up_ob u56 h50)
  refine hvq (i := 14) (fuel := 30) rfl (fun _ _ _ h => h) (Mod.refl _ _) (by kernel_rfl) (v := .slice A52 Y.length c53) (fun _ uz => r_load (k := 0) (by kernel_rfl) Ty.ag28 (md_ob uz nin0 h58) (by kernel_rfl)) ?_
  refine hvq (i := 15) (fuel := 29) rfl (fun _ _ _ h => h) (Mod.refl _ _) (by kernel_rfl) (v := .int .i64 ((Y.length : Int))) (fun _ _ => r_len Ty.un28 (ad := A52) (n := Y.length) (c := c53) (by kernel_rfl)) ?_
  have h59 := (One.up (One.chgT h36 c48 h39 (Nat.le_trans hB g17) (by decide)) u56)
  refine h1 (i := 10) (fuel := 28) (by kernel_rfl) rfl (sc (by kernel_rfl) (r_callv (caps := []) (all := [.pointer (some ⟨la, 0, none⟩)]) En.f10 (by kernel_rfl) (by kernel_rfl)) (one_len h59 (by omega)) ?_)
  rintro e w60 ⟨rfl, u61⟩
  refine ⟨.int .i64 ((Y.length : Int)), rfl, ?_⟩
  have M62 := Mod.trans M57 (Mod.of_up u61)
  refine hx (Y := []) (Mod.of_up u61) (fun y hy => .inl hy) ?_
  refine hvq (i := 16) (fuel := 27) rfl (fun _ _ _ h => h) (Mod.refl _ _) (by kernel_rfl) (v := .bool false) (fun _ _ => ne_same (r_ne (k := .i64) (m := ((Y.length : Int))) (n := ((Y.length : Int))) (by kernel_rfl) (by kernel_rfl))) ?_
  refine hvq (i := 17) (fuel := 26) rfl (fun _ _ _ h => h) (Mod.refl _ _) rfl (v := .bool false) (fun _ _ => r_pkF (by kernel_rfl) (by kernel_rfl)) ?_
  refine hvq (i := 18) (fuel := 25) rfl (fun _ _ _ h => h) (Mod.refl _ _) rfl (v := .bool false) (fun _ _ => r_move (by kernel_rfl)) ?_
  refine hvq (i := 19) (fuel := 24) rfl (fun _ _ _ h => h) (Mod.refl _ _) (by kernel_rfl) (v := .pointer (some ⟨la, 0, none⟩)) (fun _ _ => r_move (by kernel_rfl)) ?_
  refine hvq (i := 21) (fuel := 23) rfl (fun _ _ _ h => h) (Mod.refl _ _) (by kernel_rfl) (v := .pointer (some ⟨b12, 0, none⟩)) (fun _ _ => r_move (by kernel_rfl)) ?_
  refine hvq (i := 22) (fuel := 22) rfl (fun _ _ _ h => h) (Mod.refl _ _) (by kernel_rfl) (v := .pointer (some ⟨b12, 0, none⟩)) (fun _ _ => r_nilCheck (by kernel_rfl)) ?_
  refine hvq (i := 23) (fuel := 21) rfl (fun _ _ _ h => h) (Mod.refl _ _) (by kernel_rfl) (v := .pointer (some ⟨b12, 0, none⟩)) (fun _ _ => r_fieldAddr (u := .pointer (some ⟨b12, 0, none⟩)) (by kernel_rfl) (fun _ => (by kernel_rfl))) ?_
  have h63 := (up_ob u61 h58)
  refine hvq (i := 24) (fuel := 20) rfl (fun _ _ _ h => h) (Mod.refl _ _) (by kernel_rfl) (v := .slice A52 Y.length c53) (fun _ uz => r_load (k := 0) (by kernel_rfl) Ty.ag28 (md_ob uz nin0 h63) (by kernel_rfl)) ?_
  have h64 := (One.up h59 u61)
  refine h1 (i := 20) (fuel := 19) (by kernel_rfl) rfl (sc (by kernel_rfl) (r_callv (caps := []) (all := [.pointer (some ⟨la, 0, none⟩)]) En.f12 (by kernel_rfl) (by kernel_rfl)) (one_ops h64 (Nat.le_trans hB M62.size) (by omega)) ?_)
  rintro e w65 ⟨A66, c67, rfl, h68, u69⟩
  refine ⟨.slice A66 Y.length c67, rfl, ?_⟩
  have M70 := Mod.trans M62 (Mod.of_up u69)
  refine hx (Y := []) (Mod.of_up u69) (fun y hy => .inl hy) ?_
  have h71 := (ORow.up (ORow.up (ORow.up h51 u56) u61) u69)
  refine h1 (i := 25) (fuel := 18) (by kernel_rfl) rfl (sc (by kernel_rfl) (r_callv (caps := []) (all := [.slice A66 Y.length c67, .slice A52 Y.length c53]) En.f11 (by kernel_rfl) (by kernel_rfl)) (bool_true rfl (r15all_at h68 h71 (by omega))) ?_)
  rintro e w72 ⟨rfl, u73⟩
  refine ⟨.bool true, rfl, ?_⟩
  have M74 := Mod.trans M70 (Mod.of_up u73)
  refine hx (Y := []) (Mod.of_up u73) (fun y hy => .inl hy) ?_
  refine hvq (i := 26) (fuel := 17) rfl (fun _ _ _ h => h) (Mod.refl _ _) (by kernel_rfl) (v := .bool false) (fun _ _ => r_not (b := true) (by kernel_rfl)) ?_
  refine hvq (i := 27) (fuel := 16) rfl (fun _ _ _ h => h) (Mod.refl _ _) rfl (v := .bool false) (fun _ _ => r_pkF (by kernel_rfl) (by kernel_rfl)) ?_
  refine hvq (i := 28) (fuel := 15) rfl (fun _ _ _ h => h) (Mod.refl _ _) rfl (v := .bool false) (fun _ _ => r_move (by kernel_rfl)) ?_
  refine hvq (i := 29) (fuel := 14) rfl (fun _ _ _ h => h) (Mod.refl _ _) (by kernel_rfl) (v := .pointer (some ⟨la, 0, none⟩)) (fun _ _ => r_move (by kernel_rfl)) ?_
  refine hvq (i := 33) (fuel := 13) rfl (fun _ _ _ h => h) (Mod.refl _ _) (by kernel_rfl) (v := .pointer (some ⟨b12, 0, none⟩)) (fun _ _ => r_move (by kernel_rfl)) ?_
  refine hvq (i := 34) (fuel := 12) rfl (fun _ _ _ h => h) (Mod.refl _ _) (by kernel_rfl) (v := .pointer (some ⟨b12, 0, none⟩)) (fun _ _ => r_nilCheck (by kernel_rfl)) ?_
  refine hvq (i := 35) (fuel := 11) rfl (fun _ _ _ h => h) (Mod.refl _ _) (by kernel_rfl) (v := .pointer (some ⟨b12, 0, none⟩)) (fun _ _ => r_fieldAddr (u := .pointer (some ⟨b12, 0, none⟩)) (by kernel_rfl) (fun _ => (by kernel_rfl))) ?_
  have h75 := (up_ob u73 (up_ob u69 h63))
  refine hvq (i := 36) (fuel := 10) rfl (fun _ _ _ h => h) (Mod.refl _ _) (by kernel_rfl) (v := .slice A52 Y.length c53) (fun _ uz => r_load (k := 0) (by kernel_rfl) Ty.ag28 (md_ob uz nin0 h75) (by kernel_rfl)) ?_
  have h76 := (One.up (One.up h64 u69) u73)
  refine h1 (i := 30) (fuel := 9) (by kernel_rfl) rfl (sc (by kernel_rfl) (r_callv (caps := []) (all := [.pointer (some ⟨la, 0, none⟩)]) En.f15 (by kernel_rfl) (by kernel_rfl)) (one_tree h76 (by omega)) ?_)
  rintro e w77 ⟨tz78, rz79, rfl, h80, u81⟩
  refine ⟨.pointer (some ⟨tz78, 0, none⟩), rfl, ?_⟩
  have M82 := Mod.trans M74 (Mod.of_up u81)
  refine hx (Y := []) (Mod.of_up u81) (fun y hy => .inl hy) ?_
  refine h1 (i := 31) (fuel := 8) (by kernel_rfl) rfl (sc (by kernel_rfl) (r_callv (caps := []) (all := [.pointer (some ⟨tz78, 0, none⟩)]) En.f16 (by kernel_rfl) (by kernel_rfl)) (all_row h80 (Nat.le_trans hB M82.size)) ?_)
  rintro e w83 ⟨v, rfl, h86, u87⟩
  obtain ⟨A84, c85, rfl⟩ := h86.form
  refine ⟨.slice A84 ((playA Y).length) c85, rfl, ?_⟩
  have M88 := Mod.trans M82 (Mod.of_up u87)
  refine hx (Y := []) (Mod.of_up u87) (fun y hy => .inl hy) ?_
  refine h1 (i := 32) (fuel := 7) (by kernel_rfl) rfl (sc (by kernel_rfl) (r_callv (caps := []) (all := [.slice A84 ((playA Y).length) c85]) En.f14 (by kernel_rfl) (by kernel_rfl)) (litems_at h86 (Nat.le_trans hB M88.size) hPi) ?_)
  rintro e w89 ⟨v, rfl, h92, u93⟩
  obtain ⟨A90, c91, rfl⟩ := h92.form
  refine ⟨.slice A90 ((playA Y).length) c91, rfl, ?_⟩
  have M94 := Mod.trans M88 (Mod.of_up u93)
  refine hx (Y := []) (Mod.of_up u93) (fun y hy => .inl hy) ?_
  have h95 := (ORow.up (ORow.up (ORow.up (ORow.up h71 u73) u81) u87) u93)
  refine h1 (i := 37) (fuel := 6) (by kernel_rfl) rfl (sc (by kernel_rfl) (r_callv (caps := []) (all := [.slice A52 Y.length c53]) En.f17 (by kernel_rfl) (by kernel_rfl)) (rbuild_open h95 hsY hnY (Nat.le_trans hB M94.size) (by omega)) ?_)
  rintro e w96 ⟨ub97, A98, c99, rfl, h100, h101, u102⟩
  refine ⟨.pointer (some ⟨ub97, 0, none⟩), rfl, ?_⟩
  have M103 := Mod.trans M94 (Mod.of_up u102)
  refine hx (Y := []) (Mod.of_up u102) (fun y hy => .inl hy) ?_
  refine hvq (i := 38) (fuel := 5) rfl (fun _ _ _ h => h) (Mod.refl _ _) (by kernel_rfl) (v := .pointer (some ⟨ub97, 0, none⟩)) (fun _ _ => r_nilCheck (by kernel_rfl)) ?_
  refine hvq (i := 39) (fuel := 4) rfl (fun _ _ _ h => h) (Mod.refl _ _) (by kernel_rfl) (v := .pointer (some ⟨ub97, 0, none⟩)) (fun _ _ => r_fieldAddr (u := .pointer (some ⟨ub97, 0, none⟩)) (by kernel_rfl) (fun _ => (by kernel_rfl))) ?_
  refine hvq (i := 40) (fuel := 3) rfl (fun _ _ _ h => h) (Mod.refl _ _) (by kernel_rfl) (v := .slice A98 ((playA Y).length) c99) (fun _ uz => r_load (k := 0) (by kernel_rfl) Ty.ag47 (md_ob uz nin0 h100) (by kernel_rfl)) ?_
  have h104 := (IRow.up h92 u102)
  refine h1 (i := 41) (fuel := 2) (by kernel_rfl) rfl (sc (by kernel_rfl) (r_callv (caps := []) (all := [.slice A90 ((playA Y).length) c91, .slice A98 ((playA Y).length) c99]) En.f13 (by kernel_rfl) (by kernel_rfl)) (bool_true rfl (rsame_at h104 h101 hPi)) ?_)
  rintro e w105 ⟨rfl, u106⟩
  refine ⟨.bool true, rfl, ?_⟩
  have M107 := Mod.trans M103 (Mod.of_up u106)
  refine hx (Y := []) (Mod.of_up u106) (fun y hy => .inl hy) ?_
  refine hvq (i := 42) (fuel := 1) rfl (fun _ _ _ h => h) (Mod.refl _ _) (by kernel_rfl) (v := .bool false) (fun _ _ => r_not (b := true) (by kernel_rfl)) ?_
  refine hvq (i := 43) (fuel := 0) rfl (fun _ _ _ h => h) (Mod.refl _ _) rfl (v := .bool false) (fun _ _ => r_pkF (by kernel_rfl) (by kernel_rfl)) ?_
  refine hend (by kernel_rfl) ?_
  refine then_n ?_
  refine wp_cond_false (by kernel_rfl) ?_
  refine wp_skip (then_n (wp_seq (rg_lit ?_)))
  refine was (v := .bool false) ?_
  refine wnil (then_n (wp_seq (wp_seq (rg_lit ?_))))
  refine was (v := .int .i64 0) ?_
  refine wnil (then_n (wp_block ?_))
  have h108 := (up_ob u106 (up_ob u102 (up_ob u93 (up_ob u87 (up_ob u81 h75)))))
  have h109 := (up_ob u106 h100)
  have h110 := (StRow0.up h0 (Mod.up M107))
  have h111 := (StRow.up hsteps (Mod.up M107))
  have h112 := (One.up (One.up (One.up (One.up (One.up h76 u81) u87) u93) u102) u106)
  have h113 := (ORow.up (ORow.up h95 u102) u106)
  have h114 := (ORow.up (ORow.up (ORow.up (ORow.up (ORow.up (ORow.up h68 u73) u81) u87) u93) u102) u106)
  have h115 := (TreeIs.up (TreeIs.up (TreeIs.up (TreeIs.up h80 u87) u93) u102) u106)
  have h116 := (IRow.up (IRow.up (IRow.up h86 u93) u102) u106)
  have h117 := (IRow.up h104 u106)
  have h118 := (IRow.up h101 u106)
  refine lp (fun n a r3 => ∃ (ke : Nat) (hb : Bool) (z110 z111 z112 z113 z114 z115 z116 z117 z118 z119 z120 z121 z122 z123 z124 z125 z126 z127 z128 z129 z130 z131 z132 z133 z134 z135 z136 : Value), (n = Y.length - ke) ∧ (a = ⟨#[.slice lA ss.length lc, undef, (Z 2), .pointer (some ⟨la, 0, none⟩), .pointer (some ⟨b12, 0, none⟩), .int .i64 ((kd : Int)), .int .i64 nn37, .int .i64 kk37, .int .i64 nn37, .int .i64 kk37, .bool hb, .int .i64 ((ke : Int)), .slice lA ss.length lc, .bool lb2, .bool (!lb2), undef, .pointer (some ⟨la, 0, none⟩), .agg #[.slice none 0 0], .pointer (some ⟨b12, 0, none⟩), .pointer (some ⟨la, 0, none⟩), .bool false, .bool false, .bool true, .bool false, .bool false, .int .i64 ((kd : Int)), .slice lA ss.length lc, .int .i64 ((ss.length : Int)), .bool b29, (Z 29), (Z 30), .tuple #[.int .i64 nn37, .int .i64 kk37], .pointer (some ⟨la, 0, none⟩), .slice lA ss.length lc, .int .i64 ((kd : Int)), .pointer (some ⟨g33, f33 + kd * 11, none⟩), .agg #[.bool s33.gone, .int .i64 s33.o.kind, .int .i64 s33.o.at_.t, .int .i64 s33.o.at_.w, .int .i64 s33.o.node.t, .int .i64 s33.o.node.w, .int .i64 s33.o.parent.t, .int .i64 s33.o.parent.w, .bool s33.o.dir, .string s33.o.name, .slice dA33 dn33 dc33], .tuple #[.int .i64 nn37, .int .i64 kk37], .int .i64 nn37, .int .i64 kk37, .slice lA ss.length lc, .int .i64 ((kd : Int)), .pointer (some ⟨g42, f42 + kd * 11, none⟩), .pointer (some ⟨g42, f42 + kd * 11, none⟩), .bool s33.gone, .tuple #[.int .i64 nn37, .int .i64 kk37], .pointer (some ⟨b12, 0, none⟩), .slice lA ss.length lc, .int .i64 ((kd : Int)), .pointer (some ⟨g45, f45 + kd * 11, none⟩), .pointer (some ⟨g45, f45 + kd * 11 + 1, none⟩), .pointer (some ⟨g45, f45 + kd * 11 + 2, none⟩), .agg #[.int .i64 s33.o.at_.t, .int .i64 s33.o.at_.w], .tuple #[.int .i64 nn37, .int .i64 kk37], .int .i64 nn37, .int .i64 kk37, (Z 56), (Z 57), (Z 58), (Z 59), (Z 60), (Z 61), (Z 62), (Z 63), (Z 64), (Z 65), .int .i64 nn37, .int .i64 nn37, .bool false, .bool false, .int .i64 kk37, .int .i64 kk37, .bool false, .bool false, .bool false, .pointer (some ⟨la, 0, none⟩), .int .i64 ((Y.length : Int)), .pointer (some ⟨b12, 0, none⟩), .pointer (some ⟨b12, 0, none⟩), .pointer (some ⟨b12, 0, none⟩), .slice A52 Y.length c53, .int .i64 ((Y.length : Int)), .bool false, .bool false, .bool false, .pointer (some ⟨la, 0, none⟩), .slice A66 Y.length c67, .pointer (some ⟨b12, 0, none⟩), .pointer (some ⟨b12, 0, none⟩), .pointer (some ⟨b12, 0, none⟩), .slice A52 Y.length c53, .bool true, .bool false, .bool false, .bool false, .pointer (some ⟨la, 0, none⟩), .pointer (some ⟨tz78, 0, none⟩), .slice A84 ((playA Y).length) c85, .slice A90 ((playA Y).length) c91, .pointer (some ⟨b12, 0, none⟩), .pointer (some ⟨b12, 0, none⟩), .pointer (some ⟨b12, 0, none⟩), .slice A52 Y.length c53, .pointer (some ⟨ub97, 0, none⟩), .pointer (some ⟨ub97, 0, none⟩), .pointer (some ⟨ub97, 0, none⟩), .slice A98 ((playA Y).length) c99, .bool true, .bool false, .bool false, z110, z111, z112, z113, z114, z115, z116, z117, z118, z119, z120, z121, z122, z123, z124, z125, z126, z127, z128, z129, z130, z131, z132, z133, z134, z135, z136, (Z 137), (Z 138), (Z 139), (Z 140), (Z 141), (Z 142), (Z 143), (Z 144), (Z 145), (Z 146)], []⟩) ∧ (Mod [] w105 r3) ∧ (ke ≤ Y.length) ∧ (hb = hasL (Y.take ke) s33.o.at_)) ⟨_, 0, false, (Z 110), (Z 111), (Z 112), (Z 113), (Z 114), (Z 115), (Z 116), (Z 117), (Z 118), (Z 119), (Z 120), (Z 121), (Z 122), (Z 123), (Z 124), (Z 125), (Z 126), (Z 127), (Z 128), (Z 129), (Z 130), (Z 131), (Z 132), (Z 133), (Z 134), (Z 135), (Z 136), rfl, (by kernel_rfl), Mod.refl _ _, (Nat.zero_le _), rfl⟩ ?_
  rintro _ _ r3 ⟨ke, hb, z110, z111, z112, z113, z114, z115, z116, z117, z118, z119, z120, z121, z122, z123, z124, z125, z126, z127, z128, z129, z130, z131, z132, z133, z134, z135, z136, rfl, rfl, hM3, hF3_0, hF3_1⟩
  have M119 := Mod.thin M107 hM3 (by simp)
  refine wp_seq (wp_seq (rg_lit ?_))
  refine wmv (v := .int .i64 ((ke : Int))) ?_
  refine wmv (v := .pointer (some ⟨b12, 0, none⟩)) ?_
  refine wl (sv rfl (v := .pointer (some ⟨b12, 0, none⟩)) (r_nilCheck (by kernel_rfl)) ?_)
  refine wl (sv rfl (v := .pointer (some ⟨b12, 0, none⟩)) (r_fieldAddr (u := .pointer (some ⟨b12, 0, none⟩)) (by kernel_rfl) (fun _ => (by kernel_rfl))) ?_)
  have h120 := md_ob hM3 nin0 h108
  refine wl (sv rfl (v := .slice A52 Y.length c53) (r_load (k := 0) (by kernel_rfl) Ty.ag28 h120 (by kernel_rfl)) ?_)
  refine wl (sv rfl (v := .int .i64 ((Y.length : Int))) (r_len Ty.un28 (ad := A52) (n := Y.length) (c := c53) (by kernel_rfl)) ?_)
  refine wl (sb rfl (r_lt (k := .i64) (m := ((ke : Int))) (n := ((Y.length : Int))) (by kernel_rfl) (by kernel_rfl)) ?_)
  intro b121 k122
  refine wnil (then_n ?_)
  refine bcase b121 (fun v123 => ?_) (fun v123 => ?_)
  ·
   have p124 := of_decide_eq_false (k122.trans v123)
   refine wp_cond_false (ebool (b := b121) (by kernel_rfl) v123) ?_
   refine wp_exit (then_x (by nofun) (then_x (by nofun) (inb_hit (then_n (wp_seq (rg_lit ?_))))))
   refine wmv (v := .pointer (some ⟨la, 0, none⟩)) ?_
   refine wmv (v := .slice lA ss.length lc) ?_
   refine wmv (v := .int .i64 ((kd : Int))) ?_
   have h126 := (StRow.up hsteps (Mod.up M119))
   obtain ⟨g125, f125, dA125, dn125, dc125, hA125, hl125, hc125, hD125, hz125⟩ := h126 kd s33 hs33
   refine wl (sv rfl (v := .pointer (some ⟨g125, f125 + kd * 11, none⟩)) (r_ixaddr' (A := lA) (b := g125) (o := f125) (n := ss.length) (c := lc) (sz := 11) (j := ((kd : Int))) (m := f125 + kd * 11) (by kernel_rfl) hA125 (by kernel_rfl) Ty.un22 Ty.sz40 (by omega) (by omega) (by simp)) ?_)
   refine wl (sv rfl (v := .pointer (some ⟨g125, f125 + kd * 11 + 1, none⟩)) (r_fieldAddr (u := .pointer (some ⟨g125, f125 + kd * 11, none⟩)) (by kernel_rfl) (fun _ => (by kernel_rfl))) ?_)
   refine wl (sv rfl (v := .pointer (some ⟨g125, f125 + kd * 11 + 2, none⟩)) (r_fieldAddr (u := .pointer (some ⟨g125, f125 + kd * 11 + 1, none⟩)) (by kernel_rfl) (fun _ => (by kernel_rfl))) ?_)
   refine wl (sv rfl (v := .agg #[.int .i64 s33.o.at_.t, .int .i64 s33.o.at_.w]) (r_loadcN (k := f125 + kd * 11 + 2) (vs := [.int .i64 s33.o.at_.t, .int .i64 s33.o.at_.w]) (by kernel_rfl) Ty.ag35 Ty.sz35 (sub_cells (l := [.bool s33.gone, .int .i64 s33.o.kind, .int .i64 s33.o.at_.t, .int .i64 s33.o.at_.w, .int .i64 s33.o.node.t, .int .i64 s33.o.node.w, .int .i64 s33.o.parent.t, .int .i64 s33.o.parent.w, .bool s33.o.dir, .string s33.o.name, .slice dA125 dn125 dc125]) 2 2 hc125)) ?_)
   have h127 := (One.up h112 (Mod.up hM3))
   refine wl (sc rfl (r_callv (caps := []) (all := [.pointer (some ⟨la, 0, none⟩), .agg #[.int .i64 s33.o.at_.t, .int .i64 s33.o.at_.w]]) En.f18 (by kernel_rfl) (by kernel_rfl)) (one_has h127 (by omega) s33.o.at_.t s33.o.at_.w) ?_)
   rintro e w128 ⟨rfl, u129⟩
   refine ⟨.bool ((hasL Y ⟨s33.o.at_.t, s33.o.at_.w⟩)), rfl, ?_⟩
   have M130 := Mod.trans M119 (Mod.of_up u129)
   have M131 := Mod.trans hM3 (Mod.of_up u129)
   refine wmv (v := .bool hb) ?_
   refine bcase ((hasL Y ⟨s33.o.at_.t, s33.o.at_.w⟩)) (fun v132 => ?_) (fun v132 => ?_)
   ·
    refine bcase hb (fun v133 => ?_) (fun v133 => ?_)
    ·
     refine wl (sv rfl (v := .bool false) (r_neb (a := false) (b := false) Tryz.underlying4 (ebool (b := (hasL Y ⟨s33.o.at_.t, s33.o.at_.w⟩)) (by kernel_rfl) v132) (ebool (b := hb) (by kernel_rfl) v133)) ?_)
     refine wnil (then_n ?_)
     refine wp_cond_false (by kernel_rfl) ?_
     refine wp_skip (inb_n (then_n (rg_lit ?_)))
     refine wmv (v := .int .i64 ((kd : Int))) ?_
     refine wl (sv rfl (v := .int .i64 (((kd + 1 : Nat) : Int))) (r_add (k := .i64) (m := ((kd : Int))) (n := 1) (c := (((kd + 1 : Nat) : Int))) (by kernel_rfl) (by kernel_rfl) ((IntWalk.i64_in _ (by omega)).trans (by omega))) ?_)
     refine was (v := .int .i64 (((kd + 1 : Nat) : Int))) ?_
     refine wnil (then_n ?_)
     have h134 := (One.up h112 (Mod.up M131))
     have h135 := md_ob M131 nin0 h108
     have h136 := (ORow.up h113 (Mod.up M131))
     refine ⟨ss.length - (kd + 1), ?_, (kd + 1), tget [undef, undef, (Z 2), undef, undef, undef, .int .i64 nn37, .int .i64 kk37, .int .i64 nn37, .int .i64 kk37, .bool hb, .int .i64 ((ke : Int)), undef, undef, undef, undef, undef, undef, undef, undef, undef, undef, undef, undef, undef, .int .i64 ((kd : Int)), .slice lA ss.length lc, .int .i64 ((ss.length : Int)), .bool b29, .int .i64 ((kd : Int)), .int .i64 (((kd + 1 : Nat) : Int)), .tuple #[.int .i64 nn37, .int .i64 kk37], .pointer (some ⟨la, 0, none⟩), .slice lA ss.length lc, .int .i64 ((kd : Int)), .pointer (some ⟨g33, f33 + kd * 11, none⟩), .agg #[.bool s33.gone, .int .i64 s33.o.kind, .int .i64 s33.o.at_.t, .int .i64 s33.o.at_.w, .int .i64 s33.o.node.t, .int .i64 s33.o.node.w, .int .i64 s33.o.parent.t, .int .i64 s33.o.parent.w, .bool s33.o.dir, .string s33.o.name, .slice dA33 dn33 dc33], .tuple #[.int .i64 nn37, .int .i64 kk37], .int .i64 nn37, .int .i64 kk37, .slice lA ss.length lc, .int .i64 ((kd : Int)), .pointer (some ⟨g42, f42 + kd * 11, none⟩), .pointer (some ⟨g42, f42 + kd * 11, none⟩), .bool s33.gone, .tuple #[.int .i64 nn37, .int .i64 kk37], .pointer (some ⟨b12, 0, none⟩), .slice lA ss.length lc, .int .i64 ((kd : Int)), .pointer (some ⟨g45, f45 + kd * 11, none⟩), .pointer (some ⟨g45, f45 + kd * 11 + 1, none⟩), .pointer (some ⟨g45, f45 + kd * 11 + 2, none⟩), .agg #[.int .i64 s33.o.at_.t, .int .i64 s33.o.at_.w], .tuple #[.int .i64 nn37, .int .i64 kk37], .int .i64 nn37, .int .i64 kk37, (Z 56), (Z 57), (Z 58), (Z 59), (Z 60), (Z 61), (Z 62), (Z 63), (Z 64), (Z 65), .int .i64 nn37, .int .i64 nn37, .bool false, .bool false, .int .i64 kk37, .int .i64 kk37, .bool false, .bool false, .bool false, .pointer (some ⟨la, 0, none⟩), .int .i64 ((Y.length : Int)), .pointer (some ⟨b12, 0, none⟩), .pointer (some ⟨b12, 0, none⟩), .pointer (some ⟨b12, 0, none⟩), .slice A52 Y.length c53, .int .i64 ((Y.length : Int)), .bool false, .bool false, .bool false, .pointer (some ⟨la, 0, none⟩), .slice A66 Y.length c67, .pointer (some ⟨b12, 0, none⟩), .pointer (some ⟨b12, 0, none⟩), .pointer (some ⟨b12, 0, none⟩), .slice A52 Y.length c53, .bool true, .bool false, .bool false, .bool false, .pointer (some ⟨la, 0, none⟩), .pointer (some ⟨tz78, 0, none⟩), .slice A84 ((playA Y).length) c85, .slice A90 ((playA Y).length) c91, .pointer (some ⟨b12, 0, none⟩), .pointer (some ⟨b12, 0, none⟩), .pointer (some ⟨b12, 0, none⟩), .slice A52 Y.length c53, .pointer (some ⟨ub97, 0, none⟩), .pointer (some ⟨ub97, 0, none⟩), .pointer (some ⟨ub97, 0, none⟩), .slice A98 ((playA Y).length) c99, .bool true, .bool false, .bool false, .int .i64 ((ke : Int)), .pointer (some ⟨b12, 0, none⟩), .pointer (some ⟨b12, 0, none⟩), .pointer (some ⟨b12, 0, none⟩), .slice A52 Y.length c53, .int .i64 ((Y.length : Int)), .bool b121, z117, z118, z119, z120, z121, z122, z123, z124, z125, z126, z127, z128, z129, z130, z131, z132, z133, z134, z135, z136, .pointer (some ⟨la, 0, none⟩), .slice lA ss.length lc, .int .i64 ((kd : Int)), .pointer (some ⟨g125, f125 + kd * 11, none⟩), .pointer (some ⟨g125, f125 + kd * 11 + 1, none⟩), .pointer (some ⟨g125, f125 + kd * 11 + 2, none⟩), .agg #[.int .i64 s33.o.at_.t, .int .i64 s33.o.at_.w], .bool ((hasL Y ⟨s33.o.at_.t, s33.o.at_.w⟩)), .bool hb, .bool false], rfl, (by kernel_rfl), (Mod.up M130), (by omega), (One.to h134 (by rw [hY, hX]; exact foldS_next hs33)), (RLog.to ⟨_, h135, h136⟩ (by rw [hY, hX]; exact foldS_next hs33))⟩
     · omega
    exact absurd ((has_end hF3_1 (by omega)).symm.trans v132) (by rw [v133]; decide)
   refine bcase hb (fun v133 => ?_) (fun v133 => ?_)
   ·
    exact absurd ((has_end hF3_1 (by omega)).symm.trans v132) (by rw [v133]; decide)
   refine wl (sv rfl (v := .bool false) (r_neb (a := true) (b := true) Tryz.underlying4 (ebool (b := (hasL Y ⟨s33.o.at_.t, s33.o.at_.w⟩)) (by kernel_rfl) v132) (ebool (b := hb) (by kernel_rfl) v133)) ?_)
   refine wnil (then_n ?_)
   refine wp_cond_false (by kernel_rfl) ?_
   refine wp_skip (inb_n (then_n (rg_lit ?_)))
   refine wmv (v := .int .i64 ((kd : Int))) ?_
   refine wl (sv rfl (v := .int .i64 (((kd + 1 : Nat) : Int))) (r_add (k := .i64) (m := ((kd : Int))) (n := 1) (c := (((kd + 1 : Nat) : Int))) (by kernel_rfl) (by kernel_rfl) ((IntWalk.i64_in _ (by omega)).trans (by omega))) ?_)
   refine was (v := .int .i64 (((kd + 1 : Nat) : Int))) ?_
   refine wnil (then_n ?_)
   have h134 := (One.up h112 (Mod.up M131))
   have h135 := md_ob M131 nin0 h108
   have h136 := (ORow.up h113 (Mod.up M131))
   refine ⟨ss.length - (kd + 1), ?_, (kd + 1), tget [undef, undef, (Z 2), undef, undef, undef, .int .i64 nn37, .int .i64 kk37, .int .i64 nn37, .int .i64 kk37, .bool hb, .int .i64 ((ke : Int)), undef, undef, undef, undef, undef, undef, undef, undef, undef, undef, undef, undef, undef, .int .i64 ((kd : Int)), .slice lA ss.length lc, .int .i64 ((ss.length : Int)), .bool b29, .int .i64 ((kd : Int)), .int .i64 (((kd + 1 : Nat) : Int)), .tuple #[.int .i64 nn37, .int .i64 kk37], .pointer (some ⟨la, 0, none⟩), .slice lA ss.length lc, .int .i64 ((kd : Int)), .pointer (some ⟨g33, f33 + kd * 11, none⟩), .agg #[.bool s33.gone, .int .i64 s33.o.kind, .int .i64 s33.o.at_.t, .int .i64 s33.o.at_.w, .int .i64 s33.o.node.t, .int .i64 s33.o.node.w, .int .i64 s33.o.parent.t, .int .i64 s33.o.parent.w, .bool s33.o.dir, .string s33.o.name, .slice dA33 dn33 dc33], .tuple #[.int .i64 nn37, .int .i64 kk37], .int .i64 nn37, .int .i64 kk37, .slice lA ss.length lc, .int .i64 ((kd : Int)), .pointer (some ⟨g42, f42 + kd * 11, none⟩), .pointer (some ⟨g42, f42 + kd * 11, none⟩), .bool s33.gone, .tuple #[.int .i64 nn37, .int .i64 kk37], .pointer (some ⟨b12, 0, none⟩), .slice lA ss.length lc, .int .i64 ((kd : Int)), .pointer (some ⟨g45, f45 + kd * 11, none⟩), .pointer (some ⟨g45, f45 + kd * 11 + 1, none⟩), .pointer (some ⟨g45, f45 + kd * 11 + 2, none⟩), .agg #[.int .i64 s33.o.at_.t, .int .i64 s33.o.at_.w], .tuple #[.int .i64 nn37, .int .i64 kk37], .int .i64 nn37, .int .i64 kk37, (Z 56), (Z 57), (Z 58), (Z 59), (Z 60), (Z 61), (Z 62), (Z 63), (Z 64), (Z 65), .int .i64 nn37, .int .i64 nn37, .bool false, .bool false, .int .i64 kk37, .int .i64 kk37, .bool false, .bool false, .bool false, .pointer (some ⟨la, 0, none⟩), .int .i64 ((Y.length : Int)), .pointer (some ⟨b12, 0, none⟩), .pointer (some ⟨b12, 0, none⟩), .pointer (some ⟨b12, 0, none⟩), .slice A52 Y.length c53, .int .i64 ((Y.length : Int)), .bool false, .bool false, .bool false, .pointer (some ⟨la, 0, none⟩), .slice A66 Y.length c67, .pointer (some ⟨b12, 0, none⟩), .pointer (some ⟨b12, 0, none⟩), .pointer (some ⟨b12, 0, none⟩), .slice A52 Y.length c53, .bool true, .bool false, .bool false, .bool false, .pointer (some ⟨la, 0, none⟩), .pointer (some ⟨tz78, 0, none⟩), .slice A84 ((playA Y).length) c85, .slice A90 ((playA Y).length) c91, .pointer (some ⟨b12, 0, none⟩), .pointer (some ⟨b12, 0, none⟩), .pointer (some ⟨b12, 0, none⟩), .slice A52 Y.length c53, .pointer (some ⟨ub97, 0, none⟩), .pointer (some ⟨ub97, 0, none⟩), .pointer (some ⟨ub97, 0, none⟩), .slice A98 ((playA Y).length) c99, .bool true, .bool false, .bool false, .int .i64 ((ke : Int)), .pointer (some ⟨b12, 0, none⟩), .pointer (some ⟨b12, 0, none⟩), .pointer (some ⟨b12, 0, none⟩), .slice A52 Y.length c53, .int .i64 ((Y.length : Int)), .bool b121, z117, z118, z119, z120, z121, z122, z123, z124, z125, z126, z127, z128, z129, z130, z131, z132, z133, z134, z135, z136, .pointer (some ⟨la, 0, none⟩), .slice lA ss.length lc, .int .i64 ((kd : Int)), .pointer (some ⟨g125, f125 + kd * 11, none⟩), .pointer (some ⟨g125, f125 + kd * 11 + 1, none⟩), .pointer (some ⟨g125, f125 + kd * 11 + 2, none⟩), .agg #[.int .i64 s33.o.at_.t, .int .i64 s33.o.at_.w], .bool ((hasL Y ⟨s33.o.at_.t, s33.o.at_.w⟩)), .bool hb, .bool false], rfl, (by kernel_rfl), (Mod.up M130), (by omega), (One.to h134 (by rw [hY, hX]; exact foldS_next hs33)), (RLog.to ⟨_, h135, h136⟩ (by rw [hY, hX]; exact foldS_next hs33))⟩
   · omega
  have p124 := of_decide_eq_true (k122.trans v123)
  refine wp_cond_true (ebool (b := b121) (by kernel_rfl) v123) ?_
  refine wp_skip (then_n (wp_seq (wp_block ?_)))
  refine rg_all (by kernel_rfl) (by kernel_rfl) ?_
  refine qmv (v := .bool hb) ?_
  refine qmv (v := .bool hb) ?_
  refine bcase hb (fun v125 => ?_) (fun v125 => ?_)
  ·
   refine qv (wt (b := hb) rfl (by kernel_rfl) v125) (v := .pointer (some ⟨b12, 0, none⟩)) (fun _ _ => r_move (by kernel_rfl)) ?_
   refine qv (wt (b := hb) rfl (by kernel_rfl) v125) (v := .pointer (some ⟨b12, 0, none⟩)) (fun _ _ => r_nilCheck (by kernel_rfl)) ?_
   refine qv (wt (b := hb) rfl (by kernel_rfl) v125) (v := .pointer (some ⟨b12, 0, none⟩)) (fun _ _ => r_fieldAddr (u := .pointer (some ⟨b12, 0, none⟩)) (by kernel_rfl) (fun _ => (by kernel_rfl))) ?_
   refine qv (wt (b := hb) rfl (by kernel_rfl) v125) (v := .slice A52 Y.length c53) (fun _ uz => r_load (k := 0) (by kernel_rfl) Ty.ag28 (up_ob uz h120) (by kernel_rfl)) ?_
   refine qv (wt (b := hb) rfl (by kernel_rfl) v125) (v := .int .i64 ((ke : Int))) (fun _ _ => r_move (by kernel_rfl)) ?_
   have h126 := (ORow.up h113 (Mod.up hM3))
   obtain ⟨o127, ho127⟩ : ∃ x, Y[ke]? = some x := ⟨_, List.getElem?_eq_getElem (by omega)⟩
   obtain ⟨g127, cp127, cu127, dA127, dn127, dc127, hA127, hg127, hb127, he127, hD127⟩ := ORow.get h126 ho127
   injection hA127 with hA127 _ _
   replace he127 : (cu127.toList.drop (0 + ke * 10)).take 10 = opC o127 (.slice dA127 dn127 dc127) := by rw [Nat.zero_add]; exact he127
   refine qv (wt (b := hb) rfl (by kernel_rfl) v125) (v := .pointer (some ⟨g127, 0 + ke * 10, none⟩)) (fun _ _ => r_ixaddr' (A := A52) (b := g127) (o := 0) (n := Y.length) (c := c53) (sz := 10) (j := ((ke : Int))) (by kernel_rfl) hA127 (by kernel_rfl) Ty.un28 Ty.sz38 (by omega) (by omega) (by simp)) ?_
   refine qv (wt (b := hb) rfl (by kernel_rfl) v125) (v := .pointer (some ⟨g127, 0 + ke * 10 + 1, none⟩)) (fun _ _ => r_fieldAddr (u := .pointer (some ⟨g127, 0 + ke * 10, none⟩)) (by kernel_rfl) (fun _ => (by kernel_rfl))) ?_
   refine qv (wt (b := hb) rfl (by kernel_rfl) v125) (v := .agg #[.int .i64 o127.at_.t, .int .i64 o127.at_.w]) (fun _ uz => r_loads (k := 0 + ke * 10 + 1) (by kernel_rfl) Ty.ag35 Ty.sz35 (up_ob uz hb127) (el_sub he127 1 rfl)) ?_
   refine qv (wt (b := hb) rfl (by kernel_rfl) v125) (v := .slice lA ss.length lc) (fun _ _ => r_move (by kernel_rfl)) ?_
   refine qv (wt (b := hb) rfl (by kernel_rfl) v125) (v := .int .i64 ((kd : Int))) (fun _ _ => r_move (by kernel_rfl)) ?_
   have h129 := (StRow.up hsteps (Mod.up M119))
   obtain ⟨g128, f128, dA128, dn128, dc128, hA128, hl128, hc128, hD128, hz128⟩ := h129 kd s33 hs33
   refine qv (wt (b := hb) rfl (by kernel_rfl) v125) (v := .pointer (some ⟨g128, f128 + kd * 11, none⟩)) (fun _ _ => r_ixaddr' (A := lA) (b := g128) (o := f128) (n := ss.length) (c := lc) (sz := 11) (j := ((kd : Int))) (m := f128 + kd * 11) (by kernel_rfl) hA128 (by kernel_rfl) Ty.un22 Ty.sz40 (by omega) (by omega) (by simp)) ?_
   refine qv (wt (b := hb) rfl (by kernel_rfl) v125) (v := .pointer (some ⟨g128, f128 + kd * 11 + 1, none⟩)) (fun _ _ => r_fieldAddr (u := .pointer (some ⟨g128, f128 + kd * 11, none⟩)) (by kernel_rfl) (fun _ => (by kernel_rfl))) ?_
   refine qv (wt (b := hb) rfl (by kernel_rfl) v125) (v := .pointer (some ⟨g128, f128 + kd * 11 + 2, none⟩)) (fun _ _ => r_fieldAddr (u := .pointer (some ⟨g128, f128 + kd * 11 + 1, none⟩)) (by kernel_rfl) (fun _ => (by kernel_rfl))) ?_
   refine qv (wt (b := hb) rfl (by kernel_rfl) v125) (v := .agg #[.int .i64 s33.o.at_.t, .int .i64 s33.o.at_.w]) (fun _ uz => r_loadcN (k := f128 + kd * 11 + 2) (vs := [.int .i64 s33.o.at_.t, .int .i64 s33.o.at_.w]) (by kernel_rfl) Ty.ag35 Ty.sz35 (sub_cells (l := [.bool s33.gone, .int .i64 s33.o.kind, .int .i64 s33.o.at_.t, .int .i64 s33.o.at_.w, .int .i64 s33.o.node.t, .int .i64 s33.o.node.w, .int .i64 s33.o.parent.t, .int .i64 s33.o.parent.w, .bool s33.o.dir, .string s33.o.name, .slice dA128 dn128 dc128]) 2 2 (fun j v hj => (uz.cell (p := ⟨g128, f128 + kd * 11 + j, none⟩) hl128).trans (hc128 j v hj)))) ?_
   refine qb (wt (b := hb) rfl (by kernel_rfl) v125) (fun _ _ => r_eqS (a := o127.at_.t) (b := o127.at_.w) (c := s33.o.at_.t) (e := s33.o.at_.w) (by kernel_rfl) (by kernel_rfl)) ?_
   intro b130 k131
   refine qv rfl (v := .bool b130) (fun _ _ => r_pkF (ebool (b := hb) (by kernel_rfl) v125) (by kernel_rfl)) ?_
   refine qas (v := .bool b130) ?_
   refine qnil ?_
   intro w132 u133
   have M134 := Mod.trans M119 (Mod.of_up u133)
   have M135 := Mod.trans hM3 (Mod.of_up u133)
   refine inb_n (then_n (rg_lit ?_))
   refine wmv (v := .int .i64 ((ke : Int))) ?_
   refine wl (sv rfl (v := .int .i64 (((ke + 1 : Nat) : Int))) (r_add (k := .i64) (m := ((ke : Int))) (n := 1) (c := (((ke + 1 : Nat) : Int))) (by kernel_rfl) (by kernel_rfl) ((IntWalk.i64_in _ (by omega)).trans (by omega))) ?_)
   refine was (v := .int .i64 (((ke + 1 : Nat) : Int))) ?_
   refine wnil (then_n ?_)
   refine ⟨Y.length - (ke + 1), ?_, (ke + 1), b130, .int .i64 ((ke : Int)), .pointer (some ⟨b12, 0, none⟩), .pointer (some ⟨b12, 0, none⟩), .pointer (some ⟨b12, 0, none⟩), .slice A52 Y.length c53, .int .i64 ((Y.length : Int)), .bool b121, .int .i64 ((ke : Int)), .int .i64 (((ke + 1 : Nat) : Int)), .bool hb, .bool hb, .pointer (some ⟨b12, 0, none⟩), .pointer (some ⟨b12, 0, none⟩), .pointer (some ⟨b12, 0, none⟩), .slice A52 Y.length c53, .int .i64 ((ke : Int)), .pointer (some ⟨g127, 0 + ke * 10, none⟩), .pointer (some ⟨g127, 0 + ke * 10 + 1, none⟩), .agg #[.int .i64 o127.at_.t, .int .i64 o127.at_.w], .slice lA ss.length lc, .int .i64 ((kd : Int)), .pointer (some ⟨g128, f128 + kd * 11, none⟩), .pointer (some ⟨g128, f128 + kd * 11 + 1, none⟩), .pointer (some ⟨g128, f128 + kd * 11 + 2, none⟩), .agg #[.int .i64 s33.o.at_.t, .int .i64 s33.o.at_.w], .bool b130, .bool b130, rfl, (by kernel_rfl), M135, (by omega), (k131.symm.trans (by have h9 := has_step ho127 hF3_1; rw [v125] at h9; exact h9))⟩
   · omega
  refine qp (wf (b := hb) rfl (by kernel_rfl) v125) ?_
  refine qp (wf (b := hb) rfl (by kernel_rfl) v125) ?_
  refine qp (wf (b := hb) rfl (by kernel_rfl) v125) ?_
  refine qp (wf (b := hb) rfl (by kernel_rfl) v125) ?_
  refine qp (wf (b := hb) rfl (by kernel_rfl) v125) ?_
  refine qp (wf (b := hb) rfl (by kernel_rfl) v125) ?_
  refine qp (wf (b := hb) rfl (by kernel_rfl) v125) ?_
  refine qp (wf (b := hb) rfl (by kernel_rfl) v125) ?_
  refine qp (wf (b := hb) rfl (by kernel_rfl) v125) ?_
  refine qp (wf (b := hb) rfl (by kernel_rfl) v125) ?_
  refine qp (wf (b := hb) rfl (by kernel_rfl) v125) ?_
  refine qp (wf (b := hb) rfl (by kernel_rfl) v125) ?_
  refine qp (wf (b := hb) rfl (by kernel_rfl) v125) ?_
  refine qp (wf (b := hb) rfl (by kernel_rfl) v125) ?_
  refine qp (wf (b := hb) rfl (by kernel_rfl) v125) ?_
  refine qv rfl (v := .bool true) (fun _ _ => r_pkT (ebool (b := hb) (by kernel_rfl) v125) (by kernel_rfl)) ?_
  refine qas (v := .bool true) ?_
  refine qnil ?_
  intro w126 u127
  have M128 := Mod.trans M119 (Mod.of_up u127)
  have M129 := Mod.trans hM3 (Mod.of_up u127)
  refine inb_n (then_n (rg_lit ?_))
  refine wmv (v := .int .i64 ((ke : Int))) ?_
  refine wl (sv rfl (v := .int .i64 (((ke + 1 : Nat) : Int))) (r_add (k := .i64) (m := ((ke : Int))) (n := 1) (c := (((ke + 1 : Nat) : Int))) (by kernel_rfl) (by kernel_rfl) ((IntWalk.i64_in _ (by omega)).trans (by omega))) ?_)
  refine was (v := .int .i64 (((ke + 1 : Nat) : Int))) ?_
  refine wnil (then_n ?_)
  refine ⟨Y.length - (ke + 1), ?_, (ke + 1), true, .int .i64 ((ke : Int)), .pointer (some ⟨b12, 0, none⟩), .pointer (some ⟨b12, 0, none⟩), .pointer (some ⟨b12, 0, none⟩), .slice A52 Y.length c53, .int .i64 ((Y.length : Int)), .bool b121, .int .i64 ((ke : Int)), .int .i64 (((ke + 1 : Nat) : Int)), .bool hb, .bool hb, undef, undef, undef, undef, undef, undef, undef, undef, undef, undef, undef, undef, undef, undef, undef, .bool true, rfl, (by kernel_rfl), M129, (by omega), (has_keep hF3_1 v125)⟩
  · omega
end Go.Proofs.YtefhfoioeoijlaaGreat

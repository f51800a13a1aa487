/- GO: printed by gen.py -/
import Derived.Test.YtefhfoioeoijlaaGN
import Derived.Test.YtefhfoioeoijlaaTreeLaw
set_option linter.unusedVariables false
set_option linter.unusedSimpArgs false
namespace Go.Proofs.Ytefhfoioeoijlaa
open Go Go.RowKit Go.Sort
set_option maxHeartbeats 2000000 in
theorem light2_at {w : World} {lA : Option Addr} {lc : Nat} {os : List OpD} (h : OpRow0 w lA os) (hn : os.length ≤ 9223372036854775807) (m : Int) : Calls Try.prog 12 #[.slice lA os.length lc, .int .i64 m] w fun e w' => ∃ b, e = .returned (.bool b) ∧ (b = true → Small os ∧ (os.length : Int) ≤ m) ∧ Up w w' := by
  go_enter Try.func12, Try.ntmps12
  refine wp_seq ?_
  refine rg_lit ?_
  refine wl (sv rfl (v := .bool false) (r_assign (by kernel_rfl)) ?_)
  refine wnil ?_
  refine then_n ?_
  refine wp_seq ?_
  refine wp_seq ?_
  refine rg_lit ?_
  refine wl (sv rfl (v := .slice lA os.length lc) (r_move (by kernel_rfl)) ?_)
  refine wl (sv rfl (v := .int .i64 ((os.length : Int))) (r_len Ty.un22 (ad := lA) (n := os.length) (c := lc) (by kernel_rfl)) ?_)
  refine wl (sv rfl (v := .int .i64 m) (r_move (by kernel_rfl)) ?_)
  refine wl (sb rfl (r_gt (k := .i64) (m := ((os.length : Int))) (n := m) (by kernel_rfl) (by kernel_rfl)) ?_)
  intro b1 k2
  refine wnil ?_
  refine then_n ?_
  refine bcase b1 (fun v3 => ?_) (fun v3 => ?_)
  · have p4 := of_decide_eq_false (k2.trans v3)
    refine wp_cond_false (ebool (b := b1) (by kernel_rfl) v3) ?_
    refine wp_skip ?_
    refine then_n ?_
    refine wp_seq ?_
    refine wp_seq ?_
    refine rg_lit ?_
    refine wl (sv rfl (v := .int .i64 0) (r_assign (by kernel_rfl)) ?_)
    refine wnil ?_
    refine then_n ?_
    refine wp_block ?_
    refine lp (fun n a r1 => ∃ (k : Nat) (z4 z10 z11 z12 z13 z14 z15 z16 z17 z18 z19 z20 z21 z22 z23 z24 z25 z26 z27 z28 z29 z30 z31 : Value), (n = os.length - k) ∧ (a = ⟨#[.slice lA os.length lc, .int .i64 m, undef, undef, z4, .int .i64 ((k : Int)), .slice lA os.length lc, .int .i64 ((os.length : Int)), .int .i64 m, .bool b1, z10, z11, z12, z13, z14, z15, z16, z17, z18, z19, z20, z21, z22, z23, z24, z25, z26, z27, z28, z29, z30, z31], []⟩) ∧ (Mod [] w r1) ∧ (k ≤ os.length) ∧ (Hid (∀ (i : Nat) (o : OpD), i < k → os[i]? = some o → o.data.length ≤ 500))) ⟨_, 0, .bool false, undef, undef, undef, undef, undef, undef, undef, undef, undef, undef, undef, undef, undef, undef, undef, undef, undef, undef, undef, undef, undef, undef, rfl, (by kernel_rfl), Mod.refl _ _, Nat.zero_le _, (fun i o hi => absurd hi (Nat.not_lt_zero _))⟩ ?_
    rintro _ _ r1 ⟨k, z4, z10, z11, z12, z13, z14, z15, z16, z17, z18, z19, z20, z21, z22, z23, z24, z25, z26, z27, z28, z29, z30, z31, rfl, rfl, hM1, hF1_0, hF1_1⟩
    have M5 := Mod.thin (Mod.refl [] w) hM1 (by simp)
    refine wp_seq ?_
    refine wp_seq ?_
    refine rg_lit ?_
    refine wl (sv rfl (v := .int .i64 ((k : Int))) (r_move (by kernel_rfl)) ?_)
    refine wl (sv rfl (v := .slice lA os.length lc) (r_move (by kernel_rfl)) ?_)
    refine wl (sv rfl (v := .int .i64 ((os.length : Int))) (r_len Ty.un22 (ad := lA) (n := os.length) (c := lc) (by kernel_rfl)) ?_)
    refine wl (sb rfl (r_lt (k := .i64) (m := ((k : Int))) (n := ((os.length : Int))) (by kernel_rfl) (by kernel_rfl)) ?_)
    intro b6 k7
    refine wnil ?_
    refine then_n ?_
    refine bcase b6 (fun v8 => ?_) (fun v8 => ?_)
    · have p9 := of_decide_eq_false (k7.trans v8)
      refine wp_cond_false (ebool (b := b6) (by kernel_rfl) v8) ?_
      refine wp_exit ?_
      refine then_x (by nofun) ?_
      refine then_x (by nofun) ?_
      refine inb_hit ?_
      refine then_n ?_
      refine wp_seq ?_
      refine rg_lit ?_
      refine wl (sv rfl (v := .bool true) (r_assign (by kernel_rfl)) ?_)
      refine wnil ?_
      refine then_n ?_
      refine wp_ret ?_
      refine bodyPost_ret (v := .bool true) (res1 rfl (rv_t (by kernel_rfl))) (by kernel_rfl) ?_
      exact ⟨_, rfl, fun _ => ⟨light_end hF1_1 (by omega), by omega⟩, (Mod.up M5)⟩
    · have p9 := of_decide_eq_true (k7.trans v8)
      have q10 : k < os.length := by omega
      have q11 : k < os.length := by omega
      refine wp_cond_true (ebool (b := b6) (by kernel_rfl) v8) ?_
      refine wp_skip ?_
      refine then_n ?_
      refine wp_seq ?_
      refine wp_block ?_
      refine wp_seq ?_
      refine rg_lit ?_
      refine wl (sv rfl (v := .slice lA os.length lc) (r_move (by kernel_rfl)) ?_)
      refine wl (sv rfl (v := .int .i64 ((k : Int))) (r_move (by kernel_rfl)) ?_)
      have h12 := (OpRow0.up h (Mod.up M5))
      obtain ⟨o13, ho13⟩ : ∃ x, os[k]? = some x := ⟨_, List.getElem?_eq_getElem q11⟩
      obtain ⟨g13, f13, oA13, on13, oc13, hA13, hl13, hc13, hD13, hs13⟩ := h12 k o13 ho13
      refine wl (sv rfl (v := .pointer (some ⟨g13, f13 + k * 10, none⟩)) (r_ixaddr' (A := lA) (b := g13) (o := f13) (n := os.length) (c := lc) (sz := 10) (j := (k : Int)) (m := f13 + k * 10) (by kernel_rfl) hA13 (by kernel_rfl) Ty.un22 Ty.sz40 (by omega) (by omega) (by simp)) ?_)
      refine wl (sv rfl (v := .pointer (some ⟨g13, f13 + k * 10 + 8, none⟩)) (r_fieldAddr (u := .pointer (some ⟨g13, f13 + k * 10, none⟩)) (v := .pointer (some ⟨g13, f13 + k * 10 + 8, none⟩)) (by kernel_rfl) (fun _ => (by kernel_rfl))) ?_)
      refine wl (sv rfl (v := .string o13.name) (r_loadc (by kernel_rfl) Ty.ag9 (hc13 8 _ rfl)) ?_)
      refine wl (sv rfl (v := .int .i64 ((o13.name.size : Int))) (r_lens Ty.un9 (s := o13.name) (by kernel_rfl)) ?_)
      refine wl (sb rfl (r_gt (k := .i64) (m := ((o13.name.size : Int))) (n := 40) (by kernel_rfl) (by kernel_rfl)) ?_)
      intro b14 k15
      refine wl (sv rfl (v := .bool b14) (r_move (by kernel_rfl)) ?_)
      refine bcase b14 (fun v16 => ?_) (fun v16 => ?_)
      · have p17 := of_decide_eq_false (k15.trans v16)
        refine wl (sv (wt (b := b14) rfl (by kernel_rfl) v16) (v := .slice lA os.length lc) (r_move (by kernel_rfl)) ?_)
        refine wl (sv (wt (b := b14) rfl (by kernel_rfl) v16) (v := .int .i64 ((k : Int))) (r_move (by kernel_rfl)) ?_)
        obtain ⟨g18, f18, oA18, on18, oc18, hA18, hl18, hc18, hD18, hs18⟩ := h12 k o13 ho13
        refine wl (sv (wt (b := b14) rfl (by kernel_rfl) v16) (v := .pointer (some ⟨g18, f18 + k * 10, none⟩)) (r_ixaddr' (A := lA) (b := g18) (o := f18) (n := os.length) (c := lc) (sz := 10) (j := (k : Int)) (m := f18 + k * 10) (by kernel_rfl) hA18 (by kernel_rfl) Ty.un22 Ty.sz40 (by omega) (by omega) (by simp)) ?_)
        refine wl (sv (wt (b := b14) rfl (by kernel_rfl) v16) (v := .pointer (some ⟨g18, f18 + k * 10 + 9, none⟩)) (r_fieldAddr (u := .pointer (some ⟨g18, f18 + k * 10, none⟩)) (v := .pointer (some ⟨g18, f18 + k * 10 + 9, none⟩)) (by kernel_rfl) (fun _ => (by kernel_rfl))) ?_)
        refine wl (sv (wt (b := b14) rfl (by kernel_rfl) v16) (v := .slice oA18 on18 oc18) (r_loadc (by kernel_rfl) Ty.ag33 (hc18 9 _ rfl)) ?_)
        refine wl (sv (wt (b := b14) rfl (by kernel_rfl) v16) (v := .int .i64 ((on18 : Int))) (r_len Ty.un33 (ad := oA18) (n := on18) (c := oc18) (by kernel_rfl)) ?_)
        refine wl (sb (wt (b := b14) rfl (by kernel_rfl) v16) (r_gt (k := .i64) (m := ((on18 : Int))) (n := 500) (by kernel_rfl) (by kernel_rfl)) ?_)
        intro b19 k20
        refine wl (sv rfl (v := .bool b19) (r_pick (b := false) (u := .bool true) (v := .bool b19) (ebool (b := b14) (by kernel_rfl) v16) (by kernel_rfl) (by kernel_rfl)) ?_)
        refine wnil ?_
        refine then_n ?_
        refine bcase b19 (fun v21 => ?_) (fun v21 => ?_)
        · have p22 := of_decide_eq_false (k20.trans v21)
          refine wp_cond_false (ebool (b := b19) (by kernel_rfl) v21) ?_
          refine wp_skip ?_
          refine inb_n ?_
          refine then_n ?_
          refine rg_lit ?_
          refine wl (sv rfl (v := .int .i64 ((k : Int))) (r_move (by kernel_rfl)) ?_)
          refine wl (sv rfl (v := .int .i64 (((k : Int)) + 1)) (r_add (k := .i64) (m := ((k : Int))) (n := 1) (by kernel_rfl) (by kernel_rfl) (IntWalk.i64_in _ (by omega))) ?_)
          refine wl (sv rfl (v := .int .i64 (((k : Int)) + 1)) (r_assign (by kernel_rfl)) ?_)
          refine wnil ?_
          refine then_n ?_
          refine ⟨os.length - (k + 1), ?_, (k + 1), z4, .int .i64 ((k : Int)), .slice lA os.length lc, .int .i64 ((os.length : Int)), .bool b6, .int .i64 ((k : Int)), .int .i64 (((k : Int)) + 1), .slice lA os.length lc, .int .i64 ((k : Int)), .pointer (some ⟨g13, f13 + k * 10, none⟩), .pointer (some ⟨g13, f13 + k * 10 + 8, none⟩), .string o13.name, .int .i64 ((o13.name.size : Int)), .bool b14, .bool b14, .slice lA os.length lc, .int .i64 ((k : Int)), .pointer (some ⟨g18, f18 + k * 10, none⟩), .pointer (some ⟨g18, f18 + k * 10 + 9, none⟩), .slice oA18 on18 oc18, .int .i64 ((on18 : Int)), .bool b19, .bool b19, rfl, (by kernel_rfl), hM1, (by omega), (light_next hF1_1 ho13 hD18 p22)⟩
          · omega
        · have p22 := of_decide_eq_true (k20.trans v21)
          refine wp_cond_true (ebool (b := b19) (by kernel_rfl) v21) ?_
          refine wp_seq ?_
          refine rg_lit ?_
          refine wl (sv rfl (v := .bool false) (r_assign (by kernel_rfl)) ?_)
          refine wnil ?_
          refine then_n ?_
          refine wp_ret ?_
          refine inb_r ?_
          refine then_x (by nofun) ?_
          refine then_x (by nofun) ?_
          refine inb_r ?_
          refine then_x (by nofun) ?_
          refine bodyPost_ret (v := .bool false) (res1 rfl (rv_t (by kernel_rfl))) (by kernel_rfl) ?_
          exact ⟨_, rfl, fun h => (by cases h), (Mod.up M5)⟩
      · have p17 := of_decide_eq_true (k15.trans v16)
        refine wl (sp (wf (b := b14) rfl (by kernel_rfl) v16) ?_)
        refine wl (sp (wf (b := b14) rfl (by kernel_rfl) v16) ?_)
        refine wl (sp (wf (b := b14) rfl (by kernel_rfl) v16) ?_)
        refine wl (sp (wf (b := b14) rfl (by kernel_rfl) v16) ?_)
        refine wl (sp (wf (b := b14) rfl (by kernel_rfl) v16) ?_)
        refine wl (sp (wf (b := b14) rfl (by kernel_rfl) v16) ?_)
        refine wl (sp (wf (b := b14) rfl (by kernel_rfl) v16) ?_)
        refine wl (sv rfl (v := .bool true) (r_pick (b := true) (u := .bool true) (v := undef) (ebool (b := b14) (by kernel_rfl) v16) (by kernel_rfl) (by kernel_rfl)) ?_)
        refine wnil ?_
        refine then_n ?_
        refine wp_cond_true (by kernel_rfl) ?_
        refine wp_seq ?_
        refine rg_lit ?_
        refine wl (sv rfl (v := .bool false) (r_assign (by kernel_rfl)) ?_)
        refine wnil ?_
        refine then_n ?_
        refine wp_ret ?_
        refine inb_r ?_
        refine then_x (by nofun) ?_
        refine then_x (by nofun) ?_
        refine inb_r ?_
        refine then_x (by nofun) ?_
        refine bodyPost_ret (v := .bool false) (res1 rfl (rv_t (by kernel_rfl))) (by kernel_rfl) ?_
        exact ⟨_, rfl, fun h => (by cases h), (Mod.up M5)⟩
  · have p4 := of_decide_eq_true (k2.trans v3)
    refine wp_cond_true (ebool (b := b1) (by kernel_rfl) v3) ?_
    refine wp_seq ?_
    refine rg_lit ?_
    refine wl (sv rfl (v := .bool false) (r_assign (by kernel_rfl)) ?_)
    refine wnil ?_
    refine then_n ?_
    refine wp_ret ?_
    refine then_x (by nofun) ?_
    refine bodyPost_ret (v := .bool false) (res1 rfl (rv_t (by kernel_rfl))) (by kernel_rfl) ?_
    exact ⟨_, rfl, fun h => (by cases h), (Mod.up (Mod.refl [] w))⟩
theorem bool_eq {P : Program} {f : FuncId} {args : Array Value} {w : World} {b c : Bool} (hb : b = c) (h : Calls P f args w fun e w' => e = .returned (.bool b) ∧ Up w w') : Calls P f args w fun e w' => e = .returned (.bool c) ∧ Up w w' := hb ▸ h
theorem hangs_root (L : List Item) (f : Nat) : hangsI L (f + 1) ⟨0, 0⟩ = true := by simp [hangsI, nilS]
set_option maxHeartbeats 2000000 in
theorem treeRooted_at {B : Nat} {w : World} {lA : Option Addr} {lc : Nat} {os : List OpD} (h0 : OpRow0 w lA os) (hfull : Small os → OpRow B w lA os) (hB : B ≤ w.heap.size) (hn : os.length ≤ 9223372036854775807) :
    Calls Try.prog 7 #[.slice lA os.length lc] w fun e w' => e = .returned (.bool true) ∧ Up w w' := by
  go_enter Try.func7, Try.ntmps7
  refine wp_seq ?_
  refine rg_lit ?_
  refine wl (sv rfl (v := .bool false) (r_assign (by kernel_rfl)) ?_)
  refine wnil ?_
  refine then_n ?_
  refine wp_seq ?_
  refine wp_seq ?_
  refine rg_lit ?_
  refine wl (sv rfl (v := .slice lA os.length lc) (r_move (by kernel_rfl)) ?_)
  refine wl (sc rfl (r_callv (caps := []) (all := [.slice lA os.length lc, .int .i64 60]) En.f12 (by kernel_rfl) (by kernel_rfl)) (light2_at (OpRow0.up h0 (Mod.up (Mod.refl [] w))) hn 60) ?_)
  rintro e w1 ⟨lb2, rfl, h3, u4⟩
  refine ⟨.bool lb2, rfl, ?_⟩
  have M5 := Mod.trans (Mod.refl [] w) (Mod.of_up u4)
  refine wl (sv rfl (v := .bool (!lb2)) (r_not (b := lb2) (by kernel_rfl)) ?_)
  refine wnil ?_
  refine then_n ?_
  refine bcase lb2 (fun v6 => ?_) (fun v6 => ?_)
  · refine wp_cond_true (ebool (b := !lb2) (by kernel_rfl) (bneg v6)) ?_
    refine wp_seq ?_
    refine rg_lit ?_
    refine wl (sc rfl (r_callv (caps := []) (all := []) En.f13 (by kernel_rfl) (by kernel_rfl)) (alive_at) ?_)
    rintro e w7 ⟨rfl, u8⟩
    refine ⟨.bool true, rfl, ?_⟩
    have M9 := Mod.trans M5 (Mod.of_up u8)
    refine wl (sv rfl (v := .bool true) (r_assign (by kernel_rfl)) ?_)
    refine wnil ?_
    refine then_n ?_
    refine wp_ret ?_
    refine then_x (by nofun) ?_
    refine bodyPost_ret (v := .bool true) (res1 rfl (rv_t (by kernel_rfl))) (by kernel_rfl) ?_
    exact ⟨rfl, (Mod.up M9)⟩
  · obtain ⟨hsm7, hle7⟩ := h3 v6
    have hops := hfull hsm7
    refine wp_cond_false (ebool (b := !lb2) (by kernel_rfl) (bneg v6)) ?_
    refine wp_skip ?_
    refine then_n ?_
    refine wp_seq ?_
    refine rg_lit ?_
    refine wl (sv rfl (v := .slice lA os.length lc) (r_move (by kernel_rfl)) ?_)
    have h8 := (OpRow.up hops (Mod.up M5))
    refine wl (sc rfl (r_callv (caps := []) (all := [.slice lA os.length lc]) En.f36 (by kernel_rfl) (by kernel_rfl)) (build_at h8 (Nat.le_trans hB M5.size) (by omega)) ?_)
    rintro e w9 ⟨tb, r, rfl, h10, u11, z12, z13⟩
    refine ⟨.pointer (some ⟨tb, 0, none⟩), rfl, ?_⟩
    have M14 := Mod.trans M5 (Mod.of_up u11)
    obtain ⟨hwf, hlen⟩ := buildI_wf os
    obtain ⟨L0, hL0⟩ : ∃ L, buildI os = L := ⟨_, rfl⟩
    rw [hL0] at hwf hlen h10
    obtain ⟨eshr15, clhr15, xshr15, hr15, _⟩ := h10.2.2.2.1
    refine wl (sv rfl (v := .pointer (some ⟨tb, 0, none⟩)) (r_assign (by kernel_rfl)) ?_)
    refine wnil ?_
    refine then_n ?_
    refine wp_seq ?_
    refine rg_lit ?_
    refine wl (sv rfl (v := .pointer (some ⟨tb, 0, none⟩)) (r_move (by kernel_rfl)) ?_)
    refine wl (sc rfl (r_callv (caps := []) (all := [.pointer (some ⟨tb, 0, none⟩)]) En.f21 (by kernel_rfl) (by kernel_rfl)) (row_sl (all_at h10 (Nat.le_trans hB M14.size))) ?_)
    rintro e w16 ⟨A17, c18, rfl, h19, u20⟩
    refine ⟨.slice A17 L0.length c18, rfl, ?_⟩
    have M21 := Mod.trans M14 (Mod.of_up u20)
    refine wl (sv rfl (v := .slice A17 L0.length c18) (r_assign (by kernel_rfl)) ?_)
    refine wnil ?_
    refine then_n ?_
    refine wp_seq ?_
    refine wp_seq ?_
    refine rg_lit ?_
    refine wl (sv rfl (v := .int .i64 0) (r_assign (by kernel_rfl)) ?_)
    refine wnil ?_
    refine then_n ?_
    refine wp_block ?_
    have h22 := (up_ob u20 hr15)
    have h23 := (up_ob u20 h10.1)
    have h24 := h3
    have h25 := (OpRow.up hops (Mod.up M21))
    have h26 := (TreeIs.up h10 u20)
    refine lp (fun n a r1 => ∃ (k : Nat) (Z : Nat → Value), (n = L0.length - k) ∧ (a = ⟨#[.slice lA os.length lc, undef, (Z 2), .pointer (some ⟨tb, 0, none⟩), .slice A17 L0.length c18, .int .i64 ((k : Int)), (Z 6), (Z 7), .slice lA os.length lc, .bool lb2, .bool (!lb2), undef, .slice lA os.length lc, .pointer (some ⟨tb, 0, none⟩), .pointer (some ⟨tb, 0, none⟩), .slice A17 L0.length c18, (Z 16), (Z 17), (Z 18), (Z 19), (Z 20), (Z 21), (Z 22), (Z 23), (Z 24), (Z 25), (Z 26), (Z 27), (Z 28), (Z 29), (Z 30), (Z 31), (Z 32), (Z 33), (Z 34), (Z 35), (Z 36), (Z 37), (Z 38), (Z 39), (Z 40), (Z 41), (Z 42), (Z 43), (Z 44), (Z 45), (Z 46), (Z 47), (Z 48), (Z 49), (Z 50), (Z 51), (Z 52), (Z 53), (Z 54), (Z 55), (Z 56), (Z 57), (Z 58), (Z 59), (Z 60), (Z 61), (Z 62), (Z 63), (Z 64), (Z 65), (Z 66), (Z 67), (Z 68), (Z 69), (Z 70), (Z 71), (Z 72), (Z 73), (Z 74), (Z 75), (Z 76), (Z 77), (Z 78), (Z 79), (Z 80), (Z 81), (Z 82), (Z 83), (Z 84), (Z 85), (Z 86), (Z 87), (Z 88), (Z 89), (Z 90), (Z 91), (Z 92), (Z 93), (Z 94), (Z 95), (Z 96), (Z 97), (Z 98), (Z 99), (Z 100), (Z 101), (Z 102), (Z 103), (Z 104), (Z 105), (Z 106), (Z 107), (Z 108), (Z 109), undef, undef, undef, undef, undef, undef], []⟩) ∧ (Mod [] w16 r1) ∧ (k ≤ L0.length)) ⟨_, 0, tget [undef, undef, .bool false, undef, undef, undef, undef, undef, undef, undef, undef, undef, undef, undef, undef, undef, undef, undef, undef, undef, undef, undef, undef, undef, undef, undef, undef, undef, undef, undef, undef, undef, undef, undef, undef, undef, undef, undef, undef, undef, undef, undef, undef, undef, undef, undef, undef, undef, undef, undef, undef, undef, undef, undef, undef, undef, undef, undef, undef, undef, undef, undef, undef, undef, undef, undef, undef, undef, undef, undef, undef, undef, undef, undef, undef, undef, undef, undef, undef, undef, undef, undef, undef, undef, undef, undef, undef, undef, undef, undef, undef, undef, undef, undef, undef, undef, undef, undef, undef, undef, undef, undef, undef, undef, undef, undef, undef, undef, undef, undef], rfl, (by kernel_rfl), Mod.refl _ _, Nat.zero_le _⟩ ?_
    rintro _ _ r1 ⟨k, Z, rfl, rfl, hM1, hF1_0⟩
    have M27 := Mod.thin M21 hM1 (by simp)
    refine wp_seq ?_
    refine wp_seq ?_
    refine rg_lit ?_
    refine wl (sv rfl (v := .int .i64 ((k : Int))) (r_move (by kernel_rfl)) ?_)
    refine wl (sv rfl (v := .slice A17 L0.length c18) (r_move (by kernel_rfl)) ?_)
    refine wl (sv rfl (v := .int .i64 ((L0.length : Int))) (r_len Ty.un48 (ad := A17) (n := L0.length) (c := c18) (by kernel_rfl)) ?_)
    refine wl (sb rfl (r_lt (k := .i64) (m := ((k : Int))) (n := ((L0.length : Int))) (by kernel_rfl) (by kernel_rfl)) ?_)
    intro b28 k29
    refine wnil ?_
    refine then_n ?_
    refine bcase b28 (fun v30 => ?_) (fun v30 => ?_)
    · have p31 := of_decide_eq_false (k29.trans v30)
      refine wp_cond_false (ebool (b := b28) (by kernel_rfl) v30) ?_
      refine wp_exit ?_
      refine then_x (by nofun) ?_
      refine then_x (by nofun) ?_
      refine inb_hit ?_
      refine then_n ?_
      refine wp_seq ?_
      refine rg_lit ?_
      refine wl (sv rfl (v := .pointer (some ⟨tb, 0, none⟩)) (r_move (by kernel_rfl)) ?_)
      refine wl (sv rfl (v := .agg #[.int .i64 0, .int .i64 0]) (r_build (ps := []) (cs := [.int .i64 0, .int .i64 0]) Ty.un24 Ty.zv24 Ty.pl24 (by kernel_rfl) (by kernel_rfl)) ?_)
      have h32 := (TreeIs.up h26 (Mod.up hM1))
      refine wl (sc rfl (r_callv (caps := []) (all := [.pointer (some ⟨tb, 0, none⟩), .agg #[.int .i64 0, .int .i64 0]]) En.f27 (by kernel_rfl) (by kernel_rfl)) (bool_eq (hangs_root _ _) (hangs_at h32 0 0)) ?_)
      rintro e w33 ⟨rfl, u34⟩
      refine ⟨.bool true, rfl, ?_⟩
      have M35 := Mod.trans M27 (Mod.of_up u34)
      have M36 := Mod.trans hM1 (Mod.of_up u34)
      refine wl (sv rfl (v := .bool true) (r_move (by kernel_rfl)) ?_)
      refine wl (sc (by kernel_rfl) (r_callv (caps := []) (all := []) En.f13 (by kernel_rfl) (by kernel_rfl)) (alive_at) ?_)
      rintro e w37 ⟨rfl, u38⟩
      refine ⟨.bool true, rfl, ?_⟩
      have M39 := Mod.trans M35 (Mod.of_up u38)
      have M40 := Mod.trans M36 (Mod.of_up u38)
      refine wl (sv rfl (v := .bool true) (r_pick (b := true) (u := .bool true) (v := .bool false) (by kernel_rfl) (by kernel_rfl) (by kernel_rfl)) ?_)
      refine wl (sv rfl (v := .bool true) (r_assign (by kernel_rfl)) ?_)
      refine wnil ?_
      refine then_n ?_
      refine wp_ret ?_
      refine bodyPost_ret (v := .bool true) (res1 rfl (rv_t (by kernel_rfl))) (by kernel_rfl) ?_
      exact ⟨rfl, (Mod.up M39)⟩
    · have p31 := of_decide_eq_true (k29.trans v30)
      have q32 : k < L0.length := by omega
      have q33 : k < L0.length := by omega
      refine wp_cond_true (ebool (b := b28) (by kernel_rfl) v30) ?_
      refine wp_skip ?_
      refine then_n ?_
      refine wp_seq ?_
      refine wp_block ?_
      refine wp_seq ?_
      refine wp_seq ?_
      refine rg_all (by kernel_rfl) (by kernel_rfl) ?_
      refine qv rfl (v := .pointer (some ⟨tb, 0, none⟩)) (fun _ _ => r_move (by kernel_rfl)) ?_
      refine qv rfl (v := .slice A17 L0.length c18) (fun _ _ => r_move (by kernel_rfl)) ?_
      refine qv rfl (v := .int .i64 ((k : Int))) (fun _ _ => r_move (by kernel_rfl)) ?_
      have h34 := (IRow.up h19 (Mod.up hM1))
      obtain ⟨y35, hy35⟩ : ∃ x, L0[k]? = some x := ⟨_, List.getElem?_eq_getElem q33⟩
      obtain ⟨g35, cp35, cu35, dA35, dn35, dc35, hA35, hg35, hb35, he35, hD35⟩ := h34.get hy35
      injection hA35 with hA35 _ _
      replace he35 : (cu35.toList.drop (0 + k * 10)).take 10 = [.int .i64 y35.node.t, .int .i64 y35.node.w, .int .i64 y35.parent.t, .int .i64 y35.parent.w, .string y35.name, .bool y35.dir, .bool y35.gone, .slice dA35 dn35 dc35, .int .i64 y35.by_.t, .int .i64 y35.by_.w] := by rw [Nat.zero_add]; exact he35
      refine qv rfl (v := .pointer (some ⟨g35, 0 + k * 10, none⟩)) (fun _ _ => r_ixaddr' (A := A17) (b := g35) (o := 0) (n := L0.length) (c := c18) (sz := 10) (j := (k : Int)) (by kernel_rfl) hA35 (by kernel_rfl) Ty.un48 Ty.sz35 (by omega) (by omega) (by simp)) ?_
      refine qv rfl (v := .pointer (some ⟨g35, 0 + k * 10, none⟩)) (fun _ _ => r_fieldAddr (u := .pointer (some ⟨g35, 0 + k * 10, none⟩)) (v := .pointer (some ⟨g35, 0 + k * 10, none⟩)) (by kernel_rfl) (fun _ => (by kernel_rfl))) ?_
      refine qv rfl (v := .agg #[.int .i64 y35.node.t, .int .i64 y35.node.w]) (fun _ uz => r_loads (k := 0 + k * 10) (vs := [.int .i64 y35.node.t, .int .i64 y35.node.w]) (by kernel_rfl) Ty.ag24 Ty.sz24 (up_ob uz hb35) (el_sub0 he35 rfl)) ?_
      refine qv rfl (v := .slice A17 L0.length c18) (fun _ _ => r_move (by kernel_rfl)) ?_
      refine qv rfl (v := .int .i64 ((k : Int))) (fun _ _ => r_move (by kernel_rfl)) ?_
      obtain ⟨g36, cp36, cu36, dA36, dn36, dc36, hA36, hg36, hb36, he36, hD36⟩ := h34.get hy35
      injection hA36 with hA36 _ _
      replace he36 : (cu36.toList.drop (0 + k * 10)).take 10 = [.int .i64 y35.node.t, .int .i64 y35.node.w, .int .i64 y35.parent.t, .int .i64 y35.parent.w, .string y35.name, .bool y35.dir, .bool y35.gone, .slice dA36 dn36 dc36, .int .i64 y35.by_.t, .int .i64 y35.by_.w] := by rw [Nat.zero_add]; exact he36
      refine qv rfl (v := .pointer (some ⟨g36, 0 + k * 10, none⟩)) (fun _ _ => r_ixaddr' (A := A17) (b := g36) (o := 0) (n := L0.length) (c := c18) (sz := 10) (j := (k : Int)) (by kernel_rfl) hA36 (by kernel_rfl) Ty.un48 Ty.sz35 (by omega) (by omega) (by simp)) ?_
      refine qv rfl (v := .pointer (some ⟨g36, 0 + k * 10 + 2, none⟩)) (fun _ _ => r_fieldAddr (u := .pointer (some ⟨g36, 0 + k * 10, none⟩)) (v := .pointer (some ⟨g36, 0 + k * 10 + 2, none⟩)) (by kernel_rfl) (fun _ => (by kernel_rfl))) ?_
      refine qv rfl (v := .agg #[.int .i64 y35.parent.t, .int .i64 y35.parent.w]) (fun _ uz => r_loads (k := 0 + k * 10 + 2) (vs := [.int .i64 y35.parent.t, .int .i64 y35.parent.w]) (by kernel_rfl) Ty.ag24 Ty.sz24 (up_ob uz hb36) (el_sub he36 2 rfl)) ?_
      obtain ⟨ray35, rby35, rcy35, rdy35, rey35⟩ := Wf.item hwf hlen (List.mem_of_getElem? hy35)
      have h37 := (TreeIs.up h26 (Mod.up hM1))
      refine qc rfl (v := .bool false) (fun _ _ => r_callv (caps := []) (all := [.pointer (some ⟨tb, 0, none⟩), .agg #[.int .i64 y35.node.t, .int .i64 y35.node.w], .agg #[.int .i64 y35.parent.t, .int .i64 y35.parent.w]]) En.f25 (by kernel_rfl) (by kernel_rfl)) (fun wz uz => bool_eq ray35 (within_at (TreeIs.up h37 uz) y35.node.t y35.node.w y35.parent.t y35.parent.w)) ?_ ?_
      · rintro w1 e w2 hC ⟨rfl, hu⟩; exact ⟨rfl, up_step hC hu⟩
      refine qv rfl (v := .bool false) (fun _ _ => r_move (by kernel_rfl)) ?_
      refine qv (by kernel_rfl) (v := .pointer (some ⟨tb, 0, none⟩)) (fun _ _ => r_move (by kernel_rfl)) ?_
      refine qv (by kernel_rfl) (v := .agg #[.int .i64 0, .int .i64 0]) (fun _ _ => r_build (ps := []) (cs := [.int .i64 0, .int .i64 0]) Ty.un24 Ty.zv24 Ty.pl24 (by kernel_rfl) (by kernel_rfl)) ?_
      refine qv (by kernel_rfl) (v := .slice A17 L0.length c18) (fun _ _ => r_move (by kernel_rfl)) ?_
      refine qv (by kernel_rfl) (v := .int .i64 ((k : Int))) (fun _ _ => r_move (by kernel_rfl)) ?_
      obtain ⟨g38, cp38, cu38, dA38, dn38, dc38, hA38, hg38, hb38, he38, hD38⟩ := h34.get hy35
      injection hA38 with hA38 _ _
      replace he38 : (cu38.toList.drop (0 + k * 10)).take 10 = [.int .i64 y35.node.t, .int .i64 y35.node.w, .int .i64 y35.parent.t, .int .i64 y35.parent.w, .string y35.name, .bool y35.dir, .bool y35.gone, .slice dA38 dn38 dc38, .int .i64 y35.by_.t, .int .i64 y35.by_.w] := by rw [Nat.zero_add]; exact he38
      refine qv (by kernel_rfl) (v := .pointer (some ⟨g38, 0 + k * 10, none⟩)) (fun _ _ => r_ixaddr' (A := A17) (b := g38) (o := 0) (n := L0.length) (c := c18) (sz := 10) (j := (k : Int)) (by kernel_rfl) hA38 (by kernel_rfl) Ty.un48 Ty.sz35 (by omega) (by omega) (by simp)) ?_
      refine qv (by kernel_rfl) (v := .pointer (some ⟨g38, 0 + k * 10, none⟩)) (fun _ _ => r_fieldAddr (u := .pointer (some ⟨g38, 0 + k * 10, none⟩)) (v := .pointer (some ⟨g38, 0 + k * 10, none⟩)) (by kernel_rfl) (fun _ => (by kernel_rfl))) ?_
      refine qv (by kernel_rfl) (v := .agg #[.int .i64 y35.node.t, .int .i64 y35.node.w]) (fun _ uz => r_loads (k := 0 + k * 10) (vs := [.int .i64 y35.node.t, .int .i64 y35.node.w]) (by kernel_rfl) Ty.ag24 Ty.sz24 (up_ob uz hb38) (el_sub0 he38 rfl)) ?_
      refine qc (by kernel_rfl) (v := .bool true) (fun _ _ => r_callv (caps := []) (all := [.pointer (some ⟨tb, 0, none⟩), .agg #[.int .i64 0, .int .i64 0], .agg #[.int .i64 y35.node.t, .int .i64 y35.node.w]]) En.f25 (by kernel_rfl) (by kernel_rfl)) (fun wz uz => bool_eq rby35 (within_at (TreeIs.up h37 uz) 0 0 y35.node.t y35.node.w)) ?_ ?_
      · rintro w1 e w2 hC ⟨rfl, hu⟩; exact ⟨rfl, up_step hC hu⟩
      refine qv (by kernel_rfl) (v := .bool false) (fun _ _ => r_not (b := true) (by kernel_rfl)) ?_
      refine qv rfl (v := .bool false) (fun _ _ => r_pick (b := false) (u := .bool true) (v := .bool false) (by kernel_rfl) (by kernel_rfl) (by kernel_rfl)) ?_
      refine qnil ?_
      intro w39 u40
      have M41 := Mod.trans M27 (Mod.of_up u40)
      have M42 := Mod.trans hM1 (Mod.of_up u40)
      refine then_n ?_
      refine wp_cond_false (by kernel_rfl) ?_
      refine wp_skip ?_
      refine then_n ?_
      refine wp_seq ?_
      refine rg_lit ?_
      refine wl (sv rfl (v := .pointer (some ⟨tb, 0, none⟩)) (r_move (by kernel_rfl)) ?_)
      refine wl (sv rfl (v := .slice A17 L0.length c18) (r_move (by kernel_rfl)) ?_)
      refine wl (sv rfl (v := .int .i64 ((k : Int))) (r_move (by kernel_rfl)) ?_)
      have h43 := (IRow.up h19 (Mod.up M42))
      obtain ⟨g44, cp44, cu44, dA44, dn44, dc44, hA44, hg44, hb44, he44, hD44⟩ := h43.get hy35
      injection hA44 with hA44 _ _
      replace he44 : (cu44.toList.drop (0 + k * 10)).take 10 = [.int .i64 y35.node.t, .int .i64 y35.node.w, .int .i64 y35.parent.t, .int .i64 y35.parent.w, .string y35.name, .bool y35.dir, .bool y35.gone, .slice dA44 dn44 dc44, .int .i64 y35.by_.t, .int .i64 y35.by_.w] := by rw [Nat.zero_add]; exact he44
      refine wl (sv rfl (v := .pointer (some ⟨g44, 0 + k * 10, none⟩)) (r_ixaddr' (A := A17) (b := g44) (o := 0) (n := L0.length) (c := c18) (sz := 10) (j := (k : Int)) (by kernel_rfl) hA44 (by kernel_rfl) Ty.un48 Ty.sz35 (by omega) (by omega) (by simp)) ?_)
      refine wl (sv rfl (v := .pointer (some ⟨g44, 0 + k * 10 + 2, none⟩)) (r_fieldAddr (u := .pointer (some ⟨g44, 0 + k * 10, none⟩)) (v := .pointer (some ⟨g44, 0 + k * 10 + 2, none⟩)) (by kernel_rfl) (fun _ => (by kernel_rfl))) ?_)
      refine wl (sv rfl (v := .agg #[.int .i64 y35.parent.t, .int .i64 y35.parent.w]) (r_loads (k := 0 + k * 10 + 2) (vs := [.int .i64 y35.parent.t, .int .i64 y35.parent.w]) (by kernel_rfl) Ty.ag24 Ty.sz24 hb44 (el_sub he44 2 rfl)) ?_)
      have h45 := (TreeIs.up h26 (Mod.up M42))
      refine wl (sc rfl (r_callv (caps := []) (all := [.pointer (some ⟨tb, 0, none⟩), .agg #[.int .i64 y35.parent.t, .int .i64 y35.parent.w]]) En.f23 (by kernel_rfl) (by kernel_rfl)) (get_x h45 ⟨y35.parent.t, y35.parent.w⟩ (x := (gotI L0 ⟨y35.parent.t, y35.parent.w⟩)) (b := (hasI L0 ⟨y35.parent.t, y35.parent.w⟩)) rfl rfl) ?_)
      rintro e w46 ⟨A47, n48, c49, rfl, h50, u51⟩
      refine ⟨.tuple #[.agg #[.int .i64 ((gotI L0 ⟨y35.parent.t, y35.parent.w⟩).node.t), .int .i64 ((gotI L0 ⟨y35.parent.t, y35.parent.w⟩).node.w), .int .i64 ((gotI L0 ⟨y35.parent.t, y35.parent.w⟩).parent.t), .int .i64 ((gotI L0 ⟨y35.parent.t, y35.parent.w⟩).parent.w), .string ((gotI L0 ⟨y35.parent.t, y35.parent.w⟩).name), .bool ((gotI L0 ⟨y35.parent.t, y35.parent.w⟩).dir), .bool ((gotI L0 ⟨y35.parent.t, y35.parent.w⟩).gone), .slice A47 n48 c49, .int .i64 ((gotI L0 ⟨y35.parent.t, y35.parent.w⟩).by_.t), .int .i64 ((gotI L0 ⟨y35.parent.t, y35.parent.w⟩).by_.w)], .bool ((hasI L0 ⟨y35.parent.t, y35.parent.w⟩))], rfl, ?_⟩
      have M52 := Mod.trans M41 (Mod.of_up u51)
      have M53 := Mod.trans M42 (Mod.of_up u51)
      refine wl (sv rfl (v := .tuple #[.agg #[.int .i64 ((gotI L0 ⟨y35.parent.t, y35.parent.w⟩).node.t), .int .i64 ((gotI L0 ⟨y35.parent.t, y35.parent.w⟩).node.w), .int .i64 ((gotI L0 ⟨y35.parent.t, y35.parent.w⟩).parent.t), .int .i64 ((gotI L0 ⟨y35.parent.t, y35.parent.w⟩).parent.w), .string ((gotI L0 ⟨y35.parent.t, y35.parent.w⟩).name), .bool ((gotI L0 ⟨y35.parent.t, y35.parent.w⟩).dir), .bool ((gotI L0 ⟨y35.parent.t, y35.parent.w⟩).gone), .slice A47 n48 c49, .int .i64 ((gotI L0 ⟨y35.parent.t, y35.parent.w⟩).by_.t), .int .i64 ((gotI L0 ⟨y35.parent.t, y35.parent.w⟩).by_.w)], .bool ((hasI L0 ⟨y35.parent.t, y35.parent.w⟩))]) (r_move (by kernel_rfl)) ?_)
      refine wl (sv rfl (v := .agg #[.int .i64 ((gotI L0 ⟨y35.parent.t, y35.parent.w⟩).node.t), .int .i64 ((gotI L0 ⟨y35.parent.t, y35.parent.w⟩).node.w), .int .i64 ((gotI L0 ⟨y35.parent.t, y35.parent.w⟩).parent.t), .int .i64 ((gotI L0 ⟨y35.parent.t, y35.parent.w⟩).parent.w), .string ((gotI L0 ⟨y35.parent.t, y35.parent.w⟩).name), .bool ((gotI L0 ⟨y35.parent.t, y35.parent.w⟩).dir), .bool ((gotI L0 ⟨y35.parent.t, y35.parent.w⟩).gone), .slice A47 n48 c49, .int .i64 ((gotI L0 ⟨y35.parent.t, y35.parent.w⟩).by_.t), .int .i64 ((gotI L0 ⟨y35.parent.t, y35.parent.w⟩).by_.w)]) (r_extract (vs := [.agg #[.int .i64 ((gotI L0 ⟨y35.parent.t, y35.parent.w⟩).node.t), .int .i64 ((gotI L0 ⟨y35.parent.t, y35.parent.w⟩).node.w), .int .i64 ((gotI L0 ⟨y35.parent.t, y35.parent.w⟩).parent.t), .int .i64 ((gotI L0 ⟨y35.parent.t, y35.parent.w⟩).parent.w), .string ((gotI L0 ⟨y35.parent.t, y35.parent.w⟩).name), .bool ((gotI L0 ⟨y35.parent.t, y35.parent.w⟩).dir), .bool ((gotI L0 ⟨y35.parent.t, y35.parent.w⟩).gone), .slice A47 n48 c49, .int .i64 ((gotI L0 ⟨y35.parent.t, y35.parent.w⟩).by_.t), .int .i64 ((gotI L0 ⟨y35.parent.t, y35.parent.w⟩).by_.w)], .bool ((hasI L0 ⟨y35.parent.t, y35.parent.w⟩))]) (by kernel_rfl) rfl) ?_)
      refine wl (sv rfl (v := .bool ((hasI L0 ⟨y35.parent.t, y35.parent.w⟩))) (r_extract (vs := [.agg #[.int .i64 ((gotI L0 ⟨y35.parent.t, y35.parent.w⟩).node.t), .int .i64 ((gotI L0 ⟨y35.parent.t, y35.parent.w⟩).node.w), .int .i64 ((gotI L0 ⟨y35.parent.t, y35.parent.w⟩).parent.t), .int .i64 ((gotI L0 ⟨y35.parent.t, y35.parent.w⟩).parent.w), .string ((gotI L0 ⟨y35.parent.t, y35.parent.w⟩).name), .bool ((gotI L0 ⟨y35.parent.t, y35.parent.w⟩).dir), .bool ((gotI L0 ⟨y35.parent.t, y35.parent.w⟩).gone), .slice A47 n48 c49, .int .i64 ((gotI L0 ⟨y35.parent.t, y35.parent.w⟩).by_.t), .int .i64 ((gotI L0 ⟨y35.parent.t, y35.parent.w⟩).by_.w)], .bool ((hasI L0 ⟨y35.parent.t, y35.parent.w⟩))]) (by kernel_rfl) rfl) ?_)
      refine wl (sn rfl (cs := #[.int .i64 0, .int .i64 0, .int .i64 0, .int .i64 0, .string (⟨#[]⟩), .bool false, .bool false, .slice none 0 0, .int .i64 0, .int .i64 0]) (T := 35) (V := fun b => .pointer (some ⟨b, 0, none⟩)) (r_alloc Ty.zv35 rfl) ?_)
      intro b54 w55 e56 h57 u58
      have h59 := md_ob M53 nin0 h22
      have l60 : r < b54 := by rw [e56]; exact lt_ob h59
      have h61 := md_ob M53 nin0 h23
      have l62 : tb < b54 := by rw [e56]; exact lt_ob h61
      have h63 := (up_ob u51 (up_ob u40 hb35))
      have l64 : g35 < b54 := by rw [e56]; exact lt_ob h63
      have h65 := (up_ob u51 (up_ob u40 hb36))
      have l66 : g36 < b54 := by rw [e56]; exact lt_ob h65
      have h67 := (up_ob u51 (up_ob u40 hb38))
      have l68 : g38 < b54 := by rw [e56]; exact lt_ob h67
      have h69 := (up_ob u51 hb44)
      have l70 : g44 < b54 := by rw [e56]; exact lt_ob h69
      have g71 : w.heap.size ≤ b54 := by rw [e56]; exact M52.size
      have g72 : w16.heap.size ≤ b54 := by rw [e56]; exact M53.size
      have M73 := Mod.trans M52 (Mod.of_up u58)
      have M74 := Mod.trans M53 (Mod.of_up u58)
      refine wl (ss rfl (k := 0) (v := .agg #[.int .i64 ((gotI L0 ⟨y35.parent.t, y35.parent.w⟩).node.t), .int .i64 ((gotI L0 ⟨y35.parent.t, y35.parent.w⟩).node.w), .int .i64 ((gotI L0 ⟨y35.parent.t, y35.parent.w⟩).parent.t), .int .i64 ((gotI L0 ⟨y35.parent.t, y35.parent.w⟩).parent.w), .string ((gotI L0 ⟨y35.parent.t, y35.parent.w⟩).name), .bool ((gotI L0 ⟨y35.parent.t, y35.parent.w⟩).dir), .bool ((gotI L0 ⟨y35.parent.t, y35.parent.w⟩).gone), .slice A47 n48 c49, .int .i64 ((gotI L0 ⟨y35.parent.t, y35.parent.w⟩).by_.t), .int .i64 ((gotI L0 ⟨y35.parent.t, y35.parent.w⟩).by_.w)]) (vs := [.int .i64 ((gotI L0 ⟨y35.parent.t, y35.parent.w⟩).node.t), .int .i64 ((gotI L0 ⟨y35.parent.t, y35.parent.w⟩).node.w), .int .i64 ((gotI L0 ⟨y35.parent.t, y35.parent.w⟩).parent.t), .int .i64 ((gotI L0 ⟨y35.parent.t, y35.parent.w⟩).parent.w), .string ((gotI L0 ⟨y35.parent.t, y35.parent.w⟩).name), .bool ((gotI L0 ⟨y35.parent.t, y35.parent.w⟩).dir), .bool ((gotI L0 ⟨y35.parent.t, y35.parent.w⟩).gone), .slice A47 n48 c49, .int .i64 ((gotI L0 ⟨y35.parent.t, y35.parent.w⟩).by_.t), .int .i64 ((gotI L0 ⟨y35.parent.t, y35.parent.w⟩).by_.w)]) (cs' := [.int .i64 ((gotI L0 ⟨y35.parent.t, y35.parent.w⟩).node.t), .int .i64 ((gotI L0 ⟨y35.parent.t, y35.parent.w⟩).node.w), .int .i64 ((gotI L0 ⟨y35.parent.t, y35.parent.w⟩).parent.t), .int .i64 ((gotI L0 ⟨y35.parent.t, y35.parent.w⟩).parent.w), .string ((gotI L0 ⟨y35.parent.t, y35.parent.w⟩).name), .bool ((gotI L0 ⟨y35.parent.t, y35.parent.w⟩).dir), .bool ((gotI L0 ⟨y35.parent.t, y35.parent.w⟩).gone), .slice A47 n48 c49, .int .i64 ((gotI L0 ⟨y35.parent.t, y35.parent.w⟩).by_.t), .int .i64 ((gotI L0 ⟨y35.parent.t, y35.parent.w⟩).by_.w)]) (by kernel_rfl) (by kernel_rfl) rfl Ty.sz35 h57 rfl (Nat.le_of_ble_eq_true rfl) rfl ?_)
      intro w75 h76 c77
      have M78 := Mod.trans' M73 c77 (fun i hi => by injection hi with hi; rw [← hi]; exact g71)
      have M79 := Mod.trans' M74 c77 (fun i hi => by injection hi with hi; rw [← hi]; exact g72)
      refine wl (sv rfl (v := .bool ((hasI L0 ⟨y35.parent.t, y35.parent.w⟩))) (r_assign (by kernel_rfl)) ?_)
      refine wnil ?_
      refine then_n ?_
      refine wp_seq ?_
      refine wp_seq ?_
      refine rg_lit ?_
      refine wl (sv rfl (v := .slice A17 L0.length c18) (r_move (by kernel_rfl)) ?_)
      refine wl (sv rfl (v := .int .i64 ((k : Int))) (r_move (by kernel_rfl)) ?_)
      have h80 := (IRow.up h19 (Mod.up M79))
      obtain ⟨g81, cp81, cu81, dA81, dn81, dc81, hA81, hg81, hb81, he81, hD81⟩ := h80.get hy35
      injection hA81 with hA81 _ _
      replace he81 : (cu81.toList.drop (0 + k * 10)).take 10 = [.int .i64 y35.node.t, .int .i64 y35.node.w, .int .i64 y35.parent.t, .int .i64 y35.parent.w, .string y35.name, .bool y35.dir, .bool y35.gone, .slice dA81 dn81 dc81, .int .i64 y35.by_.t, .int .i64 y35.by_.w] := by rw [Nat.zero_add]; exact he81
      refine wl (sv rfl (v := .pointer (some ⟨g81, 0 + k * 10, none⟩)) (r_ixaddr' (A := A17) (b := g81) (o := 0) (n := L0.length) (c := c18) (sz := 10) (j := (k : Int)) (by kernel_rfl) hA81 (by kernel_rfl) Ty.un48 Ty.sz35 (by omega) (by omega) (by simp)) ?_)
      refine wl (sv rfl (v := .pointer (some ⟨g81, 0 + k * 10 + 2, none⟩)) (r_fieldAddr (u := .pointer (some ⟨g81, 0 + k * 10, none⟩)) (v := .pointer (some ⟨g81, 0 + k * 10 + 2, none⟩)) (by kernel_rfl) (fun _ => (by kernel_rfl))) ?_)
      refine wl (sv rfl (v := .agg #[.int .i64 y35.parent.t, .int .i64 y35.parent.w]) (r_loads (k := 0 + k * 10 + 2) (vs := [.int .i64 y35.parent.t, .int .i64 y35.parent.w]) (by kernel_rfl) Ty.ag24 Ty.sz24 hb81 (el_sub he81 2 rfl)) ?_)
      refine wl (sv rfl (v := .agg #[.int .i64 0, .int .i64 0]) (r_build (ps := []) (cs := [.int .i64 0, .int .i64 0]) Ty.un24 Ty.zv24 Ty.pl24 (by kernel_rfl) (by kernel_rfl)) ?_)
      refine wl (sb rfl (r_neS (a := y35.parent.t) (b := y35.parent.w) (c := 0) (e := 0) (by kernel_rfl) (by kernel_rfl)) ?_)
      intro b82 k83
      refine wl (sv rfl (v := .bool b82) (r_move (by kernel_rfl)) ?_)
      refine bcase b82 (fun v84 => ?_) (fun v84 => ?_)
      · have p85 := of_decide_eq_false (k83.trans v84)
        refine wl (sp (wf (b := b82) rfl (by kernel_rfl) v84) ?_)
        refine wl (sp (wf (b := b82) rfl (by kernel_rfl) v84) ?_)
        refine wl (sp (wf (b := b82) rfl (by kernel_rfl) v84) ?_)
        refine wl (sp (by kernel_rfl) ?_)
        refine wl (sp (by kernel_rfl) ?_)
        refine wl (sp (by kernel_rfl) ?_)
        refine wl (sp (wf (b := b82) rfl (by kernel_rfl) v84) ?_)
        refine wl (sv rfl (v := .bool false) (r_pick (b := false) (u := undef) (v := .bool false) (ebool (b := b82) (by kernel_rfl) v84) (by kernel_rfl) (by kernel_rfl)) ?_)
        refine wnil ?_
        refine then_n ?_
        refine wp_cond_false (by kernel_rfl) ?_
        refine wp_skip ?_
        refine then_n ?_
        refine wp_seq ?_
        refine rg_all (by kernel_rfl) (by kernel_rfl) ?_
        refine qv rfl (v := .pointer (some ⟨tb, 0, none⟩)) (fun _ _ => r_move (by kernel_rfl)) ?_
        refine qv rfl (v := .slice A17 L0.length c18) (fun _ _ => r_move (by kernel_rfl)) ?_
        refine qv rfl (v := .int .i64 ((k : Int))) (fun _ _ => r_move (by kernel_rfl)) ?_
        obtain ⟨g86, cp86, cu86, dA86, dn86, dc86, hA86, hg86, hb86, he86, hD86⟩ := h80.get hy35
        injection hA86 with hA86 _ _
        replace he86 : (cu86.toList.drop (0 + k * 10)).take 10 = [.int .i64 y35.node.t, .int .i64 y35.node.w, .int .i64 y35.parent.t, .int .i64 y35.parent.w, .string y35.name, .bool y35.dir, .bool y35.gone, .slice dA86 dn86 dc86, .int .i64 y35.by_.t, .int .i64 y35.by_.w] := by rw [Nat.zero_add]; exact he86
        refine qv rfl (v := .pointer (some ⟨g86, 0 + k * 10, none⟩)) (fun _ _ => r_ixaddr' (A := A17) (b := g86) (o := 0) (n := L0.length) (c := c18) (sz := 10) (j := (k : Int)) (by kernel_rfl) hA86 (by kernel_rfl) Ty.un48 Ty.sz35 (by omega) (by omega) (by simp)) ?_
        refine qv rfl (v := .pointer (some ⟨g86, 0 + k * 10, none⟩)) (fun _ _ => r_fieldAddr (u := .pointer (some ⟨g86, 0 + k * 10, none⟩)) (v := .pointer (some ⟨g86, 0 + k * 10, none⟩)) (by kernel_rfl) (fun _ => (by kernel_rfl))) ?_
        refine qv rfl (v := .agg #[.int .i64 y35.node.t, .int .i64 y35.node.w]) (fun _ uz => r_loads (k := 0 + k * 10) (vs := [.int .i64 y35.node.t, .int .i64 y35.node.w]) (by kernel_rfl) Ty.ag24 Ty.sz24 (up_ob uz hb86) (el_sub0 he86 rfl)) ?_
        have h87 := (TreeIs.up h26 (Mod.up M79))
        refine qc rfl (v := .bool ((hangsI L0 301 ⟨y35.node.t, y35.node.w⟩))) (fun _ _ => r_callv (caps := []) (all := [.pointer (some ⟨tb, 0, none⟩), .agg #[.int .i64 y35.node.t, .int .i64 y35.node.w]]) En.f27 (by kernel_rfl) (by kernel_rfl)) (fun wz uz => hangs_at (TreeIs.up h87 uz) y35.node.t y35.node.w) ?_ ?_
        · rintro w1 e w2 hC ⟨rfl, hu⟩; exact ⟨rfl, up_step hC hu⟩
        refine qv rfl (v := .slice A17 L0.length c18) (fun _ _ => r_move (by kernel_rfl)) ?_
        refine qv rfl (v := .int .i64 ((k : Int))) (fun _ _ => r_move (by kernel_rfl)) ?_
        obtain ⟨g88, cp88, cu88, dA88, dn88, dc88, hA88, hg88, hb88, he88, hD88⟩ := h80.get hy35
        injection hA88 with hA88 _ _
        replace he88 : (cu88.toList.drop (0 + k * 10)).take 10 = [.int .i64 y35.node.t, .int .i64 y35.node.w, .int .i64 y35.parent.t, .int .i64 y35.parent.w, .string y35.name, .bool y35.dir, .bool y35.gone, .slice dA88 dn88 dc88, .int .i64 y35.by_.t, .int .i64 y35.by_.w] := by rw [Nat.zero_add]; exact he88
        refine qv rfl (v := .pointer (some ⟨g88, 0 + k * 10, none⟩)) (fun _ _ => r_ixaddr' (A := A17) (b := g88) (o := 0) (n := L0.length) (c := c18) (sz := 10) (j := (k : Int)) (by kernel_rfl) hA88 (by kernel_rfl) Ty.un48 Ty.sz35 (by omega) (by omega) (by simp)) ?_
        refine qv rfl (v := .pointer (some ⟨g88, 0 + k * 10 + 6, none⟩)) (fun _ _ => r_fieldAddr (u := .pointer (some ⟨g88, 0 + k * 10, none⟩)) (v := .pointer (some ⟨g88, 0 + k * 10 + 6, none⟩)) (by kernel_rfl) (fun _ => (by kernel_rfl))) ?_
        refine qv rfl (v := .bool y35.gone) (fun _ uz => r_load (k := 0 + k * 10 + 6) (v := .bool y35.gone) (by kernel_rfl) Ty.ag4 (up_ob uz hb88) (el_get he88 6 rfl)) ?_
        refine qv rfl (v := .bool (!y35.gone)) (fun _ _ => r_not (b := y35.gone) (by kernel_rfl)) ?_
        refine qv rfl (v := .bool (!y35.gone)) (fun _ _ => r_move (by kernel_rfl)) ?_
        refine bcase y35.gone (fun v89 => ?_) (fun v89 => ?_)
        · refine qv (wt (b := !y35.gone) rfl (by kernel_rfl) (bneg v89)) (v := .pointer (some ⟨tb, 0, none⟩)) (fun _ _ => r_move (by kernel_rfl)) ?_
          refine qv (wt (b := !y35.gone) rfl (by kernel_rfl) (bneg v89)) (v := .slice A17 L0.length c18) (fun _ _ => r_move (by kernel_rfl)) ?_
          refine qv (wt (b := !y35.gone) rfl (by kernel_rfl) (bneg v89)) (v := .int .i64 ((k : Int))) (fun _ _ => r_move (by kernel_rfl)) ?_
          obtain ⟨g90, cp90, cu90, dA90, dn90, dc90, hA90, hg90, hb90, he90, hD90⟩ := h80.get hy35
          injection hA90 with hA90 _ _
          replace he90 : (cu90.toList.drop (0 + k * 10)).take 10 = [.int .i64 y35.node.t, .int .i64 y35.node.w, .int .i64 y35.parent.t, .int .i64 y35.parent.w, .string y35.name, .bool y35.dir, .bool y35.gone, .slice dA90 dn90 dc90, .int .i64 y35.by_.t, .int .i64 y35.by_.w] := by rw [Nat.zero_add]; exact he90
          refine qv (wt (b := !y35.gone) rfl (by kernel_rfl) (bneg v89)) (v := .pointer (some ⟨g90, 0 + k * 10, none⟩)) (fun _ _ => r_ixaddr' (A := A17) (b := g90) (o := 0) (n := L0.length) (c := c18) (sz := 10) (j := (k : Int)) (by kernel_rfl) hA90 (by kernel_rfl) Ty.un48 Ty.sz35 (by omega) (by omega) (by simp)) ?_
          refine qv (wt (b := !y35.gone) rfl (by kernel_rfl) (bneg v89)) (v := .pointer (some ⟨g90, 0 + k * 10 + 2, none⟩)) (fun _ _ => r_fieldAddr (u := .pointer (some ⟨g90, 0 + k * 10, none⟩)) (v := .pointer (some ⟨g90, 0 + k * 10 + 2, none⟩)) (by kernel_rfl) (fun _ => (by kernel_rfl))) ?_
          refine qv (wt (b := !y35.gone) rfl (by kernel_rfl) (bneg v89)) (v := .agg #[.int .i64 y35.parent.t, .int .i64 y35.parent.w]) (fun _ uz => r_loads (k := 0 + k * 10 + 2) (vs := [.int .i64 y35.parent.t, .int .i64 y35.parent.w]) (by kernel_rfl) Ty.ag24 Ty.sz24 (up_ob uz hb90) (el_sub he90 2 rfl)) ?_
          refine qc (wt (b := !y35.gone) rfl (by kernel_rfl) (bneg v89)) (v := .bool ((hangsI L0 301 ⟨y35.parent.t, y35.parent.w⟩))) (fun _ _ => r_callv (caps := []) (all := [.pointer (some ⟨tb, 0, none⟩), .agg #[.int .i64 y35.parent.t, .int .i64 y35.parent.w]]) En.f27 (by kernel_rfl) (by kernel_rfl)) (fun wz uz => hangs_at (TreeIs.up h87 uz) y35.parent.t y35.parent.w) ?_ ?_
          · rintro w1 e w2 hC ⟨rfl, hu⟩; exact ⟨rfl, up_step hC hu⟩
          refine qv rfl (v := .bool ((hangsI L0 301 ⟨y35.parent.t, y35.parent.w⟩))) (fun _ _ => r_pick (b := true) (u := .bool ((hangsI L0 301 ⟨y35.parent.t, y35.parent.w⟩))) (v := .bool false) (ebool (b := !y35.gone) (by kernel_rfl) (bneg v89)) (by kernel_rfl) (by kernel_rfl)) ?_
          refine bcase ((hangsI L0 301 ⟨y35.node.t, y35.node.w⟩)) (fun v91 => ?_) (fun v91 => ?_)
          · refine bcase ((hangsI L0 301 ⟨y35.parent.t, y35.parent.w⟩)) (fun v92 => ?_) (fun v92 => ?_)
            · refine qv rfl (v := .bool false) (fun _ _ => r_neb (a := false) (b := false) Try.underlying4 (ebool (b := (hangsI L0 301 ⟨y35.node.t, y35.node.w⟩)) (by kernel_rfl) v91) (ebool (b := (hangsI L0 301 ⟨y35.parent.t, y35.parent.w⟩)) (by kernel_rfl) v92)) ?_
              refine qv rfl (v := .bool false) (fun _ _ => r_move (by kernel_rfl)) ?_
              refine qv (by kernel_rfl) (v := .slice A17 L0.length c18) (fun _ _ => r_move (by kernel_rfl)) ?_
              refine qv (by kernel_rfl) (v := .int .i64 ((k : Int))) (fun _ _ => r_move (by kernel_rfl)) ?_
              obtain ⟨g93, cp93, cu93, dA93, dn93, dc93, hA93, hg93, hb93, he93, hD93⟩ := h80.get hy35
              injection hA93 with hA93 _ _
              replace he93 : (cu93.toList.drop (0 + k * 10)).take 10 = [.int .i64 y35.node.t, .int .i64 y35.node.w, .int .i64 y35.parent.t, .int .i64 y35.parent.w, .string y35.name, .bool y35.dir, .bool y35.gone, .slice dA93 dn93 dc93, .int .i64 y35.by_.t, .int .i64 y35.by_.w] := by rw [Nat.zero_add]; exact he93
              refine qv (by kernel_rfl) (v := .pointer (some ⟨g93, 0 + k * 10, none⟩)) (fun _ _ => r_ixaddr' (A := A17) (b := g93) (o := 0) (n := L0.length) (c := c18) (sz := 10) (j := (k : Int)) (by kernel_rfl) hA93 (by kernel_rfl) Ty.un48 Ty.sz35 (by omega) (by omega) (by simp)) ?_
              refine qv (by kernel_rfl) (v := .pointer (some ⟨g93, 0 + k * 10 + 5, none⟩)) (fun _ _ => r_fieldAddr (u := .pointer (some ⟨g93, 0 + k * 10, none⟩)) (v := .pointer (some ⟨g93, 0 + k * 10 + 5, none⟩)) (by kernel_rfl) (fun _ => (by kernel_rfl))) ?_
              refine qv (by kernel_rfl) (v := .bool y35.dir) (fun _ uz => r_load (k := 0 + k * 10 + 5) (v := .bool y35.dir) (by kernel_rfl) Ty.ag4 (up_ob uz hb93) (el_get he93 5 rfl)) ?_
              refine qv (by kernel_rfl) (v := .bool y35.dir) (fun _ _ => r_move (by kernel_rfl)) ?_
              refine bcase y35.dir (fun v94 => ?_) (fun v94 => ?_)
              · refine qp (wf (b := y35.dir) rfl (by kernel_rfl) v94) ?_
                refine qp (wf (b := y35.dir) rfl (by kernel_rfl) v94) ?_
                refine qp (wf (b := y35.dir) rfl (by kernel_rfl) v94) ?_
                refine qp (wf (b := y35.dir) rfl (by kernel_rfl) v94) ?_
                refine qp (wf (b := y35.dir) rfl (by kernel_rfl) v94) ?_
                refine qp (wf (b := y35.dir) rfl (by kernel_rfl) v94) ?_
                refine qp (wf (b := y35.dir) rfl (by kernel_rfl) v94) ?_
                refine qv (by kernel_rfl) (v := .bool false) (fun _ _ => r_pick (b := false) (u := undef) (v := .bool false) (ebool (b := y35.dir) (by kernel_rfl) v94) (by kernel_rfl) (by kernel_rfl)) ?_
                refine qv rfl (v := .bool false) (fun _ _ => r_pick (b := false) (u := .bool true) (v := .bool false) (by kernel_rfl) (by kernel_rfl) (by kernel_rfl)) ?_
                refine qnil ?_
                intro w95 u96
                have M97 := Mod.trans M78 (Mod.of_up u96)
                have M98 := Mod.trans M79 (Mod.of_up u96)
                refine then_n ?_
                refine wp_cond_false (by kernel_rfl) ?_
                refine wp_skip ?_
                refine inb_n ?_
                refine then_n ?_
                refine rg_lit ?_
                refine wl (sv rfl (v := .int .i64 ((k : Int))) (r_move (by kernel_rfl)) ?_)
                refine wl (sv rfl (v := .int .i64 (((k : Int)) + 1)) (r_add (k := .i64) (m := ((k : Int))) (n := 1) (by kernel_rfl) (by kernel_rfl) (IntWalk.i64_in _ (by omega))) ?_)
                refine wl (sv rfl (v := .int .i64 (((k : Int)) + 1)) (r_assign (by kernel_rfl)) ?_)
                refine wnil ?_
                refine then_n ?_
                refine ⟨L0.length - (k + 1), ?_, (k + 1), tget [undef, undef, (Z 2), undef, undef, undef, .pointer (some ⟨b54, 0, none⟩), .bool ((hasI L0 ⟨y35.parent.t, y35.parent.w⟩)), undef, undef, undef, undef, undef, undef, undef, undef, .int .i64 ((k : Int)), .slice A17 L0.length c18, .int .i64 ((L0.length : Int)), .bool b28, .int .i64 ((k : Int)), .int .i64 (((k : Int)) + 1), .pointer (some ⟨tb, 0, none⟩), .slice A17 L0.length c18, .int .i64 ((k : Int)), .pointer (some ⟨g35, 0 + k * 10, none⟩), .pointer (some ⟨g35, 0 + k * 10, none⟩), .agg #[.int .i64 y35.node.t, .int .i64 y35.node.w], .slice A17 L0.length c18, .int .i64 ((k : Int)), .pointer (some ⟨g36, 0 + k * 10, none⟩), .pointer (some ⟨g36, 0 + k * 10 + 2, none⟩), .agg #[.int .i64 y35.parent.t, .int .i64 y35.parent.w], .bool false, .bool false, .pointer (some ⟨tb, 0, none⟩), .agg #[.int .i64 0, .int .i64 0], .slice A17 L0.length c18, .int .i64 ((k : Int)), .pointer (some ⟨g38, 0 + k * 10, none⟩), .pointer (some ⟨g38, 0 + k * 10, none⟩), .agg #[.int .i64 y35.node.t, .int .i64 y35.node.w], .bool true, .bool false, .bool false, .tuple #[.agg #[.int .i64 ((gotI L0 ⟨y35.parent.t, y35.parent.w⟩).node.t), .int .i64 ((gotI L0 ⟨y35.parent.t, y35.parent.w⟩).node.w), .int .i64 ((gotI L0 ⟨y35.parent.t, y35.parent.w⟩).parent.t), .int .i64 ((gotI L0 ⟨y35.parent.t, y35.parent.w⟩).parent.w), .string ((gotI L0 ⟨y35.parent.t, y35.parent.w⟩).name), .bool ((gotI L0 ⟨y35.parent.t, y35.parent.w⟩).dir), .bool ((gotI L0 ⟨y35.parent.t, y35.parent.w⟩).gone), .slice A47 n48 c49, .int .i64 ((gotI L0 ⟨y35.parent.t, y35.parent.w⟩).by_.t), .int .i64 ((gotI L0 ⟨y35.parent.t, y35.parent.w⟩).by_.w)], .bool ((hasI L0 ⟨y35.parent.t, y35.parent.w⟩))], .pointer (some ⟨tb, 0, none⟩), .slice A17 L0.length c18, .int .i64 ((k : Int)), .pointer (some ⟨g44, 0 + k * 10, none⟩), .pointer (some ⟨g44, 0 + k * 10 + 2, none⟩), .agg #[.int .i64 y35.parent.t, .int .i64 y35.parent.w], .tuple #[.agg #[.int .i64 ((gotI L0 ⟨y35.parent.t, y35.parent.w⟩).node.t), .int .i64 ((gotI L0 ⟨y35.parent.t, y35.parent.w⟩).node.w), .int .i64 ((gotI L0 ⟨y35.parent.t, y35.parent.w⟩).parent.t), .int .i64 ((gotI L0 ⟨y35.parent.t, y35.parent.w⟩).parent.w), .string ((gotI L0 ⟨y35.parent.t, y35.parent.w⟩).name), .bool ((gotI L0 ⟨y35.parent.t, y35.parent.w⟩).dir), .bool ((gotI L0 ⟨y35.parent.t, y35.parent.w⟩).gone), .slice A47 n48 c49, .int .i64 ((gotI L0 ⟨y35.parent.t, y35.parent.w⟩).by_.t), .int .i64 ((gotI L0 ⟨y35.parent.t, y35.parent.w⟩).by_.w)], .bool ((hasI L0 ⟨y35.parent.t, y35.parent.w⟩))], .agg #[.int .i64 ((gotI L0 ⟨y35.parent.t, y35.parent.w⟩).node.t), .int .i64 ((gotI L0 ⟨y35.parent.t, y35.parent.w⟩).node.w), .int .i64 ((gotI L0 ⟨y35.parent.t, y35.parent.w⟩).parent.t), .int .i64 ((gotI L0 ⟨y35.parent.t, y35.parent.w⟩).parent.w), .string ((gotI L0 ⟨y35.parent.t, y35.parent.w⟩).name), .bool ((gotI L0 ⟨y35.parent.t, y35.parent.w⟩).dir), .bool ((gotI L0 ⟨y35.parent.t, y35.parent.w⟩).gone), .slice A47 n48 c49, .int .i64 ((gotI L0 ⟨y35.parent.t, y35.parent.w⟩).by_.t), .int .i64 ((gotI L0 ⟨y35.parent.t, y35.parent.w⟩).by_.w)], .bool ((hasI L0 ⟨y35.parent.t, y35.parent.w⟩)), .slice A17 L0.length c18, .int .i64 ((k : Int)), .pointer (some ⟨g81, 0 + k * 10, none⟩), .pointer (some ⟨g81, 0 + k * 10 + 2, none⟩), .agg #[.int .i64 y35.parent.t, .int .i64 y35.parent.w], .agg #[.int .i64 0, .int .i64 0], .bool b82, .bool b82, undef, undef, undef, undef, undef, undef, undef, .bool false, .pointer (some ⟨tb, 0, none⟩), .slice A17 L0.length c18, .int .i64 ((k : Int)), .pointer (some ⟨g86, 0 + k * 10, none⟩), .pointer (some ⟨g86, 0 + k * 10, none⟩), .agg #[.int .i64 y35.node.t, .int .i64 y35.node.w], .bool ((hangsI L0 301 ⟨y35.node.t, y35.node.w⟩)), .slice A17 L0.length c18, .int .i64 ((k : Int)), .pointer (some ⟨g88, 0 + k * 10, none⟩), .pointer (some ⟨g88, 0 + k * 10 + 6, none⟩), .bool y35.gone, .bool (!y35.gone), .bool (!y35.gone), .pointer (some ⟨tb, 0, none⟩), .slice A17 L0.length c18, .int .i64 ((k : Int)), .pointer (some ⟨g90, 0 + k * 10, none⟩), .pointer (some ⟨g90, 0 + k * 10 + 2, none⟩), .agg #[.int .i64 y35.parent.t, .int .i64 y35.parent.w], .bool ((hangsI L0 301 ⟨y35.parent.t, y35.parent.w⟩)), .bool ((hangsI L0 301 ⟨y35.parent.t, y35.parent.w⟩)), .bool false, .bool false, .slice A17 L0.length c18, .int .i64 ((k : Int)), .pointer (some ⟨g93, 0 + k * 10, none⟩), .pointer (some ⟨g93, 0 + k * 10 + 5, none⟩), .bool y35.dir, .bool y35.dir, undef, undef, undef, undef, undef, undef, undef, .bool false, .bool false], rfl, (by kernel_rfl), M98, (by omega)⟩
                · omega
              · refine qv (wt (b := y35.dir) rfl (by kernel_rfl) v94) (v := .slice A17 L0.length c18) (fun _ _ => r_move (by kernel_rfl)) ?_
                refine qv (wt (b := y35.dir) rfl (by kernel_rfl) v94) (v := .int .i64 ((k : Int))) (fun _ _ => r_move (by kernel_rfl)) ?_
                obtain ⟨g95, cp95, cu95, dA95, dn95, dc95, hA95, hg95, hb95, he95, hD95⟩ := h80.get hy35
                injection hA95 with hA95 _ _
                replace he95 : (cu95.toList.drop (0 + k * 10)).take 10 = [.int .i64 y35.node.t, .int .i64 y35.node.w, .int .i64 y35.parent.t, .int .i64 y35.parent.w, .string y35.name, .bool y35.dir, .bool y35.gone, .slice dA95 dn95 dc95, .int .i64 y35.by_.t, .int .i64 y35.by_.w] := by rw [Nat.zero_add]; exact he95
                refine qv (wt (b := y35.dir) rfl (by kernel_rfl) v94) (v := .pointer (some ⟨g95, 0 + k * 10, none⟩)) (fun _ _ => r_ixaddr' (A := A17) (b := g95) (o := 0) (n := L0.length) (c := c18) (sz := 10) (j := (k : Int)) (by kernel_rfl) hA95 (by kernel_rfl) Ty.un48 Ty.sz35 (by omega) (by omega) (by simp)) ?_
                refine qv (wt (b := y35.dir) rfl (by kernel_rfl) v94) (v := .pointer (some ⟨g95, 0 + k * 10 + 7, none⟩)) (fun _ _ => r_fieldAddr (u := .pointer (some ⟨g95, 0 + k * 10, none⟩)) (v := .pointer (some ⟨g95, 0 + k * 10 + 7, none⟩)) (by kernel_rfl) (fun _ => (by kernel_rfl))) ?_
                refine qv (wt (b := y35.dir) rfl (by kernel_rfl) v94) (v := .slice dA95 dn95 dc95) (fun _ uz => r_load (k := 0 + k * 10 + 7) (v := .slice dA95 dn95 dc95) (by kernel_rfl) Ty.ag33 (up_ob uz hb95) (el_get he95 7 rfl)) ?_
                refine qv (wt (b := y35.dir) rfl (by kernel_rfl) v94) (v := .int .i64 ((dn95 : Int))) (fun _ _ => r_len Ty.un33 (ad := dA95) (n := dn95) (c := dc95) (by kernel_rfl)) ?_
                refine qb (wt (b := y35.dir) rfl (by kernel_rfl) v94) (fun _ _ => r_gt (k := .i64) (m := ((dn95 : Int))) (n := 0) (by kernel_rfl) (by kernel_rfl)) ?_
                intro b96 k97
                refine qv (by kernel_rfl) (v := .bool b96) (fun _ _ => r_pick (b := true) (u := .bool b96) (v := .bool false) (ebool (b := y35.dir) (by kernel_rfl) v94) (by kernel_rfl) (by kernel_rfl)) ?_
                refine qv rfl (v := .bool b96) (fun _ _ => r_pick (b := false) (u := .bool true) (v := .bool b96) (by kernel_rfl) (by kernel_rfl) (by kernel_rfl)) ?_
                refine qnil ?_
                intro w98 u99
                have M100 := Mod.trans M78 (Mod.of_up u99)
                have M101 := Mod.trans M79 (Mod.of_up u99)
                refine then_n ?_
                refine bcase b96 (fun v102 => ?_) (fun v102 => ?_)
                · have p103 := of_decide_eq_false (k97.trans v102)
                  refine wp_cond_false (ebool (b := b96) (by kernel_rfl) v102) ?_
                  refine wp_skip ?_
                  refine inb_n ?_
                  refine then_n ?_
                  refine rg_lit ?_
                  refine wl (sv rfl (v := .int .i64 ((k : Int))) (r_move (by kernel_rfl)) ?_)
                  refine wl (sv rfl (v := .int .i64 (((k : Int)) + 1)) (r_add (k := .i64) (m := ((k : Int))) (n := 1) (by kernel_rfl) (by kernel_rfl) (IntWalk.i64_in _ (by omega))) ?_)
                  refine wl (sv rfl (v := .int .i64 (((k : Int)) + 1)) (r_assign (by kernel_rfl)) ?_)
                  refine wnil ?_
                  refine then_n ?_
                  refine ⟨L0.length - (k + 1), ?_, (k + 1), tget [undef, undef, (Z 2), undef, undef, undef, .pointer (some ⟨b54, 0, none⟩), .bool ((hasI L0 ⟨y35.parent.t, y35.parent.w⟩)), undef, undef, undef, undef, undef, undef, undef, undef, .int .i64 ((k : Int)), .slice A17 L0.length c18, .int .i64 ((L0.length : Int)), .bool b28, .int .i64 ((k : Int)), .int .i64 (((k : Int)) + 1), .pointer (some ⟨tb, 0, none⟩), .slice A17 L0.length c18, .int .i64 ((k : Int)), .pointer (some ⟨g35, 0 + k * 10, none⟩), .pointer (some ⟨g35, 0 + k * 10, none⟩), .agg #[.int .i64 y35.node.t, .int .i64 y35.node.w], .slice A17 L0.length c18, .int .i64 ((k : Int)), .pointer (some ⟨g36, 0 + k * 10, none⟩), .pointer (some ⟨g36, 0 + k * 10 + 2, none⟩), .agg #[.int .i64 y35.parent.t, .int .i64 y35.parent.w], .bool false, .bool false, .pointer (some ⟨tb, 0, none⟩), .agg #[.int .i64 0, .int .i64 0], .slice A17 L0.length c18, .int .i64 ((k : Int)), .pointer (some ⟨g38, 0 + k * 10, none⟩), .pointer (some ⟨g38, 0 + k * 10, none⟩), .agg #[.int .i64 y35.node.t, .int .i64 y35.node.w], .bool true, .bool false, .bool false, .tuple #[.agg #[.int .i64 ((gotI L0 ⟨y35.parent.t, y35.parent.w⟩).node.t), .int .i64 ((gotI L0 ⟨y35.parent.t, y35.parent.w⟩).node.w), .int .i64 ((gotI L0 ⟨y35.parent.t, y35.parent.w⟩).parent.t), .int .i64 ((gotI L0 ⟨y35.parent.t, y35.parent.w⟩).parent.w), .string ((gotI L0 ⟨y35.parent.t, y35.parent.w⟩).name), .bool ((gotI L0 ⟨y35.parent.t, y35.parent.w⟩).dir), .bool ((gotI L0 ⟨y35.parent.t, y35.parent.w⟩).gone), .slice A47 n48 c49, .int .i64 ((gotI L0 ⟨y35.parent.t, y35.parent.w⟩).by_.t), .int .i64 ((gotI L0 ⟨y35.parent.t, y35.parent.w⟩).by_.w)], .bool ((hasI L0 ⟨y35.parent.t, y35.parent.w⟩))], .pointer (some ⟨tb, 0, none⟩), .slice A17 L0.length c18, .int .i64 ((k : Int)), .pointer (some ⟨g44, 0 + k * 10, none⟩), .pointer (some ⟨g44, 0 + k * 10 + 2, none⟩), .agg #[.int .i64 y35.parent.t, .int .i64 y35.parent.w], .tuple #[.agg #[.int .i64 ((gotI L0 ⟨y35.parent.t, y35.parent.w⟩).node.t), .int .i64 ((gotI L0 ⟨y35.parent.t, y35.parent.w⟩).node.w), .int .i64 ((gotI L0 ⟨y35.parent.t, y35.parent.w⟩).parent.t), .int .i64 ((gotI L0 ⟨y35.parent.t, y35.parent.w⟩).parent.w), .string ((gotI L0 ⟨y35.parent.t, y35.parent.w⟩).name), .bool ((gotI L0 ⟨y35.parent.t, y35.parent.w⟩).dir), .bool ((gotI L0 ⟨y35.parent.t, y35.parent.w⟩).gone), .slice A47 n48 c49, .int .i64 ((gotI L0 ⟨y35.parent.t, y35.parent.w⟩).by_.t), .int .i64 ((gotI L0 ⟨y35.parent.t, y35.parent.w⟩).by_.w)], .bool ((hasI L0 ⟨y35.parent.t, y35.parent.w⟩))], .agg #[.int .i64 ((gotI L0 ⟨y35.parent.t, y35.parent.w⟩).node.t), .int .i64 ((gotI L0 ⟨y35.parent.t, y35.parent.w⟩).node.w), .int .i64 ((gotI L0 ⟨y35.parent.t, y35.parent.w⟩).parent.t), .int .i64 ((gotI L0 ⟨y35.parent.t, y35.parent.w⟩).parent.w), .string ((gotI L0 ⟨y35.parent.t, y35.parent.w⟩).name), .bool ((gotI L0 ⟨y35.parent.t, y35.parent.w⟩).dir), .bool ((gotI L0 ⟨y35.parent.t, y35.parent.w⟩).gone), .slice A47 n48 c49, .int .i64 ((gotI L0 ⟨y35.parent.t, y35.parent.w⟩).by_.t), .int .i64 ((gotI L0 ⟨y35.parent.t, y35.parent.w⟩).by_.w)], .bool ((hasI L0 ⟨y35.parent.t, y35.parent.w⟩)), .slice A17 L0.length c18, .int .i64 ((k : Int)), .pointer (some ⟨g81, 0 + k * 10, none⟩), .pointer (some ⟨g81, 0 + k * 10 + 2, none⟩), .agg #[.int .i64 y35.parent.t, .int .i64 y35.parent.w], .agg #[.int .i64 0, .int .i64 0], .bool b82, .bool b82, undef, undef, undef, undef, undef, undef, undef, .bool false, .pointer (some ⟨tb, 0, none⟩), .slice A17 L0.length c18, .int .i64 ((k : Int)), .pointer (some ⟨g86, 0 + k * 10, none⟩), .pointer (some ⟨g86, 0 + k * 10, none⟩), .agg #[.int .i64 y35.node.t, .int .i64 y35.node.w], .bool ((hangsI L0 301 ⟨y35.node.t, y35.node.w⟩)), .slice A17 L0.length c18, .int .i64 ((k : Int)), .pointer (some ⟨g88, 0 + k * 10, none⟩), .pointer (some ⟨g88, 0 + k * 10 + 6, none⟩), .bool y35.gone, .bool (!y35.gone), .bool (!y35.gone), .pointer (some ⟨tb, 0, none⟩), .slice A17 L0.length c18, .int .i64 ((k : Int)), .pointer (some ⟨g90, 0 + k * 10, none⟩), .pointer (some ⟨g90, 0 + k * 10 + 2, none⟩), .agg #[.int .i64 y35.parent.t, .int .i64 y35.parent.w], .bool ((hangsI L0 301 ⟨y35.parent.t, y35.parent.w⟩)), .bool ((hangsI L0 301 ⟨y35.parent.t, y35.parent.w⟩)), .bool false, .bool false, .slice A17 L0.length c18, .int .i64 ((k : Int)), .pointer (some ⟨g93, 0 + k * 10, none⟩), .pointer (some ⟨g93, 0 + k * 10 + 5, none⟩), .bool y35.dir, .bool y35.dir, .slice A17 L0.length c18, .int .i64 ((k : Int)), .pointer (some ⟨g95, 0 + k * 10, none⟩), .pointer (some ⟨g95, 0 + k * 10 + 7, none⟩), .slice dA95 dn95 dc95, .int .i64 ((dn95 : Int)), .bool b96, .bool b96, .bool b96], rfl, (by kernel_rfl), M101, (by omega)⟩
                  · omega
                · have p103 := of_decide_eq_true (k97.trans v102)
                  have hz := (Dat.len hD95).1
                  rw [rey35 v94] at hz
                  simp only [List.length_nil] at hz
                  exact absurd p103 (by omega)
            · refine qv rfl (v := .bool true) (fun _ _ => r_neb (a := false) (b := true) Try.underlying4 (ebool (b := (hangsI L0 301 ⟨y35.node.t, y35.node.w⟩)) (by kernel_rfl) v91) (ebool (b := (hangsI L0 301 ⟨y35.parent.t, y35.parent.w⟩)) (by kernel_rfl) v92)) ?_
              refine qv rfl (v := .bool true) (fun _ _ => r_move (by kernel_rfl)) ?_
              refine qp (by kernel_rfl) ?_
              refine qp (by kernel_rfl) ?_
              refine qp (by kernel_rfl) ?_
              refine qp (by kernel_rfl) ?_
              refine qp (by kernel_rfl) ?_
              refine qp (by kernel_rfl) ?_
              refine qp (by kernel_rfl) ?_
              refine qp (by kernel_rfl) ?_
              refine qp (by kernel_rfl) ?_
              refine qp (by kernel_rfl) ?_
              refine qp (by kernel_rfl) ?_
              refine qp (by kernel_rfl) ?_
              refine qp (by kernel_rfl) ?_
              refine qp (by kernel_rfl) ?_
              refine qv rfl (v := .bool true) (fun _ _ => r_pick (b := true) (u := .bool true) (v := undef) (by kernel_rfl) (by kernel_rfl) (by kernel_rfl)) ?_
              refine qnil ?_
              intro w93 u94
              have M95 := Mod.trans M78 (Mod.of_up u94)
              have M96 := Mod.trans M79 (Mod.of_up u94)
              refine then_n ?_
              refine wp_cond_true (by kernel_rfl) ?_
              refine wp_seq ?_
              refine rg_lit ?_
              refine wl (sv rfl (v := .bool false) (r_assign (by kernel_rfl)) ?_)
              refine wnil ?_
              refine then_n ?_
              refine wp_ret ?_
              refine inb_r ?_
              refine then_x (by nofun) ?_
              refine then_x (by nofun) ?_
              refine inb_r ?_
              refine then_x (by nofun) ?_
              refine bodyPost_ret (v := .bool false) (res1 rfl (rv_t (by kernel_rfl))) (by kernel_rfl) ?_
              exfalso
              have e := rdy35
              have f0 := v89
              have f1 := v91
              have f2 := v92
              simp [f0, f1, f2] at e
          · refine bcase ((hangsI L0 301 ⟨y35.parent.t, y35.parent.w⟩)) (fun v92 => ?_) (fun v92 => ?_)
            · refine qv rfl (v := .bool true) (fun _ _ => r_neb (a := true) (b := false) Try.underlying4 (ebool (b := (hangsI L0 301 ⟨y35.node.t, y35.node.w⟩)) (by kernel_rfl) v91) (ebool (b := (hangsI L0 301 ⟨y35.parent.t, y35.parent.w⟩)) (by kernel_rfl) v92)) ?_
              refine qv rfl (v := .bool true) (fun _ _ => r_move (by kernel_rfl)) ?_
              refine qp (by kernel_rfl) ?_
              refine qp (by kernel_rfl) ?_
              refine qp (by kernel_rfl) ?_
              refine qp (by kernel_rfl) ?_
              refine qp (by kernel_rfl) ?_
              refine qp (by kernel_rfl) ?_
              refine qp (by kernel_rfl) ?_
              refine qp (by kernel_rfl) ?_
              refine qp (by kernel_rfl) ?_
              refine qp (by kernel_rfl) ?_
              refine qp (by kernel_rfl) ?_
              refine qp (by kernel_rfl) ?_
              refine qp (by kernel_rfl) ?_
              refine qp (by kernel_rfl) ?_
              refine qv rfl (v := .bool true) (fun _ _ => r_pick (b := true) (u := .bool true) (v := undef) (by kernel_rfl) (by kernel_rfl) (by kernel_rfl)) ?_
              refine qnil ?_
              intro w93 u94
              have M95 := Mod.trans M78 (Mod.of_up u94)
              have M96 := Mod.trans M79 (Mod.of_up u94)
              refine then_n ?_
              refine wp_cond_true (by kernel_rfl) ?_
              refine wp_seq ?_
              refine rg_lit ?_
              refine wl (sv rfl (v := .bool false) (r_assign (by kernel_rfl)) ?_)
              refine wnil ?_
              refine then_n ?_
              refine wp_ret ?_
              refine inb_r ?_
              refine then_x (by nofun) ?_
              refine then_x (by nofun) ?_
              refine inb_r ?_
              refine then_x (by nofun) ?_
              refine bodyPost_ret (v := .bool false) (res1 rfl (rv_t (by kernel_rfl))) (by kernel_rfl) ?_
              exfalso
              have e := rdy35
              have f0 := v89
              have f1 := v91
              have f2 := v92
              simp [f0, f1, f2] at e
            · refine qv rfl (v := .bool false) (fun _ _ => r_neb (a := true) (b := true) Try.underlying4 (ebool (b := (hangsI L0 301 ⟨y35.node.t, y35.node.w⟩)) (by kernel_rfl) v91) (ebool (b := (hangsI L0 301 ⟨y35.parent.t, y35.parent.w⟩)) (by kernel_rfl) v92)) ?_
              refine qv rfl (v := .bool false) (fun _ _ => r_move (by kernel_rfl)) ?_
              refine qv (by kernel_rfl) (v := .slice A17 L0.length c18) (fun _ _ => r_move (by kernel_rfl)) ?_
              refine qv (by kernel_rfl) (v := .int .i64 ((k : Int))) (fun _ _ => r_move (by kernel_rfl)) ?_
              obtain ⟨g93, cp93, cu93, dA93, dn93, dc93, hA93, hg93, hb93, he93, hD93⟩ := h80.get hy35
              injection hA93 with hA93 _ _
              replace he93 : (cu93.toList.drop (0 + k * 10)).take 10 = [.int .i64 y35.node.t, .int .i64 y35.node.w, .int .i64 y35.parent.t, .int .i64 y35.parent.w, .string y35.name, .bool y35.dir, .bool y35.gone, .slice dA93 dn93 dc93, .int .i64 y35.by_.t, .int .i64 y35.by_.w] := by rw [Nat.zero_add]; exact he93
              refine qv (by kernel_rfl) (v := .pointer (some ⟨g93, 0 + k * 10, none⟩)) (fun _ _ => r_ixaddr' (A := A17) (b := g93) (o := 0) (n := L0.length) (c := c18) (sz := 10) (j := (k : Int)) (by kernel_rfl) hA93 (by kernel_rfl) Ty.un48 Ty.sz35 (by omega) (by omega) (by simp)) ?_
              refine qv (by kernel_rfl) (v := .pointer (some ⟨g93, 0 + k * 10 + 5, none⟩)) (fun _ _ => r_fieldAddr (u := .pointer (some ⟨g93, 0 + k * 10, none⟩)) (v := .pointer (some ⟨g93, 0 + k * 10 + 5, none⟩)) (by kernel_rfl) (fun _ => (by kernel_rfl))) ?_
              refine qv (by kernel_rfl) (v := .bool y35.dir) (fun _ uz => r_load (k := 0 + k * 10 + 5) (v := .bool y35.dir) (by kernel_rfl) Ty.ag4 (up_ob uz hb93) (el_get he93 5 rfl)) ?_
              refine qv (by kernel_rfl) (v := .bool y35.dir) (fun _ _ => r_move (by kernel_rfl)) ?_
              refine bcase y35.dir (fun v94 => ?_) (fun v94 => ?_)
              · refine qp (wf (b := y35.dir) rfl (by kernel_rfl) v94) ?_
                refine qp (wf (b := y35.dir) rfl (by kernel_rfl) v94) ?_
                refine qp (wf (b := y35.dir) rfl (by kernel_rfl) v94) ?_
                refine qp (wf (b := y35.dir) rfl (by kernel_rfl) v94) ?_
                refine qp (wf (b := y35.dir) rfl (by kernel_rfl) v94) ?_
                refine qp (wf (b := y35.dir) rfl (by kernel_rfl) v94) ?_
                refine qp (wf (b := y35.dir) rfl (by kernel_rfl) v94) ?_
                refine qv (by kernel_rfl) (v := .bool false) (fun _ _ => r_pick (b := false) (u := undef) (v := .bool false) (ebool (b := y35.dir) (by kernel_rfl) v94) (by kernel_rfl) (by kernel_rfl)) ?_
                refine qv rfl (v := .bool false) (fun _ _ => r_pick (b := false) (u := .bool true) (v := .bool false) (by kernel_rfl) (by kernel_rfl) (by kernel_rfl)) ?_
                refine qnil ?_
                intro w95 u96
                have M97 := Mod.trans M78 (Mod.of_up u96)
                have M98 := Mod.trans M79 (Mod.of_up u96)
                refine then_n ?_
                refine wp_cond_false (by kernel_rfl) ?_
                refine wp_skip ?_
                refine inb_n ?_
                refine then_n ?_
                refine rg_lit ?_
                refine wl (sv rfl (v := .int .i64 ((k : Int))) (r_move (by kernel_rfl)) ?_)
                refine wl (sv rfl (v := .int .i64 (((k : Int)) + 1)) (r_add (k := .i64) (m := ((k : Int))) (n := 1) (by kernel_rfl) (by kernel_rfl) (IntWalk.i64_in _ (by omega))) ?_)
                refine wl (sv rfl (v := .int .i64 (((k : Int)) + 1)) (r_assign (by kernel_rfl)) ?_)
                refine wnil ?_
                refine then_n ?_
                refine ⟨L0.length - (k + 1), ?_, (k + 1), tget [undef, undef, (Z 2), undef, undef, undef, .pointer (some ⟨b54, 0, none⟩), .bool ((hasI L0 ⟨y35.parent.t, y35.parent.w⟩)), undef, undef, undef, undef, undef, undef, undef, undef, .int .i64 ((k : Int)), .slice A17 L0.length c18, .int .i64 ((L0.length : Int)), .bool b28, .int .i64 ((k : Int)), .int .i64 (((k : Int)) + 1), .pointer (some ⟨tb, 0, none⟩), .slice A17 L0.length c18, .int .i64 ((k : Int)), .pointer (some ⟨g35, 0 + k * 10, none⟩), .pointer (some ⟨g35, 0 + k * 10, none⟩), .agg #[.int .i64 y35.node.t, .int .i64 y35.node.w], .slice A17 L0.length c18, .int .i64 ((k : Int)), .pointer (some ⟨g36, 0 + k * 10, none⟩), .pointer (some ⟨g36, 0 + k * 10 + 2, none⟩), .agg #[.int .i64 y35.parent.t, .int .i64 y35.parent.w], .bool false, .bool false, .pointer (some ⟨tb, 0, none⟩), .agg #[.int .i64 0, .int .i64 0], .slice A17 L0.length c18, .int .i64 ((k : Int)), .pointer (some ⟨g38, 0 + k * 10, none⟩), .pointer (some ⟨g38, 0 + k * 10, none⟩), .agg #[.int .i64 y35.node.t, .int .i64 y35.node.w], .bool true, .bool false, .bool false, .tuple #[.agg #[.int .i64 ((gotI L0 ⟨y35.parent.t, y35.parent.w⟩).node.t), .int .i64 ((gotI L0 ⟨y35.parent.t, y35.parent.w⟩).node.w), .int .i64 ((gotI L0 ⟨y35.parent.t, y35.parent.w⟩).parent.t), .int .i64 ((gotI L0 ⟨y35.parent.t, y35.parent.w⟩).parent.w), .string ((gotI L0 ⟨y35.parent.t, y35.parent.w⟩).name), .bool ((gotI L0 ⟨y35.parent.t, y35.parent.w⟩).dir), .bool ((gotI L0 ⟨y35.parent.t, y35.parent.w⟩).gone), .slice A47 n48 c49, .int .i64 ((gotI L0 ⟨y35.parent.t, y35.parent.w⟩).by_.t), .int .i64 ((gotI L0 ⟨y35.parent.t, y35.parent.w⟩).by_.w)], .bool ((hasI L0 ⟨y35.parent.t, y35.parent.w⟩))], .pointer (some ⟨tb, 0, none⟩), .slice A17 L0.length c18, .int .i64 ((k : Int)), .pointer (some ⟨g44, 0 + k * 10, none⟩), .pointer (some ⟨g44, 0 + k * 10 + 2, none⟩), .agg #[.int .i64 y35.parent.t, .int .i64 y35.parent.w], .tuple #[.agg #[.int .i64 ((gotI L0 ⟨y35.parent.t, y35.parent.w⟩).node.t), .int .i64 ((gotI L0 ⟨y35.parent.t, y35.parent.w⟩).node.w), .int .i64 ((gotI L0 ⟨y35.parent.t, y35.parent.w⟩).parent.t), .int .i64 ((gotI L0 ⟨y35.parent.t, y35.parent.w⟩).parent.w), .string ((gotI L0 ⟨y35.parent.t, y35.parent.w⟩).name), .bool ((gotI L0 ⟨y35.parent.t, y35.parent.w⟩).dir), .bool ((gotI L0 ⟨y35.parent.t, y35.parent.w⟩).gone), .slice A47 n48 c49, .int .i64 ((gotI L0 ⟨y35.parent.t, y35.parent.w⟩).by_.t), .int .i64 ((gotI L0 ⟨y35.parent.t, y35.parent.w⟩).by_.w)], .bool ((hasI L0 ⟨y35.parent.t, y35.parent.w⟩))], .agg #[.int .i64 ((gotI L0 ⟨y35.parent.t, y35.parent.w⟩).node.t), .int .i64 ((gotI L0 ⟨y35.parent.t, y35.parent.w⟩).node.w), .int .i64 ((gotI L0 ⟨y35.parent.t, y35.parent.w⟩).parent.t), .int .i64 ((gotI L0 ⟨y35.parent.t, y35.parent.w⟩).parent.w), .string ((gotI L0 ⟨y35.parent.t, y35.parent.w⟩).name), .bool ((gotI L0 ⟨y35.parent.t, y35.parent.w⟩).dir), .bool ((gotI L0 ⟨y35.parent.t, y35.parent.w⟩).gone), .slice A47 n48 c49, .int .i64 ((gotI L0 ⟨y35.parent.t, y35.parent.w⟩).by_.t), .int .i64 ((gotI L0 ⟨y35.parent.t, y35.parent.w⟩).by_.w)], .bool ((hasI L0 ⟨y35.parent.t, y35.parent.w⟩)), .slice A17 L0.length c18, .int .i64 ((k : Int)), .pointer (some ⟨g81, 0 + k * 10, none⟩), .pointer (some ⟨g81, 0 + k * 10 + 2, none⟩), .agg #[.int .i64 y35.parent.t, .int .i64 y35.parent.w], .agg #[.int .i64 0, .int .i64 0], .bool b82, .bool b82, undef, undef, undef, undef, undef, undef, undef, .bool false, .pointer (some ⟨tb, 0, none⟩), .slice A17 L0.length c18, .int .i64 ((k : Int)), .pointer (some ⟨g86, 0 + k * 10, none⟩), .pointer (some ⟨g86, 0 + k * 10, none⟩), .agg #[.int .i64 y35.node.t, .int .i64 y35.node.w], .bool ((hangsI L0 301 ⟨y35.node.t, y35.node.w⟩)), .slice A17 L0.length c18, .int .i64 ((k : Int)), .pointer (some ⟨g88, 0 + k * 10, none⟩), .pointer (some ⟨g88, 0 + k * 10 + 6, none⟩), .bool y35.gone, .bool (!y35.gone), .bool (!y35.gone), .pointer (some ⟨tb, 0, none⟩), .slice A17 L0.length c18, .int .i64 ((k : Int)), .pointer (some ⟨g90, 0 + k * 10, none⟩), .pointer (some ⟨g90, 0 + k * 10 + 2, none⟩), .agg #[.int .i64 y35.parent.t, .int .i64 y35.parent.w], .bool ((hangsI L0 301 ⟨y35.parent.t, y35.parent.w⟩)), .bool ((hangsI L0 301 ⟨y35.parent.t, y35.parent.w⟩)), .bool false, .bool false, .slice A17 L0.length c18, .int .i64 ((k : Int)), .pointer (some ⟨g93, 0 + k * 10, none⟩), .pointer (some ⟨g93, 0 + k * 10 + 5, none⟩), .bool y35.dir, .bool y35.dir, undef, undef, undef, undef, undef, undef, undef, .bool false, .bool false], rfl, (by kernel_rfl), M98, (by omega)⟩
                · omega
              · refine qv (wt (b := y35.dir) rfl (by kernel_rfl) v94) (v := .slice A17 L0.length c18) (fun _ _ => r_move (by kernel_rfl)) ?_
                refine qv (wt (b := y35.dir) rfl (by kernel_rfl) v94) (v := .int .i64 ((k : Int))) (fun _ _ => r_move (by kernel_rfl)) ?_
                obtain ⟨g95, cp95, cu95, dA95, dn95, dc95, hA95, hg95, hb95, he95, hD95⟩ := h80.get hy35
                injection hA95 with hA95 _ _
                replace he95 : (cu95.toList.drop (0 + k * 10)).take 10 = [.int .i64 y35.node.t, .int .i64 y35.node.w, .int .i64 y35.parent.t, .int .i64 y35.parent.w, .string y35.name, .bool y35.dir, .bool y35.gone, .slice dA95 dn95 dc95, .int .i64 y35.by_.t, .int .i64 y35.by_.w] := by rw [Nat.zero_add]; exact he95
                refine qv (wt (b := y35.dir) rfl (by kernel_rfl) v94) (v := .pointer (some ⟨g95, 0 + k * 10, none⟩)) (fun _ _ => r_ixaddr' (A := A17) (b := g95) (o := 0) (n := L0.length) (c := c18) (sz := 10) (j := (k : Int)) (by kernel_rfl) hA95 (by kernel_rfl) Ty.un48 Ty.sz35 (by omega) (by omega) (by simp)) ?_
                refine qv (wt (b := y35.dir) rfl (by kernel_rfl) v94) (v := .pointer (some ⟨g95, 0 + k * 10 + 7, none⟩)) (fun _ _ => r_fieldAddr (u := .pointer (some ⟨g95, 0 + k * 10, none⟩)) (v := .pointer (some ⟨g95, 0 + k * 10 + 7, none⟩)) (by kernel_rfl) (fun _ => (by kernel_rfl))) ?_
                refine qv (wt (b := y35.dir) rfl (by kernel_rfl) v94) (v := .slice dA95 dn95 dc95) (fun _ uz => r_load (k := 0 + k * 10 + 7) (v := .slice dA95 dn95 dc95) (by kernel_rfl) Ty.ag33 (up_ob uz hb95) (el_get he95 7 rfl)) ?_
                refine qv (wt (b := y35.dir) rfl (by kernel_rfl) v94) (v := .int .i64 ((dn95 : Int))) (fun _ _ => r_len Ty.un33 (ad := dA95) (n := dn95) (c := dc95) (by kernel_rfl)) ?_
                refine qb (wt (b := y35.dir) rfl (by kernel_rfl) v94) (fun _ _ => r_gt (k := .i64) (m := ((dn95 : Int))) (n := 0) (by kernel_rfl) (by kernel_rfl)) ?_
                intro b96 k97
                refine qv (by kernel_rfl) (v := .bool b96) (fun _ _ => r_pick (b := true) (u := .bool b96) (v := .bool false) (ebool (b := y35.dir) (by kernel_rfl) v94) (by kernel_rfl) (by kernel_rfl)) ?_
                refine qv rfl (v := .bool b96) (fun _ _ => r_pick (b := false) (u := .bool true) (v := .bool b96) (by kernel_rfl) (by kernel_rfl) (by kernel_rfl)) ?_
                refine qnil ?_
                intro w98 u99
                have M100 := Mod.trans M78 (Mod.of_up u99)
                have M101 := Mod.trans M79 (Mod.of_up u99)
                refine then_n ?_
                refine bcase b96 (fun v102 => ?_) (fun v102 => ?_)
                · have p103 := of_decide_eq_false (k97.trans v102)
                  refine wp_cond_false (ebool (b := b96) (by kernel_rfl) v102) ?_
                  refine wp_skip ?_
                  refine inb_n ?_
                  refine then_n ?_
                  refine rg_lit ?_
                  refine wl (sv rfl (v := .int .i64 ((k : Int))) (r_move (by kernel_rfl)) ?_)
                  refine wl (sv rfl (v := .int .i64 (((k : Int)) + 1)) (r_add (k := .i64) (m := ((k : Int))) (n := 1) (by kernel_rfl) (by kernel_rfl) (IntWalk.i64_in _ (by omega))) ?_)
                  refine wl (sv rfl (v := .int .i64 (((k : Int)) + 1)) (r_assign (by kernel_rfl)) ?_)
                  refine wnil ?_
                  refine then_n ?_
                  refine ⟨L0.length - (k + 1), ?_, (k + 1), tget [undef, undef, (Z 2), undef, undef, undef, .pointer (some ⟨b54, 0, none⟩), .bool ((hasI L0 ⟨y35.parent.t, y35.parent.w⟩)), undef, undef, undef, undef, undef, undef, undef, undef, .int .i64 ((k : Int)), .slice A17 L0.length c18, .int .i64 ((L0.length : Int)), .bool b28, .int .i64 ((k : Int)), .int .i64 (((k : Int)) + 1), .pointer (some ⟨tb, 0, none⟩), .slice A17 L0.length c18, .int .i64 ((k : Int)), .pointer (some ⟨g35, 0 + k * 10, none⟩), .pointer (some ⟨g35, 0 + k * 10, none⟩), .agg #[.int .i64 y35.node.t, .int .i64 y35.node.w], .slice A17 L0.length c18, .int .i64 ((k : Int)), .pointer (some ⟨g36, 0 + k * 10, none⟩), .pointer (some ⟨g36, 0 + k * 10 + 2, none⟩), .agg #[.int .i64 y35.parent.t, .int .i64 y35.parent.w], .bool false, .bool false, .pointer (some ⟨tb, 0, none⟩), .agg #[.int .i64 0, .int .i64 0], .slice A17 L0.length c18, .int .i64 ((k : Int)), .pointer (some ⟨g38, 0 + k * 10, none⟩), .pointer (some ⟨g38, 0 + k * 10, none⟩), .agg #[.int .i64 y35.node.t, .int .i64 y35.node.w], .bool true, .bool false, .bool false, .tuple #[.agg #[.int .i64 ((gotI L0 ⟨y35.parent.t, y35.parent.w⟩).node.t), .int .i64 ((gotI L0 ⟨y35.parent.t, y35.parent.w⟩).node.w), .int .i64 ((gotI L0 ⟨y35.parent.t, y35.parent.w⟩).parent.t), .int .i64 ((gotI L0 ⟨y35.parent.t, y35.parent.w⟩).parent.w), .string ((gotI L0 ⟨y35.parent.t, y35.parent.w⟩).name), .bool ((gotI L0 ⟨y35.parent.t, y35.parent.w⟩).dir), .bool ((gotI L0 ⟨y35.parent.t, y35.parent.w⟩).gone), .slice A47 n48 c49, .int .i64 ((gotI L0 ⟨y35.parent.t, y35.parent.w⟩).by_.t), .int .i64 ((gotI L0 ⟨y35.parent.t, y35.parent.w⟩).by_.w)], .bool ((hasI L0 ⟨y35.parent.t, y35.parent.w⟩))], .pointer (some ⟨tb, 0, none⟩), .slice A17 L0.length c18, .int .i64 ((k : Int)), .pointer (some ⟨g44, 0 + k * 10, none⟩), .pointer (some ⟨g44, 0 + k * 10 + 2, none⟩), .agg #[.int .i64 y35.parent.t, .int .i64 y35.parent.w], .tuple #[.agg #[.int .i64 ((gotI L0 ⟨y35.parent.t, y35.parent.w⟩).node.t), .int .i64 ((gotI L0 ⟨y35.parent.t, y35.parent.w⟩).node.w), .int .i64 ((gotI L0 ⟨y35.parent.t, y35.parent.w⟩).parent.t), .int .i64 ((gotI L0 ⟨y35.parent.t, y35.parent.w⟩).parent.w), .string ((gotI L0 ⟨y35.parent.t, y35.parent.w⟩).name), .bool ((gotI L0 ⟨y35.parent.t, y35.parent.w⟩).dir), .bool ((gotI L0 ⟨y35.parent.t, y35.parent.w⟩).gone), .slice A47 n48 c49, .int .i64 ((gotI L0 ⟨y35.parent.t, y35.parent.w⟩).by_.t), .int .i64 ((gotI L0 ⟨y35.parent.t, y35.parent.w⟩).by_.w)], .bool ((hasI L0 ⟨y35.parent.t, y35.parent.w⟩))], .agg #[.int .i64 ((gotI L0 ⟨y35.parent.t, y35.parent.w⟩).node.t), .int .i64 ((gotI L0 ⟨y35.parent.t, y35.parent.w⟩).node.w), .int .i64 ((gotI L0 ⟨y35.parent.t, y35.parent.w⟩).parent.t), .int .i64 ((gotI L0 ⟨y35.parent.t, y35.parent.w⟩).parent.w), .string ((gotI L0 ⟨y35.parent.t, y35.parent.w⟩).name), .bool ((gotI L0 ⟨y35.parent.t, y35.parent.w⟩).dir), .bool ((gotI L0 ⟨y35.parent.t, y35.parent.w⟩).gone), .slice A47 n48 c49, .int .i64 ((gotI L0 ⟨y35.parent.t, y35.parent.w⟩).by_.t), .int .i64 ((gotI L0 ⟨y35.parent.t, y35.parent.w⟩).by_.w)], .bool ((hasI L0 ⟨y35.parent.t, y35.parent.w⟩)), .slice A17 L0.length c18, .int .i64 ((k : Int)), .pointer (some ⟨g81, 0 + k * 10, none⟩), .pointer (some ⟨g81, 0 + k * 10 + 2, none⟩), .agg #[.int .i64 y35.parent.t, .int .i64 y35.parent.w], .agg #[.int .i64 0, .int .i64 0], .bool b82, .bool b82, undef, undef, undef, undef, undef, undef, undef, .bool false, .pointer (some ⟨tb, 0, none⟩), .slice A17 L0.length c18, .int .i64 ((k : Int)), .pointer (some ⟨g86, 0 + k * 10, none⟩), .pointer (some ⟨g86, 0 + k * 10, none⟩), .agg #[.int .i64 y35.node.t, .int .i64 y35.node.w], .bool ((hangsI L0 301 ⟨y35.node.t, y35.node.w⟩)), .slice A17 L0.length c18, .int .i64 ((k : Int)), .pointer (some ⟨g88, 0 + k * 10, none⟩), .pointer (some ⟨g88, 0 + k * 10 + 6, none⟩), .bool y35.gone, .bool (!y35.gone), .bool (!y35.gone), .pointer (some ⟨tb, 0, none⟩), .slice A17 L0.length c18, .int .i64 ((k : Int)), .pointer (some ⟨g90, 0 + k * 10, none⟩), .pointer (some ⟨g90, 0 + k * 10 + 2, none⟩), .agg #[.int .i64 y35.parent.t, .int .i64 y35.parent.w], .bool ((hangsI L0 301 ⟨y35.parent.t, y35.parent.w⟩)), .bool ((hangsI L0 301 ⟨y35.parent.t, y35.parent.w⟩)), .bool false, .bool false, .slice A17 L0.length c18, .int .i64 ((k : Int)), .pointer (some ⟨g93, 0 + k * 10, none⟩), .pointer (some ⟨g93, 0 + k * 10 + 5, none⟩), .bool y35.dir, .bool y35.dir, .slice A17 L0.length c18, .int .i64 ((k : Int)), .pointer (some ⟨g95, 0 + k * 10, none⟩), .pointer (some ⟨g95, 0 + k * 10 + 7, none⟩), .slice dA95 dn95 dc95, .int .i64 ((dn95 : Int)), .bool b96, .bool b96, .bool b96], rfl, (by kernel_rfl), M101, (by omega)⟩
                  · omega
                · have p103 := of_decide_eq_true (k97.trans v102)
                  have hz := (Dat.len hD95).1
                  rw [rey35 v94] at hz
                  simp only [List.length_nil] at hz
                  exact absurd p103 (by omega)
        · refine qp (wf (b := !y35.gone) rfl (by kernel_rfl) (bneg v89)) ?_
          refine qp (wf (b := !y35.gone) rfl (by kernel_rfl) (bneg v89)) ?_
          refine qp (wf (b := !y35.gone) rfl (by kernel_rfl) (bneg v89)) ?_
          refine qp (wf (b := !y35.gone) rfl (by kernel_rfl) (bneg v89)) ?_
          refine qp (wf (b := !y35.gone) rfl (by kernel_rfl) (bneg v89)) ?_
          refine qp (wf (b := !y35.gone) rfl (by kernel_rfl) (bneg v89)) ?_
          refine qp (wf (b := !y35.gone) rfl (by kernel_rfl) (bneg v89)) ?_
          refine qv rfl (v := .bool false) (fun _ _ => r_pick (b := false) (u := undef) (v := .bool false) (ebool (b := !y35.gone) (by kernel_rfl) (bneg v89)) (by kernel_rfl) (by kernel_rfl)) ?_
          refine bcase ((hangsI L0 301 ⟨y35.node.t, y35.node.w⟩)) (fun v90 => ?_) (fun v90 => ?_)
          · refine qv rfl (v := .bool false) (fun _ _ => r_neb (a := false) (b := false) Try.underlying4 (ebool (b := (hangsI L0 301 ⟨y35.node.t, y35.node.w⟩)) (by kernel_rfl) v90) (by kernel_rfl)) ?_
            refine qv rfl (v := .bool false) (fun _ _ => r_move (by kernel_rfl)) ?_
            refine qv (by kernel_rfl) (v := .slice A17 L0.length c18) (fun _ _ => r_move (by kernel_rfl)) ?_
            refine qv (by kernel_rfl) (v := .int .i64 ((k : Int))) (fun _ _ => r_move (by kernel_rfl)) ?_
            obtain ⟨g91, cp91, cu91, dA91, dn91, dc91, hA91, hg91, hb91, he91, hD91⟩ := h80.get hy35
            injection hA91 with hA91 _ _
            replace he91 : (cu91.toList.drop (0 + k * 10)).take 10 = [.int .i64 y35.node.t, .int .i64 y35.node.w, .int .i64 y35.parent.t, .int .i64 y35.parent.w, .string y35.name, .bool y35.dir, .bool y35.gone, .slice dA91 dn91 dc91, .int .i64 y35.by_.t, .int .i64 y35.by_.w] := by rw [Nat.zero_add]; exact he91
            refine qv (by kernel_rfl) (v := .pointer (some ⟨g91, 0 + k * 10, none⟩)) (fun _ _ => r_ixaddr' (A := A17) (b := g91) (o := 0) (n := L0.length) (c := c18) (sz := 10) (j := (k : Int)) (by kernel_rfl) hA91 (by kernel_rfl) Ty.un48 Ty.sz35 (by omega) (by omega) (by simp)) ?_
            refine qv (by kernel_rfl) (v := .pointer (some ⟨g91, 0 + k * 10 + 5, none⟩)) (fun _ _ => r_fieldAddr (u := .pointer (some ⟨g91, 0 + k * 10, none⟩)) (v := .pointer (some ⟨g91, 0 + k * 10 + 5, none⟩)) (by kernel_rfl) (fun _ => (by kernel_rfl))) ?_
            refine qv (by kernel_rfl) (v := .bool y35.dir) (fun _ uz => r_load (k := 0 + k * 10 + 5) (v := .bool y35.dir) (by kernel_rfl) Ty.ag4 (up_ob uz hb91) (el_get he91 5 rfl)) ?_
            refine qv (by kernel_rfl) (v := .bool y35.dir) (fun _ _ => r_move (by kernel_rfl)) ?_
            refine bcase y35.dir (fun v92 => ?_) (fun v92 => ?_)
            · refine qp (wf (b := y35.dir) rfl (by kernel_rfl) v92) ?_
              refine qp (wf (b := y35.dir) rfl (by kernel_rfl) v92) ?_
              refine qp (wf (b := y35.dir) rfl (by kernel_rfl) v92) ?_
              refine qp (wf (b := y35.dir) rfl (by kernel_rfl) v92) ?_
              refine qp (wf (b := y35.dir) rfl (by kernel_rfl) v92) ?_
              refine qp (wf (b := y35.dir) rfl (by kernel_rfl) v92) ?_
              refine qp (wf (b := y35.dir) rfl (by kernel_rfl) v92) ?_
              refine qv (by kernel_rfl) (v := .bool false) (fun _ _ => r_pick (b := false) (u := undef) (v := .bool false) (ebool (b := y35.dir) (by kernel_rfl) v92) (by kernel_rfl) (by kernel_rfl)) ?_
              refine qv rfl (v := .bool false) (fun _ _ => r_pick (b := false) (u := .bool true) (v := .bool false) (by kernel_rfl) (by kernel_rfl) (by kernel_rfl)) ?_
              refine qnil ?_
              intro w93 u94
              have M95 := Mod.trans M78 (Mod.of_up u94)
              have M96 := Mod.trans M79 (Mod.of_up u94)
              refine then_n ?_
              refine wp_cond_false (by kernel_rfl) ?_
              refine wp_skip ?_
              refine inb_n ?_
              refine then_n ?_
              refine rg_lit ?_
              refine wl (sv rfl (v := .int .i64 ((k : Int))) (r_move (by kernel_rfl)) ?_)
              refine wl (sv rfl (v := .int .i64 (((k : Int)) + 1)) (r_add (k := .i64) (m := ((k : Int))) (n := 1) (by kernel_rfl) (by kernel_rfl) (IntWalk.i64_in _ (by omega))) ?_)
              refine wl (sv rfl (v := .int .i64 (((k : Int)) + 1)) (r_assign (by kernel_rfl)) ?_)
              refine wnil ?_
              refine then_n ?_
              refine ⟨L0.length - (k + 1), ?_, (k + 1), tget [undef, undef, (Z 2), undef, undef, undef, .pointer (some ⟨b54, 0, none⟩), .bool ((hasI L0 ⟨y35.parent.t, y35.parent.w⟩)), undef, undef, undef, undef, undef, undef, undef, undef, .int .i64 ((k : Int)), .slice A17 L0.length c18, .int .i64 ((L0.length : Int)), .bool b28, .int .i64 ((k : Int)), .int .i64 (((k : Int)) + 1), .pointer (some ⟨tb, 0, none⟩), .slice A17 L0.length c18, .int .i64 ((k : Int)), .pointer (some ⟨g35, 0 + k * 10, none⟩), .pointer (some ⟨g35, 0 + k * 10, none⟩), .agg #[.int .i64 y35.node.t, .int .i64 y35.node.w], .slice A17 L0.length c18, .int .i64 ((k : Int)), .pointer (some ⟨g36, 0 + k * 10, none⟩), .pointer (some ⟨g36, 0 + k * 10 + 2, none⟩), .agg #[.int .i64 y35.parent.t, .int .i64 y35.parent.w], .bool false, .bool false, .pointer (some ⟨tb, 0, none⟩), .agg #[.int .i64 0, .int .i64 0], .slice A17 L0.length c18, .int .i64 ((k : Int)), .pointer (some ⟨g38, 0 + k * 10, none⟩), .pointer (some ⟨g38, 0 + k * 10, none⟩), .agg #[.int .i64 y35.node.t, .int .i64 y35.node.w], .bool true, .bool false, .bool false, .tuple #[.agg #[.int .i64 ((gotI L0 ⟨y35.parent.t, y35.parent.w⟩).node.t), .int .i64 ((gotI L0 ⟨y35.parent.t, y35.parent.w⟩).node.w), .int .i64 ((gotI L0 ⟨y35.parent.t, y35.parent.w⟩).parent.t), .int .i64 ((gotI L0 ⟨y35.parent.t, y35.parent.w⟩).parent.w), .string ((gotI L0 ⟨y35.parent.t, y35.parent.w⟩).name), .bool ((gotI L0 ⟨y35.parent.t, y35.parent.w⟩).dir), .bool ((gotI L0 ⟨y35.parent.t, y35.parent.w⟩).gone), .slice A47 n48 c49, .int .i64 ((gotI L0 ⟨y35.parent.t, y35.parent.w⟩).by_.t), .int .i64 ((gotI L0 ⟨y35.parent.t, y35.parent.w⟩).by_.w)], .bool ((hasI L0 ⟨y35.parent.t, y35.parent.w⟩))], .pointer (some ⟨tb, 0, none⟩), .slice A17 L0.length c18, .int .i64 ((k : Int)), .pointer (some ⟨g44, 0 + k * 10, none⟩), .pointer (some ⟨g44, 0 + k * 10 + 2, none⟩), .agg #[.int .i64 y35.parent.t, .int .i64 y35.parent.w], .tuple #[.agg #[.int .i64 ((gotI L0 ⟨y35.parent.t, y35.parent.w⟩).node.t), .int .i64 ((gotI L0 ⟨y35.parent.t, y35.parent.w⟩).node.w), .int .i64 ((gotI L0 ⟨y35.parent.t, y35.parent.w⟩).parent.t), .int .i64 ((gotI L0 ⟨y35.parent.t, y35.parent.w⟩).parent.w), .string ((gotI L0 ⟨y35.parent.t, y35.parent.w⟩).name), .bool ((gotI L0 ⟨y35.parent.t, y35.parent.w⟩).dir), .bool ((gotI L0 ⟨y35.parent.t, y35.parent.w⟩).gone), .slice A47 n48 c49, .int .i64 ((gotI L0 ⟨y35.parent.t, y35.parent.w⟩).by_.t), .int .i64 ((gotI L0 ⟨y35.parent.t, y35.parent.w⟩).by_.w)], .bool ((hasI L0 ⟨y35.parent.t, y35.parent.w⟩))], .agg #[.int .i64 ((gotI L0 ⟨y35.parent.t, y35.parent.w⟩).node.t), .int .i64 ((gotI L0 ⟨y35.parent.t, y35.parent.w⟩).node.w), .int .i64 ((gotI L0 ⟨y35.parent.t, y35.parent.w⟩).parent.t), .int .i64 ((gotI L0 ⟨y35.parent.t, y35.parent.w⟩).parent.w), .string ((gotI L0 ⟨y35.parent.t, y35.parent.w⟩).name), .bool ((gotI L0 ⟨y35.parent.t, y35.parent.w⟩).dir), .bool ((gotI L0 ⟨y35.parent.t, y35.parent.w⟩).gone), .slice A47 n48 c49, .int .i64 ((gotI L0 ⟨y35.parent.t, y35.parent.w⟩).by_.t), .int .i64 ((gotI L0 ⟨y35.parent.t, y35.parent.w⟩).by_.w)], .bool ((hasI L0 ⟨y35.parent.t, y35.parent.w⟩)), .slice A17 L0.length c18, .int .i64 ((k : Int)), .pointer (some ⟨g81, 0 + k * 10, none⟩), .pointer (some ⟨g81, 0 + k * 10 + 2, none⟩), .agg #[.int .i64 y35.parent.t, .int .i64 y35.parent.w], .agg #[.int .i64 0, .int .i64 0], .bool b82, .bool b82, undef, undef, undef, undef, undef, undef, undef, .bool false, .pointer (some ⟨tb, 0, none⟩), .slice A17 L0.length c18, .int .i64 ((k : Int)), .pointer (some ⟨g86, 0 + k * 10, none⟩), .pointer (some ⟨g86, 0 + k * 10, none⟩), .agg #[.int .i64 y35.node.t, .int .i64 y35.node.w], .bool ((hangsI L0 301 ⟨y35.node.t, y35.node.w⟩)), .slice A17 L0.length c18, .int .i64 ((k : Int)), .pointer (some ⟨g88, 0 + k * 10, none⟩), .pointer (some ⟨g88, 0 + k * 10 + 6, none⟩), .bool y35.gone, .bool (!y35.gone), .bool (!y35.gone), undef, undef, undef, undef, undef, undef, undef, .bool false, .bool false, .bool false, .slice A17 L0.length c18, .int .i64 ((k : Int)), .pointer (some ⟨g91, 0 + k * 10, none⟩), .pointer (some ⟨g91, 0 + k * 10 + 5, none⟩), .bool y35.dir, .bool y35.dir, undef, undef, undef, undef, undef, undef, undef, .bool false, .bool false], rfl, (by kernel_rfl), M96, (by omega)⟩
              · omega
            · refine qv (wt (b := y35.dir) rfl (by kernel_rfl) v92) (v := .slice A17 L0.length c18) (fun _ _ => r_move (by kernel_rfl)) ?_
              refine qv (wt (b := y35.dir) rfl (by kernel_rfl) v92) (v := .int .i64 ((k : Int))) (fun _ _ => r_move (by kernel_rfl)) ?_
              obtain ⟨g93, cp93, cu93, dA93, dn93, dc93, hA93, hg93, hb93, he93, hD93⟩ := h80.get hy35
              injection hA93 with hA93 _ _
              replace he93 : (cu93.toList.drop (0 + k * 10)).take 10 = [.int .i64 y35.node.t, .int .i64 y35.node.w, .int .i64 y35.parent.t, .int .i64 y35.parent.w, .string y35.name, .bool y35.dir, .bool y35.gone, .slice dA93 dn93 dc93, .int .i64 y35.by_.t, .int .i64 y35.by_.w] := by rw [Nat.zero_add]; exact he93
              refine qv (wt (b := y35.dir) rfl (by kernel_rfl) v92) (v := .pointer (some ⟨g93, 0 + k * 10, none⟩)) (fun _ _ => r_ixaddr' (A := A17) (b := g93) (o := 0) (n := L0.length) (c := c18) (sz := 10) (j := (k : Int)) (by kernel_rfl) hA93 (by kernel_rfl) Ty.un48 Ty.sz35 (by omega) (by omega) (by simp)) ?_
              refine qv (wt (b := y35.dir) rfl (by kernel_rfl) v92) (v := .pointer (some ⟨g93, 0 + k * 10 + 7, none⟩)) (fun _ _ => r_fieldAddr (u := .pointer (some ⟨g93, 0 + k * 10, none⟩)) (v := .pointer (some ⟨g93, 0 + k * 10 + 7, none⟩)) (by kernel_rfl) (fun _ => (by kernel_rfl))) ?_
              refine qv (wt (b := y35.dir) rfl (by kernel_rfl) v92) (v := .slice dA93 dn93 dc93) (fun _ uz => r_load (k := 0 + k * 10 + 7) (v := .slice dA93 dn93 dc93) (by kernel_rfl) Ty.ag33 (up_ob uz hb93) (el_get he93 7 rfl)) ?_
              refine qv (wt (b := y35.dir) rfl (by kernel_rfl) v92) (v := .int .i64 ((dn93 : Int))) (fun _ _ => r_len Ty.un33 (ad := dA93) (n := dn93) (c := dc93) (by kernel_rfl)) ?_
              refine qb (wt (b := y35.dir) rfl (by kernel_rfl) v92) (fun _ _ => r_gt (k := .i64) (m := ((dn93 : Int))) (n := 0) (by kernel_rfl) (by kernel_rfl)) ?_
              intro b94 k95
              refine qv (by kernel_rfl) (v := .bool b94) (fun _ _ => r_pick (b := true) (u := .bool b94) (v := .bool false) (ebool (b := y35.dir) (by kernel_rfl) v92) (by kernel_rfl) (by kernel_rfl)) ?_
              refine qv rfl (v := .bool b94) (fun _ _ => r_pick (b := false) (u := .bool true) (v := .bool b94) (by kernel_rfl) (by kernel_rfl) (by kernel_rfl)) ?_
              refine qnil ?_
              intro w96 u97
              have M98 := Mod.trans M78 (Mod.of_up u97)
              have M99 := Mod.trans M79 (Mod.of_up u97)
              refine then_n ?_
              refine bcase b94 (fun v100 => ?_) (fun v100 => ?_)
              · have p101 := of_decide_eq_false (k95.trans v100)
                refine wp_cond_false (ebool (b := b94) (by kernel_rfl) v100) ?_
                refine wp_skip ?_
                refine inb_n ?_
                refine then_n ?_
                refine rg_lit ?_
                refine wl (sv rfl (v := .int .i64 ((k : Int))) (r_move (by kernel_rfl)) ?_)
                refine wl (sv rfl (v := .int .i64 (((k : Int)) + 1)) (r_add (k := .i64) (m := ((k : Int))) (n := 1) (by kernel_rfl) (by kernel_rfl) (IntWalk.i64_in _ (by omega))) ?_)
                refine wl (sv rfl (v := .int .i64 (((k : Int)) + 1)) (r_assign (by kernel_rfl)) ?_)
                refine wnil ?_
                refine then_n ?_
                refine ⟨L0.length - (k + 1), ?_, (k + 1), tget [undef, undef, (Z 2), undef, undef, undef, .pointer (some ⟨b54, 0, none⟩), .bool ((hasI L0 ⟨y35.parent.t, y35.parent.w⟩)), undef, undef, undef, undef, undef, undef, undef, undef, .int .i64 ((k : Int)), .slice A17 L0.length c18, .int .i64 ((L0.length : Int)), .bool b28, .int .i64 ((k : Int)), .int .i64 (((k : Int)) + 1), .pointer (some ⟨tb, 0, none⟩), .slice A17 L0.length c18, .int .i64 ((k : Int)), .pointer (some ⟨g35, 0 + k * 10, none⟩), .pointer (some ⟨g35, 0 + k * 10, none⟩), .agg #[.int .i64 y35.node.t, .int .i64 y35.node.w], .slice A17 L0.length c18, .int .i64 ((k : Int)), .pointer (some ⟨g36, 0 + k * 10, none⟩), .pointer (some ⟨g36, 0 + k * 10 + 2, none⟩), .agg #[.int .i64 y35.parent.t, .int .i64 y35.parent.w], .bool false, .bool false, .pointer (some ⟨tb, 0, none⟩), .agg #[.int .i64 0, .int .i64 0], .slice A17 L0.length c18, .int .i64 ((k : Int)), .pointer (some ⟨g38, 0 + k * 10, none⟩), .pointer (some ⟨g38, 0 + k * 10, none⟩), .agg #[.int .i64 y35.node.t, .int .i64 y35.node.w], .bool true, .bool false, .bool false, .tuple #[.agg #[.int .i64 ((gotI L0 ⟨y35.parent.t, y35.parent.w⟩).node.t), .int .i64 ((gotI L0 ⟨y35.parent.t, y35.parent.w⟩).node.w), .int .i64 ((gotI L0 ⟨y35.parent.t, y35.parent.w⟩).parent.t), .int .i64 ((gotI L0 ⟨y35.parent.t, y35.parent.w⟩).parent.w), .string ((gotI L0 ⟨y35.parent.t, y35.parent.w⟩).name), .bool ((gotI L0 ⟨y35.parent.t, y35.parent.w⟩).dir), .bool ((gotI L0 ⟨y35.parent.t, y35.parent.w⟩).gone), .slice A47 n48 c49, .int .i64 ((gotI L0 ⟨y35.parent.t, y35.parent.w⟩).by_.t), .int .i64 ((gotI L0 ⟨y35.parent.t, y35.parent.w⟩).by_.w)], .bool ((hasI L0 ⟨y35.parent.t, y35.parent.w⟩))], .pointer (some ⟨tb, 0, none⟩), .slice A17 L0.length c18, .int .i64 ((k : Int)), .pointer (some ⟨g44, 0 + k * 10, none⟩), .pointer (some ⟨g44, 0 + k * 10 + 2, none⟩), .agg #[.int .i64 y35.parent.t, .int .i64 y35.parent.w], .tuple #[.agg #[.int .i64 ((gotI L0 ⟨y35.parent.t, y35.parent.w⟩).node.t), .int .i64 ((gotI L0 ⟨y35.parent.t, y35.parent.w⟩).node.w), .int .i64 ((gotI L0 ⟨y35.parent.t, y35.parent.w⟩).parent.t), .int .i64 ((gotI L0 ⟨y35.parent.t, y35.parent.w⟩).parent.w), .string ((gotI L0 ⟨y35.parent.t, y35.parent.w⟩).name), .bool ((gotI L0 ⟨y35.parent.t, y35.parent.w⟩).dir), .bool ((gotI L0 ⟨y35.parent.t, y35.parent.w⟩).gone), .slice A47 n48 c49, .int .i64 ((gotI L0 ⟨y35.parent.t, y35.parent.w⟩).by_.t), .int .i64 ((gotI L0 ⟨y35.parent.t, y35.parent.w⟩).by_.w)], .bool ((hasI L0 ⟨y35.parent.t, y35.parent.w⟩))], .agg #[.int .i64 ((gotI L0 ⟨y35.parent.t, y35.parent.w⟩).node.t), .int .i64 ((gotI L0 ⟨y35.parent.t, y35.parent.w⟩).node.w), .int .i64 ((gotI L0 ⟨y35.parent.t, y35.parent.w⟩).parent.t), .int .i64 ((gotI L0 ⟨y35.parent.t, y35.parent.w⟩).parent.w), .string ((gotI L0 ⟨y35.parent.t, y35.parent.w⟩).name), .bool ((gotI L0 ⟨y35.parent.t, y35.parent.w⟩).dir), .bool ((gotI L0 ⟨y35.parent.t, y35.parent.w⟩).gone), .slice A47 n48 c49, .int .i64 ((gotI L0 ⟨y35.parent.t, y35.parent.w⟩).by_.t), .int .i64 ((gotI L0 ⟨y35.parent.t, y35.parent.w⟩).by_.w)], .bool ((hasI L0 ⟨y35.parent.t, y35.parent.w⟩)), .slice A17 L0.length c18, .int .i64 ((k : Int)), .pointer (some ⟨g81, 0 + k * 10, none⟩), .pointer (some ⟨g81, 0 + k * 10 + 2, none⟩), .agg #[.int .i64 y35.parent.t, .int .i64 y35.parent.w], .agg #[.int .i64 0, .int .i64 0], .bool b82, .bool b82, undef, undef, undef, undef, undef, undef, undef, .bool false, .pointer (some ⟨tb, 0, none⟩), .slice A17 L0.length c18, .int .i64 ((k : Int)), .pointer (some ⟨g86, 0 + k * 10, none⟩), .pointer (some ⟨g86, 0 + k * 10, none⟩), .agg #[.int .i64 y35.node.t, .int .i64 y35.node.w], .bool ((hangsI L0 301 ⟨y35.node.t, y35.node.w⟩)), .slice A17 L0.length c18, .int .i64 ((k : Int)), .pointer (some ⟨g88, 0 + k * 10, none⟩), .pointer (some ⟨g88, 0 + k * 10 + 6, none⟩), .bool y35.gone, .bool (!y35.gone), .bool (!y35.gone), undef, undef, undef, undef, undef, undef, undef, .bool false, .bool false, .bool false, .slice A17 L0.length c18, .int .i64 ((k : Int)), .pointer (some ⟨g91, 0 + k * 10, none⟩), .pointer (some ⟨g91, 0 + k * 10 + 5, none⟩), .bool y35.dir, .bool y35.dir, .slice A17 L0.length c18, .int .i64 ((k : Int)), .pointer (some ⟨g93, 0 + k * 10, none⟩), .pointer (some ⟨g93, 0 + k * 10 + 7, none⟩), .slice dA93 dn93 dc93, .int .i64 ((dn93 : Int)), .bool b94, .bool b94, .bool b94], rfl, (by kernel_rfl), M99, (by omega)⟩
                · omega
              · have p101 := of_decide_eq_true (k95.trans v100)
                have hz := (Dat.len hD93).1
                rw [rey35 v92] at hz
                simp only [List.length_nil] at hz
                exact absurd p101 (by omega)
          · refine qv rfl (v := .bool true) (fun _ _ => r_neb (a := true) (b := false) Try.underlying4 (ebool (b := (hangsI L0 301 ⟨y35.node.t, y35.node.w⟩)) (by kernel_rfl) v90) (by kernel_rfl)) ?_
            refine qv rfl (v := .bool true) (fun _ _ => r_move (by kernel_rfl)) ?_
            refine qp (by kernel_rfl) ?_
            refine qp (by kernel_rfl) ?_
            refine qp (by kernel_rfl) ?_
            refine qp (by kernel_rfl) ?_
            refine qp (by kernel_rfl) ?_
            refine qp (by kernel_rfl) ?_
            refine qp (by kernel_rfl) ?_
            refine qp (by kernel_rfl) ?_
            refine qp (by kernel_rfl) ?_
            refine qp (by kernel_rfl) ?_
            refine qp (by kernel_rfl) ?_
            refine qp (by kernel_rfl) ?_
            refine qp (by kernel_rfl) ?_
            refine qp (by kernel_rfl) ?_
            refine qv rfl (v := .bool true) (fun _ _ => r_pick (b := true) (u := .bool true) (v := undef) (by kernel_rfl) (by kernel_rfl) (by kernel_rfl)) ?_
            refine qnil ?_
            intro w91 u92
            have M93 := Mod.trans M78 (Mod.of_up u92)
            have M94 := Mod.trans M79 (Mod.of_up u92)
            refine then_n ?_
            refine wp_cond_true (by kernel_rfl) ?_
            refine wp_seq ?_
            refine rg_lit ?_
            refine wl (sv rfl (v := .bool false) (r_assign (by kernel_rfl)) ?_)
            refine wnil ?_
            refine then_n ?_
            refine wp_ret ?_
            refine inb_r ?_
            refine then_x (by nofun) ?_
            refine then_x (by nofun) ?_
            refine inb_r ?_
            refine then_x (by nofun) ?_
            refine bodyPost_ret (v := .bool false) (res1 rfl (rv_t (by kernel_rfl))) (by kernel_rfl) ?_
            exfalso
            have e := rdy35
            have f0 := v89
            have f1 := v90
            simp [f0, f1] at e
      · have p85 := of_decide_eq_true (k83.trans v84)
        refine wl (sv (wt (b := b82) rfl (by kernel_rfl) v84) (v := .bool ((hasI L0 ⟨y35.parent.t, y35.parent.w⟩))) (r_move (by kernel_rfl)) ?_)
        refine wl (sv (wt (b := b82) rfl (by kernel_rfl) v84) (v := .bool (!((hasI L0 ⟨y35.parent.t, y35.parent.w⟩)))) (r_not (b := ((hasI L0 ⟨y35.parent.t, y35.parent.w⟩))) (by kernel_rfl)) ?_)
        refine wl (sv (wt (b := b82) rfl (by kernel_rfl) v84) (v := .bool (!((hasI L0 ⟨y35.parent.t, y35.parent.w⟩)))) (r_move (by kernel_rfl)) ?_)
        refine bcase ((hasI L0 ⟨y35.parent.t, y35.parent.w⟩)) (fun v86 => ?_) (fun v86 => ?_)
        · exact absurd ((rcy35 p85).1.symm.trans v86) (by decide)
        · refine wl (sv (wt (b := !((hasI L0 ⟨y35.parent.t, y35.parent.w⟩))) rfl (by kernel_rfl) (bneg v86)) (v := .pointer (some ⟨b54, 5, none⟩)) (r_fieldAddr (u := .pointer (some ⟨b54, 0, none⟩)) (v := .pointer (some ⟨b54, 5, none⟩)) (by kernel_rfl) (fun _ => (by kernel_rfl))) ?_)
          refine wl (sv (wt (b := !((hasI L0 ⟨y35.parent.t, y35.parent.w⟩))) rfl (by kernel_rfl) (bneg v86)) (v := .bool ((gotI L0 ⟨y35.parent.t, y35.parent.w⟩).dir)) (r_load (k := 5) (v := .bool ((gotI L0 ⟨y35.parent.t, y35.parent.w⟩).dir)) (by kernel_rfl) Ty.ag4 h76 (by kernel_rfl)) ?_)
          refine wl (sv (wt (b := !((hasI L0 ⟨y35.parent.t, y35.parent.w⟩))) rfl (by kernel_rfl) (bneg v86)) (v := .bool (!((gotI L0 ⟨y35.parent.t, y35.parent.w⟩).dir))) (r_not (b := ((gotI L0 ⟨y35.parent.t, y35.parent.w⟩).dir)) (by kernel_rfl)) ?_)
          refine wl (sv (wt (b := b82) rfl (by kernel_rfl) v84) (v := .bool (!((gotI L0 ⟨y35.parent.t, y35.parent.w⟩).dir))) (r_pick (b := false) (u := .bool true) (v := .bool (!((gotI L0 ⟨y35.parent.t, y35.parent.w⟩).dir))) (ebool (b := !((hasI L0 ⟨y35.parent.t, y35.parent.w⟩))) (by kernel_rfl) (bneg v86)) (by kernel_rfl) (by kernel_rfl)) ?_)
          refine wl (sv rfl (v := .bool (!((gotI L0 ⟨y35.parent.t, y35.parent.w⟩).dir))) (r_pick (b := true) (u := .bool (!((gotI L0 ⟨y35.parent.t, y35.parent.w⟩).dir))) (v := .bool false) (ebool (b := b82) (by kernel_rfl) v84) (by kernel_rfl) (by kernel_rfl)) ?_)
          refine wnil ?_
          refine then_n ?_
          refine bcase ((gotI L0 ⟨y35.parent.t, y35.parent.w⟩).dir) (fun v87 => ?_) (fun v87 => ?_)
          · exact absurd ((rcy35 p85).2.symm.trans v87) (by decide)
          · refine wp_cond_false (ebool (b := !((gotI L0 ⟨y35.parent.t, y35.parent.w⟩).dir)) (by kernel_rfl) (bneg v87)) ?_
            refine wp_skip ?_
            refine then_n ?_
            refine wp_seq ?_
            refine rg_all (by kernel_rfl) (by kernel_rfl) ?_
            refine qv rfl (v := .pointer (some ⟨tb, 0, none⟩)) (fun _ _ => r_move (by kernel_rfl)) ?_
            refine qv rfl (v := .slice A17 L0.length c18) (fun _ _ => r_move (by kernel_rfl)) ?_
            refine qv rfl (v := .int .i64 ((k : Int))) (fun _ _ => r_move (by kernel_rfl)) ?_
            obtain ⟨g88, cp88, cu88, dA88, dn88, dc88, hA88, hg88, hb88, he88, hD88⟩ := h80.get hy35
            injection hA88 with hA88 _ _
            replace he88 : (cu88.toList.drop (0 + k * 10)).take 10 = [.int .i64 y35.node.t, .int .i64 y35.node.w, .int .i64 y35.parent.t, .int .i64 y35.parent.w, .string y35.name, .bool y35.dir, .bool y35.gone, .slice dA88 dn88 dc88, .int .i64 y35.by_.t, .int .i64 y35.by_.w] := by rw [Nat.zero_add]; exact he88
            refine qv rfl (v := .pointer (some ⟨g88, 0 + k * 10, none⟩)) (fun _ _ => r_ixaddr' (A := A17) (b := g88) (o := 0) (n := L0.length) (c := c18) (sz := 10) (j := (k : Int)) (by kernel_rfl) hA88 (by kernel_rfl) Ty.un48 Ty.sz35 (by omega) (by omega) (by simp)) ?_
            refine qv rfl (v := .pointer (some ⟨g88, 0 + k * 10, none⟩)) (fun _ _ => r_fieldAddr (u := .pointer (some ⟨g88, 0 + k * 10, none⟩)) (v := .pointer (some ⟨g88, 0 + k * 10, none⟩)) (by kernel_rfl) (fun _ => (by kernel_rfl))) ?_
            refine qv rfl (v := .agg #[.int .i64 y35.node.t, .int .i64 y35.node.w]) (fun _ uz => r_loads (k := 0 + k * 10) (vs := [.int .i64 y35.node.t, .int .i64 y35.node.w]) (by kernel_rfl) Ty.ag24 Ty.sz24 (up_ob uz hb88) (el_sub0 he88 rfl)) ?_
            have h89 := (TreeIs.up h26 (Mod.up M79))
            refine qc rfl (v := .bool ((hangsI L0 301 ⟨y35.node.t, y35.node.w⟩))) (fun _ _ => r_callv (caps := []) (all := [.pointer (some ⟨tb, 0, none⟩), .agg #[.int .i64 y35.node.t, .int .i64 y35.node.w]]) En.f27 (by kernel_rfl) (by kernel_rfl)) (fun wz uz => hangs_at (TreeIs.up h89 uz) y35.node.t y35.node.w) ?_ ?_
            · rintro w1 e w2 hC ⟨rfl, hu⟩; exact ⟨rfl, up_step hC hu⟩
            refine qv rfl (v := .slice A17 L0.length c18) (fun _ _ => r_move (by kernel_rfl)) ?_
            refine qv rfl (v := .int .i64 ((k : Int))) (fun _ _ => r_move (by kernel_rfl)) ?_
            obtain ⟨g90, cp90, cu90, dA90, dn90, dc90, hA90, hg90, hb90, he90, hD90⟩ := h80.get hy35
            injection hA90 with hA90 _ _
            replace he90 : (cu90.toList.drop (0 + k * 10)).take 10 = [.int .i64 y35.node.t, .int .i64 y35.node.w, .int .i64 y35.parent.t, .int .i64 y35.parent.w, .string y35.name, .bool y35.dir, .bool y35.gone, .slice dA90 dn90 dc90, .int .i64 y35.by_.t, .int .i64 y35.by_.w] := by rw [Nat.zero_add]; exact he90
            refine qv rfl (v := .pointer (some ⟨g90, 0 + k * 10, none⟩)) (fun _ _ => r_ixaddr' (A := A17) (b := g90) (o := 0) (n := L0.length) (c := c18) (sz := 10) (j := (k : Int)) (by kernel_rfl) hA90 (by kernel_rfl) Ty.un48 Ty.sz35 (by omega) (by omega) (by simp)) ?_
            refine qv rfl (v := .pointer (some ⟨g90, 0 + k * 10 + 6, none⟩)) (fun _ _ => r_fieldAddr (u := .pointer (some ⟨g90, 0 + k * 10, none⟩)) (v := .pointer (some ⟨g90, 0 + k * 10 + 6, none⟩)) (by kernel_rfl) (fun _ => (by kernel_rfl))) ?_
            refine qv rfl (v := .bool y35.gone) (fun _ uz => r_load (k := 0 + k * 10 + 6) (v := .bool y35.gone) (by kernel_rfl) Ty.ag4 (up_ob uz hb90) (el_get he90 6 rfl)) ?_
            refine qv rfl (v := .bool (!y35.gone)) (fun _ _ => r_not (b := y35.gone) (by kernel_rfl)) ?_
            refine qv rfl (v := .bool (!y35.gone)) (fun _ _ => r_move (by kernel_rfl)) ?_
            refine bcase y35.gone (fun v91 => ?_) (fun v91 => ?_)
            · refine qv (wt (b := !y35.gone) rfl (by kernel_rfl) (bneg v91)) (v := .pointer (some ⟨tb, 0, none⟩)) (fun _ _ => r_move (by kernel_rfl)) ?_
              refine qv (wt (b := !y35.gone) rfl (by kernel_rfl) (bneg v91)) (v := .slice A17 L0.length c18) (fun _ _ => r_move (by kernel_rfl)) ?_
              refine qv (wt (b := !y35.gone) rfl (by kernel_rfl) (bneg v91)) (v := .int .i64 ((k : Int))) (fun _ _ => r_move (by kernel_rfl)) ?_
              obtain ⟨g92, cp92, cu92, dA92, dn92, dc92, hA92, hg92, hb92, he92, hD92⟩ := h80.get hy35
              injection hA92 with hA92 _ _
              replace he92 : (cu92.toList.drop (0 + k * 10)).take 10 = [.int .i64 y35.node.t, .int .i64 y35.node.w, .int .i64 y35.parent.t, .int .i64 y35.parent.w, .string y35.name, .bool y35.dir, .bool y35.gone, .slice dA92 dn92 dc92, .int .i64 y35.by_.t, .int .i64 y35.by_.w] := by rw [Nat.zero_add]; exact he92
              refine qv (wt (b := !y35.gone) rfl (by kernel_rfl) (bneg v91)) (v := .pointer (some ⟨g92, 0 + k * 10, none⟩)) (fun _ _ => r_ixaddr' (A := A17) (b := g92) (o := 0) (n := L0.length) (c := c18) (sz := 10) (j := (k : Int)) (by kernel_rfl) hA92 (by kernel_rfl) Ty.un48 Ty.sz35 (by omega) (by omega) (by simp)) ?_
              refine qv (wt (b := !y35.gone) rfl (by kernel_rfl) (bneg v91)) (v := .pointer (some ⟨g92, 0 + k * 10 + 2, none⟩)) (fun _ _ => r_fieldAddr (u := .pointer (some ⟨g92, 0 + k * 10, none⟩)) (v := .pointer (some ⟨g92, 0 + k * 10 + 2, none⟩)) (by kernel_rfl) (fun _ => (by kernel_rfl))) ?_
              refine qv (wt (b := !y35.gone) rfl (by kernel_rfl) (bneg v91)) (v := .agg #[.int .i64 y35.parent.t, .int .i64 y35.parent.w]) (fun _ uz => r_loads (k := 0 + k * 10 + 2) (vs := [.int .i64 y35.parent.t, .int .i64 y35.parent.w]) (by kernel_rfl) Ty.ag24 Ty.sz24 (up_ob uz hb92) (el_sub he92 2 rfl)) ?_
              refine qc (wt (b := !y35.gone) rfl (by kernel_rfl) (bneg v91)) (v := .bool ((hangsI L0 301 ⟨y35.parent.t, y35.parent.w⟩))) (fun _ _ => r_callv (caps := []) (all := [.pointer (some ⟨tb, 0, none⟩), .agg #[.int .i64 y35.parent.t, .int .i64 y35.parent.w]]) En.f27 (by kernel_rfl) (by kernel_rfl)) (fun wz uz => hangs_at (TreeIs.up h89 uz) y35.parent.t y35.parent.w) ?_ ?_
              · rintro w1 e w2 hC ⟨rfl, hu⟩; exact ⟨rfl, up_step hC hu⟩
              refine qv rfl (v := .bool ((hangsI L0 301 ⟨y35.parent.t, y35.parent.w⟩))) (fun _ _ => r_pick (b := true) (u := .bool ((hangsI L0 301 ⟨y35.parent.t, y35.parent.w⟩))) (v := .bool false) (ebool (b := !y35.gone) (by kernel_rfl) (bneg v91)) (by kernel_rfl) (by kernel_rfl)) ?_
              refine bcase ((hangsI L0 301 ⟨y35.node.t, y35.node.w⟩)) (fun v93 => ?_) (fun v93 => ?_)
              · refine bcase ((hangsI L0 301 ⟨y35.parent.t, y35.parent.w⟩)) (fun v94 => ?_) (fun v94 => ?_)
                · refine qv rfl (v := .bool false) (fun _ _ => r_neb (a := false) (b := false) Try.underlying4 (ebool (b := (hangsI L0 301 ⟨y35.node.t, y35.node.w⟩)) (by kernel_rfl) v93) (ebool (b := (hangsI L0 301 ⟨y35.parent.t, y35.parent.w⟩)) (by kernel_rfl) v94)) ?_
                  refine qv rfl (v := .bool false) (fun _ _ => r_move (by kernel_rfl)) ?_
                  refine qv (by kernel_rfl) (v := .slice A17 L0.length c18) (fun _ _ => r_move (by kernel_rfl)) ?_
                  refine qv (by kernel_rfl) (v := .int .i64 ((k : Int))) (fun _ _ => r_move (by kernel_rfl)) ?_
                  obtain ⟨g95, cp95, cu95, dA95, dn95, dc95, hA95, hg95, hb95, he95, hD95⟩ := h80.get hy35
                  injection hA95 with hA95 _ _
                  replace he95 : (cu95.toList.drop (0 + k * 10)).take 10 = [.int .i64 y35.node.t, .int .i64 y35.node.w, .int .i64 y35.parent.t, .int .i64 y35.parent.w, .string y35.name, .bool y35.dir, .bool y35.gone, .slice dA95 dn95 dc95, .int .i64 y35.by_.t, .int .i64 y35.by_.w] := by rw [Nat.zero_add]; exact he95
                  refine qv (by kernel_rfl) (v := .pointer (some ⟨g95, 0 + k * 10, none⟩)) (fun _ _ => r_ixaddr' (A := A17) (b := g95) (o := 0) (n := L0.length) (c := c18) (sz := 10) (j := (k : Int)) (by kernel_rfl) hA95 (by kernel_rfl) Ty.un48 Ty.sz35 (by omega) (by omega) (by simp)) ?_
                  refine qv (by kernel_rfl) (v := .pointer (some ⟨g95, 0 + k * 10 + 5, none⟩)) (fun _ _ => r_fieldAddr (u := .pointer (some ⟨g95, 0 + k * 10, none⟩)) (v := .pointer (some ⟨g95, 0 + k * 10 + 5, none⟩)) (by kernel_rfl) (fun _ => (by kernel_rfl))) ?_
                  refine qv (by kernel_rfl) (v := .bool y35.dir) (fun _ uz => r_load (k := 0 + k * 10 + 5) (v := .bool y35.dir) (by kernel_rfl) Ty.ag4 (up_ob uz hb95) (el_get he95 5 rfl)) ?_
                  refine qv (by kernel_rfl) (v := .bool y35.dir) (fun _ _ => r_move (by kernel_rfl)) ?_
                  refine bcase y35.dir (fun v96 => ?_) (fun v96 => ?_)
                  · refine qp (wf (b := y35.dir) rfl (by kernel_rfl) v96) ?_
                    refine qp (wf (b := y35.dir) rfl (by kernel_rfl) v96) ?_
                    refine qp (wf (b := y35.dir) rfl (by kernel_rfl) v96) ?_
                    refine qp (wf (b := y35.dir) rfl (by kernel_rfl) v96) ?_
                    refine qp (wf (b := y35.dir) rfl (by kernel_rfl) v96) ?_
                    refine qp (wf (b := y35.dir) rfl (by kernel_rfl) v96) ?_
                    refine qp (wf (b := y35.dir) rfl (by kernel_rfl) v96) ?_
                    refine qv (by kernel_rfl) (v := .bool false) (fun _ _ => r_pick (b := false) (u := undef) (v := .bool false) (ebool (b := y35.dir) (by kernel_rfl) v96) (by kernel_rfl) (by kernel_rfl)) ?_
                    refine qv rfl (v := .bool false) (fun _ _ => r_pick (b := false) (u := .bool true) (v := .bool false) (by kernel_rfl) (by kernel_rfl) (by kernel_rfl)) ?_
                    refine qnil ?_
                    intro w97 u98
                    have M99 := Mod.trans M78 (Mod.of_up u98)
                    have M100 := Mod.trans M79 (Mod.of_up u98)
                    refine then_n ?_
                    refine wp_cond_false (by kernel_rfl) ?_
                    refine wp_skip ?_
                    refine inb_n ?_
                    refine then_n ?_
                    refine rg_lit ?_
                    refine wl (sv rfl (v := .int .i64 ((k : Int))) (r_move (by kernel_rfl)) ?_)
                    refine wl (sv rfl (v := .int .i64 (((k : Int)) + 1)) (r_add (k := .i64) (m := ((k : Int))) (n := 1) (by kernel_rfl) (by kernel_rfl) (IntWalk.i64_in _ (by omega))) ?_)
                    refine wl (sv rfl (v := .int .i64 (((k : Int)) + 1)) (r_assign (by kernel_rfl)) ?_)
                    refine wnil ?_
                    refine then_n ?_
                    refine ⟨L0.length - (k + 1), ?_, (k + 1), tget [undef, undef, (Z 2), undef, undef, undef, .pointer (some ⟨b54, 0, none⟩), .bool ((hasI L0 ⟨y35.parent.t, y35.parent.w⟩)), undef, undef, undef, undef, undef, undef, undef, undef, .int .i64 ((k : Int)), .slice A17 L0.length c18, .int .i64 ((L0.length : Int)), .bool b28, .int .i64 ((k : Int)), .int .i64 (((k : Int)) + 1), .pointer (some ⟨tb, 0, none⟩), .slice A17 L0.length c18, .int .i64 ((k : Int)), .pointer (some ⟨g35, 0 + k * 10, none⟩), .pointer (some ⟨g35, 0 + k * 10, none⟩), .agg #[.int .i64 y35.node.t, .int .i64 y35.node.w], .slice A17 L0.length c18, .int .i64 ((k : Int)), .pointer (some ⟨g36, 0 + k * 10, none⟩), .pointer (some ⟨g36, 0 + k * 10 + 2, none⟩), .agg #[.int .i64 y35.parent.t, .int .i64 y35.parent.w], .bool false, .bool false, .pointer (some ⟨tb, 0, none⟩), .agg #[.int .i64 0, .int .i64 0], .slice A17 L0.length c18, .int .i64 ((k : Int)), .pointer (some ⟨g38, 0 + k * 10, none⟩), .pointer (some ⟨g38, 0 + k * 10, none⟩), .agg #[.int .i64 y35.node.t, .int .i64 y35.node.w], .bool true, .bool false, .bool false, .tuple #[.agg #[.int .i64 ((gotI L0 ⟨y35.parent.t, y35.parent.w⟩).node.t), .int .i64 ((gotI L0 ⟨y35.parent.t, y35.parent.w⟩).node.w), .int .i64 ((gotI L0 ⟨y35.parent.t, y35.parent.w⟩).parent.t), .int .i64 ((gotI L0 ⟨y35.parent.t, y35.parent.w⟩).parent.w), .string ((gotI L0 ⟨y35.parent.t, y35.parent.w⟩).name), .bool ((gotI L0 ⟨y35.parent.t, y35.parent.w⟩).dir), .bool ((gotI L0 ⟨y35.parent.t, y35.parent.w⟩).gone), .slice A47 n48 c49, .int .i64 ((gotI L0 ⟨y35.parent.t, y35.parent.w⟩).by_.t), .int .i64 ((gotI L0 ⟨y35.parent.t, y35.parent.w⟩).by_.w)], .bool ((hasI L0 ⟨y35.parent.t, y35.parent.w⟩))], .pointer (some ⟨tb, 0, none⟩), .slice A17 L0.length c18, .int .i64 ((k : Int)), .pointer (some ⟨g44, 0 + k * 10, none⟩), .pointer (some ⟨g44, 0 + k * 10 + 2, none⟩), .agg #[.int .i64 y35.parent.t, .int .i64 y35.parent.w], .tuple #[.agg #[.int .i64 ((gotI L0 ⟨y35.parent.t, y35.parent.w⟩).node.t), .int .i64 ((gotI L0 ⟨y35.parent.t, y35.parent.w⟩).node.w), .int .i64 ((gotI L0 ⟨y35.parent.t, y35.parent.w⟩).parent.t), .int .i64 ((gotI L0 ⟨y35.parent.t, y35.parent.w⟩).parent.w), .string ((gotI L0 ⟨y35.parent.t, y35.parent.w⟩).name), .bool ((gotI L0 ⟨y35.parent.t, y35.parent.w⟩).dir), .bool ((gotI L0 ⟨y35.parent.t, y35.parent.w⟩).gone), .slice A47 n48 c49, .int .i64 ((gotI L0 ⟨y35.parent.t, y35.parent.w⟩).by_.t), .int .i64 ((gotI L0 ⟨y35.parent.t, y35.parent.w⟩).by_.w)], .bool ((hasI L0 ⟨y35.parent.t, y35.parent.w⟩))], .agg #[.int .i64 ((gotI L0 ⟨y35.parent.t, y35.parent.w⟩).node.t), .int .i64 ((gotI L0 ⟨y35.parent.t, y35.parent.w⟩).node.w), .int .i64 ((gotI L0 ⟨y35.parent.t, y35.parent.w⟩).parent.t), .int .i64 ((gotI L0 ⟨y35.parent.t, y35.parent.w⟩).parent.w), .string ((gotI L0 ⟨y35.parent.t, y35.parent.w⟩).name), .bool ((gotI L0 ⟨y35.parent.t, y35.parent.w⟩).dir), .bool ((gotI L0 ⟨y35.parent.t, y35.parent.w⟩).gone), .slice A47 n48 c49, .int .i64 ((gotI L0 ⟨y35.parent.t, y35.parent.w⟩).by_.t), .int .i64 ((gotI L0 ⟨y35.parent.t, y35.parent.w⟩).by_.w)], .bool ((hasI L0 ⟨y35.parent.t, y35.parent.w⟩)), .slice A17 L0.length c18, .int .i64 ((k : Int)), .pointer (some ⟨g81, 0 + k * 10, none⟩), .pointer (some ⟨g81, 0 + k * 10 + 2, none⟩), .agg #[.int .i64 y35.parent.t, .int .i64 y35.parent.w], .agg #[.int .i64 0, .int .i64 0], .bool b82, .bool b82, .bool ((hasI L0 ⟨y35.parent.t, y35.parent.w⟩)), .bool (!((hasI L0 ⟨y35.parent.t, y35.parent.w⟩))), .bool (!((hasI L0 ⟨y35.parent.t, y35.parent.w⟩))), .pointer (some ⟨b54, 5, none⟩), .bool ((gotI L0 ⟨y35.parent.t, y35.parent.w⟩).dir), .bool (!((gotI L0 ⟨y35.parent.t, y35.parent.w⟩).dir)), .bool (!((gotI L0 ⟨y35.parent.t, y35.parent.w⟩).dir)), .bool (!((gotI L0 ⟨y35.parent.t, y35.parent.w⟩).dir)), .pointer (some ⟨tb, 0, none⟩), .slice A17 L0.length c18, .int .i64 ((k : Int)), .pointer (some ⟨g88, 0 + k * 10, none⟩), .pointer (some ⟨g88, 0 + k * 10, none⟩), .agg #[.int .i64 y35.node.t, .int .i64 y35.node.w], .bool ((hangsI L0 301 ⟨y35.node.t, y35.node.w⟩)), .slice A17 L0.length c18, .int .i64 ((k : Int)), .pointer (some ⟨g90, 0 + k * 10, none⟩), .pointer (some ⟨g90, 0 + k * 10 + 6, none⟩), .bool y35.gone, .bool (!y35.gone), .bool (!y35.gone), .pointer (some ⟨tb, 0, none⟩), .slice A17 L0.length c18, .int .i64 ((k : Int)), .pointer (some ⟨g92, 0 + k * 10, none⟩), .pointer (some ⟨g92, 0 + k * 10 + 2, none⟩), .agg #[.int .i64 y35.parent.t, .int .i64 y35.parent.w], .bool ((hangsI L0 301 ⟨y35.parent.t, y35.parent.w⟩)), .bool ((hangsI L0 301 ⟨y35.parent.t, y35.parent.w⟩)), .bool false, .bool false, .slice A17 L0.length c18, .int .i64 ((k : Int)), .pointer (some ⟨g95, 0 + k * 10, none⟩), .pointer (some ⟨g95, 0 + k * 10 + 5, none⟩), .bool y35.dir, .bool y35.dir, undef, undef, undef, undef, undef, undef, undef, .bool false, .bool false], rfl, (by kernel_rfl), M100, (by omega)⟩
                    · omega
                  · refine qv (wt (b := y35.dir) rfl (by kernel_rfl) v96) (v := .slice A17 L0.length c18) (fun _ _ => r_move (by kernel_rfl)) ?_
                    refine qv (wt (b := y35.dir) rfl (by kernel_rfl) v96) (v := .int .i64 ((k : Int))) (fun _ _ => r_move (by kernel_rfl)) ?_
                    obtain ⟨g97, cp97, cu97, dA97, dn97, dc97, hA97, hg97, hb97, he97, hD97⟩ := h80.get hy35
                    injection hA97 with hA97 _ _
                    replace he97 : (cu97.toList.drop (0 + k * 10)).take 10 = [.int .i64 y35.node.t, .int .i64 y35.node.w, .int .i64 y35.parent.t, .int .i64 y35.parent.w, .string y35.name, .bool y35.dir, .bool y35.gone, .slice dA97 dn97 dc97, .int .i64 y35.by_.t, .int .i64 y35.by_.w] := by rw [Nat.zero_add]; exact he97
                    refine qv (wt (b := y35.dir) rfl (by kernel_rfl) v96) (v := .pointer (some ⟨g97, 0 + k * 10, none⟩)) (fun _ _ => r_ixaddr' (A := A17) (b := g97) (o := 0) (n := L0.length) (c := c18) (sz := 10) (j := (k : Int)) (by kernel_rfl) hA97 (by kernel_rfl) Ty.un48 Ty.sz35 (by omega) (by omega) (by simp)) ?_
                    refine qv (wt (b := y35.dir) rfl (by kernel_rfl) v96) (v := .pointer (some ⟨g97, 0 + k * 10 + 7, none⟩)) (fun _ _ => r_fieldAddr (u := .pointer (some ⟨g97, 0 + k * 10, none⟩)) (v := .pointer (some ⟨g97, 0 + k * 10 + 7, none⟩)) (by kernel_rfl) (fun _ => (by kernel_rfl))) ?_
                    refine qv (wt (b := y35.dir) rfl (by kernel_rfl) v96) (v := .slice dA97 dn97 dc97) (fun _ uz => r_load (k := 0 + k * 10 + 7) (v := .slice dA97 dn97 dc97) (by kernel_rfl) Ty.ag33 (up_ob uz hb97) (el_get he97 7 rfl)) ?_
                    refine qv (wt (b := y35.dir) rfl (by kernel_rfl) v96) (v := .int .i64 ((dn97 : Int))) (fun _ _ => r_len Ty.un33 (ad := dA97) (n := dn97) (c := dc97) (by kernel_rfl)) ?_
                    refine qb (wt (b := y35.dir) rfl (by kernel_rfl) v96) (fun _ _ => r_gt (k := .i64) (m := ((dn97 : Int))) (n := 0) (by kernel_rfl) (by kernel_rfl)) ?_
                    intro b98 k99
                    refine qv (by kernel_rfl) (v := .bool b98) (fun _ _ => r_pick (b := true) (u := .bool b98) (v := .bool false) (ebool (b := y35.dir) (by kernel_rfl) v96) (by kernel_rfl) (by kernel_rfl)) ?_
                    refine qv rfl (v := .bool b98) (fun _ _ => r_pick (b := false) (u := .bool true) (v := .bool b98) (by kernel_rfl) (by kernel_rfl) (by kernel_rfl)) ?_
                    refine qnil ?_
                    intro w100 u101
                    have M102 := Mod.trans M78 (Mod.of_up u101)
                    have M103 := Mod.trans M79 (Mod.of_up u101)
                    refine then_n ?_
                    refine bcase b98 (fun v104 => ?_) (fun v104 => ?_)
                    · have p105 := of_decide_eq_false (k99.trans v104)
                      refine wp_cond_false (ebool (b := b98) (by kernel_rfl) v104) ?_
                      refine wp_skip ?_
                      refine inb_n ?_
                      refine then_n ?_
                      refine rg_lit ?_
                      refine wl (sv rfl (v := .int .i64 ((k : Int))) (r_move (by kernel_rfl)) ?_)
                      refine wl (sv rfl (v := .int .i64 (((k : Int)) + 1)) (r_add (k := .i64) (m := ((k : Int))) (n := 1) (by kernel_rfl) (by kernel_rfl) (IntWalk.i64_in _ (by omega))) ?_)
                      refine wl (sv rfl (v := .int .i64 (((k : Int)) + 1)) (r_assign (by kernel_rfl)) ?_)
                      refine wnil ?_
                      refine then_n ?_
                      refine ⟨L0.length - (k + 1), ?_, (k + 1), tget [undef, undef, (Z 2), undef, undef, undef, .pointer (some ⟨b54, 0, none⟩), .bool ((hasI L0 ⟨y35.parent.t, y35.parent.w⟩)), undef, undef, undef, undef, undef, undef, undef, undef, .int .i64 ((k : Int)), .slice A17 L0.length c18, .int .i64 ((L0.length : Int)), .bool b28, .int .i64 ((k : Int)), .int .i64 (((k : Int)) + 1), .pointer (some ⟨tb, 0, none⟩), .slice A17 L0.length c18, .int .i64 ((k : Int)), .pointer (some ⟨g35, 0 + k * 10, none⟩), .pointer (some ⟨g35, 0 + k * 10, none⟩), .agg #[.int .i64 y35.node.t, .int .i64 y35.node.w], .slice A17 L0.length c18, .int .i64 ((k : Int)), .pointer (some ⟨g36, 0 + k * 10, none⟩), .pointer (some ⟨g36, 0 + k * 10 + 2, none⟩), .agg #[.int .i64 y35.parent.t, .int .i64 y35.parent.w], .bool false, .bool false, .pointer (some ⟨tb, 0, none⟩), .agg #[.int .i64 0, .int .i64 0], .slice A17 L0.length c18, .int .i64 ((k : Int)), .pointer (some ⟨g38, 0 + k * 10, none⟩), .pointer (some ⟨g38, 0 + k * 10, none⟩), .agg #[.int .i64 y35.node.t, .int .i64 y35.node.w], .bool true, .bool false, .bool false, .tuple #[.agg #[.int .i64 ((gotI L0 ⟨y35.parent.t, y35.parent.w⟩).node.t), .int .i64 ((gotI L0 ⟨y35.parent.t, y35.parent.w⟩).node.w), .int .i64 ((gotI L0 ⟨y35.parent.t, y35.parent.w⟩).parent.t), .int .i64 ((gotI L0 ⟨y35.parent.t, y35.parent.w⟩).parent.w), .string ((gotI L0 ⟨y35.parent.t, y35.parent.w⟩).name), .bool ((gotI L0 ⟨y35.parent.t, y35.parent.w⟩).dir), .bool ((gotI L0 ⟨y35.parent.t, y35.parent.w⟩).gone), .slice A47 n48 c49, .int .i64 ((gotI L0 ⟨y35.parent.t, y35.parent.w⟩).by_.t), .int .i64 ((gotI L0 ⟨y35.parent.t, y35.parent.w⟩).by_.w)], .bool ((hasI L0 ⟨y35.parent.t, y35.parent.w⟩))], .pointer (some ⟨tb, 0, none⟩), .slice A17 L0.length c18, .int .i64 ((k : Int)), .pointer (some ⟨g44, 0 + k * 10, none⟩), .pointer (some ⟨g44, 0 + k * 10 + 2, none⟩), .agg #[.int .i64 y35.parent.t, .int .i64 y35.parent.w], .tuple #[.agg #[.int .i64 ((gotI L0 ⟨y35.parent.t, y35.parent.w⟩).node.t), .int .i64 ((gotI L0 ⟨y35.parent.t, y35.parent.w⟩).node.w), .int .i64 ((gotI L0 ⟨y35.parent.t, y35.parent.w⟩).parent.t), .int .i64 ((gotI L0 ⟨y35.parent.t, y35.parent.w⟩).parent.w), .string ((gotI L0 ⟨y35.parent.t, y35.parent.w⟩).name), .bool ((gotI L0 ⟨y35.parent.t, y35.parent.w⟩).dir), .bool ((gotI L0 ⟨y35.parent.t, y35.parent.w⟩).gone), .slice A47 n48 c49, .int .i64 ((gotI L0 ⟨y35.parent.t, y35.parent.w⟩).by_.t), .int .i64 ((gotI L0 ⟨y35.parent.t, y35.parent.w⟩).by_.w)], .bool ((hasI L0 ⟨y35.parent.t, y35.parent.w⟩))], .agg #[.int .i64 ((gotI L0 ⟨y35.parent.t, y35.parent.w⟩).node.t), .int .i64 ((gotI L0 ⟨y35.parent.t, y35.parent.w⟩).node.w), .int .i64 ((gotI L0 ⟨y35.parent.t, y35.parent.w⟩).parent.t), .int .i64 ((gotI L0 ⟨y35.parent.t, y35.parent.w⟩).parent.w), .string ((gotI L0 ⟨y35.parent.t, y35.parent.w⟩).name), .bool ((gotI L0 ⟨y35.parent.t, y35.parent.w⟩).dir), .bool ((gotI L0 ⟨y35.parent.t, y35.parent.w⟩).gone), .slice A47 n48 c49, .int .i64 ((gotI L0 ⟨y35.parent.t, y35.parent.w⟩).by_.t), .int .i64 ((gotI L0 ⟨y35.parent.t, y35.parent.w⟩).by_.w)], .bool ((hasI L0 ⟨y35.parent.t, y35.parent.w⟩)), .slice A17 L0.length c18, .int .i64 ((k : Int)), .pointer (some ⟨g81, 0 + k * 10, none⟩), .pointer (some ⟨g81, 0 + k * 10 + 2, none⟩), .agg #[.int .i64 y35.parent.t, .int .i64 y35.parent.w], .agg #[.int .i64 0, .int .i64 0], .bool b82, .bool b82, .bool ((hasI L0 ⟨y35.parent.t, y35.parent.w⟩)), .bool (!((hasI L0 ⟨y35.parent.t, y35.parent.w⟩))), .bool (!((hasI L0 ⟨y35.parent.t, y35.parent.w⟩))), .pointer (some ⟨b54, 5, none⟩), .bool ((gotI L0 ⟨y35.parent.t, y35.parent.w⟩).dir), .bool (!((gotI L0 ⟨y35.parent.t, y35.parent.w⟩).dir)), .bool (!((gotI L0 ⟨y35.parent.t, y35.parent.w⟩).dir)), .bool (!((gotI L0 ⟨y35.parent.t, y35.parent.w⟩).dir)), .pointer (some ⟨tb, 0, none⟩), .slice A17 L0.length c18, .int .i64 ((k : Int)), .pointer (some ⟨g88, 0 + k * 10, none⟩), .pointer (some ⟨g88, 0 + k * 10, none⟩), .agg #[.int .i64 y35.node.t, .int .i64 y35.node.w], .bool ((hangsI L0 301 ⟨y35.node.t, y35.node.w⟩)), .slice A17 L0.length c18, .int .i64 ((k : Int)), .pointer (some ⟨g90, 0 + k * 10, none⟩), .pointer (some ⟨g90, 0 + k * 10 + 6, none⟩), .bool y35.gone, .bool (!y35.gone), .bool (!y35.gone), .pointer (some ⟨tb, 0, none⟩), .slice A17 L0.length c18, .int .i64 ((k : Int)), .pointer (some ⟨g92, 0 + k * 10, none⟩), .pointer (some ⟨g92, 0 + k * 10 + 2, none⟩), .agg #[.int .i64 y35.parent.t, .int .i64 y35.parent.w], .bool ((hangsI L0 301 ⟨y35.parent.t, y35.parent.w⟩)), .bool ((hangsI L0 301 ⟨y35.parent.t, y35.parent.w⟩)), .bool false, .bool false, .slice A17 L0.length c18, .int .i64 ((k : Int)), .pointer (some ⟨g95, 0 + k * 10, none⟩), .pointer (some ⟨g95, 0 + k * 10 + 5, none⟩), .bool y35.dir, .bool y35.dir, .slice A17 L0.length c18, .int .i64 ((k : Int)), .pointer (some ⟨g97, 0 + k * 10, none⟩), .pointer (some ⟨g97, 0 + k * 10 + 7, none⟩), .slice dA97 dn97 dc97, .int .i64 ((dn97 : Int)), .bool b98, .bool b98, .bool b98], rfl, (by kernel_rfl), M103, (by omega)⟩
                      · omega
                    · have p105 := of_decide_eq_true (k99.trans v104)
                      have hz := (Dat.len hD97).1
                      rw [rey35 v96] at hz
                      simp only [List.length_nil] at hz
                      exact absurd p105 (by omega)
                · refine qv rfl (v := .bool true) (fun _ _ => r_neb (a := false) (b := true) Try.underlying4 (ebool (b := (hangsI L0 301 ⟨y35.node.t, y35.node.w⟩)) (by kernel_rfl) v93) (ebool (b := (hangsI L0 301 ⟨y35.parent.t, y35.parent.w⟩)) (by kernel_rfl) v94)) ?_
                  refine qv rfl (v := .bool true) (fun _ _ => r_move (by kernel_rfl)) ?_
                  refine qp (by kernel_rfl) ?_
                  refine qp (by kernel_rfl) ?_
                  refine qp (by kernel_rfl) ?_
                  refine qp (by kernel_rfl) ?_
                  refine qp (by kernel_rfl) ?_
                  refine qp (by kernel_rfl) ?_
                  refine qp (by kernel_rfl) ?_
                  refine qp (by kernel_rfl) ?_
                  refine qp (by kernel_rfl) ?_
                  refine qp (by kernel_rfl) ?_
                  refine qp (by kernel_rfl) ?_
                  refine qp (by kernel_rfl) ?_
                  refine qp (by kernel_rfl) ?_
                  refine qp (by kernel_rfl) ?_
                  refine qv rfl (v := .bool true) (fun _ _ => r_pick (b := true) (u := .bool true) (v := undef) (by kernel_rfl) (by kernel_rfl) (by kernel_rfl)) ?_
                  refine qnil ?_
                  intro w95 u96
                  have M97 := Mod.trans M78 (Mod.of_up u96)
                  have M98 := Mod.trans M79 (Mod.of_up u96)
                  refine then_n ?_
                  refine wp_cond_true (by kernel_rfl) ?_
                  refine wp_seq ?_
                  refine rg_lit ?_
                  refine wl (sv rfl (v := .bool false) (r_assign (by kernel_rfl)) ?_)
                  refine wnil ?_
                  refine then_n ?_
                  refine wp_ret ?_
                  refine inb_r ?_
                  refine then_x (by nofun) ?_
                  refine then_x (by nofun) ?_
                  refine inb_r ?_
                  refine then_x (by nofun) ?_
                  refine bodyPost_ret (v := .bool false) (res1 rfl (rv_t (by kernel_rfl))) (by kernel_rfl) ?_
                  exfalso
                  have e := rdy35
                  have f0 := v91
                  have f1 := v93
                  have f2 := v94
                  simp [f0, f1, f2] at e
              · refine bcase ((hangsI L0 301 ⟨y35.parent.t, y35.parent.w⟩)) (fun v94 => ?_) (fun v94 => ?_)
                · refine qv rfl (v := .bool true) (fun _ _ => r_neb (a := true) (b := false) Try.underlying4 (ebool (b := (hangsI L0 301 ⟨y35.node.t, y35.node.w⟩)) (by kernel_rfl) v93) (ebool (b := (hangsI L0 301 ⟨y35.parent.t, y35.parent.w⟩)) (by kernel_rfl) v94)) ?_
                  refine qv rfl (v := .bool true) (fun _ _ => r_move (by kernel_rfl)) ?_
                  refine qp (by kernel_rfl) ?_
                  refine qp (by kernel_rfl) ?_
                  refine qp (by kernel_rfl) ?_
                  refine qp (by kernel_rfl) ?_
                  refine qp (by kernel_rfl) ?_
                  refine qp (by kernel_rfl) ?_
                  refine qp (by kernel_rfl) ?_
                  refine qp (by kernel_rfl) ?_
                  refine qp (by kernel_rfl) ?_
                  refine qp (by kernel_rfl) ?_
                  refine qp (by kernel_rfl) ?_
                  refine qp (by kernel_rfl) ?_
                  refine qp (by kernel_rfl) ?_
                  refine qp (by kernel_rfl) ?_
                  refine qv rfl (v := .bool true) (fun _ _ => r_pick (b := true) (u := .bool true) (v := undef) (by kernel_rfl) (by kernel_rfl) (by kernel_rfl)) ?_
                  refine qnil ?_
                  intro w95 u96
                  have M97 := Mod.trans M78 (Mod.of_up u96)
                  have M98 := Mod.trans M79 (Mod.of_up u96)
                  refine then_n ?_
                  refine wp_cond_true (by kernel_rfl) ?_
                  refine wp_seq ?_
                  refine rg_lit ?_
                  refine wl (sv rfl (v := .bool false) (r_assign (by kernel_rfl)) ?_)
                  refine wnil ?_
                  refine then_n ?_
                  refine wp_ret ?_
                  refine inb_r ?_
                  refine then_x (by nofun) ?_
                  refine then_x (by nofun) ?_
                  refine inb_r ?_
                  refine then_x (by nofun) ?_
                  refine bodyPost_ret (v := .bool false) (res1 rfl (rv_t (by kernel_rfl))) (by kernel_rfl) ?_
                  exfalso
                  have e := rdy35
                  have f0 := v91
                  have f1 := v93
                  have f2 := v94
                  simp [f0, f1, f2] at e
                · refine qv rfl (v := .bool false) (fun _ _ => r_neb (a := true) (b := true) Try.underlying4 (ebool (b := (hangsI L0 301 ⟨y35.node.t, y35.node.w⟩)) (by kernel_rfl) v93) (ebool (b := (hangsI L0 301 ⟨y35.parent.t, y35.parent.w⟩)) (by kernel_rfl) v94)) ?_
                  refine qv rfl (v := .bool false) (fun _ _ => r_move (by kernel_rfl)) ?_
                  refine qv (by kernel_rfl) (v := .slice A17 L0.length c18) (fun _ _ => r_move (by kernel_rfl)) ?_
                  refine qv (by kernel_rfl) (v := .int .i64 ((k : Int))) (fun _ _ => r_move (by kernel_rfl)) ?_
                  obtain ⟨g95, cp95, cu95, dA95, dn95, dc95, hA95, hg95, hb95, he95, hD95⟩ := h80.get hy35
                  injection hA95 with hA95 _ _
                  replace he95 : (cu95.toList.drop (0 + k * 10)).take 10 = [.int .i64 y35.node.t, .int .i64 y35.node.w, .int .i64 y35.parent.t, .int .i64 y35.parent.w, .string y35.name, .bool y35.dir, .bool y35.gone, .slice dA95 dn95 dc95, .int .i64 y35.by_.t, .int .i64 y35.by_.w] := by rw [Nat.zero_add]; exact he95
                  refine qv (by kernel_rfl) (v := .pointer (some ⟨g95, 0 + k * 10, none⟩)) (fun _ _ => r_ixaddr' (A := A17) (b := g95) (o := 0) (n := L0.length) (c := c18) (sz := 10) (j := (k : Int)) (by kernel_rfl) hA95 (by kernel_rfl) Ty.un48 Ty.sz35 (by omega) (by omega) (by simp)) ?_
                  refine qv (by kernel_rfl) (v := .pointer (some ⟨g95, 0 + k * 10 + 5, none⟩)) (fun _ _ => r_fieldAddr (u := .pointer (some ⟨g95, 0 + k * 10, none⟩)) (v := .pointer (some ⟨g95, 0 + k * 10 + 5, none⟩)) (by kernel_rfl) (fun _ => (by kernel_rfl))) ?_
                  refine qv (by kernel_rfl) (v := .bool y35.dir) (fun _ uz => r_load (k := 0 + k * 10 + 5) (v := .bool y35.dir) (by kernel_rfl) Ty.ag4 (up_ob uz hb95) (el_get he95 5 rfl)) ?_
                  refine qv (by kernel_rfl) (v := .bool y35.dir) (fun _ _ => r_move (by kernel_rfl)) ?_
                  refine bcase y35.dir (fun v96 => ?_) (fun v96 => ?_)
                  · refine qp (wf (b := y35.dir) rfl (by kernel_rfl) v96) ?_
                    refine qp (wf (b := y35.dir) rfl (by kernel_rfl) v96) ?_
                    refine qp (wf (b := y35.dir) rfl (by kernel_rfl) v96) ?_
                    refine qp (wf (b := y35.dir) rfl (by kernel_rfl) v96) ?_
                    refine qp (wf (b := y35.dir) rfl (by kernel_rfl) v96) ?_
                    refine qp (wf (b := y35.dir) rfl (by kernel_rfl) v96) ?_
                    refine qp (wf (b := y35.dir) rfl (by kernel_rfl) v96) ?_
                    refine qv (by kernel_rfl) (v := .bool false) (fun _ _ => r_pick (b := false) (u := undef) (v := .bool false) (ebool (b := y35.dir) (by kernel_rfl) v96) (by kernel_rfl) (by kernel_rfl)) ?_
                    refine qv rfl (v := .bool false) (fun _ _ => r_pick (b := false) (u := .bool true) (v := .bool false) (by kernel_rfl) (by kernel_rfl) (by kernel_rfl)) ?_
                    refine qnil ?_
                    intro w97 u98
                    have M99 := Mod.trans M78 (Mod.of_up u98)
                    have M100 := Mod.trans M79 (Mod.of_up u98)
                    refine then_n ?_
                    refine wp_cond_false (by kernel_rfl) ?_
                    refine wp_skip ?_
                    refine inb_n ?_
                    refine then_n ?_
                    refine rg_lit ?_
                    refine wl (sv rfl (v := .int .i64 ((k : Int))) (r_move (by kernel_rfl)) ?_)
                    refine wl (sv rfl (v := .int .i64 (((k : Int)) + 1)) (r_add (k := .i64) (m := ((k : Int))) (n := 1) (by kernel_rfl) (by kernel_rfl) (IntWalk.i64_in _ (by omega))) ?_)
                    refine wl (sv rfl (v := .int .i64 (((k : Int)) + 1)) (r_assign (by kernel_rfl)) ?_)
                    refine wnil ?_
                    refine then_n ?_
                    refine ⟨L0.length - (k + 1), ?_, (k + 1), tget [undef, undef, (Z 2), undef, undef, undef, .pointer (some ⟨b54, 0, none⟩), .bool ((hasI L0 ⟨y35.parent.t, y35.parent.w⟩)), undef, undef, undef, undef, undef, undef, undef, undef, .int .i64 ((k : Int)), .slice A17 L0.length c18, .int .i64 ((L0.length : Int)), .bool b28, .int .i64 ((k : Int)), .int .i64 (((k : Int)) + 1), .pointer (some ⟨tb, 0, none⟩), .slice A17 L0.length c18, .int .i64 ((k : Int)), .pointer (some ⟨g35, 0 + k * 10, none⟩), .pointer (some ⟨g35, 0 + k * 10, none⟩), .agg #[.int .i64 y35.node.t, .int .i64 y35.node.w], .slice A17 L0.length c18, .int .i64 ((k : Int)), .pointer (some ⟨g36, 0 + k * 10, none⟩), .pointer (some ⟨g36, 0 + k * 10 + 2, none⟩), .agg #[.int .i64 y35.parent.t, .int .i64 y35.parent.w], .bool false, .bool false, .pointer (some ⟨tb, 0, none⟩), .agg #[.int .i64 0, .int .i64 0], .slice A17 L0.length c18, .int .i64 ((k : Int)), .pointer (some ⟨g38, 0 + k * 10, none⟩), .pointer (some ⟨g38, 0 + k * 10, none⟩), .agg #[.int .i64 y35.node.t, .int .i64 y35.node.w], .bool true, .bool false, .bool false, .tuple #[.agg #[.int .i64 ((gotI L0 ⟨y35.parent.t, y35.parent.w⟩).node.t), .int .i64 ((gotI L0 ⟨y35.parent.t, y35.parent.w⟩).node.w), .int .i64 ((gotI L0 ⟨y35.parent.t, y35.parent.w⟩).parent.t), .int .i64 ((gotI L0 ⟨y35.parent.t, y35.parent.w⟩).parent.w), .string ((gotI L0 ⟨y35.parent.t, y35.parent.w⟩).name), .bool ((gotI L0 ⟨y35.parent.t, y35.parent.w⟩).dir), .bool ((gotI L0 ⟨y35.parent.t, y35.parent.w⟩).gone), .slice A47 n48 c49, .int .i64 ((gotI L0 ⟨y35.parent.t, y35.parent.w⟩).by_.t), .int .i64 ((gotI L0 ⟨y35.parent.t, y35.parent.w⟩).by_.w)], .bool ((hasI L0 ⟨y35.parent.t, y35.parent.w⟩))], .pointer (some ⟨tb, 0, none⟩), .slice A17 L0.length c18, .int .i64 ((k : Int)), .pointer (some ⟨g44, 0 + k * 10, none⟩), .pointer (some ⟨g44, 0 + k * 10 + 2, none⟩), .agg #[.int .i64 y35.parent.t, .int .i64 y35.parent.w], .tuple #[.agg #[.int .i64 ((gotI L0 ⟨y35.parent.t, y35.parent.w⟩).node.t), .int .i64 ((gotI L0 ⟨y35.parent.t, y35.parent.w⟩).node.w), .int .i64 ((gotI L0 ⟨y35.parent.t, y35.parent.w⟩).parent.t), .int .i64 ((gotI L0 ⟨y35.parent.t, y35.parent.w⟩).parent.w), .string ((gotI L0 ⟨y35.parent.t, y35.parent.w⟩).name), .bool ((gotI L0 ⟨y35.parent.t, y35.parent.w⟩).dir), .bool ((gotI L0 ⟨y35.parent.t, y35.parent.w⟩).gone), .slice A47 n48 c49, .int .i64 ((gotI L0 ⟨y35.parent.t, y35.parent.w⟩).by_.t), .int .i64 ((gotI L0 ⟨y35.parent.t, y35.parent.w⟩).by_.w)], .bool ((hasI L0 ⟨y35.parent.t, y35.parent.w⟩))], .agg #[.int .i64 ((gotI L0 ⟨y35.parent.t, y35.parent.w⟩).node.t), .int .i64 ((gotI L0 ⟨y35.parent.t, y35.parent.w⟩).node.w), .int .i64 ((gotI L0 ⟨y35.parent.t, y35.parent.w⟩).parent.t), .int .i64 ((gotI L0 ⟨y35.parent.t, y35.parent.w⟩).parent.w), .string ((gotI L0 ⟨y35.parent.t, y35.parent.w⟩).name), .bool ((gotI L0 ⟨y35.parent.t, y35.parent.w⟩).dir), .bool ((gotI L0 ⟨y35.parent.t, y35.parent.w⟩).gone), .slice A47 n48 c49, .int .i64 ((gotI L0 ⟨y35.parent.t, y35.parent.w⟩).by_.t), .int .i64 ((gotI L0 ⟨y35.parent.t, y35.parent.w⟩).by_.w)], .bool ((hasI L0 ⟨y35.parent.t, y35.parent.w⟩)), .slice A17 L0.length c18, .int .i64 ((k : Int)), .pointer (some ⟨g81, 0 + k * 10, none⟩), .pointer (some ⟨g81, 0 + k * 10 + 2, none⟩), .agg #[.int .i64 y35.parent.t, .int .i64 y35.parent.w], .agg #[.int .i64 0, .int .i64 0], .bool b82, .bool b82, .bool ((hasI L0 ⟨y35.parent.t, y35.parent.w⟩)), .bool (!((hasI L0 ⟨y35.parent.t, y35.parent.w⟩))), .bool (!((hasI L0 ⟨y35.parent.t, y35.parent.w⟩))), .pointer (some ⟨b54, 5, none⟩), .bool ((gotI L0 ⟨y35.parent.t, y35.parent.w⟩).dir), .bool (!((gotI L0 ⟨y35.parent.t, y35.parent.w⟩).dir)), .bool (!((gotI L0 ⟨y35.parent.t, y35.parent.w⟩).dir)), .bool (!((gotI L0 ⟨y35.parent.t, y35.parent.w⟩).dir)), .pointer (some ⟨tb, 0, none⟩), .slice A17 L0.length c18, .int .i64 ((k : Int)), .pointer (some ⟨g88, 0 + k * 10, none⟩), .pointer (some ⟨g88, 0 + k * 10, none⟩), .agg #[.int .i64 y35.node.t, .int .i64 y35.node.w], .bool ((hangsI L0 301 ⟨y35.node.t, y35.node.w⟩)), .slice A17 L0.length c18, .int .i64 ((k : Int)), .pointer (some ⟨g90, 0 + k * 10, none⟩), .pointer (some ⟨g90, 0 + k * 10 + 6, none⟩), .bool y35.gone, .bool (!y35.gone), .bool (!y35.gone), .pointer (some ⟨tb, 0, none⟩), .slice A17 L0.length c18, .int .i64 ((k : Int)), .pointer (some ⟨g92, 0 + k * 10, none⟩), .pointer (some ⟨g92, 0 + k * 10 + 2, none⟩), .agg #[.int .i64 y35.parent.t, .int .i64 y35.parent.w], .bool ((hangsI L0 301 ⟨y35.parent.t, y35.parent.w⟩)), .bool ((hangsI L0 301 ⟨y35.parent.t, y35.parent.w⟩)), .bool false, .bool false, .slice A17 L0.length c18, .int .i64 ((k : Int)), .pointer (some ⟨g95, 0 + k * 10, none⟩), .pointer (some ⟨g95, 0 + k * 10 + 5, none⟩), .bool y35.dir, .bool y35.dir, undef, undef, undef, undef, undef, undef, undef, .bool false, .bool false], rfl, (by kernel_rfl), M100, (by omega)⟩
                    · omega
                  · refine qv (wt (b := y35.dir) rfl (by kernel_rfl) v96) (v := .slice A17 L0.length c18) (fun _ _ => r_move (by kernel_rfl)) ?_
                    refine qv (wt (b := y35.dir) rfl (by kernel_rfl) v96) (v := .int .i64 ((k : Int))) (fun _ _ => r_move (by kernel_rfl)) ?_
                    obtain ⟨g97, cp97, cu97, dA97, dn97, dc97, hA97, hg97, hb97, he97, hD97⟩ := h80.get hy35
                    injection hA97 with hA97 _ _
                    replace he97 : (cu97.toList.drop (0 + k * 10)).take 10 = [.int .i64 y35.node.t, .int .i64 y35.node.w, .int .i64 y35.parent.t, .int .i64 y35.parent.w, .string y35.name, .bool y35.dir, .bool y35.gone, .slice dA97 dn97 dc97, .int .i64 y35.by_.t, .int .i64 y35.by_.w] := by rw [Nat.zero_add]; exact he97
                    refine qv (wt (b := y35.dir) rfl (by kernel_rfl) v96) (v := .pointer (some ⟨g97, 0 + k * 10, none⟩)) (fun _ _ => r_ixaddr' (A := A17) (b := g97) (o := 0) (n := L0.length) (c := c18) (sz := 10) (j := (k : Int)) (by kernel_rfl) hA97 (by kernel_rfl) Ty.un48 Ty.sz35 (by omega) (by omega) (by simp)) ?_
                    refine qv (wt (b := y35.dir) rfl (by kernel_rfl) v96) (v := .pointer (some ⟨g97, 0 + k * 10 + 7, none⟩)) (fun _ _ => r_fieldAddr (u := .pointer (some ⟨g97, 0 + k * 10, none⟩)) (v := .pointer (some ⟨g97, 0 + k * 10 + 7, none⟩)) (by kernel_rfl) (fun _ => (by kernel_rfl))) ?_
                    refine qv (wt (b := y35.dir) rfl (by kernel_rfl) v96) (v := .slice dA97 dn97 dc97) (fun _ uz => r_load (k := 0 + k * 10 + 7) (v := .slice dA97 dn97 dc97) (by kernel_rfl) Ty.ag33 (up_ob uz hb97) (el_get he97 7 rfl)) ?_
                    refine qv (wt (b := y35.dir) rfl (by kernel_rfl) v96) (v := .int .i64 ((dn97 : Int))) (fun _ _ => r_len Ty.un33 (ad := dA97) (n := dn97) (c := dc97) (by kernel_rfl)) ?_
                    refine qb (wt (b := y35.dir) rfl (by kernel_rfl) v96) (fun _ _ => r_gt (k := .i64) (m := ((dn97 : Int))) (n := 0) (by kernel_rfl) (by kernel_rfl)) ?_
                    intro b98 k99
                    refine qv (by kernel_rfl) (v := .bool b98) (fun _ _ => r_pick (b := true) (u := .bool b98) (v := .bool false) (ebool (b := y35.dir) (by kernel_rfl) v96) (by kernel_rfl) (by kernel_rfl)) ?_
                    refine qv rfl (v := .bool b98) (fun _ _ => r_pick (b := false) (u := .bool true) (v := .bool b98) (by kernel_rfl) (by kernel_rfl) (by kernel_rfl)) ?_
                    refine qnil ?_
                    intro w100 u101
                    have M102 := Mod.trans M78 (Mod.of_up u101)
                    have M103 := Mod.trans M79 (Mod.of_up u101)
                    refine then_n ?_
                    refine bcase b98 (fun v104 => ?_) (fun v104 => ?_)
                    · have p105 := of_decide_eq_false (k99.trans v104)
                      refine wp_cond_false (ebool (b := b98) (by kernel_rfl) v104) ?_
                      refine wp_skip ?_
                      refine inb_n ?_
                      refine then_n ?_
                      refine rg_lit ?_
                      refine wl (sv rfl (v := .int .i64 ((k : Int))) (r_move (by kernel_rfl)) ?_)
                      refine wl (sv rfl (v := .int .i64 (((k : Int)) + 1)) (r_add (k := .i64) (m := ((k : Int))) (n := 1) (by kernel_rfl) (by kernel_rfl) (IntWalk.i64_in _ (by omega))) ?_)
                      refine wl (sv rfl (v := .int .i64 (((k : Int)) + 1)) (r_assign (by kernel_rfl)) ?_)
                      refine wnil ?_
                      refine then_n ?_
                      refine ⟨L0.length - (k + 1), ?_, (k + 1), tget [undef, undef, (Z 2), undef, undef, undef, .pointer (some ⟨b54, 0, none⟩), .bool ((hasI L0 ⟨y35.parent.t, y35.parent.w⟩)), undef, undef, undef, undef, undef, undef, undef, undef, .int .i64 ((k : Int)), .slice A17 L0.length c18, .int .i64 ((L0.length : Int)), .bool b28, .int .i64 ((k : Int)), .int .i64 (((k : Int)) + 1), .pointer (some ⟨tb, 0, none⟩), .slice A17 L0.length c18, .int .i64 ((k : Int)), .pointer (some ⟨g35, 0 + k * 10, none⟩), .pointer (some ⟨g35, 0 + k * 10, none⟩), .agg #[.int .i64 y35.node.t, .int .i64 y35.node.w], .slice A17 L0.length c18, .int .i64 ((k : Int)), .pointer (some ⟨g36, 0 + k * 10, none⟩), .pointer (some ⟨g36, 0 + k * 10 + 2, none⟩), .agg #[.int .i64 y35.parent.t, .int .i64 y35.parent.w], .bool false, .bool false, .pointer (some ⟨tb, 0, none⟩), .agg #[.int .i64 0, .int .i64 0], .slice A17 L0.length c18, .int .i64 ((k : Int)), .pointer (some ⟨g38, 0 + k * 10, none⟩), .pointer (some ⟨g38, 0 + k * 10, none⟩), .agg #[.int .i64 y35.node.t, .int .i64 y35.node.w], .bool true, .bool false, .bool false, .tuple #[.agg #[.int .i64 ((gotI L0 ⟨y35.parent.t, y35.parent.w⟩).node.t), .int .i64 ((gotI L0 ⟨y35.parent.t, y35.parent.w⟩).node.w), .int .i64 ((gotI L0 ⟨y35.parent.t, y35.parent.w⟩).parent.t), .int .i64 ((gotI L0 ⟨y35.parent.t, y35.parent.w⟩).parent.w), .string ((gotI L0 ⟨y35.parent.t, y35.parent.w⟩).name), .bool ((gotI L0 ⟨y35.parent.t, y35.parent.w⟩).dir), .bool ((gotI L0 ⟨y35.parent.t, y35.parent.w⟩).gone), .slice A47 n48 c49, .int .i64 ((gotI L0 ⟨y35.parent.t, y35.parent.w⟩).by_.t), .int .i64 ((gotI L0 ⟨y35.parent.t, y35.parent.w⟩).by_.w)], .bool ((hasI L0 ⟨y35.parent.t, y35.parent.w⟩))], .pointer (some ⟨tb, 0, none⟩), .slice A17 L0.length c18, .int .i64 ((k : Int)), .pointer (some ⟨g44, 0 + k * 10, none⟩), .pointer (some ⟨g44, 0 + k * 10 + 2, none⟩), .agg #[.int .i64 y35.parent.t, .int .i64 y35.parent.w], .tuple #[.agg #[.int .i64 ((gotI L0 ⟨y35.parent.t, y35.parent.w⟩).node.t), .int .i64 ((gotI L0 ⟨y35.parent.t, y35.parent.w⟩).node.w), .int .i64 ((gotI L0 ⟨y35.parent.t, y35.parent.w⟩).parent.t), .int .i64 ((gotI L0 ⟨y35.parent.t, y35.parent.w⟩).parent.w), .string ((gotI L0 ⟨y35.parent.t, y35.parent.w⟩).name), .bool ((gotI L0 ⟨y35.parent.t, y35.parent.w⟩).dir), .bool ((gotI L0 ⟨y35.parent.t, y35.parent.w⟩).gone), .slice A47 n48 c49, .int .i64 ((gotI L0 ⟨y35.parent.t, y35.parent.w⟩).by_.t), .int .i64 ((gotI L0 ⟨y35.parent.t, y35.parent.w⟩).by_.w)], .bool ((hasI L0 ⟨y35.parent.t, y35.parent.w⟩))], .agg #[.int .i64 ((gotI L0 ⟨y35.parent.t, y35.parent.w⟩).node.t), .int .i64 ((gotI L0 ⟨y35.parent.t, y35.parent.w⟩).node.w), .int .i64 ((gotI L0 ⟨y35.parent.t, y35.parent.w⟩).parent.t), .int .i64 ((gotI L0 ⟨y35.parent.t, y35.parent.w⟩).parent.w), .string ((gotI L0 ⟨y35.parent.t, y35.parent.w⟩).name), .bool ((gotI L0 ⟨y35.parent.t, y35.parent.w⟩).dir), .bool ((gotI L0 ⟨y35.parent.t, y35.parent.w⟩).gone), .slice A47 n48 c49, .int .i64 ((gotI L0 ⟨y35.parent.t, y35.parent.w⟩).by_.t), .int .i64 ((gotI L0 ⟨y35.parent.t, y35.parent.w⟩).by_.w)], .bool ((hasI L0 ⟨y35.parent.t, y35.parent.w⟩)), .slice A17 L0.length c18, .int .i64 ((k : Int)), .pointer (some ⟨g81, 0 + k * 10, none⟩), .pointer (some ⟨g81, 0 + k * 10 + 2, none⟩), .agg #[.int .i64 y35.parent.t, .int .i64 y35.parent.w], .agg #[.int .i64 0, .int .i64 0], .bool b82, .bool b82, .bool ((hasI L0 ⟨y35.parent.t, y35.parent.w⟩)), .bool (!((hasI L0 ⟨y35.parent.t, y35.parent.w⟩))), .bool (!((hasI L0 ⟨y35.parent.t, y35.parent.w⟩))), .pointer (some ⟨b54, 5, none⟩), .bool ((gotI L0 ⟨y35.parent.t, y35.parent.w⟩).dir), .bool (!((gotI L0 ⟨y35.parent.t, y35.parent.w⟩).dir)), .bool (!((gotI L0 ⟨y35.parent.t, y35.parent.w⟩).dir)), .bool (!((gotI L0 ⟨y35.parent.t, y35.parent.w⟩).dir)), .pointer (some ⟨tb, 0, none⟩), .slice A17 L0.length c18, .int .i64 ((k : Int)), .pointer (some ⟨g88, 0 + k * 10, none⟩), .pointer (some ⟨g88, 0 + k * 10, none⟩), .agg #[.int .i64 y35.node.t, .int .i64 y35.node.w], .bool ((hangsI L0 301 ⟨y35.node.t, y35.node.w⟩)), .slice A17 L0.length c18, .int .i64 ((k : Int)), .pointer (some ⟨g90, 0 + k * 10, none⟩), .pointer (some ⟨g90, 0 + k * 10 + 6, none⟩), .bool y35.gone, .bool (!y35.gone), .bool (!y35.gone), .pointer (some ⟨tb, 0, none⟩), .slice A17 L0.length c18, .int .i64 ((k : Int)), .pointer (some ⟨g92, 0 + k * 10, none⟩), .pointer (some ⟨g92, 0 + k * 10 + 2, none⟩), .agg #[.int .i64 y35.parent.t, .int .i64 y35.parent.w], .bool ((hangsI L0 301 ⟨y35.parent.t, y35.parent.w⟩)), .bool ((hangsI L0 301 ⟨y35.parent.t, y35.parent.w⟩)), .bool false, .bool false, .slice A17 L0.length c18, .int .i64 ((k : Int)), .pointer (some ⟨g95, 0 + k * 10, none⟩), .pointer (some ⟨g95, 0 + k * 10 + 5, none⟩), .bool y35.dir, .bool y35.dir, .slice A17 L0.length c18, .int .i64 ((k : Int)), .pointer (some ⟨g97, 0 + k * 10, none⟩), .pointer (some ⟨g97, 0 + k * 10 + 7, none⟩), .slice dA97 dn97 dc97, .int .i64 ((dn97 : Int)), .bool b98, .bool b98, .bool b98], rfl, (by kernel_rfl), M103, (by omega)⟩
                      · omega
                    · have p105 := of_decide_eq_true (k99.trans v104)
                      have hz := (Dat.len hD97).1
                      rw [rey35 v96] at hz
                      simp only [List.length_nil] at hz
                      exact absurd p105 (by omega)
            · refine qp (wf (b := !y35.gone) rfl (by kernel_rfl) (bneg v91)) ?_
              refine qp (wf (b := !y35.gone) rfl (by kernel_rfl) (bneg v91)) ?_
              refine qp (wf (b := !y35.gone) rfl (by kernel_rfl) (bneg v91)) ?_
              refine qp (wf (b := !y35.gone) rfl (by kernel_rfl) (bneg v91)) ?_
              refine qp (wf (b := !y35.gone) rfl (by kernel_rfl) (bneg v91)) ?_
              refine qp (wf (b := !y35.gone) rfl (by kernel_rfl) (bneg v91)) ?_
              refine qp (wf (b := !y35.gone) rfl (by kernel_rfl) (bneg v91)) ?_
              refine qv rfl (v := .bool false) (fun _ _ => r_pick (b := false) (u := undef) (v := .bool false) (ebool (b := !y35.gone) (by kernel_rfl) (bneg v91)) (by kernel_rfl) (by kernel_rfl)) ?_
              refine bcase ((hangsI L0 301 ⟨y35.node.t, y35.node.w⟩)) (fun v92 => ?_) (fun v92 => ?_)
              · refine qv rfl (v := .bool false) (fun _ _ => r_neb (a := false) (b := false) Try.underlying4 (ebool (b := (hangsI L0 301 ⟨y35.node.t, y35.node.w⟩)) (by kernel_rfl) v92) (by kernel_rfl)) ?_
                refine qv rfl (v := .bool false) (fun _ _ => r_move (by kernel_rfl)) ?_
                refine qv (by kernel_rfl) (v := .slice A17 L0.length c18) (fun _ _ => r_move (by kernel_rfl)) ?_
                refine qv (by kernel_rfl) (v := .int .i64 ((k : Int))) (fun _ _ => r_move (by kernel_rfl)) ?_
                obtain ⟨g93, cp93, cu93, dA93, dn93, dc93, hA93, hg93, hb93, he93, hD93⟩ := h80.get hy35
                injection hA93 with hA93 _ _
                replace he93 : (cu93.toList.drop (0 + k * 10)).take 10 = [.int .i64 y35.node.t, .int .i64 y35.node.w, .int .i64 y35.parent.t, .int .i64 y35.parent.w, .string y35.name, .bool y35.dir, .bool y35.gone, .slice dA93 dn93 dc93, .int .i64 y35.by_.t, .int .i64 y35.by_.w] := by rw [Nat.zero_add]; exact he93
                refine qv (by kernel_rfl) (v := .pointer (some ⟨g93, 0 + k * 10, none⟩)) (fun _ _ => r_ixaddr' (A := A17) (b := g93) (o := 0) (n := L0.length) (c := c18) (sz := 10) (j := (k : Int)) (by kernel_rfl) hA93 (by kernel_rfl) Ty.un48 Ty.sz35 (by omega) (by omega) (by simp)) ?_
                refine qv (by kernel_rfl) (v := .pointer (some ⟨g93, 0 + k * 10 + 5, none⟩)) (fun _ _ => r_fieldAddr (u := .pointer (some ⟨g93, 0 + k * 10, none⟩)) (v := .pointer (some ⟨g93, 0 + k * 10 + 5, none⟩)) (by kernel_rfl) (fun _ => (by kernel_rfl))) ?_
                refine qv (by kernel_rfl) (v := .bool y35.dir) (fun _ uz => r_load (k := 0 + k * 10 + 5) (v := .bool y35.dir) (by kernel_rfl) Ty.ag4 (up_ob uz hb93) (el_get he93 5 rfl)) ?_
                refine qv (by kernel_rfl) (v := .bool y35.dir) (fun _ _ => r_move (by kernel_rfl)) ?_
                refine bcase y35.dir (fun v94 => ?_) (fun v94 => ?_)
                · refine qp (wf (b := y35.dir) rfl (by kernel_rfl) v94) ?_
                  refine qp (wf (b := y35.dir) rfl (by kernel_rfl) v94) ?_
                  refine qp (wf (b := y35.dir) rfl (by kernel_rfl) v94) ?_
                  refine qp (wf (b := y35.dir) rfl (by kernel_rfl) v94) ?_
                  refine qp (wf (b := y35.dir) rfl (by kernel_rfl) v94) ?_
                  refine qp (wf (b := y35.dir) rfl (by kernel_rfl) v94) ?_
                  refine qp (wf (b := y35.dir) rfl (by kernel_rfl) v94) ?_
                  refine qv (by kernel_rfl) (v := .bool false) (fun _ _ => r_pick (b := false) (u := undef) (v := .bool false) (ebool (b := y35.dir) (by kernel_rfl) v94) (by kernel_rfl) (by kernel_rfl)) ?_
                  refine qv rfl (v := .bool false) (fun _ _ => r_pick (b := false) (u := .bool true) (v := .bool false) (by kernel_rfl) (by kernel_rfl) (by kernel_rfl)) ?_
                  refine qnil ?_
                  intro w95 u96
                  have M97 := Mod.trans M78 (Mod.of_up u96)
                  have M98 := Mod.trans M79 (Mod.of_up u96)
                  refine then_n ?_
                  refine wp_cond_false (by kernel_rfl) ?_
                  refine wp_skip ?_
                  refine inb_n ?_
                  refine then_n ?_
                  refine rg_lit ?_
                  refine wl (sv rfl (v := .int .i64 ((k : Int))) (r_move (by kernel_rfl)) ?_)
                  refine wl (sv rfl (v := .int .i64 (((k : Int)) + 1)) (r_add (k := .i64) (m := ((k : Int))) (n := 1) (by kernel_rfl) (by kernel_rfl) (IntWalk.i64_in _ (by omega))) ?_)
                  refine wl (sv rfl (v := .int .i64 (((k : Int)) + 1)) (r_assign (by kernel_rfl)) ?_)
                  refine wnil ?_
                  refine then_n ?_
                  refine ⟨L0.length - (k + 1), ?_, (k + 1), tget [undef, undef, (Z 2), undef, undef, undef, .pointer (some ⟨b54, 0, none⟩), .bool ((hasI L0 ⟨y35.parent.t, y35.parent.w⟩)), undef, undef, undef, undef, undef, undef, undef, undef, .int .i64 ((k : Int)), .slice A17 L0.length c18, .int .i64 ((L0.length : Int)), .bool b28, .int .i64 ((k : Int)), .int .i64 (((k : Int)) + 1), .pointer (some ⟨tb, 0, none⟩), .slice A17 L0.length c18, .int .i64 ((k : Int)), .pointer (some ⟨g35, 0 + k * 10, none⟩), .pointer (some ⟨g35, 0 + k * 10, none⟩), .agg #[.int .i64 y35.node.t, .int .i64 y35.node.w], .slice A17 L0.length c18, .int .i64 ((k : Int)), .pointer (some ⟨g36, 0 + k * 10, none⟩), .pointer (some ⟨g36, 0 + k * 10 + 2, none⟩), .agg #[.int .i64 y35.parent.t, .int .i64 y35.parent.w], .bool false, .bool false, .pointer (some ⟨tb, 0, none⟩), .agg #[.int .i64 0, .int .i64 0], .slice A17 L0.length c18, .int .i64 ((k : Int)), .pointer (some ⟨g38, 0 + k * 10, none⟩), .pointer (some ⟨g38, 0 + k * 10, none⟩), .agg #[.int .i64 y35.node.t, .int .i64 y35.node.w], .bool true, .bool false, .bool false, .tuple #[.agg #[.int .i64 ((gotI L0 ⟨y35.parent.t, y35.parent.w⟩).node.t), .int .i64 ((gotI L0 ⟨y35.parent.t, y35.parent.w⟩).node.w), .int .i64 ((gotI L0 ⟨y35.parent.t, y35.parent.w⟩).parent.t), .int .i64 ((gotI L0 ⟨y35.parent.t, y35.parent.w⟩).parent.w), .string ((gotI L0 ⟨y35.parent.t, y35.parent.w⟩).name), .bool ((gotI L0 ⟨y35.parent.t, y35.parent.w⟩).dir), .bool ((gotI L0 ⟨y35.parent.t, y35.parent.w⟩).gone), .slice A47 n48 c49, .int .i64 ((gotI L0 ⟨y35.parent.t, y35.parent.w⟩).by_.t), .int .i64 ((gotI L0 ⟨y35.parent.t, y35.parent.w⟩).by_.w)], .bool ((hasI L0 ⟨y35.parent.t, y35.parent.w⟩))], .pointer (some ⟨tb, 0, none⟩), .slice A17 L0.length c18, .int .i64 ((k : Int)), .pointer (some ⟨g44, 0 + k * 10, none⟩), .pointer (some ⟨g44, 0 + k * 10 + 2, none⟩), .agg #[.int .i64 y35.parent.t, .int .i64 y35.parent.w], .tuple #[.agg #[.int .i64 ((gotI L0 ⟨y35.parent.t, y35.parent.w⟩).node.t), .int .i64 ((gotI L0 ⟨y35.parent.t, y35.parent.w⟩).node.w), .int .i64 ((gotI L0 ⟨y35.parent.t, y35.parent.w⟩).parent.t), .int .i64 ((gotI L0 ⟨y35.parent.t, y35.parent.w⟩).parent.w), .string ((gotI L0 ⟨y35.parent.t, y35.parent.w⟩).name), .bool ((gotI L0 ⟨y35.parent.t, y35.parent.w⟩).dir), .bool ((gotI L0 ⟨y35.parent.t, y35.parent.w⟩).gone), .slice A47 n48 c49, .int .i64 ((gotI L0 ⟨y35.parent.t, y35.parent.w⟩).by_.t), .int .i64 ((gotI L0 ⟨y35.parent.t, y35.parent.w⟩).by_.w)], .bool ((hasI L0 ⟨y35.parent.t, y35.parent.w⟩))], .agg #[.int .i64 ((gotI L0 ⟨y35.parent.t, y35.parent.w⟩).node.t), .int .i64 ((gotI L0 ⟨y35.parent.t, y35.parent.w⟩).node.w), .int .i64 ((gotI L0 ⟨y35.parent.t, y35.parent.w⟩).parent.t), .int .i64 ((gotI L0 ⟨y35.parent.t, y35.parent.w⟩).parent.w), .string ((gotI L0 ⟨y35.parent.t, y35.parent.w⟩).name), .bool ((gotI L0 ⟨y35.parent.t, y35.parent.w⟩).dir), .bool ((gotI L0 ⟨y35.parent.t, y35.parent.w⟩).gone), .slice A47 n48 c49, .int .i64 ((gotI L0 ⟨y35.parent.t, y35.parent.w⟩).by_.t), .int .i64 ((gotI L0 ⟨y35.parent.t, y35.parent.w⟩).by_.w)], .bool ((hasI L0 ⟨y35.parent.t, y35.parent.w⟩)), .slice A17 L0.length c18, .int .i64 ((k : Int)), .pointer (some ⟨g81, 0 + k * 10, none⟩), .pointer (some ⟨g81, 0 + k * 10 + 2, none⟩), .agg #[.int .i64 y35.parent.t, .int .i64 y35.parent.w], .agg #[.int .i64 0, .int .i64 0], .bool b82, .bool b82, .bool ((hasI L0 ⟨y35.parent.t, y35.parent.w⟩)), .bool (!((hasI L0 ⟨y35.parent.t, y35.parent.w⟩))), .bool (!((hasI L0 ⟨y35.parent.t, y35.parent.w⟩))), .pointer (some ⟨b54, 5, none⟩), .bool ((gotI L0 ⟨y35.parent.t, y35.parent.w⟩).dir), .bool (!((gotI L0 ⟨y35.parent.t, y35.parent.w⟩).dir)), .bool (!((gotI L0 ⟨y35.parent.t, y35.parent.w⟩).dir)), .bool (!((gotI L0 ⟨y35.parent.t, y35.parent.w⟩).dir)), .pointer (some ⟨tb, 0, none⟩), .slice A17 L0.length c18, .int .i64 ((k : Int)), .pointer (some ⟨g88, 0 + k * 10, none⟩), .pointer (some ⟨g88, 0 + k * 10, none⟩), .agg #[.int .i64 y35.node.t, .int .i64 y35.node.w], .bool ((hangsI L0 301 ⟨y35.node.t, y35.node.w⟩)), .slice A17 L0.length c18, .int .i64 ((k : Int)), .pointer (some ⟨g90, 0 + k * 10, none⟩), .pointer (some ⟨g90, 0 + k * 10 + 6, none⟩), .bool y35.gone, .bool (!y35.gone), .bool (!y35.gone), undef, undef, undef, undef, undef, undef, undef, .bool false, .bool false, .bool false, .slice A17 L0.length c18, .int .i64 ((k : Int)), .pointer (some ⟨g93, 0 + k * 10, none⟩), .pointer (some ⟨g93, 0 + k * 10 + 5, none⟩), .bool y35.dir, .bool y35.dir, undef, undef, undef, undef, undef, undef, undef, .bool false, .bool false], rfl, (by kernel_rfl), M98, (by omega)⟩
                  · omega
                · refine qv (wt (b := y35.dir) rfl (by kernel_rfl) v94) (v := .slice A17 L0.length c18) (fun _ _ => r_move (by kernel_rfl)) ?_
                  refine qv (wt (b := y35.dir) rfl (by kernel_rfl) v94) (v := .int .i64 ((k : Int))) (fun _ _ => r_move (by kernel_rfl)) ?_
                  obtain ⟨g95, cp95, cu95, dA95, dn95, dc95, hA95, hg95, hb95, he95, hD95⟩ := h80.get hy35
                  injection hA95 with hA95 _ _
                  replace he95 : (cu95.toList.drop (0 + k * 10)).take 10 = [.int .i64 y35.node.t, .int .i64 y35.node.w, .int .i64 y35.parent.t, .int .i64 y35.parent.w, .string y35.name, .bool y35.dir, .bool y35.gone, .slice dA95 dn95 dc95, .int .i64 y35.by_.t, .int .i64 y35.by_.w] := by rw [Nat.zero_add]; exact he95
                  refine qv (wt (b := y35.dir) rfl (by kernel_rfl) v94) (v := .pointer (some ⟨g95, 0 + k * 10, none⟩)) (fun _ _ => r_ixaddr' (A := A17) (b := g95) (o := 0) (n := L0.length) (c := c18) (sz := 10) (j := (k : Int)) (by kernel_rfl) hA95 (by kernel_rfl) Ty.un48 Ty.sz35 (by omega) (by omega) (by simp)) ?_
                  refine qv (wt (b := y35.dir) rfl (by kernel_rfl) v94) (v := .pointer (some ⟨g95, 0 + k * 10 + 7, none⟩)) (fun _ _ => r_fieldAddr (u := .pointer (some ⟨g95, 0 + k * 10, none⟩)) (v := .pointer (some ⟨g95, 0 + k * 10 + 7, none⟩)) (by kernel_rfl) (fun _ => (by kernel_rfl))) ?_
                  refine qv (wt (b := y35.dir) rfl (by kernel_rfl) v94) (v := .slice dA95 dn95 dc95) (fun _ uz => r_load (k := 0 + k * 10 + 7) (v := .slice dA95 dn95 dc95) (by kernel_rfl) Ty.ag33 (up_ob uz hb95) (el_get he95 7 rfl)) ?_
                  refine qv (wt (b := y35.dir) rfl (by kernel_rfl) v94) (v := .int .i64 ((dn95 : Int))) (fun _ _ => r_len Ty.un33 (ad := dA95) (n := dn95) (c := dc95) (by kernel_rfl)) ?_
                  refine qb (wt (b := y35.dir) rfl (by kernel_rfl) v94) (fun _ _ => r_gt (k := .i64) (m := ((dn95 : Int))) (n := 0) (by kernel_rfl) (by kernel_rfl)) ?_
                  intro b96 k97
                  refine qv (by kernel_rfl) (v := .bool b96) (fun _ _ => r_pick (b := true) (u := .bool b96) (v := .bool false) (ebool (b := y35.dir) (by kernel_rfl) v94) (by kernel_rfl) (by kernel_rfl)) ?_
                  refine qv rfl (v := .bool b96) (fun _ _ => r_pick (b := false) (u := .bool true) (v := .bool b96) (by kernel_rfl) (by kernel_rfl) (by kernel_rfl)) ?_
                  refine qnil ?_
                  intro w98 u99
                  have M100 := Mod.trans M78 (Mod.of_up u99)
                  have M101 := Mod.trans M79 (Mod.of_up u99)
                  refine then_n ?_
                  refine bcase b96 (fun v102 => ?_) (fun v102 => ?_)
                  · have p103 := of_decide_eq_false (k97.trans v102)
                    refine wp_cond_false (ebool (b := b96) (by kernel_rfl) v102) ?_
                    refine wp_skip ?_
                    refine inb_n ?_
                    refine then_n ?_
                    refine rg_lit ?_
                    refine wl (sv rfl (v := .int .i64 ((k : Int))) (r_move (by kernel_rfl)) ?_)
                    refine wl (sv rfl (v := .int .i64 (((k : Int)) + 1)) (r_add (k := .i64) (m := ((k : Int))) (n := 1) (by kernel_rfl) (by kernel_rfl) (IntWalk.i64_in _ (by omega))) ?_)
                    refine wl (sv rfl (v := .int .i64 (((k : Int)) + 1)) (r_assign (by kernel_rfl)) ?_)
                    refine wnil ?_
                    refine then_n ?_
                    refine ⟨L0.length - (k + 1), ?_, (k + 1), tget [undef, undef, (Z 2), undef, undef, undef, .pointer (some ⟨b54, 0, none⟩), .bool ((hasI L0 ⟨y35.parent.t, y35.parent.w⟩)), undef, undef, undef, undef, undef, undef, undef, undef, .int .i64 ((k : Int)), .slice A17 L0.length c18, .int .i64 ((L0.length : Int)), .bool b28, .int .i64 ((k : Int)), .int .i64 (((k : Int)) + 1), .pointer (some ⟨tb, 0, none⟩), .slice A17 L0.length c18, .int .i64 ((k : Int)), .pointer (some ⟨g35, 0 + k * 10, none⟩), .pointer (some ⟨g35, 0 + k * 10, none⟩), .agg #[.int .i64 y35.node.t, .int .i64 y35.node.w], .slice A17 L0.length c18, .int .i64 ((k : Int)), .pointer (some ⟨g36, 0 + k * 10, none⟩), .pointer (some ⟨g36, 0 + k * 10 + 2, none⟩), .agg #[.int .i64 y35.parent.t, .int .i64 y35.parent.w], .bool false, .bool false, .pointer (some ⟨tb, 0, none⟩), .agg #[.int .i64 0, .int .i64 0], .slice A17 L0.length c18, .int .i64 ((k : Int)), .pointer (some ⟨g38, 0 + k * 10, none⟩), .pointer (some ⟨g38, 0 + k * 10, none⟩), .agg #[.int .i64 y35.node.t, .int .i64 y35.node.w], .bool true, .bool false, .bool false, .tuple #[.agg #[.int .i64 ((gotI L0 ⟨y35.parent.t, y35.parent.w⟩).node.t), .int .i64 ((gotI L0 ⟨y35.parent.t, y35.parent.w⟩).node.w), .int .i64 ((gotI L0 ⟨y35.parent.t, y35.parent.w⟩).parent.t), .int .i64 ((gotI L0 ⟨y35.parent.t, y35.parent.w⟩).parent.w), .string ((gotI L0 ⟨y35.parent.t, y35.parent.w⟩).name), .bool ((gotI L0 ⟨y35.parent.t, y35.parent.w⟩).dir), .bool ((gotI L0 ⟨y35.parent.t, y35.parent.w⟩).gone), .slice A47 n48 c49, .int .i64 ((gotI L0 ⟨y35.parent.t, y35.parent.w⟩).by_.t), .int .i64 ((gotI L0 ⟨y35.parent.t, y35.parent.w⟩).by_.w)], .bool ((hasI L0 ⟨y35.parent.t, y35.parent.w⟩))], .pointer (some ⟨tb, 0, none⟩), .slice A17 L0.length c18, .int .i64 ((k : Int)), .pointer (some ⟨g44, 0 + k * 10, none⟩), .pointer (some ⟨g44, 0 + k * 10 + 2, none⟩), .agg #[.int .i64 y35.parent.t, .int .i64 y35.parent.w], .tuple #[.agg #[.int .i64 ((gotI L0 ⟨y35.parent.t, y35.parent.w⟩).node.t), .int .i64 ((gotI L0 ⟨y35.parent.t, y35.parent.w⟩).node.w), .int .i64 ((gotI L0 ⟨y35.parent.t, y35.parent.w⟩).parent.t), .int .i64 ((gotI L0 ⟨y35.parent.t, y35.parent.w⟩).parent.w), .string ((gotI L0 ⟨y35.parent.t, y35.parent.w⟩).name), .bool ((gotI L0 ⟨y35.parent.t, y35.parent.w⟩).dir), .bool ((gotI L0 ⟨y35.parent.t, y35.parent.w⟩).gone), .slice A47 n48 c49, .int .i64 ((gotI L0 ⟨y35.parent.t, y35.parent.w⟩).by_.t), .int .i64 ((gotI L0 ⟨y35.parent.t, y35.parent.w⟩).by_.w)], .bool ((hasI L0 ⟨y35.parent.t, y35.parent.w⟩))], .agg #[.int .i64 ((gotI L0 ⟨y35.parent.t, y35.parent.w⟩).node.t), .int .i64 ((gotI L0 ⟨y35.parent.t, y35.parent.w⟩).node.w), .int .i64 ((gotI L0 ⟨y35.parent.t, y35.parent.w⟩).parent.t), .int .i64 ((gotI L0 ⟨y35.parent.t, y35.parent.w⟩).parent.w), .string ((gotI L0 ⟨y35.parent.t, y35.parent.w⟩).name), .bool ((gotI L0 ⟨y35.parent.t, y35.parent.w⟩).dir), .bool ((gotI L0 ⟨y35.parent.t, y35.parent.w⟩).gone), .slice A47 n48 c49, .int .i64 ((gotI L0 ⟨y35.parent.t, y35.parent.w⟩).by_.t), .int .i64 ((gotI L0 ⟨y35.parent.t, y35.parent.w⟩).by_.w)], .bool ((hasI L0 ⟨y35.parent.t, y35.parent.w⟩)), .slice A17 L0.length c18, .int .i64 ((k : Int)), .pointer (some ⟨g81, 0 + k * 10, none⟩), .pointer (some ⟨g81, 0 + k * 10 + 2, none⟩), .agg #[.int .i64 y35.parent.t, .int .i64 y35.parent.w], .agg #[.int .i64 0, .int .i64 0], .bool b82, .bool b82, .bool ((hasI L0 ⟨y35.parent.t, y35.parent.w⟩)), .bool (!((hasI L0 ⟨y35.parent.t, y35.parent.w⟩))), .bool (!((hasI L0 ⟨y35.parent.t, y35.parent.w⟩))), .pointer (some ⟨b54, 5, none⟩), .bool ((gotI L0 ⟨y35.parent.t, y35.parent.w⟩).dir), .bool (!((gotI L0 ⟨y35.parent.t, y35.parent.w⟩).dir)), .bool (!((gotI L0 ⟨y35.parent.t, y35.parent.w⟩).dir)), .bool (!((gotI L0 ⟨y35.parent.t, y35.parent.w⟩).dir)), .pointer (some ⟨tb, 0, none⟩), .slice A17 L0.length c18, .int .i64 ((k : Int)), .pointer (some ⟨g88, 0 + k * 10, none⟩), .pointer (some ⟨g88, 0 + k * 10, none⟩), .agg #[.int .i64 y35.node.t, .int .i64 y35.node.w], .bool ((hangsI L0 301 ⟨y35.node.t, y35.node.w⟩)), .slice A17 L0.length c18, .int .i64 ((k : Int)), .pointer (some ⟨g90, 0 + k * 10, none⟩), .pointer (some ⟨g90, 0 + k * 10 + 6, none⟩), .bool y35.gone, .bool (!y35.gone), .bool (!y35.gone), undef, undef, undef, undef, undef, undef, undef, .bool false, .bool false, .bool false, .slice A17 L0.length c18, .int .i64 ((k : Int)), .pointer (some ⟨g93, 0 + k * 10, none⟩), .pointer (some ⟨g93, 0 + k * 10 + 5, none⟩), .bool y35.dir, .bool y35.dir, .slice A17 L0.length c18, .int .i64 ((k : Int)), .pointer (some ⟨g95, 0 + k * 10, none⟩), .pointer (some ⟨g95, 0 + k * 10 + 7, none⟩), .slice dA95 dn95 dc95, .int .i64 ((dn95 : Int)), .bool b96, .bool b96, .bool b96], rfl, (by kernel_rfl), M101, (by omega)⟩
                    · omega
                  · have p103 := of_decide_eq_true (k97.trans v102)
                    have hz := (Dat.len hD95).1
                    rw [rey35 v94] at hz
                    simp only [List.length_nil] at hz
                    exact absurd p103 (by omega)
              · refine qv rfl (v := .bool true) (fun _ _ => r_neb (a := true) (b := false) Try.underlying4 (ebool (b := (hangsI L0 301 ⟨y35.node.t, y35.node.w⟩)) (by kernel_rfl) v92) (by kernel_rfl)) ?_
                refine qv rfl (v := .bool true) (fun _ _ => r_move (by kernel_rfl)) ?_
                refine qp (by kernel_rfl) ?_
                refine qp (by kernel_rfl) ?_
                refine qp (by kernel_rfl) ?_
                refine qp (by kernel_rfl) ?_
                refine qp (by kernel_rfl) ?_
                refine qp (by kernel_rfl) ?_
                refine qp (by kernel_rfl) ?_
                refine qp (by kernel_rfl) ?_
                refine qp (by kernel_rfl) ?_
                refine qp (by kernel_rfl) ?_
                refine qp (by kernel_rfl) ?_
                refine qp (by kernel_rfl) ?_
                refine qp (by kernel_rfl) ?_
                refine qp (by kernel_rfl) ?_
                refine qv rfl (v := .bool true) (fun _ _ => r_pick (b := true) (u := .bool true) (v := undef) (by kernel_rfl) (by kernel_rfl) (by kernel_rfl)) ?_
                refine qnil ?_
                intro w93 u94
                have M95 := Mod.trans M78 (Mod.of_up u94)
                have M96 := Mod.trans M79 (Mod.of_up u94)
                refine then_n ?_
                refine wp_cond_true (by kernel_rfl) ?_
                refine wp_seq ?_
                refine rg_lit ?_
                refine wl (sv rfl (v := .bool false) (r_assign (by kernel_rfl)) ?_)
                refine wnil ?_
                refine then_n ?_
                refine wp_ret ?_
                refine inb_r ?_
                refine then_x (by nofun) ?_
                refine then_x (by nofun) ?_
                refine inb_r ?_
                refine then_x (by nofun) ?_
                refine bodyPost_ret (v := .bool false) (res1 rfl (rv_t (by kernel_rfl))) (by kernel_rfl) ?_
                exfalso
                have e := rdy35
                have f0 := v91
                have f1 := v92
                simp [f0, f1] at e
end Go.Proofs.Ytefhfoioeoijlaa

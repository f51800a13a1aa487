/- GU: printed by gen.py -/
import Derived.Test.YtefhfoioeoijlaaGOL
import Derived.Test.YtefhfoioeoijlaaGS
import Derived.Test.YtefhfoioeoijlaaGT
import Derived.Test.YtefhfoioeoijlaaTwin
import Derived.Test.YtefhfoioeoijlaaGB
set_option linter.unusedVariables false
set_option linter.unusedSimpArgs false
namespace Go.Proofs.Ytefhfoioeoijlaa
open Go Go.RowKit Go.Sort
theorem build_n {B : Nat} {w : World} {lA : Option Addr} {lc n : Nat} {os : List OpD} (h : OpRow B w lA os) (hB : B ≤ w.heap.size) (hn : os.length ≤ 1000000) (e : n = os.length) :
    Calls Try.prog 36 #[.slice lA n lc] w fun e w' => ∃ tb r, e = .returned (trP tb) ∧ TreeIs B w' tb r (buildI os) ∧ Up w w' ∧ w.heap.size ≤ tb ∧ w.heap.size ≤ r := by
  subst e; exact build_at h hB hn
theorem OpRow.small {B : Nat} {w : World} {A : Option Addr} {os : List OpD} (h : OpRow B w A os) : ∀ o ∈ os, o.name.size ≤ 9223372036854775807 := fun o ho => by
  obtain ⟨i, hi⟩ := List.mem_iff_getElem?.1 ho
  obtain ⟨_, _, _, _, _, _, _, _, _, hs⟩ := h i o hi
  exact hs
theorem tlen_up {B : Nat} {w : World} {tb r : Nat} {L : List Item} (h : TreeIs B w tb r L) : Calls Try.prog 22 #[trP tb] w fun e w' => e = .returned (.int .i64 L.length) ∧ Up w w' := by
  refine (tlen_any h).mono ?_
  rintro e w' ⟨rfl, rfl⟩
  exact ⟨rfl, Below.refl _ _⟩
set_option maxRecDepth 20000 in
set_option maxHeartbeats 2000000 in
theorem treeBuilds_at {B : Nat} {w : World} {lA : Option Addr} {lc : Nat} {os : List OpD} (h0 : OpRow0 w lA os) (hfull : Small os → OpRow B w lA os) (hB : B ≤ w.heap.size) (hn : os.length ≤ 9223372036854775807) {tA : Option Addr} {tc : Nat} {ts : List Int} (hts : IntRow w tA ts) (htn : ts.length ≤ 9223372036854775807) :
    Calls Try.prog 8 #[.slice lA os.length lc, .slice tA ts.length tc] w fun e w' => e = .returned (.bool true) ∧ Up w w' := by
  obtain ⟨iO, zO, hiO, hzO, hsO, hbO, hcO⟩ := info_op
  obtain ⟨f, hf⟩ : ∃ f, f = atO os := ⟨_, rfl⟩
  go_enter Try.func8, Try.ntmps8
  refine wp_seq (rg_lit ?_)
  refine was (v := .bool false) ?_
  refine wnil (then_n (wp_seq (wp_seq (rg_lit ?_))))
  refine wmv (v := .slice lA os.length lc) ?_
  refine wl (sc rfl (r_callv (caps := []) (all := [.slice lA os.length lc, .int .i64 40]) En.f12 (by kernel_rfl) (by kernel_rfl)) (light2_at (OpRow0.up h0 (Mod.up (Mod.refl [] w))) hn 40) ?_)
  rintro e w1 ⟨lb2, rfl, h3, u4⟩
  refine ⟨.bool lb2, rfl, ?_⟩
  have M5 := Mod.trans (Mod.refl [] w) (Mod.of_up u4)
  refine wl (sv rfl (v := .bool (!lb2)) (r_not (b := lb2) (by kernel_rfl)) ?_)
  refine wmv (v := .bool (!lb2)) ?_
  refine bcase lb2 (fun v6 => ?_) (fun v6 => ?_)
  · refine wl (sp (wf (b := !lb2) rfl (by kernel_rfl) (bneg v6)) ?_)
    refine wl (sp (wf (b := !lb2) rfl (by kernel_rfl) (bneg v6)) ?_)
    refine wl (sp (wf (b := !lb2) rfl (by kernel_rfl) (bneg v6)) ?_)
    refine wl (sv rfl (v := .bool true) (r_pkT (ebool (b := !lb2) (by kernel_rfl) (bneg v6)) (by kernel_rfl)) ?_)
    refine wnil (then_n ?_)
    refine wp_cond_true (by kernel_rfl) ?_
    refine wp_seq (rg_lit ?_)
    refine wl (sc rfl (r_callv (caps := []) (all := []) En.f13 (by kernel_rfl) (by kernel_rfl)) (alive_at) ?_)
    rintro e w7 ⟨rfl, u8⟩
    refine ⟨.bool true, rfl, ?_⟩
    have M9 := Mod.trans M5 (Mod.of_up u8)
    refine was (v := .bool true) ?_
    refine wnil (then_n (wp_ret (then_x (by nofun) ?_)))
    refine bodyPost_ret (v := .bool true) (res1 rfl (rv_t (by kernel_rfl))) (by kernel_rfl) ?_
    exact ⟨rfl, (Mod.up M9)⟩
  obtain ⟨hsm7, hle7⟩ := h3 v6
  have hops := hfull hsm7
  have hnm : ∀ o ∈ os, o.name.size ≤ 9223372036854775807 := hops.small
  have hops := hfull hsm7
  refine wl (sv (wt (b := !lb2) rfl (by kernel_rfl) (bneg v6)) (v := .slice tA ts.length tc) (r_move (by kernel_rfl)) ?_)
  refine wl (sv (wt (b := !lb2) rfl (by kernel_rfl) (bneg v6)) (v := .int .i64 ((ts.length : Int))) (r_len Ty.un75 (ad := tA) (n := ts.length) (c := tc) (by kernel_rfl)) ?_)
  refine wl (sb (wt (b := !lb2) rfl (by kernel_rfl) (bneg v6)) (r_gt (k := .i64) (m := ((ts.length : Int))) (n := 60) (by kernel_rfl) (by kernel_rfl)) ?_)
  intro b8 k9
  refine wl (sv rfl (v := .bool b8) (r_pkF (ebool (b := !lb2) (by kernel_rfl) (bneg v6)) (by kernel_rfl)) ?_)
  refine wnil (then_n ?_)
  refine bcase b8 (fun v10 => ?_) (fun v10 => ?_)
  · have p11 := of_decide_eq_false (k9.trans v10)
    refine wp_cond_false (ebool (b := b8) (by kernel_rfl) v10) ?_
    refine wp_skip (then_n (wp_seq (rg_lit ?_)))
    refine wmv (v := .slice lA os.length lc) ?_
    have h12 := (OpRow.up hops (Mod.up M5))
    refine wl (sc rfl (r_callv (caps := []) (all := [.slice lA os.length lc]) En.f36 (by kernel_rfl) (by kernel_rfl)) (build_at h12 (Nat.le_trans hB M5.size) (by omega)) ?_)
    rintro e w13 ⟨tb, r, rfl, h14, u15, z16, z17⟩
    refine ⟨.pointer (some ⟨tb, 0, none⟩), rfl, ?_⟩
    have M18 := Mod.trans M5 (Mod.of_up u15)
    obtain ⟨hwf, hlen⟩ := buildI_wf os
    obtain ⟨L0, hL0⟩ : ∃ L, buildI os = L := ⟨_, rfl⟩
    rw [hL0] at hwf hlen h14
    obtain ⟨eshr19, clhr19, xshr19, hr19, _⟩ := h14.2.2.2.1
    refine was (v := .pointer (some ⟨tb, 0, none⟩)) ?_
    refine wnil (then_n (wp_seq (rg_lit ?_)))
    refine wmv (v := .slice lA os.length lc) ?_
    have h20 := (OpRow.up hops (Mod.up M18))
    refine wl (sc rfl (r_callv (caps := []) (all := [.slice lA os.length lc]) En.f45 (by kernel_rfl) (by kernel_rfl)) (rbuild_at h20 (Nat.le_trans hB M18.size) (by omega)) ?_)
    rintro e w21 ⟨ub, rfl, h22, u23, z24⟩
    refine ⟨.pointer (some ⟨ub, 0, none⟩), rfl, ?_⟩
    rw [hL0] at h22
    have M25 := Mod.trans M18 (Mod.of_up u23)
    have hhu26 := h22
    obtain ⟨_, vu26, hvu26, hlu26, _, _⟩ := hhu26
    rw [rowI_is] at hlu26
    obtain ⟨Au26, cu26, rfl⟩ := hlu26.form
    refine was (v := .pointer (some ⟨ub, 0, none⟩)) ?_
    refine wnil (then_n (wp_seq (rg_lit ?_)))
    have h27 := (up_ob u23 hr19)
    have h28 := (up_ob u23 h14.1)
    have h29 := (IntRow.up hts (Mod.up M25))
    have h30 := (OpRow.up hops (Mod.up M25))
    have h31 := (TreeIs.up h14 u23)
    refine wl (litO rfl (B := B) (base := w21.heap.size) Ty.un22 Ty.sz40 (Mod.refl [] w21).size ?_)
    intro b32 w33 e34 h35 h36 u37
    have l38 : r < b32 := by rw [e34]; exact lt_ob h27
    have l39 : tb < b32 := by rw [e34]; exact lt_ob h28
    have l40 : ub < b32 := by rw [e34]; exact lt_ob hvu26
    have g41 : w.heap.size ≤ b32 := by rw [e34]; exact M25.size
    have g42 : w21.heap.size ≤ b32 := by rw [e34]; exact (Mod.refl [] w21).size
    have M43 := Mod.trans M25 (Mod.of_up u37)
    have M44 := Mod.trans (Mod.refl [] w21) (Mod.of_up u37)
    refine wmv (v := .slice lA os.length lc) ?_
    have h45 := (OpRow.up hops (Mod.up M43))
    refine wl (apO rfl (by kernel_rfl) (by kernel_rfl) h36 (OpRow.sub (c := lc) h45) Ty.un22 hiO hzO hsO hbO hcO (by decide) (Nat.le_trans hB M25.size) M44.size (by simp; omega) ?_)
    intro g nn c w46 e47 h48 g49 c50
    have M51 := Mod.trans' M43 c50 (fun i hi => by injection hi with hi; rw [← hi]; exact g41)
    have M52 := Mod.trans' M44 c50 (fun i hi => by injection hi with hi; rw [← hi]; exact g42)
    have hBb : B ≤ w21.heap.size := Nat.le_trans hB M25.size
    have hnn : nn = os.length := by simpa using e47
    have h53 := ORow.to h48 (show [] ++ os = (List.range nn).map f by rw [hnn, hf]; exact (range_at os).symm)
    have hBg : B ≤ g := Nat.le_trans hBb g49
    obtain ⟨_, _, _, cg54, hg54, _⟩ := ORow.blk h53
    refine was (v := .slice (some ⟨g, 0, none⟩) nn c) ?_
    refine wnil (then_n (wp_seq (wp_seq (rg_lit ?_))))
    refine was (v := .int .i64 0) ?_
    refine wnil (then_n (wp_block ?_))
    have h55 := md_ob M52 nin0 h27
    have h56 := md_ob M52 nin0 h28
    have h57 := md_ob M52 nin0 hvu26
    have h58 := (IntRow.up hts (Mod.up M51))
    have h59 := (OpRow.up hops (Mod.up M51))
    have h60 := (TreeIs.up h31 (Mod.up M52))
    have h61 := (RIs.up h22 (Mod.up M52))
    have h62 := (IRow.up hlu26 (Mod.up M52))
    refine lp (fun n a r1 => ∃ (I1 : List Nat) (ki : Nat) (Z : Nat → Value), (n = ts.length - ki) ∧ (a = ⟨#[.slice lA os.length lc, .slice tA ts.length tc, undef, undef, .bool false, .pointer (some ⟨tb, 0, none⟩), .pointer (some ⟨ub, 0, none⟩), .slice (some ⟨g, 0, none⟩) nn c, .int .i64 ((ki : Int)), (Z 9), (Z 10), (Z 11), (Z 12), (Z 13), .slice lA os.length lc, .bool lb2, .bool (!lb2), .bool (!lb2), .slice tA ts.length tc, .int .i64 ((ts.length : Int)), .bool b8, .bool b8, undef, .slice lA os.length lc, .pointer (some ⟨tb, 0, none⟩), .slice lA os.length lc, .pointer (some ⟨ub, 0, none⟩), .slice (some ⟨b32, 0, none⟩) 0 0, .slice lA os.length lc, .slice (some ⟨g, 0, none⟩) nn c, (Z 30), (Z 31), (Z 32), (Z 33), (Z 34), (Z 35), (Z 36), (Z 37), (Z 38), (Z 39), (Z 40), (Z 41), (Z 42), (Z 43), (Z 44), (Z 45), (Z 46), (Z 47), (Z 48), (Z 49), (Z 50), (Z 51), (Z 52), (Z 53), (Z 54), (Z 55), (Z 56), (Z 57), (Z 58), (Z 59), (Z 60), (Z 61), (Z 62), (Z 63), (Z 64), (Z 65), (Z 66), (Z 67), (Z 68), (Z 69), (Z 70), (Z 71), (Z 72), (Z 73), (Z 74), (Z 75), (Z 76), (Z 77), (Z 78), (Z 79), (Z 80), (Z 81), (Z 82), (Z 83), (Z 84), (Z 85), (Z 86), (Z 87), (Z 88), (Z 89), (Z 90), (Z 91), (Z 92), (Z 93), (Z 94), (Z 95), (Z 96), (Z 97), (Z 98), (Z 99), (Z 100), (Z 101), (Z 102), (Z 103), (Z 104), (Z 105), (Z 106), (Z 107), (Z 108), (Z 109), (Z 110), (Z 111), (Z 112), (Z 113), undef, undef, undef, undef, undef, undef, undef, undef, undef, undef, undef, undef, undef, undef, undef, undef, undef, undef, undef, undef, undef, undef, undef, undef, undef, undef, undef, undef, undef, undef, undef], []⟩) ∧ (Mod [g] w46 r1) ∧ (ki ≤ ts.length) ∧ (I1.length = nn) ∧ (sortO (I1.map f) = sortO os) ∧ (Hid (∀ o ∈ I1.map f, o ∈ os)) ∧ (ORow 40 B w21.heap.size r1 (.slice (some ⟨g, 0, none⟩) nn c) (I1.map f))) ⟨_, (List.range nn), 0, tget [undef, undef, undef, undef, undef, undef, undef, undef, undef, undef, undef, undef, undef, undef, undef, undef, undef, undef, undef, undef, undef, undef, undef, undef, undef, undef, undef, undef, undef, undef, undef, undef, undef, undef, undef, undef, undef, undef, undef, undef, undef, undef, undef, undef, undef, undef, undef, undef, undef, undef, undef, undef, undef, undef, undef, undef, undef, undef, undef, undef, undef, undef, undef, undef, undef, undef, undef, undef, undef, undef, undef, undef, undef, undef, undef, undef, undef, undef, undef, undef, undef, undef, undef, undef, undef, undef, undef, undef, undef, undef, undef, undef, undef, undef, undef, undef, undef, undef, undef, undef, undef, undef, undef, undef, undef, undef, undef, undef, undef, undef, undef, undef, undef, undef], rfl, (by kernel_rfl), Mod.refl _ _, (Nat.zero_le _), (by simp), (by rw [hnn, hf]; exact congrArg sortO (range_at os)), (fun o ho => by rw [hnn, hf, range_at] at ho; exact ho), h53⟩ ?_
    rintro _ _ r1 ⟨I1, ki, Z, rfl, rfl, hM1, hF1_0, hF1_1, hF1_2, hF1_3, hF1_4⟩
    have M63 := Mod.thin M51 hM1 (fun y hy => by simp only [List.mem_cons, List.not_mem_nil, or_false] at hy; subst hy; exact .inr (Nat.le_trans M25.size g49))
    have M64 := Mod.thin M52 hM1 (fun y hy => by simp only [List.mem_cons, List.not_mem_nil, or_false] at hy; subst hy; exact .inr g49)
    obtain ⟨_, _, _, cg65, hg65, _⟩ := ORow.blk hF1_4
    refine wp_seq (wp_seq (rg_lit ?_))
    refine wmv (v := .int .i64 ((ki : Int))) ?_
    refine wmv (v := .slice tA ts.length tc) ?_
    refine wl (sv rfl (v := .int .i64 ((ts.length : Int))) (r_len Ty.un75 (ad := tA) (n := ts.length) (c := tc) (by kernel_rfl)) ?_)
    refine wl (sb rfl (r_lt (k := .i64) (m := ((ki : Int))) (n := ((ts.length : Int))) (by kernel_rfl) (by kernel_rfl)) ?_)
    intro b66 k67
    refine wmv (v := .bool b66) ?_
    refine bcase b66 (fun v68 => ?_) (fun v68 => ?_)
    · have p69 := of_decide_eq_false (k67.trans v68)
      refine wl (sp (wf (b := b66) rfl (by kernel_rfl) v68) ?_)
      refine wl (sp (wf (b := b66) rfl (by kernel_rfl) v68) ?_)
      refine wl (sp (wf (b := b66) rfl (by kernel_rfl) v68) ?_)
      refine wl (sv rfl (v := .bool false) (r_pkF (ebool (b := b66) (by kernel_rfl) v68) (by kernel_rfl)) ?_)
      refine wnil (then_n ?_)
      refine wp_cond_false (by kernel_rfl) ?_
      refine wp_exit (then_x (by nofun) (then_x (by nofun) (inb_hit (then_n (wp_seq ?_)))))
      refine rg_held [] (n := 32) (by kernel_rfl) rfl ?_
      intro w70 u71
      have M72 := Mod.trans M63 (Mod.of_up u71)
      have M73 := Mod.trans M64 (Mod.of_up u71)
      have M74 := Mod.trans hM1 (Mod.of_up u71)
      refine hvq (i := 0) (fuel := 31) rfl (fun _ _ _ h => h) (Mod.refl _ _) rfl (v := .pointer (some ⟨tb, 0, none⟩)) (fun _ _ => r_move (by kernel_rfl)) ?_
      refine hvq (i := 3) (fuel := 30) rfl (fun _ _ _ h => h) (Mod.refl _ _) rfl (v := .pointer (some ⟨ub, 0, none⟩)) (fun _ _ => r_move (by kernel_rfl)) ?_
      refine hvq (i := 4) (fuel := 29) rfl (fun _ _ _ h => h) (Mod.refl _ _) rfl (v := .pointer (some ⟨ub, 0, none⟩)) (fun _ _ => r_nilCheck (by kernel_rfl)) ?_
      refine hvq (i := 5) (fuel := 28) rfl (fun _ _ _ h => h) (Mod.refl _ _) rfl (v := .pointer (some ⟨ub, 0, none⟩)) (fun _ _ => r_fieldAddr (u := .pointer (some ⟨ub, 0, none⟩)) (by kernel_rfl) (fun _ => (by kernel_rfl))) ?_
      have h75 := md_ob M73 nin0 hvu26
      refine hvq (i := 6) (fuel := 27) rfl (fun _ _ _ h => h) (Mod.refl _ _) rfl (v := .slice Au26 L0.length cu26) (fun _ uz => r_load (k := 0) (by kernel_rfl) Ty.ag30 (md_ob uz nin0 h75) (by kernel_rfl)) ?_
      have h76 := md_ob M73 nin0 h27
      have h77 := md_ob M73 nin0 h28
      have h78 := (up_ob u71 hg65)
      have h84 := (TreeIs.up h31 (Mod.up M73))
      refine h1 (i := 1) (fuel := 26) (by kernel_rfl) rfl (sc rfl (r_callv (caps := []) (all := [.pointer (some ⟨tb, 0, none⟩)]) En.f21 (by kernel_rfl) (by kernel_rfl)) (row_sl (all_at h84 (Nat.le_trans hB M72.size))) ?_)
      rintro e w79 ⟨A80, c81, rfl, h82, u83⟩
      refine ⟨.slice A80 L0.length c81, rfl, ?_⟩
      have M85 := Mod.trans M72 (Mod.of_up u83)
      have M86 := Mod.trans M73 (Mod.of_up u83)
      have M87 := Mod.trans M74 (Mod.of_up u83)
      refine hx (Y := []) (Mod.of_up u83) (fun y hy => .inl hy) ?_
      have h88 := md_ob M86 nin0 h27
      have h89 := md_ob M86 nin0 h28
      have h90 := md_ob M86 nin0 hvu26
      have h91 := (up_ob u83 h78)
      refine h1 (i := 2) (fuel := 25) (by kernel_rfl) rfl (sc rfl (r_callv (caps := []) (all := [.slice A80 L0.length c81]) En.f20 (by kernel_rfl) (by kernel_rfl)) (row_sl (litems_at h82 (Nat.le_trans hB M85.size) (Nat.le_trans hlen (by decide)))) ?_)
      rintro e w92 ⟨A93, c94, rfl, h95, u96⟩
      refine ⟨.slice A93 L0.length c94, rfl, ?_⟩
      have M97 := Mod.trans M85 (Mod.of_up u96)
      have M98 := Mod.trans M86 (Mod.of_up u96)
      have M99 := Mod.trans M87 (Mod.of_up u96)
      refine hx (Y := []) (Mod.of_up u96) (fun y hy => .inl hy) ?_
      have h100 := (IRow.up hlu26 (Mod.up M98))
      refine h1 (i := 7) (fuel := 24) (by kernel_rfl) rfl (sc rfl (r_callv (caps := []) (all := [.slice A93 L0.length c94, .slice Au26 L0.length cu26]) En.f19 (by kernel_rfl) (by kernel_rfl)) (bool_true rfl (rsame_at h95 h100 (Nat.le_trans hlen (by decide)))) ?_)
      rintro e w101 ⟨rfl, u102⟩
      refine ⟨.bool true, rfl, ?_⟩
      have M103 := Mod.trans M97 (Mod.of_up u102)
      have M104 := Mod.trans M98 (Mod.of_up u102)
      have M105 := Mod.trans M99 (Mod.of_up u102)
      refine hx (Y := []) (Mod.of_up u102) (fun y hy => .inl hy) ?_
      refine hvq (i := 8) (fuel := 23) rfl (fun _ _ _ h => h) (Mod.refl _ _) rfl (v := .bool true) (fun _ _ => r_move (by kernel_rfl)) ?_
      refine hvq (i := 9) (fuel := 22) rfl (fun _ _ _ h => h) (Mod.refl _ _) (by kernel_rfl) (v := .pointer (some ⟨tb, 0, none⟩)) (fun _ _ => r_move (by kernel_rfl)) ?_
      refine hvq (i := 10) (fuel := 21) rfl (fun _ _ _ h => h) (Mod.refl _ _) (by kernel_rfl) (v := .slice (some ⟨g, 0, none⟩) nn c) (fun _ _ => r_move (by kernel_rfl)) ?_
      have h106 := (ORow.up hF1_4 (up_up (up_up (up_up u71 u83) u96) u102))
      refine h1 (i := 11) (fuel := 20) (by kernel_rfl) rfl (sc (by kernel_rfl) (r_callv (caps := []) (all := [.slice (some ⟨g, 0, none⟩) nn c]) En.f36 (by kernel_rfl) (by kernel_rfl)) (build_n (os := I1.map f) (n := nn) (ORow.ops h106 (fun o ho => hnm _ (hF1_3.out o ho))) (Nat.le_trans hB M103.size) (by simp; omega) (by simp; omega)) ?_)
      rintro e w107 ⟨tb2, r2, rfl, h108, u109, z110, z111⟩
      refine ⟨.pointer (some ⟨tb2, 0, none⟩), rfl, ?_⟩
      rw [build_sort hF1_2, hL0] at h108
      have M112 := Mod.trans M103 (Mod.of_up u109)
      have M113 := Mod.trans M104 (Mod.of_up u109)
      have M114 := Mod.trans M105 (Mod.of_up u109)
      refine hx (Y := []) (Mod.of_up u109) (fun y hy => .inl hy) ?_
      have h115 := (TreeIs.up h31 (Mod.up M113))
      refine h1 (i := 12) (fuel := 19) (by kernel_rfl) rfl (sc (by kernel_rfl) (r_callv (caps := []) (all := [.pointer (some ⟨tb, 0, none⟩), .pointer (some ⟨tb2, 0, none⟩)]) En.f39 (by kernel_rfl) (by kernel_rfl)) (bool_true rfl (tsame_at h115 h108)) ?_)
      rintro e w116 ⟨rfl, u117⟩
      refine ⟨.bool true, rfl, ?_⟩
      have M118 := Mod.trans M112 (Mod.of_up u117)
      have M119 := Mod.trans M113 (Mod.of_up u117)
      have M120 := Mod.trans M114 (Mod.of_up u117)
      refine hx (Y := []) (Mod.of_up u117) (fun y hy => .inl hy) ?_
      refine hvq (i := 13) (fuel := 18) rfl (fun _ _ _ h => h) (Mod.refl _ _) rfl (v := .bool true) (fun _ _ => r_pkT (by kernel_rfl) (by kernel_rfl)) ?_
      refine hvq (i := 14) (fuel := 17) rfl (fun _ _ _ h => h) (Mod.refl _ _) rfl (v := .bool true) (fun _ _ => r_move (by kernel_rfl)) ?_
      refine hvq (i := 15) (fuel := 16) rfl (fun _ _ _ h => h) (Mod.refl _ _) (by kernel_rfl) (v := .pointer (some ⟨tb, 0, none⟩)) (fun _ _ => r_move (by kernel_rfl)) ?_
      refine hvq (i := 16) (fuel := 15) rfl (fun _ _ _ h => h) (Mod.refl _ _) (by kernel_rfl) (v := .pointer (some ⟨tb, 0, none⟩)) (fun _ _ => r_move (by kernel_rfl)) ?_
      have h121 := (TreeIs.up h31 (Mod.up M119))
      refine h1 (i := 17) (fuel := 14) (by kernel_rfl) rfl (sc (by kernel_rfl) (r_callv (caps := []) (all := [.pointer (some ⟨tb, 0, none⟩), .pointer (some ⟨tb, 0, none⟩)]) En.f39 (by kernel_rfl) (by kernel_rfl)) (bool_true rfl (tsame_at h121 h121)) ?_)
      rintro e w122 ⟨rfl, u123⟩
      refine ⟨.bool true, rfl, ?_⟩
      have M124 := Mod.trans M118 (Mod.of_up u123)
      have M125 := Mod.trans M119 (Mod.of_up u123)
      have M126 := Mod.trans M120 (Mod.of_up u123)
      refine hx (Y := []) (Mod.of_up u123) (fun y hy => .inl hy) ?_
      refine hvq (i := 18) (fuel := 13) rfl (fun _ _ _ h => h) (Mod.refl _ _) rfl (v := .bool true) (fun _ _ => r_pkT (by kernel_rfl) (by kernel_rfl)) ?_
      refine hvq (i := 19) (fuel := 12) rfl (fun _ _ _ h => h) (Mod.refl _ _) rfl (v := .bool true) (fun _ _ => r_move (by kernel_rfl)) ?_
      refine hvq (i := 20) (fuel := 11) rfl (fun _ _ _ h => h) (Mod.refl _ _) (by kernel_rfl) (v := .pointer (some ⟨tb, 0, none⟩)) (fun _ _ => r_move (by kernel_rfl)) ?_
      refine hvq (i := 23) (fuel := 10) rfl (fun _ _ _ h => h) (Mod.refl _ _) (by kernel_rfl) (v := .pointer (some ⟨tb, 0, none⟩)) (fun _ _ => r_move (by kernel_rfl)) ?_
      refine h1 (i := 21) (fuel := 9) (by kernel_rfl) rfl (sc (by kernel_rfl) (r_callv (caps := []) (all := []) En.f14 (by kernel_rfl) (by kernel_rfl)) (tnew_any (Nat.le_trans hB M124.size)) ?_)
      rintro e w127 ⟨tb3, r3, rfl, h128, u129, z130, z131⟩
      refine ⟨.pointer (some ⟨tb3, 0, none⟩), rfl, ?_⟩
      have M132 := Mod.trans M124 (Mod.of_up u129)
      have M133 := Mod.trans M125 (Mod.of_up u129)
      have M134 := Mod.trans M126 (Mod.of_up u129)
      refine hx (Y := []) (Mod.of_up u129) (fun y hy => .inl hy) ?_
      have h135 := (TreeIs.up h31 (Mod.up M133))
      refine h1 (i := 22) (fuel := 8) (by kernel_rfl) rfl (sc (by kernel_rfl) (r_callv (caps := []) (all := [.pointer (some ⟨tb, 0, none⟩), .pointer (some ⟨tb3, 0, none⟩)]) En.f39 (by kernel_rfl) (by kernel_rfl)) (tsame_at h135 h128) ?_)
      rintro e w136 ⟨rfl, u137⟩
      refine ⟨.bool ((decide (L0 = ([] : List Item)))), rfl, ?_⟩
      have M138 := Mod.trans M132 (Mod.of_up u137)
      have M139 := Mod.trans M133 (Mod.of_up u137)
      have M140 := Mod.trans M134 (Mod.of_up u137)
      refine hx (Y := []) (Mod.of_up u137) (fun y hy => .inl hy) ?_
      have h141 := (TreeIs.up h31 (Mod.up M139))
      refine h1 (i := 24) (fuel := 7) (by kernel_rfl) rfl (sc (by kernel_rfl) (r_callv (caps := []) (all := [.pointer (some ⟨tb, 0, none⟩)]) En.f22 (by kernel_rfl) (by kernel_rfl)) (tlen_up h141) ?_)
      rintro e w142 ⟨rfl, u143⟩
      refine ⟨.int .i64 ((L0.length : Int)), rfl, ?_⟩
      have M144 := Mod.trans M138 (Mod.of_up u143)
      have M145 := Mod.trans M139 (Mod.of_up u143)
      have M146 := Mod.trans M140 (Mod.of_up u143)
      refine hx (Y := []) (Mod.of_up u143) (fun y hy => .inl hy) ?_
      refine hb (i := 25) (fuel := 6) rfl (by kernel_rfl) (by kernel_rfl) (by kernel_rfl) (fun _ _ _ h => h) (Mod.refl _ _) (by kernel_rfl) (fun _ _ => r_eq (k := .i64) (m := ((L0.length : Int))) (n := 0) (by kernel_rfl) (by kernel_rfl)) ?_
      intro b147 k148
      refine bcase ((decide (L0 = ([] : List Item)))) (fun v149 => ?_) (fun v149 => ?_)
      · refine bcase b147 (fun v150 => ?_) (fun v150 => ?_)
        · have p151 := of_decide_eq_false (k148.trans v150)
          refine hvq (i := 26) (fuel := 5) rfl (fun _ _ _ h => h) (Mod.refl _ _) (by kernel_rfl) (v := .bool true) (fun _ _ => r_eqb (a := false) (b := false) Try.underlying4 (ebool (b := (decide (L0 = ([] : List Item)))) (by kernel_rfl) v149) (ebool (b := b147) (by kernel_rfl) v150)) ?_
          refine hvq (i := 27) (fuel := 4) rfl (fun _ _ _ h => h) (Mod.refl _ _) rfl (v := .bool true) (fun _ _ => r_pkT (by kernel_rfl) (by kernel_rfl)) ?_
          refine hvq (i := 28) (fuel := 3) rfl (fun _ _ _ h => h) (Mod.refl _ _) rfl (v := .bool true) (fun _ _ => r_move (by kernel_rfl)) ?_
          refine h1 (i := 29) (fuel := 2) (by kernel_rfl) rfl (sc (by kernel_rfl) (r_callv (caps := []) (all := []) En.f13 (by kernel_rfl) (by kernel_rfl)) (alive_at) ?_)
          rintro e w152 ⟨rfl, u153⟩
          refine ⟨.bool true, rfl, ?_⟩
          have M154 := Mod.trans M144 (Mod.of_up u153)
          have M155 := Mod.trans M145 (Mod.of_up u153)
          have M156 := Mod.trans M146 (Mod.of_up u153)
          refine hx (Y := []) (Mod.of_up u153) (fun y hy => .inl hy) ?_
          refine hvq (i := 30) (fuel := 1) rfl (fun _ _ _ h => h) (Mod.refl _ _) rfl (v := .bool true) (fun _ _ => r_pkT (by kernel_rfl) (by kernel_rfl)) ?_
          refine hvq (i := 31) (fuel := 0) rfl (fun _ _ _ h => h) (Mod.refl _ _) rfl (v := .bool true) (fun _ _ => r_assign (by kernel_rfl)) ?_
          refine hend (by kernel_rfl) ?_
          refine then_n (wp_ret ?_)
          refine bodyPost_ret (v := .bool true) (res1 rfl (rv_t (by kernel_rfl))) (by kernel_rfl) ?_
          exact ⟨rfl, (Mod.up M154)⟩
        have p151 := of_decide_eq_true (k148.trans v150)
        refine hvq (i := 26) (fuel := 5) rfl (fun _ _ _ h => h) (Mod.refl _ _) (by kernel_rfl) (v := .bool false) (fun _ _ => r_eqb (a := false) (b := true) Try.underlying4 (ebool (b := (decide (L0 = ([] : List Item)))) (by kernel_rfl) v149) (ebool (b := b147) (by kernel_rfl) v150)) ?_
        refine hvq (i := 27) (fuel := 4) rfl (fun _ _ _ h => h) (Mod.refl _ _) rfl (v := .bool false) (fun _ _ => r_pkT (by kernel_rfl) (by kernel_rfl)) ?_
        refine hvq (i := 28) (fuel := 3) rfl (fun _ _ _ h => h) (Mod.refl _ _) rfl (v := .bool false) (fun _ _ => r_move (by kernel_rfl)) ?_
        refine hp (i := 29) (fuel := 2) rfl (by kernel_rfl) (by kernel_rfl) (by kernel_rfl) (fun _ _ _ h => h) (Mod.refl _ _) (by kernel_rfl) ?_
        refine hvq (i := 30) (fuel := 1) rfl (fun _ _ _ h => h) (Mod.refl _ _) rfl (v := .bool false) (fun _ _ => r_pkF (by kernel_rfl) (by kernel_rfl)) ?_
        refine hvq (i := 31) (fuel := 0) rfl (fun _ _ _ h => h) (Mod.refl _ _) rfl (v := .bool false) (fun _ _ => r_assign (by kernel_rfl)) ?_
        refine hend (by kernel_rfl) ?_
        refine then_n (wp_ret ?_)
        refine bodyPost_ret (v := .bool false) (res1 rfl (rv_t (by kernel_rfl))) (by kernel_rfl) ?_
        exfalso
        exact of_decide_eq_false (v149) (List.eq_nil_of_length_eq_zero (by omega))
      refine bcase b147 (fun v150 => ?_) (fun v150 => ?_)
      · have p151 := of_decide_eq_false (k148.trans v150)
        refine hvq (i := 26) (fuel := 5) rfl (fun _ _ _ h => h) (Mod.refl _ _) (by kernel_rfl) (v := .bool false) (fun _ _ => r_eqb (a := true) (b := false) Try.underlying4 (ebool (b := (decide (L0 = ([] : List Item)))) (by kernel_rfl) v149) (ebool (b := b147) (by kernel_rfl) v150)) ?_
        refine hvq (i := 27) (fuel := 4) rfl (fun _ _ _ h => h) (Mod.refl _ _) rfl (v := .bool false) (fun _ _ => r_pkT (by kernel_rfl) (by kernel_rfl)) ?_
        refine hvq (i := 28) (fuel := 3) rfl (fun _ _ _ h => h) (Mod.refl _ _) rfl (v := .bool false) (fun _ _ => r_move (by kernel_rfl)) ?_
        refine hp (i := 29) (fuel := 2) rfl (by kernel_rfl) (by kernel_rfl) (by kernel_rfl) (fun _ _ _ h => h) (Mod.refl _ _) (by kernel_rfl) ?_
        refine hvq (i := 30) (fuel := 1) rfl (fun _ _ _ h => h) (Mod.refl _ _) rfl (v := .bool false) (fun _ _ => r_pkF (by kernel_rfl) (by kernel_rfl)) ?_
        refine hvq (i := 31) (fuel := 0) rfl (fun _ _ _ h => h) (Mod.refl _ _) rfl (v := .bool false) (fun _ _ => r_assign (by kernel_rfl)) ?_
        refine hend (by kernel_rfl) ?_
        refine then_n (wp_ret ?_)
        refine bodyPost_ret (v := .bool false) (res1 rfl (rv_t (by kernel_rfl))) (by kernel_rfl) ?_
        exfalso
        have e := of_decide_eq_true (v149)
        rw [e] at p151
        exact p151 rfl
      have p151 := of_decide_eq_true (k148.trans v150)
      refine hvq (i := 26) (fuel := 5) rfl (fun _ _ _ h => h) (Mod.refl _ _) (by kernel_rfl) (v := .bool true) (fun _ _ => r_eqb (a := true) (b := true) Try.underlying4 (ebool (b := (decide (L0 = ([] : List Item)))) (by kernel_rfl) v149) (ebool (b := b147) (by kernel_rfl) v150)) ?_
      refine hvq (i := 27) (fuel := 4) rfl (fun _ _ _ h => h) (Mod.refl _ _) rfl (v := .bool true) (fun _ _ => r_pkT (by kernel_rfl) (by kernel_rfl)) ?_
      refine hvq (i := 28) (fuel := 3) rfl (fun _ _ _ h => h) (Mod.refl _ _) rfl (v := .bool true) (fun _ _ => r_move (by kernel_rfl)) ?_
      refine h1 (i := 29) (fuel := 2) (by kernel_rfl) rfl (sc (by kernel_rfl) (r_callv (caps := []) (all := []) En.f13 (by kernel_rfl) (by kernel_rfl)) (alive_at) ?_)
      rintro e w152 ⟨rfl, u153⟩
      refine ⟨.bool true, rfl, ?_⟩
      have M154 := Mod.trans M144 (Mod.of_up u153)
      have M155 := Mod.trans M145 (Mod.of_up u153)
      have M156 := Mod.trans M146 (Mod.of_up u153)
      refine hx (Y := []) (Mod.of_up u153) (fun y hy => .inl hy) ?_
      refine hvq (i := 30) (fuel := 1) rfl (fun _ _ _ h => h) (Mod.refl _ _) rfl (v := .bool true) (fun _ _ => r_pkT (by kernel_rfl) (by kernel_rfl)) ?_
      refine hvq (i := 31) (fuel := 0) rfl (fun _ _ _ h => h) (Mod.refl _ _) rfl (v := .bool true) (fun _ _ => r_assign (by kernel_rfl)) ?_
      refine hend (by kernel_rfl) ?_
      refine then_n (wp_ret ?_)
      refine bodyPost_ret (v := .bool true) (res1 rfl (rv_t (by kernel_rfl))) (by kernel_rfl) ?_
      exact ⟨rfl, (Mod.up M154)⟩
    have p69 := of_decide_eq_true (k67.trans v68)
    have q70 : ki < ts.length := by omega
    have q71 : ki < ts.length := by omega
    refine wl (sv (wt (b := b66) rfl (by kernel_rfl) v68) (v := .slice (some ⟨g, 0, none⟩) nn c) (r_move (by kernel_rfl)) ?_)
    refine wl (sv (wt (b := b66) rfl (by kernel_rfl) v68) (v := .int .i64 ((nn : Int))) (r_len Ty.un22 (ad := (some ⟨g, 0, none⟩)) (n := nn) (c := c) (by kernel_rfl)) ?_)
    refine wl (sb (wt (b := b66) rfl (by kernel_rfl) v68) (r_gt (k := .i64) (m := ((nn : Int))) (n := 0) (by kernel_rfl) (by kernel_rfl)) ?_)
    intro b72 k73
    refine wl (sv rfl (v := .bool b72) (r_pkT (ebool (b := b66) (by kernel_rfl) v68) (by kernel_rfl)) ?_)
    refine wnil (then_n ?_)
    refine bcase b72 (fun v74 => ?_) (fun v74 => ?_)
    · have p75 := of_decide_eq_false (k73.trans v74)
      refine wp_cond_false (ebool (b := b72) (by kernel_rfl) v74) ?_
      refine wp_exit (then_x (by nofun) (then_x (by nofun) (inb_hit (then_n (wp_seq ?_)))))
      refine rg_held [] (n := 32) (by kernel_rfl) rfl ?_
      intro w76 u77
      have M78 := Mod.trans M63 (Mod.of_up u77)
      have M79 := Mod.trans M64 (Mod.of_up u77)
      have M80 := Mod.trans hM1 (Mod.of_up u77)
      refine hvq (i := 0) (fuel := 31) rfl (fun _ _ _ h => h) (Mod.refl _ _) rfl (v := .pointer (some ⟨tb, 0, none⟩)) (fun _ _ => r_move (by kernel_rfl)) ?_
      refine hvq (i := 3) (fuel := 30) rfl (fun _ _ _ h => h) (Mod.refl _ _) rfl (v := .pointer (some ⟨ub, 0, none⟩)) (fun _ _ => r_move (by kernel_rfl)) ?_
      refine hvq (i := 4) (fuel := 29) rfl (fun _ _ _ h => h) (Mod.refl _ _) rfl (v := .pointer (some ⟨ub, 0, none⟩)) (fun _ _ => r_nilCheck (by kernel_rfl)) ?_
      refine hvq (i := 5) (fuel := 28) rfl (fun _ _ _ h => h) (Mod.refl _ _) rfl (v := .pointer (some ⟨ub, 0, none⟩)) (fun _ _ => r_fieldAddr (u := .pointer (some ⟨ub, 0, none⟩)) (by kernel_rfl) (fun _ => (by kernel_rfl))) ?_
      have h81 := md_ob M79 nin0 hvu26
      refine hvq (i := 6) (fuel := 27) rfl (fun _ _ _ h => h) (Mod.refl _ _) rfl (v := .slice Au26 L0.length cu26) (fun _ uz => r_load (k := 0) (by kernel_rfl) Ty.ag30 (md_ob uz nin0 h81) (by kernel_rfl)) ?_
      have h82 := md_ob M79 nin0 h27
      have h83 := md_ob M79 nin0 h28
      have h84 := (up_ob u77 hg65)
      have h90 := (TreeIs.up h31 (Mod.up M79))
      refine h1 (i := 1) (fuel := 26) (by kernel_rfl) rfl (sc rfl (r_callv (caps := []) (all := [.pointer (some ⟨tb, 0, none⟩)]) En.f21 (by kernel_rfl) (by kernel_rfl)) (row_sl (all_at h90 (Nat.le_trans hB M78.size))) ?_)
      rintro e w85 ⟨A86, c87, rfl, h88, u89⟩
      refine ⟨.slice A86 L0.length c87, rfl, ?_⟩
      have M91 := Mod.trans M78 (Mod.of_up u89)
      have M92 := Mod.trans M79 (Mod.of_up u89)
      have M93 := Mod.trans M80 (Mod.of_up u89)
      refine hx (Y := []) (Mod.of_up u89) (fun y hy => .inl hy) ?_
      have h94 := md_ob M92 nin0 h27
      have h95 := md_ob M92 nin0 h28
      have h96 := md_ob M92 nin0 hvu26
      have h97 := (up_ob u89 h84)
      refine h1 (i := 2) (fuel := 25) (by kernel_rfl) rfl (sc rfl (r_callv (caps := []) (all := [.slice A86 L0.length c87]) En.f20 (by kernel_rfl) (by kernel_rfl)) (row_sl (litems_at h88 (Nat.le_trans hB M91.size) (Nat.le_trans hlen (by decide)))) ?_)
      rintro e w98 ⟨A99, c100, rfl, h101, u102⟩
      refine ⟨.slice A99 L0.length c100, rfl, ?_⟩
      have M103 := Mod.trans M91 (Mod.of_up u102)
      have M104 := Mod.trans M92 (Mod.of_up u102)
      have M105 := Mod.trans M93 (Mod.of_up u102)
      refine hx (Y := []) (Mod.of_up u102) (fun y hy => .inl hy) ?_
      have h106 := (IRow.up hlu26 (Mod.up M104))
      refine h1 (i := 7) (fuel := 24) (by kernel_rfl) rfl (sc rfl (r_callv (caps := []) (all := [.slice A99 L0.length c100, .slice Au26 L0.length cu26]) En.f19 (by kernel_rfl) (by kernel_rfl)) (bool_true rfl (rsame_at h101 h106 (Nat.le_trans hlen (by decide)))) ?_)
      rintro e w107 ⟨rfl, u108⟩
      refine ⟨.bool true, rfl, ?_⟩
      have M109 := Mod.trans M103 (Mod.of_up u108)
      have M110 := Mod.trans M104 (Mod.of_up u108)
      have M111 := Mod.trans M105 (Mod.of_up u108)
      refine hx (Y := []) (Mod.of_up u108) (fun y hy => .inl hy) ?_
      refine hvq (i := 8) (fuel := 23) rfl (fun _ _ _ h => h) (Mod.refl _ _) rfl (v := .bool true) (fun _ _ => r_move (by kernel_rfl)) ?_
      refine hvq (i := 9) (fuel := 22) rfl (fun _ _ _ h => h) (Mod.refl _ _) (by kernel_rfl) (v := .pointer (some ⟨tb, 0, none⟩)) (fun _ _ => r_move (by kernel_rfl)) ?_
      refine hvq (i := 10) (fuel := 21) rfl (fun _ _ _ h => h) (Mod.refl _ _) (by kernel_rfl) (v := .slice (some ⟨g, 0, none⟩) nn c) (fun _ _ => r_move (by kernel_rfl)) ?_
      have h112 := (ORow.up hF1_4 (up_up (up_up (up_up u77 u89) u102) u108))
      refine h1 (i := 11) (fuel := 20) (by kernel_rfl) rfl (sc (by kernel_rfl) (r_callv (caps := []) (all := [.slice (some ⟨g, 0, none⟩) nn c]) En.f36 (by kernel_rfl) (by kernel_rfl)) (build_n (os := I1.map f) (n := nn) (ORow.ops h112 (fun o ho => hnm _ (hF1_3.out o ho))) (Nat.le_trans hB M109.size) (by simp; omega) (by simp; omega)) ?_)
      rintro e w113 ⟨tb2, r2, rfl, h114, u115, z116, z117⟩
      refine ⟨.pointer (some ⟨tb2, 0, none⟩), rfl, ?_⟩
      rw [build_sort hF1_2, hL0] at h114
      have M118 := Mod.trans M109 (Mod.of_up u115)
      have M119 := Mod.trans M110 (Mod.of_up u115)
      have M120 := Mod.trans M111 (Mod.of_up u115)
      refine hx (Y := []) (Mod.of_up u115) (fun y hy => .inl hy) ?_
      have h121 := (TreeIs.up h31 (Mod.up M119))
      refine h1 (i := 12) (fuel := 19) (by kernel_rfl) rfl (sc (by kernel_rfl) (r_callv (caps := []) (all := [.pointer (some ⟨tb, 0, none⟩), .pointer (some ⟨tb2, 0, none⟩)]) En.f39 (by kernel_rfl) (by kernel_rfl)) (bool_true rfl (tsame_at h121 h114)) ?_)
      rintro e w122 ⟨rfl, u123⟩
      refine ⟨.bool true, rfl, ?_⟩
      have M124 := Mod.trans M118 (Mod.of_up u123)
      have M125 := Mod.trans M119 (Mod.of_up u123)
      have M126 := Mod.trans M120 (Mod.of_up u123)
      refine hx (Y := []) (Mod.of_up u123) (fun y hy => .inl hy) ?_
      refine hvq (i := 13) (fuel := 18) rfl (fun _ _ _ h => h) (Mod.refl _ _) rfl (v := .bool true) (fun _ _ => r_pkT (by kernel_rfl) (by kernel_rfl)) ?_
      refine hvq (i := 14) (fuel := 17) rfl (fun _ _ _ h => h) (Mod.refl _ _) rfl (v := .bool true) (fun _ _ => r_move (by kernel_rfl)) ?_
      refine hvq (i := 15) (fuel := 16) rfl (fun _ _ _ h => h) (Mod.refl _ _) (by kernel_rfl) (v := .pointer (some ⟨tb, 0, none⟩)) (fun _ _ => r_move (by kernel_rfl)) ?_
      refine hvq (i := 16) (fuel := 15) rfl (fun _ _ _ h => h) (Mod.refl _ _) (by kernel_rfl) (v := .pointer (some ⟨tb, 0, none⟩)) (fun _ _ => r_move (by kernel_rfl)) ?_
      have h127 := (TreeIs.up h31 (Mod.up M125))
      refine h1 (i := 17) (fuel := 14) (by kernel_rfl) rfl (sc (by kernel_rfl) (r_callv (caps := []) (all := [.pointer (some ⟨tb, 0, none⟩), .pointer (some ⟨tb, 0, none⟩)]) En.f39 (by kernel_rfl) (by kernel_rfl)) (bool_true rfl (tsame_at h127 h127)) ?_)
      rintro e w128 ⟨rfl, u129⟩
      refine ⟨.bool true, rfl, ?_⟩
      have M130 := Mod.trans M124 (Mod.of_up u129)
      have M131 := Mod.trans M125 (Mod.of_up u129)
      have M132 := Mod.trans M126 (Mod.of_up u129)
      refine hx (Y := []) (Mod.of_up u129) (fun y hy => .inl hy) ?_
      refine hvq (i := 18) (fuel := 13) rfl (fun _ _ _ h => h) (Mod.refl _ _) rfl (v := .bool true) (fun _ _ => r_pkT (by kernel_rfl) (by kernel_rfl)) ?_
      refine hvq (i := 19) (fuel := 12) rfl (fun _ _ _ h => h) (Mod.refl _ _) rfl (v := .bool true) (fun _ _ => r_move (by kernel_rfl)) ?_
      refine hvq (i := 20) (fuel := 11) rfl (fun _ _ _ h => h) (Mod.refl _ _) (by kernel_rfl) (v := .pointer (some ⟨tb, 0, none⟩)) (fun _ _ => r_move (by kernel_rfl)) ?_
      refine hvq (i := 23) (fuel := 10) rfl (fun _ _ _ h => h) (Mod.refl _ _) (by kernel_rfl) (v := .pointer (some ⟨tb, 0, none⟩)) (fun _ _ => r_move (by kernel_rfl)) ?_
      refine h1 (i := 21) (fuel := 9) (by kernel_rfl) rfl (sc (by kernel_rfl) (r_callv (caps := []) (all := []) En.f14 (by kernel_rfl) (by kernel_rfl)) (tnew_any (Nat.le_trans hB M130.size)) ?_)
      rintro e w133 ⟨tb3, r3, rfl, h134, u135, z136, z137⟩
      refine ⟨.pointer (some ⟨tb3, 0, none⟩), rfl, ?_⟩
      have M138 := Mod.trans M130 (Mod.of_up u135)
      have M139 := Mod.trans M131 (Mod.of_up u135)
      have M140 := Mod.trans M132 (Mod.of_up u135)
      refine hx (Y := []) (Mod.of_up u135) (fun y hy => .inl hy) ?_
      have h141 := (TreeIs.up h31 (Mod.up M139))
      refine h1 (i := 22) (fuel := 8) (by kernel_rfl) rfl (sc (by kernel_rfl) (r_callv (caps := []) (all := [.pointer (some ⟨tb, 0, none⟩), .pointer (some ⟨tb3, 0, none⟩)]) En.f39 (by kernel_rfl) (by kernel_rfl)) (tsame_at h141 h134) ?_)
      rintro e w142 ⟨rfl, u143⟩
      refine ⟨.bool ((decide (L0 = ([] : List Item)))), rfl, ?_⟩
      have M144 := Mod.trans M138 (Mod.of_up u143)
      have M145 := Mod.trans M139 (Mod.of_up u143)
      have M146 := Mod.trans M140 (Mod.of_up u143)
      refine hx (Y := []) (Mod.of_up u143) (fun y hy => .inl hy) ?_
      have h147 := (TreeIs.up h31 (Mod.up M145))
      refine h1 (i := 24) (fuel := 7) (by kernel_rfl) rfl (sc (by kernel_rfl) (r_callv (caps := []) (all := [.pointer (some ⟨tb, 0, none⟩)]) En.f22 (by kernel_rfl) (by kernel_rfl)) (tlen_up h147) ?_)
      rintro e w148 ⟨rfl, u149⟩
      refine ⟨.int .i64 ((L0.length : Int)), rfl, ?_⟩
      have M150 := Mod.trans M144 (Mod.of_up u149)
      have M151 := Mod.trans M145 (Mod.of_up u149)
      have M152 := Mod.trans M146 (Mod.of_up u149)
      refine hx (Y := []) (Mod.of_up u149) (fun y hy => .inl hy) ?_
      refine hb (i := 25) (fuel := 6) rfl (by kernel_rfl) (by kernel_rfl) (by kernel_rfl) (fun _ _ _ h => h) (Mod.refl _ _) (by kernel_rfl) (fun _ _ => r_eq (k := .i64) (m := ((L0.length : Int))) (n := 0) (by kernel_rfl) (by kernel_rfl)) ?_
      intro b153 k154
      refine bcase ((decide (L0 = ([] : List Item)))) (fun v155 => ?_) (fun v155 => ?_)
      · refine bcase b153 (fun v156 => ?_) (fun v156 => ?_)
        · have p157 := of_decide_eq_false (k154.trans v156)
          refine hvq (i := 26) (fuel := 5) rfl (fun _ _ _ h => h) (Mod.refl _ _) (by kernel_rfl) (v := .bool true) (fun _ _ => r_eqb (a := false) (b := false) Try.underlying4 (ebool (b := (decide (L0 = ([] : List Item)))) (by kernel_rfl) v155) (ebool (b := b153) (by kernel_rfl) v156)) ?_
          refine hvq (i := 27) (fuel := 4) rfl (fun _ _ _ h => h) (Mod.refl _ _) rfl (v := .bool true) (fun _ _ => r_pkT (by kernel_rfl) (by kernel_rfl)) ?_
          refine hvq (i := 28) (fuel := 3) rfl (fun _ _ _ h => h) (Mod.refl _ _) rfl (v := .bool true) (fun _ _ => r_move (by kernel_rfl)) ?_
          refine h1 (i := 29) (fuel := 2) (by kernel_rfl) rfl (sc (by kernel_rfl) (r_callv (caps := []) (all := []) En.f13 (by kernel_rfl) (by kernel_rfl)) (alive_at) ?_)
          rintro e w158 ⟨rfl, u159⟩
          refine ⟨.bool true, rfl, ?_⟩
          have M160 := Mod.trans M150 (Mod.of_up u159)
          have M161 := Mod.trans M151 (Mod.of_up u159)
          have M162 := Mod.trans M152 (Mod.of_up u159)
          refine hx (Y := []) (Mod.of_up u159) (fun y hy => .inl hy) ?_
          refine hvq (i := 30) (fuel := 1) rfl (fun _ _ _ h => h) (Mod.refl _ _) rfl (v := .bool true) (fun _ _ => r_pkT (by kernel_rfl) (by kernel_rfl)) ?_
          refine hvq (i := 31) (fuel := 0) rfl (fun _ _ _ h => h) (Mod.refl _ _) rfl (v := .bool true) (fun _ _ => r_assign (by kernel_rfl)) ?_
          refine hend (by kernel_rfl) ?_
          refine then_n (wp_ret ?_)
          refine bodyPost_ret (v := .bool true) (res1 rfl (rv_t (by kernel_rfl))) (by kernel_rfl) ?_
          exact ⟨rfl, (Mod.up M160)⟩
        have p157 := of_decide_eq_true (k154.trans v156)
        refine hvq (i := 26) (fuel := 5) rfl (fun _ _ _ h => h) (Mod.refl _ _) (by kernel_rfl) (v := .bool false) (fun _ _ => r_eqb (a := false) (b := true) Try.underlying4 (ebool (b := (decide (L0 = ([] : List Item)))) (by kernel_rfl) v155) (ebool (b := b153) (by kernel_rfl) v156)) ?_
        refine hvq (i := 27) (fuel := 4) rfl (fun _ _ _ h => h) (Mod.refl _ _) rfl (v := .bool false) (fun _ _ => r_pkT (by kernel_rfl) (by kernel_rfl)) ?_
        refine hvq (i := 28) (fuel := 3) rfl (fun _ _ _ h => h) (Mod.refl _ _) rfl (v := .bool false) (fun _ _ => r_move (by kernel_rfl)) ?_
        refine hp (i := 29) (fuel := 2) rfl (by kernel_rfl) (by kernel_rfl) (by kernel_rfl) (fun _ _ _ h => h) (Mod.refl _ _) (by kernel_rfl) ?_
        refine hvq (i := 30) (fuel := 1) rfl (fun _ _ _ h => h) (Mod.refl _ _) rfl (v := .bool false) (fun _ _ => r_pkF (by kernel_rfl) (by kernel_rfl)) ?_
        refine hvq (i := 31) (fuel := 0) rfl (fun _ _ _ h => h) (Mod.refl _ _) rfl (v := .bool false) (fun _ _ => r_assign (by kernel_rfl)) ?_
        refine hend (by kernel_rfl) ?_
        refine then_n (wp_ret ?_)
        refine bodyPost_ret (v := .bool false) (res1 rfl (rv_t (by kernel_rfl))) (by kernel_rfl) ?_
        exfalso
        exact of_decide_eq_false (v155) (List.eq_nil_of_length_eq_zero (by omega))
      refine bcase b153 (fun v156 => ?_) (fun v156 => ?_)
      · have p157 := of_decide_eq_false (k154.trans v156)
        refine hvq (i := 26) (fuel := 5) rfl (fun _ _ _ h => h) (Mod.refl _ _) (by kernel_rfl) (v := .bool false) (fun _ _ => r_eqb (a := true) (b := false) Try.underlying4 (ebool (b := (decide (L0 = ([] : List Item)))) (by kernel_rfl) v155) (ebool (b := b153) (by kernel_rfl) v156)) ?_
        refine hvq (i := 27) (fuel := 4) rfl (fun _ _ _ h => h) (Mod.refl _ _) rfl (v := .bool false) (fun _ _ => r_pkT (by kernel_rfl) (by kernel_rfl)) ?_
        refine hvq (i := 28) (fuel := 3) rfl (fun _ _ _ h => h) (Mod.refl _ _) rfl (v := .bool false) (fun _ _ => r_move (by kernel_rfl)) ?_
        refine hp (i := 29) (fuel := 2) rfl (by kernel_rfl) (by kernel_rfl) (by kernel_rfl) (fun _ _ _ h => h) (Mod.refl _ _) (by kernel_rfl) ?_
        refine hvq (i := 30) (fuel := 1) rfl (fun _ _ _ h => h) (Mod.refl _ _) rfl (v := .bool false) (fun _ _ => r_pkF (by kernel_rfl) (by kernel_rfl)) ?_
        refine hvq (i := 31) (fuel := 0) rfl (fun _ _ _ h => h) (Mod.refl _ _) rfl (v := .bool false) (fun _ _ => r_assign (by kernel_rfl)) ?_
        refine hend (by kernel_rfl) ?_
        refine then_n (wp_ret ?_)
        refine bodyPost_ret (v := .bool false) (res1 rfl (rv_t (by kernel_rfl))) (by kernel_rfl) ?_
        exfalso
        have e := of_decide_eq_true (v155)
        rw [e] at p157
        exact p157 rfl
      have p157 := of_decide_eq_true (k154.trans v156)
      refine hvq (i := 26) (fuel := 5) rfl (fun _ _ _ h => h) (Mod.refl _ _) (by kernel_rfl) (v := .bool true) (fun _ _ => r_eqb (a := true) (b := true) Try.underlying4 (ebool (b := (decide (L0 = ([] : List Item)))) (by kernel_rfl) v155) (ebool (b := b153) (by kernel_rfl) v156)) ?_
      refine hvq (i := 27) (fuel := 4) rfl (fun _ _ _ h => h) (Mod.refl _ _) rfl (v := .bool true) (fun _ _ => r_pkT (by kernel_rfl) (by kernel_rfl)) ?_
      refine hvq (i := 28) (fuel := 3) rfl (fun _ _ _ h => h) (Mod.refl _ _) rfl (v := .bool true) (fun _ _ => r_move (by kernel_rfl)) ?_
      refine h1 (i := 29) (fuel := 2) (by kernel_rfl) rfl (sc (by kernel_rfl) (r_callv (caps := []) (all := []) En.f13 (by kernel_rfl) (by kernel_rfl)) (alive_at) ?_)
      rintro e w158 ⟨rfl, u159⟩
      refine ⟨.bool true, rfl, ?_⟩
      have M160 := Mod.trans M150 (Mod.of_up u159)
      have M161 := Mod.trans M151 (Mod.of_up u159)
      have M162 := Mod.trans M152 (Mod.of_up u159)
      refine hx (Y := []) (Mod.of_up u159) (fun y hy => .inl hy) ?_
      refine hvq (i := 30) (fuel := 1) rfl (fun _ _ _ h => h) (Mod.refl _ _) rfl (v := .bool true) (fun _ _ => r_pkT (by kernel_rfl) (by kernel_rfl)) ?_
      refine hvq (i := 31) (fuel := 0) rfl (fun _ _ _ h => h) (Mod.refl _ _) rfl (v := .bool true) (fun _ _ => r_assign (by kernel_rfl)) ?_
      refine hend (by kernel_rfl) ?_
      refine then_n (wp_ret ?_)
      refine bodyPost_ret (v := .bool true) (res1 rfl (rv_t (by kernel_rfl))) (by kernel_rfl) ?_
      exact ⟨rfl, (Mod.up M160)⟩
    have p75 := of_decide_eq_true (k73.trans v74)
    refine wp_cond_true (ebool (b := b72) (by kernel_rfl) v74) ?_
    refine wp_skip (then_n (wp_seq (wp_block (wp_seq ?_))))
    refine rg_all (by kernel_rfl) (by kernel_rfl) ?_
    refine qmv (v := .slice tA ts.length tc) ?_
    refine qmv (v := .int .i64 ((ki : Int))) ?_
    have h76 := (IntRow.up hts (Mod.up M63))
    obtain ⟨g77, f77, hA77, hl77, hc77⟩ := h76 ki (by omega)
    refine qv rfl (v := .pointer (some ⟨g77, f77 + ki, none⟩)) (fun _ _ => r_ixaddr' (A := tA) (b := g77) (o := f77) (n := ts.length) (c := tc) (sz := 1) (j := (ki : Int)) (m := f77 + ki) (by kernel_rfl) hA77 (by kernel_rfl) Ty.un75 Ty.sz3 (by omega) (by omega) (by simp)) ?_
    refine qv rfl (v := .int .i64 (ts.getD ki 0)) (fun _ uz => r_loadc (by kernel_rfl) Ty.ag3 (((uz).cell (p := ⟨g77, f77 + ki, none⟩) hl77).trans hc77)) ?_
    refine qmv (v := .slice (some ⟨g, 0, none⟩) nn c) ?_
    refine qv rfl (v := .int .i64 ((nn : Int))) (fun _ _ => r_len Ty.un22 (ad := (some ⟨g, 0, none⟩)) (n := nn) (c := c) (by kernel_rfl)) ?_
    obtain ⟨qz, hqz, hqz1, hqz2⟩ := tmod_in (ts.getD ki 0) (n := nn) (by omega)
    refine qv rfl (v := .int .i64 qz) (fun _ _ => r_rem (m := (ts.getD ki 0)) (n := ((nn : Int))) (by kernel_rfl) (by kernel_rfl) (by omega) hqz) ?_
    refine qmv (v := .slice (some ⟨g, 0, none⟩) nn c) ?_
    refine qv rfl (v := .int .i64 ((nn : Int))) (fun _ _ => r_len Ty.un22 (ad := (some ⟨g, 0, none⟩)) (n := nn) (c := c) (by kernel_rfl)) ?_
    refine qv rfl (v := .int .i64 (qz + (nn : Int))) (fun _ _ => r_add (k := .i64) (m := qz) (n := ((nn : Int))) (c := qz + (nn : Int)) (by kernel_rfl) (by kernel_rfl) (IntWalk.i64_in _ (by omega))) ?_
    refine qmv (v := .slice (some ⟨g, 0, none⟩) nn c) ?_
    refine qv rfl (v := .int .i64 ((nn : Int))) (fun _ _ => r_len Ty.un22 (ad := (some ⟨g, 0, none⟩)) (n := nn) (c := c) (by kernel_rfl)) ?_
    obtain ⟨bN, hbN, hbn⟩ := tmod_nat (n := nn) (by omega) hqz1
    refine qv rfl (v := .int .i64 ((bN : Int))) (fun _ _ => r_rem (m := (qz + (nn : Int))) (n := ((nn : Int))) (by kernel_rfl) (by kernel_rfl) (by omega) hbN) ?_
    refine qas (v := .int .i64 0) ?_
    refine qas (v := .int .i64 ((bN : Int))) ?_
    refine qnil ?_
    intro w78 u79
    have M80 := Mod.trans M63 (Mod.of_up u79)
    have M81 := Mod.trans M64 (Mod.of_up u79)
    have M82 := Mod.trans hM1 (Mod.of_up u79)
    refine then_n (wp_seq (rg_lit ?_))
    refine was (v := .bool false) ?_
    refine wnil (then_n (wp_seq (wp_seq (rg_lit ?_))))
    refine was (v := .int .i64 0) ?_
    refine wnil (then_n (wp_block ?_))
    have h83 := md_ob M81 nin0 h27
    have h84 := md_ob M81 nin0 h28
    have h85 := md_ob M81 nin0 hvu26
    have h86 := (up_ob u79 hg65)
    have h87 := (IntRow.up hts (Mod.up M80))
    have h88 := (OpRow.up hops (Mod.up M80))
    have h89 := (TreeIs.up h31 (Mod.up M81))
    have h90 := (RIs.up h22 (Mod.up M81))
    have h91 := (IRow.up hlu26 (Mod.up M81))
    have h92 := (ORow.up hF1_4 u79)
    refine lp (fun n a r2 => ∃ (kl : Nat) (tw : Bool) (z54 z55 z56 z57 z58 z59 z60 z61 z62 z63 z64 z65 z66 z67 z68 z69 z70 z71 z72 z73 z74 z75 z76 z77 z78 z79 z80 z81 z82 z83 z84 z85 z86 z87 z88 z89 z90 z91 z92 z93 z94 z95 z96 : Value), (n = nn - kl) ∧ (a = ⟨#[.slice lA os.length lc, .slice tA ts.length tc, undef, undef, .bool false, .pointer (some ⟨tb, 0, none⟩), .pointer (some ⟨ub, 0, none⟩), .slice (some ⟨g, 0, none⟩) nn c, .int .i64 ((ki : Int)), .int .i64 0, .int .i64 ((bN : Int)), .bool tw, .int .i64 ((kl : Int)), (Z 13), .slice lA os.length lc, .bool lb2, .bool (!lb2), .bool (!lb2), .slice tA ts.length tc, .int .i64 ((ts.length : Int)), .bool b8, .bool b8, undef, .slice lA os.length lc, .pointer (some ⟨tb, 0, none⟩), .slice lA os.length lc, .pointer (some ⟨ub, 0, none⟩), .slice (some ⟨b32, 0, none⟩) 0 0, .slice lA os.length lc, .slice (some ⟨g, 0, none⟩) nn c, .int .i64 ((ki : Int)), .slice tA ts.length tc, .int .i64 ((ts.length : Int)), .bool b66, .bool b66, .slice (some ⟨g, 0, none⟩) nn c, .int .i64 ((nn : Int)), .bool b72, .bool b72, (Z 39), (Z 40), .slice tA ts.length tc, .int .i64 ((ki : Int)), .pointer (some ⟨g77, f77 + ki, none⟩), .int .i64 (ts.getD ki 0), .slice (some ⟨g, 0, none⟩) nn c, .int .i64 ((nn : Int)), .int .i64 qz, .slice (some ⟨g, 0, none⟩) nn c, .int .i64 ((nn : Int)), .int .i64 (qz + (nn : Int)), .slice (some ⟨g, 0, none⟩) nn c, .int .i64 ((nn : Int)), .int .i64 ((bN : Int)), z54, z55, z56, z57, z58, z59, z60, z61, z62, z63, z64, z65, z66, z67, z68, z69, z70, z71, z72, z73, z74, z75, z76, z77, z78, z79, z80, z81, z82, z83, z84, z85, z86, z87, z88, z89, z90, z91, z92, z93, z94, z95, z96, (Z 97), (Z 98), (Z 99), (Z 100), (Z 101), (Z 102), (Z 103), (Z 104), (Z 105), (Z 106), (Z 107), (Z 108), (Z 109), (Z 110), (Z 111), (Z 112), (Z 113), undef, undef, undef, undef, undef, undef, undef, undef, undef, undef, undef, undef, undef, undef, undef, undef, undef, undef, undef, undef, undef, undef, undef, undef, undef, undef, undef, undef, undef, undef, undef], []⟩) ∧ (Mod [] w78 r2) ∧ (kl ≤ nn) ∧ (NoTwin f I1 0 bN kl tw)) ⟨_, 0, false, (Z 54), (Z 55), (Z 56), (Z 57), (Z 58), (Z 59), (Z 60), (Z 61), (Z 62), (Z 63), (Z 64), (Z 65), (Z 66), (Z 67), (Z 68), (Z 69), (Z 70), (Z 71), (Z 72), (Z 73), (Z 74), (Z 75), (Z 76), (Z 77), (Z 78), (Z 79), (Z 80), (Z 81), (Z 82), (Z 83), (Z 84), (Z 85), (Z 86), (Z 87), (Z 88), (Z 89), (Z 90), (Z 91), (Z 92), (Z 93), (Z 94), (Z 95), (Z 96), rfl, (by kernel_rfl), Mod.refl _ _, (Nat.zero_le _), (fun _ j z x y hj => absurd hj (Nat.not_lt_zero _))⟩ ?_
    rintro _ _ r2 ⟨kl, tw, z54, z55, z56, z57, z58, z59, z60, z61, z62, z63, z64, z65, z66, z67, z68, z69, z70, z71, z72, z73, z74, z75, z76, z77, z78, z79, z80, z81, z82, z83, z84, z85, z86, z87, z88, z89, z90, z91, z92, z93, z94, z95, z96, rfl, rfl, hM2, hF2_0, hF2_1⟩
    have M93 := Mod.thin M80 hM2 (by simp)
    have M94 := Mod.thin M81 hM2 (by simp)
    have M95 := Mod.thin M82 hM2 (by simp)
    refine wp_seq (wp_seq (rg_lit ?_))
    refine wmv (v := .int .i64 ((kl : Int))) ?_
    refine wmv (v := .slice (some ⟨g, 0, none⟩) nn c) ?_
    refine wl (sv rfl (v := .int .i64 ((nn : Int))) (r_len Ty.un22 (ad := (some ⟨g, 0, none⟩)) (n := nn) (c := c) (by kernel_rfl)) ?_)
    refine wl (sb rfl (r_lt (k := .i64) (m := ((kl : Int))) (n := ((nn : Int))) (by kernel_rfl) (by kernel_rfl)) ?_)
    intro b96 k97
    refine wnil (then_n ?_)
    refine bcase b96 (fun v98 => ?_) (fun v98 => ?_)
    · have p99 := of_decide_eq_false (k97.trans v98)
      refine wp_cond_false (ebool (b := b96) (by kernel_rfl) v98) ?_
      refine wp_exit (then_x (by nofun) (then_x (by nofun) (inb_hit (then_n (wp_seq (rg_lit ?_))))))
      refine wmv (v := .bool tw) ?_
      refine wl (sv rfl (v := .bool (!tw)) (r_not (b := tw) (by kernel_rfl)) ?_)
      refine wnil (then_n ?_)
      refine bcase tw (fun v100 => ?_) (fun v100 => ?_)
      · refine wp_cond_true (ebool (b := !tw) (by kernel_rfl) (bneg v100)) ?_
        refine wp_seq (rg_lit ?_)
        refine wmv (v := .slice (some ⟨g, 0, none⟩) nn c) ?_
        refine wmv (v := .int .i64 0) ?_
        refine wl (sv rfl (v := .pointer (some ⟨g, 0 * 10, none⟩)) (r_ixaddr' (A := some ⟨g, 0, none⟩) (b := g) (o := 0) (n := nn) (c := c) (sz := 10) (j := 0) (m := 0 * 10) (by kernel_rfl) rfl (by kernel_rfl) Ty.un22 Ty.sz40 (by omega) (by omega) (by omega)) ?_)
        have h101 := (ORow.up h92 (Mod.up hM2))
        obtain ⟨x102, hx102⟩ : ∃ x, I1[0]? = some x := ⟨_, List.getElem?_eq_getElem (by omega)⟩
        obtain ⟨cu103, dA103, dn103, dc103, hb103, he103, hD103⟩ := ORow.elem h101 (map_get' hx102)
        refine wl (sv rfl (v := .agg #[.int .i64 ((f x102).kind), .int .i64 ((f x102).at_.t), .int .i64 ((f x102).at_.w), .int .i64 ((f x102).node.t), .int .i64 ((f x102).node.w), .int .i64 ((f x102).parent.t), .int .i64 ((f x102).parent.w), .bool ((f x102).dir), .string ((f x102).name), .slice dA103 dn103 dc103]) (r_loads (k := 0 * 10) (vs := [.int .i64 ((f x102).kind), .int .i64 ((f x102).at_.t), .int .i64 ((f x102).at_.w), .int .i64 ((f x102).node.t), .int .i64 ((f x102).node.w), .int .i64 ((f x102).parent.t), .int .i64 ((f x102).parent.w), .bool ((f x102).dir), .string ((f x102).name), .slice dA103 dn103 dc103]) (by kernel_rfl) Ty.ag40 Ty.sz40 hb103 (el_sub0 he103 rfl)) ?_)
        refine wl (sn rfl (cs := #[.int .i64 0, .int .i64 0, .int .i64 0, .int .i64 0, .int .i64 0, .int .i64 0, .int .i64 0, .bool false, .string (⟨#[]⟩), .slice none 0 0]) (T := 40) (V := fun b => .pointer (some ⟨b, 0, none⟩)) (r_alloc Ty.zv40 rfl) ?_)
        intro b104 w105 e106 h107 u108
        have h109 := md_ob M94 nin0 h27
        have l110 : r < b104 := by rw [e106]; exact lt_ob h109
        have h111 := md_ob M94 nin0 h28
        have l112 : tb < b104 := by rw [e106]; exact lt_ob h111
        have h113 := md_ob M94 nin0 hvu26
        have l114 : ub < b104 := by rw [e106]; exact lt_ob h113
        have h115 := md_ob hM2 nin0 h86
        have l116 : g < b104 := by rw [e106]; exact lt_ob h115
        have g117 : w.heap.size ≤ b104 := by rw [e106]; exact M93.size
        have g118 : w21.heap.size ≤ b104 := by rw [e106]; exact M94.size
        have g119 : w46.heap.size ≤ b104 := by rw [e106]; exact M95.size
        have g120 : w78.heap.size ≤ b104 := by rw [e106]; exact hM2.size
        have M121 := Mod.trans M93 (Mod.of_up u108)
        have M122 := Mod.trans M94 (Mod.of_up u108)
        have M123 := Mod.trans M95 (Mod.of_up u108)
        have M124 := Mod.trans hM2 (Mod.of_up u108)
        refine wl (ss rfl (k := 0) (v := .agg #[.int .i64 ((f x102).kind), .int .i64 ((f x102).at_.t), .int .i64 ((f x102).at_.w), .int .i64 ((f x102).node.t), .int .i64 ((f x102).node.w), .int .i64 ((f x102).parent.t), .int .i64 ((f x102).parent.w), .bool ((f x102).dir), .string ((f x102).name), .slice dA103 dn103 dc103]) (vs := [.int .i64 ((f x102).kind), .int .i64 ((f x102).at_.t), .int .i64 ((f x102).at_.w), .int .i64 ((f x102).node.t), .int .i64 ((f x102).node.w), .int .i64 ((f x102).parent.t), .int .i64 ((f x102).parent.w), .bool ((f x102).dir), .string ((f x102).name), .slice dA103 dn103 dc103]) (cs' := [.int .i64 ((f x102).kind), .int .i64 ((f x102).at_.t), .int .i64 ((f x102).at_.w), .int .i64 ((f x102).node.t), .int .i64 ((f x102).node.w), .int .i64 ((f x102).parent.t), .int .i64 ((f x102).parent.w), .bool ((f x102).dir), .string ((f x102).name), .slice dA103 dn103 dc103]) (by kernel_rfl) (by kernel_rfl) rfl Ty.sz40 h107 rfl (Nat.le_of_ble_eq_true rfl) rfl ?_)
        intro w125 h126 c127
        have M128 := Mod.trans' M121 c127 (fun i hi => by injection hi with hi; rw [← hi]; exact g117)
        have M129 := Mod.trans' M122 c127 (fun i hi => by injection hi with hi; rw [← hi]; exact g118)
        have M130 := Mod.trans' M123 c127 (fun i hi => by injection hi with hi; rw [← hi]; exact g119)
        have M131 := Mod.trans' M124 c127 (fun i hi => by injection hi with hi; rw [← hi]; exact g120)
        refine wnil (then_n (wp_seq (rg_lit ?_)))
        refine wmv (v := .slice (some ⟨g, 0, none⟩) nn c) ?_
        refine wmv (v := .int .i64 0) ?_
        refine wmv (v := .slice (some ⟨g, 0, none⟩) nn c) ?_
        refine wmv (v := .int .i64 ((bN : Int))) ?_
        refine wl (sv rfl (v := .pointer (some ⟨g, bN * 10, none⟩)) (r_ixaddr' (A := some ⟨g, 0, none⟩) (b := g) (o := 0) (n := nn) (c := c) (sz := 10) (j := ((bN : Int))) (m := bN * 10) (by kernel_rfl) rfl (by kernel_rfl) Ty.un22 Ty.sz40 (by omega) (by omega) (by omega)) ?_)
        have h132 := (ORow.up h92 (Mod.up M131))
        obtain ⟨x133, hx133⟩ : ∃ x, I1[bN]? = some x := ⟨_, List.getElem?_eq_getElem (by omega)⟩
        obtain ⟨cu134, dA134, dn134, dc134, hb134, he134, hD134⟩ := ORow.elem h132 (map_get' hx133)
        refine wl (sv rfl (v := .agg #[.int .i64 ((f x133).kind), .int .i64 ((f x133).at_.t), .int .i64 ((f x133).at_.w), .int .i64 ((f x133).node.t), .int .i64 ((f x133).node.w), .int .i64 ((f x133).parent.t), .int .i64 ((f x133).parent.w), .bool ((f x133).dir), .string ((f x133).name), .slice dA134 dn134 dc134]) (r_loads (k := bN * 10) (vs := [.int .i64 ((f x133).kind), .int .i64 ((f x133).at_.t), .int .i64 ((f x133).at_.w), .int .i64 ((f x133).node.t), .int .i64 ((f x133).node.w), .int .i64 ((f x133).parent.t), .int .i64 ((f x133).parent.w), .bool ((f x133).dir), .string ((f x133).name), .slice dA134 dn134 dc134]) (by kernel_rfl) Ty.ag40 Ty.sz40 hb134 (el_sub0 he134 rfl)) ?_)
        refine wl (sv rfl (v := .pointer (some ⟨g, 0 * 10, none⟩)) (r_ixaddr' (A := some ⟨g, 0, none⟩) (b := g) (o := 0) (n := nn) (c := c) (sz := 10) (j := 0) (m := 0 * 10) (by kernel_rfl) rfl (by kernel_rfl) Ty.un22 Ty.sz40 (by omega) (by omega) (by omega)) ?_)
        obtain ⟨cu135, hb135, hk135, hp135⟩ := ORow.put (i := 0) h132 (by simp; omega) hD134 (by decide) hBb
        refine wl (ss rfl (k := 0 * 10) (v := .agg #[.int .i64 ((f x133).kind), .int .i64 ((f x133).at_.t), .int .i64 ((f x133).at_.w), .int .i64 ((f x133).node.t), .int .i64 ((f x133).node.w), .int .i64 ((f x133).parent.t), .int .i64 ((f x133).parent.w), .bool ((f x133).dir), .string ((f x133).name), .slice dA134 dn134 dc134]) (vs := [.int .i64 ((f x133).kind), .int .i64 ((f x133).at_.t), .int .i64 ((f x133).at_.w), .int .i64 ((f x133).node.t), .int .i64 ((f x133).node.w), .int .i64 ((f x133).parent.t), .int .i64 ((f x133).parent.w), .bool ((f x133).dir), .string ((f x133).name), .slice dA134 dn134 dc134]) (cs' := _) (by kernel_rfl) (by kernel_rfl) rfl Ty.sz40 hb135 rfl hk135 rfl ?_)
        intro w136 h137 c138
        have hr135 := hp135 _ h137 c138
        rw [map_set'] at hr135
        have M139 := Mod.trans' M128 c138 (fun i hi => by injection hi with hi; rw [← hi]; exact (Nat.le_trans M25.size g49))
        have M140 := Mod.trans' M129 c138 (fun i hi => by injection hi with hi; rw [← hi]; exact g49)
        have M141 := Mod.trans M130 (Mod.of_chg c138 (by simp))
        have M142 := md_old M131 c138
        obtain ⟨_, _, _, cg143, hg143, _⟩ := ORow.blk hr135
        refine wnil (then_n (rg_lit ?_))
        refine wmv (v := .slice (some ⟨g, 0, none⟩) nn c) ?_
        refine wmv (v := .int .i64 ((bN : Int))) ?_
        have h144 := (chg_ob c138 (Nat.ne_of_gt l116) h126)
        refine wl (sv rfl (v := .agg #[.int .i64 ((f x102).kind), .int .i64 ((f x102).at_.t), .int .i64 ((f x102).at_.w), .int .i64 ((f x102).node.t), .int .i64 ((f x102).node.w), .int .i64 ((f x102).parent.t), .int .i64 ((f x102).parent.w), .bool ((f x102).dir), .string ((f x102).name), .slice dA103 dn103 dc103]) (r_loads (k := 0) (by kernel_rfl) Ty.ag40 Ty.sz40 h144 (by kernel_rfl)) ?_)
        refine wl (sv rfl (v := .pointer (some ⟨g, bN * 10, none⟩)) (r_ixaddr' (A := some ⟨g, 0, none⟩) (b := g) (o := 0) (n := nn) (c := c) (sz := 10) (j := ((bN : Int))) (m := bN * 10) (by kernel_rfl) rfl (by kernel_rfl) Ty.un22 Ty.sz40 (by omega) (by omega) (by omega)) ?_)
        have h146 := (Dat.chg (Dat.up hD103 (up_chgn u108 c127 (by rw [e106]; exact Nat.le_refl _))) c138 ⟨hBg, NotU8.of hb135 (by decide)⟩)
        obtain ⟨cu145, hb145, hk145, hp145⟩ := ORow.put (i := bN) hr135 (by simp; omega) h146 (by decide) hBb
        refine wl (ss rfl (k := bN * 10) (v := .agg #[.int .i64 ((f x102).kind), .int .i64 ((f x102).at_.t), .int .i64 ((f x102).at_.w), .int .i64 ((f x102).node.t), .int .i64 ((f x102).node.w), .int .i64 ((f x102).parent.t), .int .i64 ((f x102).parent.w), .bool ((f x102).dir), .string ((f x102).name), .slice dA103 dn103 dc103]) (vs := [.int .i64 ((f x102).kind), .int .i64 ((f x102).at_.t), .int .i64 ((f x102).at_.w), .int .i64 ((f x102).node.t), .int .i64 ((f x102).node.w), .int .i64 ((f x102).parent.t), .int .i64 ((f x102).parent.w), .bool ((f x102).dir), .string ((f x102).name), .slice dA103 dn103 dc103]) (cs' := _) (by kernel_rfl) (by kernel_rfl) rfl Ty.sz40 hb145 rfl hk145 rfl ?_)
        intro w147 h148 c149
        have hr145 := hp145 _ h148 c149
        rw [map_set'] at hr145
        have M150 := Mod.trans' M139 c149 (fun i hi => by injection hi with hi; rw [← hi]; exact (Nat.le_trans M25.size g49))
        have M151 := Mod.trans' M140 c149 (fun i hi => by injection hi with hi; rw [← hi]; exact g49)
        have M152 := Mod.trans M141 (Mod.of_chg c149 (by simp))
        have M153 := Mod.trans M142 (Mod.of_chg c149 (by simp))
        obtain ⟨_, _, _, cg154, hg154, _⟩ := ORow.blk hr145
        refine wnil (inb_n (then_n (rg_lit ?_)))
        refine wmv (v := .int .i64 ((ki : Int))) ?_
        refine wl (sv rfl (v := .int .i64 (((ki + 1 : Nat) : Int))) (r_add (k := .i64) (m := ((ki : Int))) (n := 1) (c := (((ki + 1 : Nat) : Int))) (by kernel_rfl) (by kernel_rfl) ((IntWalk.i64_in _ (by omega)).trans (by omega))) ?_)
        refine was (v := .int .i64 (((ki + 1 : Nat) : Int))) ?_
        refine wnil (then_n ?_)
        refine ⟨ts.length - (ki + 1), ?_, ((I1.set 0 x133).set bN x102), (ki + 1), tget [undef, undef, undef, undef, undef, undef, undef, undef, undef, .int .i64 0, .int .i64 ((bN : Int)), .bool tw, .int .i64 ((kl : Int)), .pointer (some ⟨b104, 0, none⟩), undef, undef, undef, undef, undef, undef, undef, undef, undef, undef, undef, undef, undef, undef, undef, undef, .int .i64 ((ki : Int)), .slice tA ts.length tc, .int .i64 ((ts.length : Int)), .bool b66, .bool b66, .slice (some ⟨g, 0, none⟩) nn c, .int .i64 ((nn : Int)), .bool b72, .bool b72, .int .i64 ((ki : Int)), .int .i64 (((ki + 1 : Nat) : Int)), .slice tA ts.length tc, .int .i64 ((ki : Int)), .pointer (some ⟨g77, f77 + ki, none⟩), .int .i64 (ts.getD ki 0), .slice (some ⟨g, 0, none⟩) nn c, .int .i64 ((nn : Int)), .int .i64 qz, .slice (some ⟨g, 0, none⟩) nn c, .int .i64 ((nn : Int)), .int .i64 (qz + (nn : Int)), .slice (some ⟨g, 0, none⟩) nn c, .int .i64 ((nn : Int)), .int .i64 ((bN : Int)), .int .i64 ((kl : Int)), .slice (some ⟨g, 0, none⟩) nn c, .int .i64 ((nn : Int)), .bool b96, z58, z59, z60, z61, z62, z63, z64, z65, z66, z67, z68, z69, z70, z71, z72, z73, z74, z75, z76, z77, z78, z79, z80, z81, z82, z83, z84, z85, z86, z87, z88, z89, z90, z91, z92, z93, z94, z95, z96, .bool tw, .bool (!tw), .slice (some ⟨g, 0, none⟩) nn c, .int .i64 0, .pointer (some ⟨g, 0 * 10, none⟩), .agg #[.int .i64 ((f x102).kind), .int .i64 ((f x102).at_.t), .int .i64 ((f x102).at_.w), .int .i64 ((f x102).node.t), .int .i64 ((f x102).node.w), .int .i64 ((f x102).parent.t), .int .i64 ((f x102).parent.w), .bool ((f x102).dir), .string ((f x102).name), .slice dA103 dn103 dc103], .slice (some ⟨g, 0, none⟩) nn c, .int .i64 0, .slice (some ⟨g, 0, none⟩) nn c, .int .i64 ((bN : Int)), .pointer (some ⟨g, bN * 10, none⟩), .agg #[.int .i64 ((f x133).kind), .int .i64 ((f x133).at_.t), .int .i64 ((f x133).at_.w), .int .i64 ((f x133).node.t), .int .i64 ((f x133).node.w), .int .i64 ((f x133).parent.t), .int .i64 ((f x133).parent.w), .bool ((f x133).dir), .string ((f x133).name), .slice dA134 dn134 dc134], .pointer (some ⟨g, 0 * 10, none⟩), .slice (some ⟨g, 0, none⟩) nn c, .int .i64 ((bN : Int)), .agg #[.int .i64 ((f x102).kind), .int .i64 ((f x102).at_.t), .int .i64 ((f x102).at_.w), .int .i64 ((f x102).node.t), .int .i64 ((f x102).node.w), .int .i64 ((f x102).parent.t), .int .i64 ((f x102).parent.w), .bool ((f x102).dir), .string ((f x102).name), .slice dA103 dn103 dc103], .pointer (some ⟨g, bN * 10, none⟩)], rfl, (by kernel_rfl), M152, (by omega), (by simp only [List.length_set]; exact hF1_1), ((NoTwin.swap (by have h0 := hF2_1; rw [v100] at h0; exact h0) (by omega) hx102 hx133).trans hF1_2), (sub_swap hF1_3 hx102 hx133), hr145⟩
        · omega
      refine wp_cond_false (ebool (b := !tw) (by kernel_rfl) (bneg v100)) ?_
      refine wp_skip (inb_n (then_n (rg_lit ?_)))
      refine wmv (v := .int .i64 ((ki : Int))) ?_
      refine wl (sv rfl (v := .int .i64 (((ki + 1 : Nat) : Int))) (r_add (k := .i64) (m := ((ki : Int))) (n := 1) (c := (((ki + 1 : Nat) : Int))) (by kernel_rfl) (by kernel_rfl) ((IntWalk.i64_in _ (by omega)).trans (by omega))) ?_)
      refine was (v := .int .i64 (((ki + 1 : Nat) : Int))) ?_
      refine wnil (then_n ?_)
      have h101 := (ORow.up h92 (Mod.up hM2))
      refine ⟨ts.length - (ki + 1), ?_, I1, (ki + 1), tget [undef, undef, undef, undef, undef, undef, undef, undef, undef, .int .i64 0, .int .i64 ((bN : Int)), .bool tw, .int .i64 ((kl : Int)), (Z 13), undef, undef, undef, undef, undef, undef, undef, undef, undef, undef, undef, undef, undef, undef, undef, undef, .int .i64 ((ki : Int)), .slice tA ts.length tc, .int .i64 ((ts.length : Int)), .bool b66, .bool b66, .slice (some ⟨g, 0, none⟩) nn c, .int .i64 ((nn : Int)), .bool b72, .bool b72, .int .i64 ((ki : Int)), .int .i64 (((ki + 1 : Nat) : Int)), .slice tA ts.length tc, .int .i64 ((ki : Int)), .pointer (some ⟨g77, f77 + ki, none⟩), .int .i64 (ts.getD ki 0), .slice (some ⟨g, 0, none⟩) nn c, .int .i64 ((nn : Int)), .int .i64 qz, .slice (some ⟨g, 0, none⟩) nn c, .int .i64 ((nn : Int)), .int .i64 (qz + (nn : Int)), .slice (some ⟨g, 0, none⟩) nn c, .int .i64 ((nn : Int)), .int .i64 ((bN : Int)), .int .i64 ((kl : Int)), .slice (some ⟨g, 0, none⟩) nn c, .int .i64 ((nn : Int)), .bool b96, z58, z59, z60, z61, z62, z63, z64, z65, z66, z67, z68, z69, z70, z71, z72, z73, z74, z75, z76, z77, z78, z79, z80, z81, z82, z83, z84, z85, z86, z87, z88, z89, z90, z91, z92, z93, z94, z95, z96, .bool tw, .bool (!tw), (Z 99), (Z 100), (Z 101), (Z 102), (Z 103), (Z 104), (Z 105), (Z 106), (Z 107), (Z 108), (Z 109), (Z 110), (Z 111), (Z 112), (Z 113)], rfl, (by kernel_rfl), M95, (by omega), hF1_1, hF1_2, hF1_3, h101⟩
      · omega
    have p99 := of_decide_eq_true (k97.trans v98)
    have q100 : kl < nn := by omega
    have q101 : kl < nn := by omega
    refine wp_cond_true (ebool (b := b96) (by kernel_rfl) v98) ?_
    refine wp_skip (then_n (wp_seq (wp_block ?_)))
    refine rg_all (by kernel_rfl) (by kernel_rfl) ?_
    refine qmv (v := .bool tw) ?_
    refine qmv (v := .bool tw) ?_
    refine bcase tw (fun v102 => ?_) (fun v102 => ?_)
    · refine qv (wt (b := tw) rfl (by kernel_rfl) v102) (v := .int .i64 ((kl : Int))) (fun _ _ => r_move (by kernel_rfl)) ?_
      refine qv (wt (b := tw) rfl (by kernel_rfl) v102) (v := .int .i64 0) (fun _ _ => r_move (by kernel_rfl)) ?_
      refine qb (wt (b := tw) rfl (by kernel_rfl) v102) (fun _ _ => r_ne (k := .i64) (m := ((kl : Int))) (n := 0) (by kernel_rfl) (by kernel_rfl)) ?_
      intro b103 k104
      refine qv (wt (b := tw) rfl (by kernel_rfl) v102) (v := .bool b103) (fun _ _ => r_move (by kernel_rfl)) ?_
      refine bcase b103 (fun v105 => ?_) (fun v105 => ?_)
      · have p106 := of_decide_eq_false (k104.trans v105)
        refine qp (wf (b := b103) rfl (by kernel_rfl) v105) ?_
        refine qp (wf (b := b103) rfl (by kernel_rfl) v105) ?_
        refine qp (wf (b := b103) rfl (by kernel_rfl) v105) ?_
        refine qp (wf (b := b103) rfl (by kernel_rfl) v105) ?_
        refine qp (wf (b := b103) rfl (by kernel_rfl) v105) ?_
        refine qp (wf (b := b103) rfl (by kernel_rfl) v105) ?_
        refine qp (wf (b := b103) rfl (by kernel_rfl) v105) ?_
        refine qp (wf (b := b103) rfl (by kernel_rfl) v105) ?_
        refine qp (wf (b := b103) rfl (by kernel_rfl) v105) ?_
        refine qp (wf (b := b103) rfl (by kernel_rfl) v105) ?_
        refine qp (wf (b := b103) rfl (by kernel_rfl) v105) ?_
        refine qv (wt (b := tw) rfl (by kernel_rfl) v102) (v := .bool false) (fun _ _ => r_pkF (ebool (b := b103) (by kernel_rfl) v105) (by kernel_rfl)) ?_
        refine qv rfl (v := .bool false) (fun _ _ => r_pkF (ebool (b := tw) (by kernel_rfl) v102) (by kernel_rfl)) ?_
        refine qmv (v := .bool false) ?_
        refine qv (by kernel_rfl) (v := .int .i64 ((kl : Int))) (fun _ _ => r_move (by kernel_rfl)) ?_
        refine qv (by kernel_rfl) (v := .int .i64 ((bN : Int))) (fun _ _ => r_move (by kernel_rfl)) ?_
        refine qb (by kernel_rfl) (fun _ _ => r_ne (k := .i64) (m := ((kl : Int))) (n := ((bN : Int))) (by kernel_rfl) (by kernel_rfl)) ?_
        intro b107 k108
        refine qv (by kernel_rfl) (v := .bool b107) (fun _ _ => r_move (by kernel_rfl)) ?_
        refine bcase b107 (fun v109 => ?_) (fun v109 => ?_)
        · have p110 := of_decide_eq_false (k108.trans v109)
          refine qp (wf (b := b107) rfl (by kernel_rfl) v109) ?_
          refine qp (wf (b := b107) rfl (by kernel_rfl) v109) ?_
          refine qp (wf (b := b107) rfl (by kernel_rfl) v109) ?_
          refine qp (wf (b := b107) rfl (by kernel_rfl) v109) ?_
          refine qp (wf (b := b107) rfl (by kernel_rfl) v109) ?_
          refine qp (wf (b := b107) rfl (by kernel_rfl) v109) ?_
          refine qp (wf (b := b107) rfl (by kernel_rfl) v109) ?_
          refine qp (wf (b := b107) rfl (by kernel_rfl) v109) ?_
          refine qp (wf (b := b107) rfl (by kernel_rfl) v109) ?_
          refine qp (wf (b := b107) rfl (by kernel_rfl) v109) ?_
          refine qp (wf (b := b107) rfl (by kernel_rfl) v109) ?_
          refine qv (by kernel_rfl) (v := .bool false) (fun _ _ => r_pkF (ebool (b := b107) (by kernel_rfl) v109) (by kernel_rfl)) ?_
          refine qv rfl (v := .bool false) (fun _ _ => r_pkF (by kernel_rfl) (by kernel_rfl)) ?_
          refine qas (v := .bool false) ?_
          refine qnil ?_
          intro w111 u112
          have M113 := Mod.trans M93 (Mod.of_up u112)
          have M114 := Mod.trans M94 (Mod.of_up u112)
          have M115 := Mod.trans M95 (Mod.of_up u112)
          have M116 := Mod.trans hM2 (Mod.of_up u112)
          refine inb_n (then_n (rg_lit ?_))
          refine wmv (v := .int .i64 ((kl : Int))) ?_
          refine wl (sv rfl (v := .int .i64 (((kl + 1 : Nat) : Int))) (r_add (k := .i64) (m := ((kl : Int))) (n := 1) (c := (((kl + 1 : Nat) : Int))) (by kernel_rfl) (by kernel_rfl) ((IntWalk.i64_in _ (by omega)).trans (by omega))) ?_)
          refine was (v := .int .i64 (((kl + 1 : Nat) : Int))) ?_
          refine wnil (then_n ?_)
          obtain ⟨x117, hx117⟩ : ∃ x, I1[kl]? = some x := ⟨_, List.getElem?_eq_getElem (by omega)⟩
          refine ⟨nn - (kl + 1), ?_, (kl + 1), false, .int .i64 ((kl : Int)), .slice (some ⟨g, 0, none⟩) nn c, .int .i64 ((nn : Int)), .bool b96, .int .i64 ((kl : Int)), .int .i64 (((kl + 1 : Nat) : Int)), .bool tw, .bool tw, .int .i64 ((kl : Int)), .int .i64 0, .bool b103, .bool b103, undef, undef, undef, undef, undef, undef, undef, undef, undef, undef, undef, .bool false, .bool false, .bool false, .int .i64 ((kl : Int)), .int .i64 ((bN : Int)), .bool b107, .bool b107, undef, undef, undef, undef, undef, undef, undef, undef, undef, undef, undef, .bool false, .bool false, rfl, (by kernel_rfl), M116, (by omega), (NoTwin.next (x := 0) (y := 0) (by have h0 := hF2_1; rw [v102] at h0; exact h0) hx117 (fun h => absurd h (by omega)) (fun h => absurd h (by omega)))⟩
          · omega
        have p110 := of_decide_eq_true (k108.trans v109)
        refine qv (wt (b := b107) rfl (by kernel_rfl) v109) (v := .slice (some ⟨g, 0, none⟩) nn c) (fun _ _ => r_move (by kernel_rfl)) ?_
        refine qv (wt (b := b107) rfl (by kernel_rfl) v109) (v := .int .i64 ((kl : Int))) (fun _ _ => r_move (by kernel_rfl)) ?_
        refine qv (wt (b := b107) rfl (by kernel_rfl) v109) (v := .pointer (some ⟨g, kl * 10, none⟩)) (fun _ _ => r_ixaddr' (A := some ⟨g, 0, none⟩) (b := g) (o := 0) (n := nn) (c := c) (sz := 10) (j := ((kl : Int))) (m := kl * 10) (by kernel_rfl) rfl (by kernel_rfl) Ty.un22 Ty.sz40 (by omega) (by omega) (by omega)) ?_
        refine qv (wt (b := b107) rfl (by kernel_rfl) v109) (v := .pointer (some ⟨g, kl * 10 + 1, none⟩)) (fun _ _ => r_fieldAddr (u := .pointer (some ⟨g, kl * 10, none⟩)) (by kernel_rfl) (fun _ => (by kernel_rfl))) ?_
        have h111 := (ORow.up h92 (Mod.up hM2))
        obtain ⟨x112, hx112⟩ : ∃ x, I1[kl]? = some x := ⟨_, List.getElem?_eq_getElem (by omega)⟩
        obtain ⟨cu113, dA113, dn113, dc113, hb113, he113, hD113⟩ := ORow.elem h111 (map_get' hx112)
        refine qv (wt (b := b107) rfl (by kernel_rfl) v109) (v := .agg #[.int .i64 ((f x112).at_.t), .int .i64 ((f x112).at_.w)]) (fun _ uz => r_loads (k := kl * 10 + 1) (vs := [.int .i64 ((f x112).at_.t), .int .i64 ((f x112).at_.w)]) (by kernel_rfl) Ty.ag24 Ty.sz24 (up_ob uz hb113) (el_sub he113 1 rfl)) ?_
        refine qv (wt (b := b107) rfl (by kernel_rfl) v109) (v := .slice (some ⟨g, 0, none⟩) nn c) (fun _ _ => r_move (by kernel_rfl)) ?_
        refine qv (wt (b := b107) rfl (by kernel_rfl) v109) (v := .int .i64 ((bN : Int))) (fun _ _ => r_move (by kernel_rfl)) ?_
        refine qv (wt (b := b107) rfl (by kernel_rfl) v109) (v := .pointer (some ⟨g, bN * 10, none⟩)) (fun _ _ => r_ixaddr' (A := some ⟨g, 0, none⟩) (b := g) (o := 0) (n := nn) (c := c) (sz := 10) (j := ((bN : Int))) (m := bN * 10) (by kernel_rfl) rfl (by kernel_rfl) Ty.un22 Ty.sz40 (by omega) (by omega) (by omega)) ?_
        refine qv (wt (b := b107) rfl (by kernel_rfl) v109) (v := .pointer (some ⟨g, bN * 10 + 1, none⟩)) (fun _ _ => r_fieldAddr (u := .pointer (some ⟨g, bN * 10, none⟩)) (by kernel_rfl) (fun _ => (by kernel_rfl))) ?_
        obtain ⟨x114, hx114⟩ : ∃ x, I1[bN]? = some x := ⟨_, List.getElem?_eq_getElem (by omega)⟩
        obtain ⟨cu115, dA115, dn115, dc115, hb115, he115, hD115⟩ := ORow.elem h111 (map_get' hx114)
        refine qv (wt (b := b107) rfl (by kernel_rfl) v109) (v := .agg #[.int .i64 ((f x114).at_.t), .int .i64 ((f x114).at_.w)]) (fun _ uz => r_loads (k := bN * 10 + 1) (vs := [.int .i64 ((f x114).at_.t), .int .i64 ((f x114).at_.w)]) (by kernel_rfl) Ty.ag24 Ty.sz24 (up_ob uz hb115) (el_sub he115 1 rfl)) ?_
        refine qb (wt (b := b107) rfl (by kernel_rfl) v109) (fun _ _ => r_eqS (a := ((f x112).at_.t)) (b := ((f x112).at_.w)) (c := ((f x114).at_.t)) (e := ((f x114).at_.w)) (by kernel_rfl) (by kernel_rfl)) ?_
        intro b116 k117
        refine qv (by kernel_rfl) (v := .bool b116) (fun _ _ => r_pkT (ebool (b := b107) (by kernel_rfl) v109) (by kernel_rfl)) ?_
        refine qv rfl (v := .bool b116) (fun _ _ => r_pkF (by kernel_rfl) (by kernel_rfl)) ?_
        refine bcase b116 (fun v118 => ?_) (fun v118 => ?_)
        · have p119 := of_decide_eq_false (k117.trans v118)
          refine qas (v := .bool b116) ?_
          refine qnil ?_
          intro w120 u121
          have M122 := Mod.trans M93 (Mod.of_up u121)
          have M123 := Mod.trans M94 (Mod.of_up u121)
          have M124 := Mod.trans M95 (Mod.of_up u121)
          have M125 := Mod.trans hM2 (Mod.of_up u121)
          refine inb_n (then_n (rg_lit ?_))
          refine wmv (v := .int .i64 ((kl : Int))) ?_
          refine wl (sv rfl (v := .int .i64 (((kl + 1 : Nat) : Int))) (r_add (k := .i64) (m := ((kl : Int))) (n := 1) (c := (((kl + 1 : Nat) : Int))) (by kernel_rfl) (by kernel_rfl) ((IntWalk.i64_in _ (by omega)).trans (by omega))) ?_)
          refine was (v := .int .i64 (((kl + 1 : Nat) : Int))) ?_
          refine wnil (then_n ?_)
          refine ⟨nn - (kl + 1), ?_, (kl + 1), b116, .int .i64 ((kl : Int)), .slice (some ⟨g, 0, none⟩) nn c, .int .i64 ((nn : Int)), .bool b96, .int .i64 ((kl : Int)), .int .i64 (((kl + 1 : Nat) : Int)), .bool tw, .bool tw, .int .i64 ((kl : Int)), .int .i64 0, .bool b103, .bool b103, undef, undef, undef, undef, undef, undef, undef, undef, undef, undef, undef, .bool false, .bool false, .bool false, .int .i64 ((kl : Int)), .int .i64 ((bN : Int)), .bool b107, .bool b107, .slice (some ⟨g, 0, none⟩) nn c, .int .i64 ((kl : Int)), .pointer (some ⟨g, kl * 10, none⟩), .pointer (some ⟨g, kl * 10 + 1, none⟩), .agg #[.int .i64 ((f x112).at_.t), .int .i64 ((f x112).at_.w)], .slice (some ⟨g, 0, none⟩) nn c, .int .i64 ((bN : Int)), .pointer (some ⟨g, bN * 10, none⟩), .pointer (some ⟨g, bN * 10 + 1, none⟩), .agg #[.int .i64 ((f x114).at_.t), .int .i64 ((f x114).at_.w)], .bool b116, .bool b116, .bool b116, rfl, (by kernel_rfl), M125, (by omega), (by rw [v118]; exact NoTwin.next (x := 0) (y := x114) (by have h0 := hF2_1; rw [v102] at h0; exact h0) hx112 (fun h => absurd h (by omega)) (fun _ => ⟨hx114, p119⟩))⟩
          · omega
        have p119 := of_decide_eq_true (k117.trans v118)
        refine qas (v := .bool b116) ?_
        refine qnil ?_
        intro w120 u121
        have M122 := Mod.trans M93 (Mod.of_up u121)
        have M123 := Mod.trans M94 (Mod.of_up u121)
        have M124 := Mod.trans M95 (Mod.of_up u121)
        have M125 := Mod.trans hM2 (Mod.of_up u121)
        refine inb_n (then_n (rg_lit ?_))
        refine wmv (v := .int .i64 ((kl : Int))) ?_
        refine wl (sv rfl (v := .int .i64 (((kl + 1 : Nat) : Int))) (r_add (k := .i64) (m := ((kl : Int))) (n := 1) (c := (((kl + 1 : Nat) : Int))) (by kernel_rfl) (by kernel_rfl) ((IntWalk.i64_in _ (by omega)).trans (by omega))) ?_)
        refine was (v := .int .i64 (((kl + 1 : Nat) : Int))) ?_
        refine wnil (then_n ?_)
        refine ⟨nn - (kl + 1), ?_, (kl + 1), b116, .int .i64 ((kl : Int)), .slice (some ⟨g, 0, none⟩) nn c, .int .i64 ((nn : Int)), .bool b96, .int .i64 ((kl : Int)), .int .i64 (((kl + 1 : Nat) : Int)), .bool tw, .bool tw, .int .i64 ((kl : Int)), .int .i64 0, .bool b103, .bool b103, undef, undef, undef, undef, undef, undef, undef, undef, undef, undef, undef, .bool false, .bool false, .bool false, .int .i64 ((kl : Int)), .int .i64 ((bN : Int)), .bool b107, .bool b107, .slice (some ⟨g, 0, none⟩) nn c, .int .i64 ((kl : Int)), .pointer (some ⟨g, kl * 10, none⟩), .pointer (some ⟨g, kl * 10 + 1, none⟩), .agg #[.int .i64 ((f x112).at_.t), .int .i64 ((f x112).at_.w)], .slice (some ⟨g, 0, none⟩) nn c, .int .i64 ((bN : Int)), .pointer (some ⟨g, bN * 10, none⟩), .pointer (some ⟨g, bN * 10 + 1, none⟩), .agg #[.int .i64 ((f x114).at_.t), .int .i64 ((f x114).at_.w)], .bool b116, .bool b116, .bool b116, rfl, (by kernel_rfl), M125, (by omega), (by rw [v118]; exact NoTwin.yes)⟩
        · omega
      have p106 := of_decide_eq_true (k104.trans v105)
      refine qv (wt (b := b103) rfl (by kernel_rfl) v105) (v := .slice (some ⟨g, 0, none⟩) nn c) (fun _ _ => r_move (by kernel_rfl)) ?_
      refine qv (wt (b := b103) rfl (by kernel_rfl) v105) (v := .int .i64 ((kl : Int))) (fun _ _ => r_move (by kernel_rfl)) ?_
      refine qv (wt (b := b103) rfl (by kernel_rfl) v105) (v := .pointer (some ⟨g, kl * 10, none⟩)) (fun _ _ => r_ixaddr' (A := some ⟨g, 0, none⟩) (b := g) (o := 0) (n := nn) (c := c) (sz := 10) (j := ((kl : Int))) (m := kl * 10) (by kernel_rfl) rfl (by kernel_rfl) Ty.un22 Ty.sz40 (by omega) (by omega) (by omega)) ?_
      refine qv (wt (b := b103) rfl (by kernel_rfl) v105) (v := .pointer (some ⟨g, kl * 10 + 1, none⟩)) (fun _ _ => r_fieldAddr (u := .pointer (some ⟨g, kl * 10, none⟩)) (by kernel_rfl) (fun _ => (by kernel_rfl))) ?_
      have h107 := (ORow.up h92 (Mod.up hM2))
      obtain ⟨x108, hx108⟩ : ∃ x, I1[kl]? = some x := ⟨_, List.getElem?_eq_getElem (by omega)⟩
      obtain ⟨cu109, dA109, dn109, dc109, hb109, he109, hD109⟩ := ORow.elem h107 (map_get' hx108)
      refine qv (wt (b := b103) rfl (by kernel_rfl) v105) (v := .agg #[.int .i64 ((f x108).at_.t), .int .i64 ((f x108).at_.w)]) (fun _ uz => r_loads (k := kl * 10 + 1) (vs := [.int .i64 ((f x108).at_.t), .int .i64 ((f x108).at_.w)]) (by kernel_rfl) Ty.ag24 Ty.sz24 (up_ob uz hb109) (el_sub he109 1 rfl)) ?_
      refine qv (wt (b := b103) rfl (by kernel_rfl) v105) (v := .slice (some ⟨g, 0, none⟩) nn c) (fun _ _ => r_move (by kernel_rfl)) ?_
      refine qv (wt (b := b103) rfl (by kernel_rfl) v105) (v := .int .i64 0) (fun _ _ => r_move (by kernel_rfl)) ?_
      refine qv (wt (b := b103) rfl (by kernel_rfl) v105) (v := .pointer (some ⟨g, 0 * 10, none⟩)) (fun _ _ => r_ixaddr' (A := some ⟨g, 0, none⟩) (b := g) (o := 0) (n := nn) (c := c) (sz := 10) (j := 0) (m := 0 * 10) (by kernel_rfl) rfl (by kernel_rfl) Ty.un22 Ty.sz40 (by omega) (by omega) (by omega)) ?_
      refine qv (wt (b := b103) rfl (by kernel_rfl) v105) (v := .pointer (some ⟨g, 0 * 10 + 1, none⟩)) (fun _ _ => r_fieldAddr (u := .pointer (some ⟨g, 0 * 10, none⟩)) (by kernel_rfl) (fun _ => (by kernel_rfl))) ?_
      obtain ⟨x110, hx110⟩ : ∃ x, I1[0]? = some x := ⟨_, List.getElem?_eq_getElem (by omega)⟩
      obtain ⟨cu111, dA111, dn111, dc111, hb111, he111, hD111⟩ := ORow.elem h107 (map_get' hx110)
      refine qv (wt (b := b103) rfl (by kernel_rfl) v105) (v := .agg #[.int .i64 ((f x110).at_.t), .int .i64 ((f x110).at_.w)]) (fun _ uz => r_loads (k := 0 * 10 + 1) (vs := [.int .i64 ((f x110).at_.t), .int .i64 ((f x110).at_.w)]) (by kernel_rfl) Ty.ag24 Ty.sz24 (up_ob uz hb111) (el_sub he111 1 rfl)) ?_
      refine qb (wt (b := b103) rfl (by kernel_rfl) v105) (fun _ _ => r_eqS (a := ((f x108).at_.t)) (b := ((f x108).at_.w)) (c := ((f x110).at_.t)) (e := ((f x110).at_.w)) (by kernel_rfl) (by kernel_rfl)) ?_
      intro b112 k113
      refine qv (wt (b := tw) rfl (by kernel_rfl) v102) (v := .bool b112) (fun _ _ => r_pkT (ebool (b := b103) (by kernel_rfl) v105) (by kernel_rfl)) ?_
      refine qv rfl (v := .bool b112) (fun _ _ => r_pkF (ebool (b := tw) (by kernel_rfl) v102) (by kernel_rfl)) ?_
      refine qmv (v := .bool b112) ?_
      refine bcase b112 (fun v114 => ?_) (fun v114 => ?_)
      · have p115 := of_decide_eq_false (k113.trans v114)
        refine qv (wt (b := b112) rfl (by kernel_rfl) v114) (v := .int .i64 ((kl : Int))) (fun _ _ => r_move (by kernel_rfl)) ?_
        refine qv (wt (b := b112) rfl (by kernel_rfl) v114) (v := .int .i64 ((bN : Int))) (fun _ _ => r_move (by kernel_rfl)) ?_
        refine qb (wt (b := b112) rfl (by kernel_rfl) v114) (fun _ _ => r_ne (k := .i64) (m := ((kl : Int))) (n := ((bN : Int))) (by kernel_rfl) (by kernel_rfl)) ?_
        intro b116 k117
        refine qv (wt (b := b112) rfl (by kernel_rfl) v114) (v := .bool b116) (fun _ _ => r_move (by kernel_rfl)) ?_
        refine bcase b116 (fun v118 => ?_) (fun v118 => ?_)
        · have p119 := of_decide_eq_false (k117.trans v118)
          refine qp (wf (b := b116) rfl (by kernel_rfl) v118) ?_
          refine qp (wf (b := b116) rfl (by kernel_rfl) v118) ?_
          refine qp (wf (b := b116) rfl (by kernel_rfl) v118) ?_
          refine qp (wf (b := b116) rfl (by kernel_rfl) v118) ?_
          refine qp (wf (b := b116) rfl (by kernel_rfl) v118) ?_
          refine qp (wf (b := b116) rfl (by kernel_rfl) v118) ?_
          refine qp (wf (b := b116) rfl (by kernel_rfl) v118) ?_
          refine qp (wf (b := b116) rfl (by kernel_rfl) v118) ?_
          refine qp (wf (b := b116) rfl (by kernel_rfl) v118) ?_
          refine qp (wf (b := b116) rfl (by kernel_rfl) v118) ?_
          refine qp (wf (b := b116) rfl (by kernel_rfl) v118) ?_
          refine qv (wt (b := b112) rfl (by kernel_rfl) v114) (v := .bool false) (fun _ _ => r_pkF (ebool (b := b116) (by kernel_rfl) v118) (by kernel_rfl)) ?_
          refine qv rfl (v := .bool false) (fun _ _ => r_pkF (ebool (b := b112) (by kernel_rfl) v114) (by kernel_rfl)) ?_
          refine qas (v := .bool false) ?_
          refine qnil ?_
          intro w120 u121
          have M122 := Mod.trans M93 (Mod.of_up u121)
          have M123 := Mod.trans M94 (Mod.of_up u121)
          have M124 := Mod.trans M95 (Mod.of_up u121)
          have M125 := Mod.trans hM2 (Mod.of_up u121)
          refine inb_n (then_n (rg_lit ?_))
          refine wmv (v := .int .i64 ((kl : Int))) ?_
          refine wl (sv rfl (v := .int .i64 (((kl + 1 : Nat) : Int))) (r_add (k := .i64) (m := ((kl : Int))) (n := 1) (c := (((kl + 1 : Nat) : Int))) (by kernel_rfl) (by kernel_rfl) ((IntWalk.i64_in _ (by omega)).trans (by omega))) ?_)
          refine was (v := .int .i64 (((kl + 1 : Nat) : Int))) ?_
          refine wnil (then_n ?_)
          refine ⟨nn - (kl + 1), ?_, (kl + 1), false, .int .i64 ((kl : Int)), .slice (some ⟨g, 0, none⟩) nn c, .int .i64 ((nn : Int)), .bool b96, .int .i64 ((kl : Int)), .int .i64 (((kl + 1 : Nat) : Int)), .bool tw, .bool tw, .int .i64 ((kl : Int)), .int .i64 0, .bool b103, .bool b103, .slice (some ⟨g, 0, none⟩) nn c, .int .i64 ((kl : Int)), .pointer (some ⟨g, kl * 10, none⟩), .pointer (some ⟨g, kl * 10 + 1, none⟩), .agg #[.int .i64 ((f x108).at_.t), .int .i64 ((f x108).at_.w)], .slice (some ⟨g, 0, none⟩) nn c, .int .i64 0, .pointer (some ⟨g, 0 * 10, none⟩), .pointer (some ⟨g, 0 * 10 + 1, none⟩), .agg #[.int .i64 ((f x110).at_.t), .int .i64 ((f x110).at_.w)], .bool b112, .bool b112, .bool b112, .bool b112, .int .i64 ((kl : Int)), .int .i64 ((bN : Int)), .bool b116, .bool b116, undef, undef, undef, undef, undef, undef, undef, undef, undef, undef, undef, .bool false, .bool false, rfl, (by kernel_rfl), M125, (by omega), (NoTwin.next (x := x110) (y := 0) (by have h0 := hF2_1; rw [v102] at h0; exact h0) hx108 (fun _ => ⟨hx110, p115⟩) (fun h => absurd h (by omega)))⟩
          · omega
        have p119 := of_decide_eq_true (k117.trans v118)
        refine qv (wt (b := b116) rfl (by kernel_rfl) v118) (v := .slice (some ⟨g, 0, none⟩) nn c) (fun _ _ => r_move (by kernel_rfl)) ?_
        refine qv (wt (b := b116) rfl (by kernel_rfl) v118) (v := .int .i64 ((kl : Int))) (fun _ _ => r_move (by kernel_rfl)) ?_
        refine qv (wt (b := b116) rfl (by kernel_rfl) v118) (v := .pointer (some ⟨g, kl * 10, none⟩)) (fun _ _ => r_ixaddr' (A := some ⟨g, 0, none⟩) (b := g) (o := 0) (n := nn) (c := c) (sz := 10) (j := ((kl : Int))) (m := kl * 10) (by kernel_rfl) rfl (by kernel_rfl) Ty.un22 Ty.sz40 (by omega) (by omega) (by omega)) ?_
        refine qv (wt (b := b116) rfl (by kernel_rfl) v118) (v := .pointer (some ⟨g, kl * 10 + 1, none⟩)) (fun _ _ => r_fieldAddr (u := .pointer (some ⟨g, kl * 10, none⟩)) (by kernel_rfl) (fun _ => (by kernel_rfl))) ?_
        obtain ⟨cu120, dA120, dn120, dc120, hb120, he120, hD120⟩ := ORow.elem h107 (map_get' hx108)
        refine qv (wt (b := b116) rfl (by kernel_rfl) v118) (v := .agg #[.int .i64 ((f x108).at_.t), .int .i64 ((f x108).at_.w)]) (fun _ uz => r_loads (k := kl * 10 + 1) (vs := [.int .i64 ((f x108).at_.t), .int .i64 ((f x108).at_.w)]) (by kernel_rfl) Ty.ag24 Ty.sz24 (up_ob uz hb120) (el_sub he120 1 rfl)) ?_
        refine qv (wt (b := b116) rfl (by kernel_rfl) v118) (v := .slice (some ⟨g, 0, none⟩) nn c) (fun _ _ => r_move (by kernel_rfl)) ?_
        refine qv (wt (b := b116) rfl (by kernel_rfl) v118) (v := .int .i64 ((bN : Int))) (fun _ _ => r_move (by kernel_rfl)) ?_
        refine qv (wt (b := b116) rfl (by kernel_rfl) v118) (v := .pointer (some ⟨g, bN * 10, none⟩)) (fun _ _ => r_ixaddr' (A := some ⟨g, 0, none⟩) (b := g) (o := 0) (n := nn) (c := c) (sz := 10) (j := ((bN : Int))) (m := bN * 10) (by kernel_rfl) rfl (by kernel_rfl) Ty.un22 Ty.sz40 (by omega) (by omega) (by omega)) ?_
        refine qv (wt (b := b116) rfl (by kernel_rfl) v118) (v := .pointer (some ⟨g, bN * 10 + 1, none⟩)) (fun _ _ => r_fieldAddr (u := .pointer (some ⟨g, bN * 10, none⟩)) (by kernel_rfl) (fun _ => (by kernel_rfl))) ?_
        obtain ⟨x121, hx121⟩ : ∃ x, I1[bN]? = some x := ⟨_, List.getElem?_eq_getElem (by omega)⟩
        obtain ⟨cu122, dA122, dn122, dc122, hb122, he122, hD122⟩ := ORow.elem h107 (map_get' hx121)
        refine qv (wt (b := b116) rfl (by kernel_rfl) v118) (v := .agg #[.int .i64 ((f x121).at_.t), .int .i64 ((f x121).at_.w)]) (fun _ uz => r_loads (k := bN * 10 + 1) (vs := [.int .i64 ((f x121).at_.t), .int .i64 ((f x121).at_.w)]) (by kernel_rfl) Ty.ag24 Ty.sz24 (up_ob uz hb122) (el_sub he122 1 rfl)) ?_
        refine qb (wt (b := b116) rfl (by kernel_rfl) v118) (fun _ _ => r_eqS (a := ((f x108).at_.t)) (b := ((f x108).at_.w)) (c := ((f x121).at_.t)) (e := ((f x121).at_.w)) (by kernel_rfl) (by kernel_rfl)) ?_
        intro b123 k124
        refine qv (wt (b := b112) rfl (by kernel_rfl) v114) (v := .bool b123) (fun _ _ => r_pkT (ebool (b := b116) (by kernel_rfl) v118) (by kernel_rfl)) ?_
        refine qv rfl (v := .bool b123) (fun _ _ => r_pkF (ebool (b := b112) (by kernel_rfl) v114) (by kernel_rfl)) ?_
        refine bcase b123 (fun v125 => ?_) (fun v125 => ?_)
        · have p126 := of_decide_eq_false (k124.trans v125)
          refine qas (v := .bool b123) ?_
          refine qnil ?_
          intro w127 u128
          have M129 := Mod.trans M93 (Mod.of_up u128)
          have M130 := Mod.trans M94 (Mod.of_up u128)
          have M131 := Mod.trans M95 (Mod.of_up u128)
          have M132 := Mod.trans hM2 (Mod.of_up u128)
          refine inb_n (then_n (rg_lit ?_))
          refine wmv (v := .int .i64 ((kl : Int))) ?_
          refine wl (sv rfl (v := .int .i64 (((kl + 1 : Nat) : Int))) (r_add (k := .i64) (m := ((kl : Int))) (n := 1) (c := (((kl + 1 : Nat) : Int))) (by kernel_rfl) (by kernel_rfl) ((IntWalk.i64_in _ (by omega)).trans (by omega))) ?_)
          refine was (v := .int .i64 (((kl + 1 : Nat) : Int))) ?_
          refine wnil (then_n ?_)
          refine ⟨nn - (kl + 1), ?_, (kl + 1), b123, .int .i64 ((kl : Int)), .slice (some ⟨g, 0, none⟩) nn c, .int .i64 ((nn : Int)), .bool b96, .int .i64 ((kl : Int)), .int .i64 (((kl + 1 : Nat) : Int)), .bool tw, .bool tw, .int .i64 ((kl : Int)), .int .i64 0, .bool b103, .bool b103, .slice (some ⟨g, 0, none⟩) nn c, .int .i64 ((kl : Int)), .pointer (some ⟨g, kl * 10, none⟩), .pointer (some ⟨g, kl * 10 + 1, none⟩), .agg #[.int .i64 ((f x108).at_.t), .int .i64 ((f x108).at_.w)], .slice (some ⟨g, 0, none⟩) nn c, .int .i64 0, .pointer (some ⟨g, 0 * 10, none⟩), .pointer (some ⟨g, 0 * 10 + 1, none⟩), .agg #[.int .i64 ((f x110).at_.t), .int .i64 ((f x110).at_.w)], .bool b112, .bool b112, .bool b112, .bool b112, .int .i64 ((kl : Int)), .int .i64 ((bN : Int)), .bool b116, .bool b116, .slice (some ⟨g, 0, none⟩) nn c, .int .i64 ((kl : Int)), .pointer (some ⟨g, kl * 10, none⟩), .pointer (some ⟨g, kl * 10 + 1, none⟩), .agg #[.int .i64 ((f x108).at_.t), .int .i64 ((f x108).at_.w)], .slice (some ⟨g, 0, none⟩) nn c, .int .i64 ((bN : Int)), .pointer (some ⟨g, bN * 10, none⟩), .pointer (some ⟨g, bN * 10 + 1, none⟩), .agg #[.int .i64 ((f x121).at_.t), .int .i64 ((f x121).at_.w)], .bool b123, .bool b123, .bool b123, rfl, (by kernel_rfl), M132, (by omega), (by rw [v125]; exact NoTwin.next (x := x110) (y := x121) (by have h0 := hF2_1; rw [v102] at h0; exact h0) hx108 (fun _ => ⟨hx110, p115⟩) (fun _ => ⟨hx121, p126⟩))⟩
          · omega
        have p126 := of_decide_eq_true (k124.trans v125)
        refine qas (v := .bool b123) ?_
        refine qnil ?_
        intro w127 u128
        have M129 := Mod.trans M93 (Mod.of_up u128)
        have M130 := Mod.trans M94 (Mod.of_up u128)
        have M131 := Mod.trans M95 (Mod.of_up u128)
        have M132 := Mod.trans hM2 (Mod.of_up u128)
        refine inb_n (then_n (rg_lit ?_))
        refine wmv (v := .int .i64 ((kl : Int))) ?_
        refine wl (sv rfl (v := .int .i64 (((kl + 1 : Nat) : Int))) (r_add (k := .i64) (m := ((kl : Int))) (n := 1) (c := (((kl + 1 : Nat) : Int))) (by kernel_rfl) (by kernel_rfl) ((IntWalk.i64_in _ (by omega)).trans (by omega))) ?_)
        refine was (v := .int .i64 (((kl + 1 : Nat) : Int))) ?_
        refine wnil (then_n ?_)
        refine ⟨nn - (kl + 1), ?_, (kl + 1), b123, .int .i64 ((kl : Int)), .slice (some ⟨g, 0, none⟩) nn c, .int .i64 ((nn : Int)), .bool b96, .int .i64 ((kl : Int)), .int .i64 (((kl + 1 : Nat) : Int)), .bool tw, .bool tw, .int .i64 ((kl : Int)), .int .i64 0, .bool b103, .bool b103, .slice (some ⟨g, 0, none⟩) nn c, .int .i64 ((kl : Int)), .pointer (some ⟨g, kl * 10, none⟩), .pointer (some ⟨g, kl * 10 + 1, none⟩), .agg #[.int .i64 ((f x108).at_.t), .int .i64 ((f x108).at_.w)], .slice (some ⟨g, 0, none⟩) nn c, .int .i64 0, .pointer (some ⟨g, 0 * 10, none⟩), .pointer (some ⟨g, 0 * 10 + 1, none⟩), .agg #[.int .i64 ((f x110).at_.t), .int .i64 ((f x110).at_.w)], .bool b112, .bool b112, .bool b112, .bool b112, .int .i64 ((kl : Int)), .int .i64 ((bN : Int)), .bool b116, .bool b116, .slice (some ⟨g, 0, none⟩) nn c, .int .i64 ((kl : Int)), .pointer (some ⟨g, kl * 10, none⟩), .pointer (some ⟨g, kl * 10 + 1, none⟩), .agg #[.int .i64 ((f x108).at_.t), .int .i64 ((f x108).at_.w)], .slice (some ⟨g, 0, none⟩) nn c, .int .i64 ((bN : Int)), .pointer (some ⟨g, bN * 10, none⟩), .pointer (some ⟨g, bN * 10 + 1, none⟩), .agg #[.int .i64 ((f x121).at_.t), .int .i64 ((f x121).at_.w)], .bool b123, .bool b123, .bool b123, rfl, (by kernel_rfl), M132, (by omega), (by rw [v125]; exact NoTwin.yes)⟩
        · omega
      have p115 := of_decide_eq_true (k113.trans v114)
      refine qp (wf (b := b112) rfl (by kernel_rfl) v114) ?_
      refine qp (wf (b := b112) rfl (by kernel_rfl) v114) ?_
      refine qp (wf (b := b112) rfl (by kernel_rfl) v114) ?_
      refine qp (wf (b := b112) rfl (by kernel_rfl) v114) ?_
      refine qp (by kernel_rfl) ?_
      refine qp (by kernel_rfl) ?_
      refine qp (by kernel_rfl) ?_
      refine qp (by kernel_rfl) ?_
      refine qp (by kernel_rfl) ?_
      refine qp (by kernel_rfl) ?_
      refine qp (by kernel_rfl) ?_
      refine qp (by kernel_rfl) ?_
      refine qp (by kernel_rfl) ?_
      refine qp (by kernel_rfl) ?_
      refine qp (by kernel_rfl) ?_
      refine qp (wf (b := b112) rfl (by kernel_rfl) v114) ?_
      refine qv rfl (v := .bool true) (fun _ _ => r_pkT (ebool (b := b112) (by kernel_rfl) v114) (by kernel_rfl)) ?_
      refine qas (v := .bool true) ?_
      refine qnil ?_
      intro w116 u117
      have M118 := Mod.trans M93 (Mod.of_up u117)
      have M119 := Mod.trans M94 (Mod.of_up u117)
      have M120 := Mod.trans M95 (Mod.of_up u117)
      have M121 := Mod.trans hM2 (Mod.of_up u117)
      refine inb_n (then_n (rg_lit ?_))
      refine wmv (v := .int .i64 ((kl : Int))) ?_
      refine wl (sv rfl (v := .int .i64 (((kl + 1 : Nat) : Int))) (r_add (k := .i64) (m := ((kl : Int))) (n := 1) (c := (((kl + 1 : Nat) : Int))) (by kernel_rfl) (by kernel_rfl) ((IntWalk.i64_in _ (by omega)).trans (by omega))) ?_)
      refine was (v := .int .i64 (((kl + 1 : Nat) : Int))) ?_
      refine wnil (then_n ?_)
      refine ⟨nn - (kl + 1), ?_, (kl + 1), true, .int .i64 ((kl : Int)), .slice (some ⟨g, 0, none⟩) nn c, .int .i64 ((nn : Int)), .bool b96, .int .i64 ((kl : Int)), .int .i64 (((kl + 1 : Nat) : Int)), .bool tw, .bool tw, .int .i64 ((kl : Int)), .int .i64 0, .bool b103, .bool b103, .slice (some ⟨g, 0, none⟩) nn c, .int .i64 ((kl : Int)), .pointer (some ⟨g, kl * 10, none⟩), .pointer (some ⟨g, kl * 10 + 1, none⟩), .agg #[.int .i64 ((f x108).at_.t), .int .i64 ((f x108).at_.w)], .slice (some ⟨g, 0, none⟩) nn c, .int .i64 0, .pointer (some ⟨g, 0 * 10, none⟩), .pointer (some ⟨g, 0 * 10 + 1, none⟩), .agg #[.int .i64 ((f x110).at_.t), .int .i64 ((f x110).at_.w)], .bool b112, .bool b112, .bool b112, .bool b112, undef, undef, undef, undef, undef, undef, undef, undef, undef, undef, undef, undef, undef, undef, undef, undef, .bool true, rfl, (by kernel_rfl), M121, (by omega), NoTwin.yes⟩
      · omega
    refine qp (wf (b := tw) rfl (by kernel_rfl) v102) ?_
    refine qp (wf (b := tw) rfl (by kernel_rfl) v102) ?_
    refine qp (wf (b := tw) rfl (by kernel_rfl) v102) ?_
    refine qp (wf (b := tw) rfl (by kernel_rfl) v102) ?_
    refine qp (by kernel_rfl) ?_
    refine qp (by kernel_rfl) ?_
    refine qp (by kernel_rfl) ?_
    refine qp (by kernel_rfl) ?_
    refine qp (by kernel_rfl) ?_
    refine qp (by kernel_rfl) ?_
    refine qp (by kernel_rfl) ?_
    refine qp (by kernel_rfl) ?_
    refine qp (by kernel_rfl) ?_
    refine qp (by kernel_rfl) ?_
    refine qp (by kernel_rfl) ?_
    refine qp (wf (b := tw) rfl (by kernel_rfl) v102) ?_
    refine qv rfl (v := .bool true) (fun _ _ => r_pkT (ebool (b := tw) (by kernel_rfl) v102) (by kernel_rfl)) ?_
    refine qmv (v := .bool true) ?_
    refine qp (by kernel_rfl) ?_
    refine qp (by kernel_rfl) ?_
    refine qp (by kernel_rfl) ?_
    refine qp (by kernel_rfl) ?_
    refine qp (by kernel_rfl) ?_
    refine qp (by kernel_rfl) ?_
    refine qp (by kernel_rfl) ?_
    refine qp (by kernel_rfl) ?_
    refine qp (by kernel_rfl) ?_
    refine qp (by kernel_rfl) ?_
    refine qp (by kernel_rfl) ?_
    refine qp (by kernel_rfl) ?_
    refine qp (by kernel_rfl) ?_
    refine qp (by kernel_rfl) ?_
    refine qp (by kernel_rfl) ?_
    refine qp (by kernel_rfl) ?_
    refine qv rfl (v := .bool true) (fun _ _ => r_pkT (by kernel_rfl) (by kernel_rfl)) ?_
    refine qas (v := .bool true) ?_
    refine qnil ?_
    intro w103 u104
    have M105 := Mod.trans M93 (Mod.of_up u104)
    have M106 := Mod.trans M94 (Mod.of_up u104)
    have M107 := Mod.trans M95 (Mod.of_up u104)
    have M108 := Mod.trans hM2 (Mod.of_up u104)
    refine inb_n (then_n (rg_lit ?_))
    refine wmv (v := .int .i64 ((kl : Int))) ?_
    refine wl (sv rfl (v := .int .i64 (((kl + 1 : Nat) : Int))) (r_add (k := .i64) (m := ((kl : Int))) (n := 1) (c := (((kl + 1 : Nat) : Int))) (by kernel_rfl) (by kernel_rfl) ((IntWalk.i64_in _ (by omega)).trans (by omega))) ?_)
    refine was (v := .int .i64 (((kl + 1 : Nat) : Int))) ?_
    refine wnil (then_n ?_)
    refine ⟨nn - (kl + 1), ?_, (kl + 1), true, .int .i64 ((kl : Int)), .slice (some ⟨g, 0, none⟩) nn c, .int .i64 ((nn : Int)), .bool b96, .int .i64 ((kl : Int)), .int .i64 (((kl + 1 : Nat) : Int)), .bool tw, .bool tw, undef, undef, undef, undef, undef, undef, undef, undef, undef, undef, undef, undef, undef, undef, undef, undef, .bool true, .bool true, undef, undef, undef, undef, undef, undef, undef, undef, undef, undef, undef, undef, undef, undef, undef, undef, .bool true, rfl, (by kernel_rfl), M108, (by omega), NoTwin.yes⟩
    · omega
  have p11 := of_decide_eq_true (k9.trans v10)
  refine wp_cond_true (ebool (b := b8) (by kernel_rfl) v10) ?_
  refine wp_seq (rg_lit ?_)
  refine wl (sc rfl (r_callv (caps := []) (all := []) En.f13 (by kernel_rfl) (by kernel_rfl)) (alive_at) ?_)
  rintro e w12 ⟨rfl, u13⟩
  refine ⟨.bool true, rfl, ?_⟩
  have M14 := Mod.trans M5 (Mod.of_up u13)
  refine was (v := .bool true) ?_
  refine wnil (then_n (wp_ret (then_x (by nofun) ?_)))
  refine bodyPost_ret (v := .bool true) (res1 rfl (rv_t (by kernel_rfl))) (by kernel_rfl) ?_
  exact ⟨rfl, (Mod.up M14)⟩
end Go.Proofs.Ytefhfoioeoijlaa

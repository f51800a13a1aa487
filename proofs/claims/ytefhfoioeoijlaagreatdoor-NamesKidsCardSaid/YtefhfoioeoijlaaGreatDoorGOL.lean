/- GOL: printed by gen.py -/
import Derived.Test.YtefhfoioeoijlaaGreatDoorGN
set_option linter.unusedVariables false
set_option linter.unusedSimpArgs false
namespace Go.Proofs.YtefhfoioeoijlaaGreatDoor
open Go Go.RowKit Go.Sort
set_option maxHeartbeats 2000000 in
theorem light2_at {w : World} {lA : Option Addr} {lc : Nat} {os : List OpD} (h : OpRow0 w lA os) (hn : os.length ≤ 9223372036854775807) (m : Int) : Calls Tryz.prog 13 #[.slice lA os.length lc, .int .i64 m] w fun e w' => ∃ b, e = .returned (.bool b) ∧ (b = true → Small os ∧ (os.length : Int) ≤ m) ∧ Up w w' := by
  go_enter Tryz.func13, Tryz.ntmps13
  refine wp_seq (rg_lit ?_)
  refine was (v := .bool false) ?_
  refine wnil (then_n (wp_seq (wp_seq (rg_lit ?_))))
  refine wmv (v := .slice lA os.length lc) ?_
  refine wl (sv rfl (v := .int .i64 ((os.length : Int))) (r_len Ty.un22 (ad := lA) (n := os.length) (c := lc) (by kernel_rfl)) ?_)
  refine wmv (v := .int .i64 m) ?_
  refine wl (sb rfl (r_gt (k := .i64) (m := ((os.length : Int))) (n := m) (by kernel_rfl) (by kernel_rfl)) ?_)
  intro b1 k2
  refine wnil (then_n ?_)
  refine bcase b1 (fun v3 => ?_) (fun v3 => ?_)
  ·
   have p4 := of_decide_eq_false (k2.trans v3)
   refine wp_cond_false (ebool (b := b1) (by kernel_rfl) v3) ?_
   refine wp_skip (then_n (wp_seq (wp_seq (rg_lit ?_))))
   refine was (v := .int .i64 0) ?_
   refine wnil (then_n (wp_block ?_))
   refine lp (fun n a r1 => ∃ (k : Nat) (z4 z10 z11 z12 z13 z14 z15 z16 z17 z18 z19 z20 z21 z22 z23 z24 z25 z26 z27 z28 z29 z30 z31 : Value), (n = os.length - k) ∧ (a = ⟨#[.slice lA os.length lc, .int .i64 m, undef, undef, z4, .int .i64 ((k : Int)), .slice lA os.length lc, .int .i64 ((os.length : Int)), .int .i64 m, .bool b1, z10, z11, z12, z13, z14, z15, z16, z17, z18, z19, z20, z21, z22, z23, z24, z25, z26, z27, z28, z29, z30, z31], []⟩) ∧ (Mod [] w r1) ∧ (k ≤ os.length) ∧ (Hid (∀ (i : Nat) (o : OpD), i < k → os[i]? = some o → o.data.length ≤ 500))) ⟨_, 0, .bool false, undef, undef, undef, undef, undef, undef, undef, undef, undef, undef, undef, undef, undef, undef, undef, undef, undef, undef, undef, undef, undef, undef, rfl, (by kernel_rfl), Mod.refl _ _, Nat.zero_le _, (fun i o hi => absurd hi (Nat.not_lt_zero _))⟩ ?_
   rintro _ _ r1 ⟨k, z4, z10, z11, z12, z13, z14, z15, z16, z17, z18, z19, z20, z21, z22, z23, z24, z25, z26, z27, z28, z29, z30, z31, rfl, rfl, hM1, hF1_0, hF1_1⟩
   have M5 := Mod.thin (Mod.refl [] w) hM1 (by simp)
   refine wp_seq (wp_seq (rg_lit ?_))
   refine wmv (v := .int .i64 ((k : Int))) ?_
   refine wmv (v := .slice lA os.length lc) ?_
   refine wl (sv rfl (v := .int .i64 ((os.length : Int))) (r_len Ty.un22 (ad := lA) (n := os.length) (c := lc) (by kernel_rfl)) ?_)
   refine wl (sb rfl (r_lt (k := .i64) (m := ((k : Int))) (n := ((os.length : Int))) (by kernel_rfl) (by kernel_rfl)) ?_)
   intro b6 k7
   refine wnil (then_n ?_)
   refine bcase b6 (fun v8 => ?_) (fun v8 => ?_)
   ·
    have p9 := of_decide_eq_false (k7.trans v8)
    refine wp_cond_false (ebool (b := b6) (by kernel_rfl) v8) ?_
    refine wp_exit (then_x (by nofun) (then_x (by nofun) (inb_hit (then_n (wp_seq (rg_lit ?_))))))
    refine was (v := .bool true) ?_
    refine wnil (then_n (wp_ret ?_))
    refine bodyPost_ret (v := .bool true) (res1 rfl (rv_t (by kernel_rfl))) (by kernel_rfl) ?_
    exact ⟨_, rfl, fun _ => ⟨light_end hF1_1 (by omega), by omega⟩, (Mod.up M5)⟩
   have p9 := of_decide_eq_true (k7.trans v8)
   have q10 : k < os.length := by omega
   have q11 : k < os.length := by omega
   refine wp_cond_true (ebool (b := b6) (by kernel_rfl) v8) ?_
   refine wp_skip (then_n (wp_seq (wp_block (wp_seq (rg_lit ?_)))))
   refine wmv (v := .slice lA os.length lc) ?_
   refine wmv (v := .int .i64 ((k : Int))) ?_
   have h12 := (OpRow0.up h (Mod.up M5))
   obtain ⟨o13, ho13⟩ : ∃ x, os[k]? = some x := ⟨_, List.getElem?_eq_getElem q11⟩
   obtain ⟨g13, f13, oA13, on13, oc13, hA13, hl13, hc13, hD13, hs13⟩ := h12 k o13 ho13
   refine wl (sv rfl (v := .pointer (some ⟨g13, f13 + k * 10, none⟩)) (r_ixaddr' (A := lA) (b := g13) (o := f13) (n := os.length) (c := lc) (sz := 10) (j := (k : Int)) (m := f13 + k * 10) (by kernel_rfl) hA13 (by kernel_rfl) Ty.un22 Ty.sz49 (by omega) (by omega) (by simp)) ?_)
   refine wl (sv rfl (v := .pointer (some ⟨g13, f13 + k * 10 + 8, none⟩)) (r_fieldAddr (u := .pointer (some ⟨g13, f13 + k * 10, none⟩)) (by kernel_rfl) (fun _ => (by kernel_rfl))) ?_)
   refine wl (sv rfl (v := .string o13.name) (r_loadc (by kernel_rfl) Ty.ag9 (hc13 8 _ rfl)) ?_)
   refine wl (sv rfl (v := .int .i64 ((o13.name.size : Int))) (r_lens Ty.un9 (s := o13.name) (by kernel_rfl)) ?_)
   refine wl (sb rfl (r_gt (k := .i64) (m := ((o13.name.size : Int))) (n := 40) (by kernel_rfl) (by kernel_rfl)) ?_)
   intro b14 k15
   refine wmv (v := .bool b14) ?_
   refine bcase b14 (fun v16 => ?_) (fun v16 => ?_)
   ·
    have p17 := of_decide_eq_false (k15.trans v16)
    refine wl (sv (wt (b := b14) rfl (by kernel_rfl) v16) (v := .slice lA os.length lc) (r_move (by kernel_rfl)) ?_)
    refine wl (sv (wt (b := b14) rfl (by kernel_rfl) v16) (v := .int .i64 ((k : Int))) (r_move (by kernel_rfl)) ?_)
    obtain ⟨g18, f18, oA18, on18, oc18, hA18, hl18, hc18, hD18, hs18⟩ := h12 k o13 ho13
    refine wl (sv (wt (b := b14) rfl (by kernel_rfl) v16) (v := .pointer (some ⟨g18, f18 + k * 10, none⟩)) (r_ixaddr' (A := lA) (b := g18) (o := f18) (n := os.length) (c := lc) (sz := 10) (j := (k : Int)) (m := f18 + k * 10) (by kernel_rfl) hA18 (by kernel_rfl) Ty.un22 Ty.sz49 (by omega) (by omega) (by simp)) ?_)
    refine wl (sv (wt (b := b14) rfl (by kernel_rfl) v16) (v := .pointer (some ⟨g18, f18 + k * 10 + 9, none⟩)) (r_fieldAddr (u := .pointer (some ⟨g18, f18 + k * 10, none⟩)) (by kernel_rfl) (fun _ => (by kernel_rfl))) ?_)
    refine wl (sv (wt (b := b14) rfl (by kernel_rfl) v16) (v := .slice oA18 on18 oc18) (r_loadc (by kernel_rfl) Ty.ag40 (hc18 9 _ rfl)) ?_)
    refine wl (sv (wt (b := b14) rfl (by kernel_rfl) v16) (v := .int .i64 ((on18 : Int))) (r_len Ty.un40 (ad := oA18) (n := on18) (c := oc18) (by kernel_rfl)) ?_)
    refine wl (sb (wt (b := b14) rfl (by kernel_rfl) v16) (r_gt (k := .i64) (m := ((on18 : Int))) (n := 500) (by kernel_rfl) (by kernel_rfl)) ?_)
    intro b19 k20
    refine wl (sv rfl (v := .bool b19) (r_pkF (ebool (b := b14) (by kernel_rfl) v16) (by kernel_rfl)) ?_)
    refine wnil (then_n ?_)
    refine bcase b19 (fun v21 => ?_) (fun v21 => ?_)
    ·
     have p22 := of_decide_eq_false (k20.trans v21)
     refine wp_cond_false (ebool (b := b19) (by kernel_rfl) v21) ?_
     refine wp_skip (inb_n (then_n (rg_lit ?_)))
     refine wmv (v := .int .i64 ((k : Int))) ?_
     refine wl (sv rfl (v := .int .i64 (((k : Int)) + 1)) (r_add (k := .i64) (m := ((k : Int))) (n := 1) (by kernel_rfl) (by kernel_rfl) (IntWalk.i64_in _ (by omega))) ?_)
     refine was (v := .int .i64 (((k : Int)) + 1)) ?_
     refine wnil (then_n ?_)
     refine ⟨os.length - (k + 1), ?_, (k + 1), z4, .int .i64 ((k : Int)), .slice lA os.length lc, .int .i64 ((os.length : Int)), .bool b6, .int .i64 ((k : Int)), .int .i64 (((k : Int)) + 1), .slice lA os.length lc, .int .i64 ((k : Int)), .pointer (some ⟨g13, f13 + k * 10, none⟩), .pointer (some ⟨g13, f13 + k * 10 + 8, none⟩), .string o13.name, .int .i64 ((o13.name.size : Int)), .bool b14, .bool b14, .slice lA os.length lc, .int .i64 ((k : Int)), .pointer (some ⟨g18, f18 + k * 10, none⟩), .pointer (some ⟨g18, f18 + k * 10 + 9, none⟩), .slice oA18 on18 oc18, .int .i64 ((on18 : Int)), .bool b19, .bool b19, rfl, (by kernel_rfl), hM1, (by omega), (light_next hF1_1 ho13 hD18 p22)⟩
     · omega
    have p22 := of_decide_eq_true (k20.trans v21)
    refine wp_cond_true (ebool (b := b19) (by kernel_rfl) v21) ?_
    refine wp_seq (rg_lit ?_)
    refine was (v := .bool false) ?_
    refine wnil (then_n (wp_ret (inb_r (then_x (by nofun) (then_x (by nofun) (inb_r (then_x (by nofun) ?_)))))))
    refine bodyPost_ret (v := .bool false) (res1 rfl (rv_t (by kernel_rfl))) (by kernel_rfl) ?_
    exact ⟨_, rfl, fun h => (by cases h), (Mod.up M5)⟩
   have p17 := of_decide_eq_true (k15.trans v16)
   refine wl (sp (wf (b := b14) rfl (by kernel_rfl) v16) ?_)
   refine wl (sp (wf (b := b14) rfl (by kernel_rfl) v16) ?_)
   refine wl (sp (wf (b := b14) rfl (by kernel_rfl) v16) ?_)
   refine wl (sp (wf (b := b14) rfl (by kernel_rfl) v16) ?_)
   refine wl (sp (wf (b := b14) rfl (by kernel_rfl) v16) ?_)
   refine wl (sp (wf (b := b14) rfl (by kernel_rfl) v16) ?_)
   refine wl (sp (wf (b := b14) rfl (by kernel_rfl) v16) ?_)
   refine wl (sv rfl (v := .bool true) (r_pkT (ebool (b := b14) (by kernel_rfl) v16) (by kernel_rfl)) ?_)
   refine wnil (then_n ?_)
   refine wp_cond_true (by kernel_rfl) ?_
   refine wp_seq (rg_lit ?_)
   refine was (v := .bool false) ?_
   refine wnil (then_n (wp_ret (inb_r (then_x (by nofun) (then_x (by nofun) (inb_r (then_x (by nofun) ?_)))))))
   refine bodyPost_ret (v := .bool false) (res1 rfl (rv_t (by kernel_rfl))) (by kernel_rfl) ?_
   exact ⟨_, rfl, fun h => (by cases h), (Mod.up M5)⟩
  have p4 := of_decide_eq_true (k2.trans v3)
  refine wp_cond_true (ebool (b := b1) (by kernel_rfl) v3) ?_
  refine wp_seq (rg_lit ?_)
  refine was (v := .bool false) ?_
  refine wnil (then_n (wp_ret (then_x (by nofun) ?_)))
  refine bodyPost_ret (v := .bool false) (res1 rfl (rv_t (by kernel_rfl))) (by kernel_rfl) ?_
  exact ⟨_, rfl, fun h => (by cases h), (Mod.up (Mod.refl [] w))⟩
end Go.Proofs.YtefhfoioeoijlaaGreatDoor

/- GLG: printed by gen.py -/
import Derived.Test.YtefhfoioeoijlaaGreatGLE
import Derived.Test.YtefhfoioeoijlaaGreatLogs
set_option linter.unusedVariables false
set_option linter.unusedSimpArgs false
namespace Go.Proofs.YtefhfoioeoijlaaGreat
open Go Go.RowKit Go.Sort
theorem tkS {ss : List GStep} {k : Nat} {x : GStep} (h : ss[k]? = some x) : (ss.take (k + 1)).map (·.o) = (ss.take k).map (·.o) ++ [x.o] := by rw [List.take_add_one, h]; simp
theorem light2_n {w : World} {lA : Option Addr} {lc n : Nat} {os : List OpD} (h : OpRow0 w lA os) (hn : os.length ≤ 9223372036854775807) (e : n = os.length) (m : Int) : Calls Tryz.prog 19 #[.slice lA n lc, .int .i64 m] w fun e w' => ∃ b, e = .returned (.bool b) ∧ (b = true → Small os ∧ (os.length : Int) ≤ m) ∧ Up w w' := by subst e; exact light2_at h hn m
theorem names0 {w : World} {A : Option Addr} {ss : List GStep} (h : StRow0 w A ss) : ∀ x ∈ ss.map (·.o), x.name.size ≤ 9223372036854775807 := fun x hx => by
  obtain ⟨s, hs, rfl⟩ := List.mem_map.1 hx
  obtain ⟨i, hi⟩ := List.mem_iff_getElem?.1 hs
  obtain ⟨_, _, _, _, _, _, _, _, _, hn⟩ := h i s hi
  exact hn
set_option maxHeartbeats 2000000 in
theorem light17_at {w : World} {lA : Option Addr} {lc : Nat} {ss : List GStep} (h : StRow0 w lA ss) (hn : ss.length ≤ 1300000000000) (m : Int) : Calls Tryz.prog 4 #[.slice lA ss.length lc, .int .i64 m] w fun e w' => ∃ b, e = .returned (.bool b) ∧ (b = true → SmallS ss ∧ (ss.length : Int) ≤ m) ∧ Up w w' := by
  go_enter Tryz.func4, Tryz.ntmps4
  refine wp_seq (rg_lit ?_)
  refine was (v := .bool false) ?_
  refine wnil (then_n (wp_seq (rg_lit ?_)))
  refine was (v := .slice none 0 0) ?_
  refine wnil (then_n (wp_seq (wp_seq (rg_lit ?_))))
  refine was (v := .int .i64 0) ?_
  refine wnil (then_n (wp_block ?_))
  refine lp (fun n a r1 => ∃ (kk : Nat) (oA : Option Addr) (on : Nat) (oc : Nat) (z7 z8 z9 z10 z11 z12 z13 z14 z15 z16 z17 z18 z19 z20 : Value), (n = ss.length - kk) ∧ (a = ⟨#[.slice lA ss.length lc, .int .i64 m, undef, undef, .bool false, .slice oA on oc, .int .i64 ((kk : Int)), z7, z8, z9, z10, z11, z12, z13, z14, z15, z16, z17, z18, z19, z20, undef, undef, undef], []⟩) ∧ (Mod [] w r1) ∧ (kk ≤ ss.length) ∧ (ORow0 w.heap.size r1 (.slice oA on oc) ((ss.take kk).map (·.o)))) ⟨_, 0, none, 0, 0, undef, undef, undef, undef, undef, undef, undef, undef, undef, undef, undef, undef, undef, undef, rfl, (by kernel_rfl), Mod.refl _ _, (Nat.zero_le _), (ORow0.nil _ _)⟩ ?_
  rintro _ _ r1 ⟨kk, oA, on, oc, z7, z8, z9, z10, z11, z12, z13, z14, z15, z16, z17, z18, z19, z20, rfl, rfl, hM1, hF1_0, hF1_1⟩
  have M1 := Mod.thin (Mod.refl [] w) hM1 (by simp)
  refine wp_seq (wp_seq (rg_lit ?_))
  refine wmv (v := .int .i64 ((kk : Int))) ?_
  refine wmv (v := .slice lA ss.length lc) ?_
  refine wl (sv rfl (v := .int .i64 ((ss.length : Int))) (r_len Ty.un22 (ad := lA) (n := ss.length) (c := lc) (by kernel_rfl)) ?_)
  refine wl (sb rfl (r_lt (k := .i64) (m := ((kk : Int))) (n := ((ss.length : Int))) (by kernel_rfl) (by kernel_rfl)) ?_)
  intro b2 k3
  refine wnil (then_n ?_)
  refine bcase b2 (fun v4 => ?_) (fun v4 => ?_)
  ·
   have p5 := of_decide_eq_false (k3.trans v4)
   refine wp_cond_false (ebool (b := b2) (by kernel_rfl) v4) ?_
   refine wp_exit (then_x (by nofun) (then_x (by nofun) (inb_hit (then_n (wp_seq (rg_lit ?_))))))
   refine wmv (v := .slice oA on oc) ?_
   refine wmv (v := .int .i64 m) ?_
   have hOs : ORow0 _ r1 (.slice oA on oc) (ss.map (·.o)) := ORow0.to hF1_1 (by rw [List.take_of_length_le (by omega)])
   have hOn : on = (ss.map (·.o)).length := hOs.len
   refine wl (sc rfl (r_callv (caps := []) (all := [.slice oA on oc, .int .i64 m]) En.f19 (by kernel_rfl) (by kernel_rfl)) (light2_n (ORow0.ops' hOs (names0 h)) (by simp; omega) hOn m) ?_)
   rintro e w6 ⟨lb7, rfl, h8, u9⟩
   refine ⟨.bool lb7, rfl, ?_⟩
   have M10 := Mod.trans M1 (Mod.of_up u9)
   have M11 := Mod.trans hM1 (Mod.of_up u9)
   refine was (v := .bool lb7) ?_
   refine wnil (then_n (wp_ret ?_))
   refine bodyPost_ret (v := .bool lb7) (res1 rfl (rv_t (by kernel_rfl))) (by kernel_rfl) ?_
   exact ⟨_, rfl, fun hb => by obtain ⟨k1, k2⟩ := h8 hb; rw [List.length_map] at k2; exact ⟨k1, k2⟩, (Mod.up M10)⟩
  have p5 := of_decide_eq_true (k3.trans v4)
  refine wp_cond_true (ebool (b := b2) (by kernel_rfl) v4) ?_
  refine wp_skip (then_n (wp_seq (wp_block (rg_lit ?_))))
  refine wmv (v := .slice oA on oc) ?_
  refine wmv (v := .slice lA ss.length lc) ?_
  refine wmv (v := .int .i64 ((kk : Int))) ?_
  have h7 := (StRow0.up h (Mod.up M1))
  obtain ⟨s6, hs6⟩ : ∃ x, ss[kk]? = some x := ⟨_, List.getElem?_eq_getElem (by omega)⟩
  obtain ⟨g6, f6, dA6, dn6, dc6, hA6, hl6, hc6, hD6, hz6⟩ := h7 kk s6 hs6
  refine wl (sv rfl (v := .pointer (some ⟨g6, f6 + kk * 11, none⟩)) (r_ixaddr' (A := lA) (b := g6) (o := f6) (n := ss.length) (c := lc) (sz := 11) (j := ((kk : Int))) (m := f6 + kk * 11) (by kernel_rfl) hA6 (by kernel_rfl) Ty.un22 Ty.sz40 (by omega) (by omega) (by simp)) ?_)
  refine wl (sv rfl (v := .pointer (some ⟨g6, f6 + kk * 11 + 1, none⟩)) (r_fieldAddr (u := .pointer (some ⟨g6, f6 + kk * 11, none⟩)) (by kernel_rfl) (fun _ => (by kernel_rfl))) ?_)
  refine wl (sv rfl (v := opV s6.o (.slice dA6 dn6 dc6)) (r_loadcN (k := f6 + kk * 11 + 1) (vs := (opC s6.o (.slice dA6 dn6 dc6))) (by kernel_rfl) Ty.ag38 Ty.sz38 (sub11 hc6)) ?_)
  refine wl (sn rfl (cs := (opC s6.o (.slice dA6 dn6 dc6)).toArray) (T := 38) (V := fun b => .slice (some ⟨b, 0, none⟩) 1 1) (r_buildSlice (n := 1) (ps := [(0, opV s6.o (.slice dA6 dn6 dc6))]) Ty.un28 Ty.sz38 Ty.zv38 (by decide) (by decide) (by kernel_rfl) (by kernel_rfl)) ?_)
  intro b8 w9 e10 h11 u12
  have g13 : w.heap.size ≤ b8 := by rw [e10]; exact M1.size
  have g14 : w.heap.size ≤ b8 := by rw [e10]; exact hM1.size
  have M15 := Mod.trans M1 (Mod.of_up u12)
  have M16 := Mod.trans hM1 (Mod.of_up u12)
  have h17 := (ORow0.up hF1_1 u12)
  rw [← hD6] at h11
  refine wl (snO0 rfl (L := ((ss.take kk).map (·.o))) (x := s6.o) (by kernel_rfl) (by kernel_rfl) h17 h11 M16.size (by simp; omega) ?_)
  intro A18 n19 c20 w21 h22 u23
  have M24 := Mod.trans' M15 u23 (fun k hk => Nat.le_trans (Mod.refl [] w).size (h17.own k hk).1)
  have M25 := Mod.trans' M16 u23 (fun k hk => Nat.le_trans (Nat.le_refl _) (h17.own k hk).1)
  refine was (v := .slice A18 n19 c20) ?_
  refine wnil (inb_n (then_n (rg_lit ?_)))
  refine wmv (v := .int .i64 ((kk : Int))) ?_
  refine wl (sv rfl (v := .int .i64 (((kk + 1 : Nat) : Int))) (r_add (k := .i64) (m := ((kk : Int))) (n := 1) (c := (((kk + 1 : Nat) : Int))) (by kernel_rfl) (by kernel_rfl) ((IntWalk.i64_in _ (by omega)).trans (by omega))) ?_)
  refine was (v := .int .i64 (((kk + 1 : Nat) : Int))) ?_
  refine wnil (then_n ?_)
  refine ⟨ss.length - (kk + 1), ?_, (kk + 1), A18, n19, c20, .int .i64 ((kk : Int)), .slice lA ss.length lc, .int .i64 ((ss.length : Int)), .bool b2, .int .i64 ((kk : Int)), .int .i64 (((kk + 1 : Nat) : Int)), .slice oA on oc, .slice lA ss.length lc, .int .i64 ((kk : Int)), .pointer (some ⟨g6, f6 + kk * 11, none⟩), .pointer (some ⟨g6, f6 + kk * 11 + 1, none⟩), opV s6.o (.slice dA6 dn6 dc6), .slice (some ⟨b8, 0, none⟩) 1 1, .slice A18 n19 c20, rfl, (by kernel_rfl), M25, (by omega), (ORow0.to h22 (tkS hs6).symm)⟩
  · omega
end Go.Proofs.YtefhfoioeoijlaaGreat

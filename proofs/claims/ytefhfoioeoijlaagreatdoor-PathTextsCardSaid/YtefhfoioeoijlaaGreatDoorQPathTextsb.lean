/- PG -/
import Derived.Test.YtefhfoioeoijlaaGreatDoorQaa
import Derived.Test.YtefhfoioeoijlaaGreatDoorQab
import Derived.Test.YtefhfoioeoijlaaGreatDoorQac
import Derived.Test.YtefhfoioeoijlaaGreatDoorQad
import Derived.Test.YtefhfoioeoijlaaGreatDoorQae
import Derived.Test.YtefhfoioeoijlaaGreatDoorQaf
import Derived.Test.YtefhfoioeoijlaaGreatDoorQag
import Derived.Test.YtefhfoioeoijlaaGreatDoorQah
import Derived.Test.YtefhfoioeoijlaaGreatDoorQai
import Derived.Test.YtefhfoioeoijlaaGreatDoorQaj
import Derived.Test.YtefhfoioeoijlaaGreatDoorQak
import Derived.Test.YtefhfoioeoijlaaGreatDoorQal
import Derived.Test.YtefhfoioeoijlaaGreatDoorQam
import Derived.Test.YtefhfoioeoijlaaGreatDoorQan
import Derived.Test.YtefhfoioeoijlaaGreatDoorQao
import Derived.Test.YtefhfoioeoijlaaGreatDoorQap
import Derived.Test.YtefhfoioeoijlaaGreatDoorQaq
import Derived.Test.YtefhfoioeoijlaaGreatDoorQar
import Derived.Test.YtefhfoioeoijlaaGreatDoorQas
import Derived.Test.YtefhfoioeoijlaaGreatDoorQat
import Derived.Test.YtefhfoioeoijlaaGreatDoorQau
import Derived.Test.YtefhfoioeoijlaaGreatDoorQav
import Derived.Test.YtefhfoioeoijlaaGreatDoorQPathTextsa
set_option linter.unusedVariables false
set_option linter.unusedSimpArgs false
namespace Go.Proofs.YtefhfoioeoijlaaGreatDoor
open Go Go.RowKit Go.Sort
set_option maxHeartbeats 2000000 in
theorem cutD_at {w : World} (s : ByteArray) (c : UInt8) (hs : s.size ≤ 100000) : Calls Tryz.prog 105 #[.string s, .int .u8 ((c.toNat : Nat) : Int)] w fun e w' => ∃ xA xc, e = .returned (.slice xA (cutL c s).length xc) ∧ SSRow w' (.slice xA (cutL c s).length xc) (cutL c s) ∧ NewS w.heap.size (.slice xA (cutL c s).length xc) ∧ Up w w' := by
  go_enter Tryz.func105, Tryz.ntmps105
  refine wp_seq (rg_lit ?_)
  refine was (v := .slice none 0 0) ?_
  refine wnil (then_n (wp_seq (rg_lit ?_)))
  refine was (v := .slice none 0 0) ?_
  refine wnil (then_n (wp_seq (rg_lit ?_)))
  refine was (v := .int .i64 0) ?_
  refine wnil (then_n (wp_seq (wp_seq (rg_lit ?_))))
  refine was (v := .int .i64 0) ?_
  refine wnil (then_n (wp_block ?_))
  refine lp (fun n a r1 => ∃ (k : Nat) (fr : Nat) (out : List ByteArray) (oA : Option Addr) (oc : Nat) (Z : Nat → Value), (n = s.size + 1 - k) ∧ (a = ⟨#[.string s, .int .u8 ((c.toNat : Nat) : Int), undef, undef, .slice none 0 0, .slice oA out.length oc, .int .i64 (fr : Int), .int .i64 (k : Int), (Z 8), (Z 9), (Z 10), (Z 11), (Z 12), (Z 13), (Z 14), (Z 15), (Z 16), (Z 17), (Z 18), (Z 19), (Z 20), (Z 21), (Z 22), (Z 23), (Z 24), (Z 25), (Z 26), (Z 27), (Z 28), (Z 29), (Z 30), (Z 31), (Z 32), (Z 33), undef], []⟩) ∧ (Mod [] w r1) ∧ (k ≤ s.size + 1) ∧ (out.length ≤ k) ∧ (CutI c s k fr out) ∧ (BRow w.heap.size r1 (.slice oA out.length oc) out)) ⟨_, 0, 0, [], none, 0, tget [undef, undef, undef, undef, undef, undef, undef, undef, undef, undef, undef, undef, undef, undef, undef, undef, undef, undef, undef, undef, undef, undef, undef, undef, undef, undef, undef, undef, undef, undef, undef, undef, undef, undef], rfl, (by kernel_rfl), Mod.refl _ _, (Nat.zero_le _), (Nat.zero_le _), (CutI.start c s), (BRow.nil _ _)⟩ ?_
  rintro _ _ r1 ⟨k, fr, out, oA, oc, Z, rfl, rfl, hM1, hF1_0, hF1_1, hF1_2, hF1_3⟩
  have M1 := Mod.thin (Mod.refl [] w) hM1 (by simp)
  refine wp_seq (wp_seq (rg_lit ?_))
  refine wmv (v := .int .i64 (k : Int)) ?_
  refine wmv (v := .string s) ?_
  refine wl (sv rfl (v := .int .i64 (s.size : Int)) (r_lens Ty.un9 (s := s) (by kernel_rfl)) ?_)
  refine wl (sb rfl (r_le (k := .i64) (m := (k : Int)) (n := (s.size : Int)) (by kernel_rfl) (by kernel_rfl)) ?_)
  intro b2 k3
  refine wnil (then_n ?_)
  refine bcase b2 (fun v4 => ?_) (fun v4 => ?_)
  ·
   have p5 := of_decide_eq_false (k3.trans v4)
   refine wp_cond_false (ebool (b := b2) (by kernel_rfl) v4) ?_
   refine wp_exit (then_x (by nofun) (then_x (by nofun) (inb_hit (then_n (wp_seq (rg_lit ?_))))))
   refine wmv (v := .slice oA out.length oc) ?_
   refine was (v := .slice oA out.length oc) ?_
   refine wnil (then_n (wp_ret ?_))
   refine bodyPost_ret (v := .slice oA out.length oc) (res1 rfl (rv_t (by kernel_rfl))) (by kernel_rfl) ?_
   have hdo : cutL c s = out := CutI.done hF1_2 (by omega)
   rw [hdo]
   exact ⟨oA, oc, rfl, BRow.ss hF1_3, fun k hk => (by first | exact (BRow.own hF1_3 k hk).1 | exact Nat.le_trans (by first | exact up_sz (Mod.up M1) | exact (Mod.up M1).size) (BRow.own hF1_3 k hk).1), (Mod.up M1)⟩
  have p5 := of_decide_eq_true (k3.trans v4)
  refine wp_cond_true (ebool (b := b2) (by kernel_rfl) v4) ?_
  refine wp_skip (then_n (wp_seq (wp_block (wp_seq (rg_lit ?_)))))
  refine wmv (v := .int .i64 (k : Int)) ?_
  refine wmv (v := .string s) ?_
  refine wl (sv rfl (v := .int .i64 (s.size : Int)) (r_lens Ty.un9 (s := s) (by kernel_rfl)) ?_)
  refine wl (sb rfl (r_eq (k := .i64) (m := (k : Int)) (n := (s.size : Int)) (by kernel_rfl) (by kernel_rfl)) ?_)
  intro b6 k7
  refine wmv (v := .bool b6) ?_
  refine bcase b6 (fun v8 => ?_) (fun v8 => ?_)
  ·
   have p9 := of_decide_eq_false (k7.trans v8)
   refine wl (sv (wt (b := b6) rfl (by kernel_rfl) v8) (v := .string s) (r_move (by kernel_rfl)) ?_)
   refine wl (sv (wt (b := b6) rfl (by kernel_rfl) v8) (v := .int .i64 (k : Int)) (r_move (by kernel_rfl)) ?_)
   obtain ⟨y10, hy10⟩ : ∃ x, s.data.toList[k]? = some x := ⟨_, List.getElem?_eq_getElem (by rw [← sz_len]; omega)⟩
   refine wl (sv (wt (b := b6) rfl (by kernel_rfl) v8) (v := .int .u8 ((y10.toNat : Nat) : Int)) (r_strix (s := s) (k := k) (c := y10) (by kernel_rfl) (by kernel_rfl) hy10 Tryz.underlying9) ?_)
   refine wl (sv (wt (b := b6) rfl (by kernel_rfl) v8) (v := .int .u8 ((c.toNat : Nat) : Int)) (r_move (by kernel_rfl)) ?_)
   refine wl (sb (wt (b := b6) rfl (by kernel_rfl) v8) (r_eq (k := .u8) (m := ((y10.toNat : Nat) : Int)) (n := ((c.toNat : Nat) : Int)) (by kernel_rfl) (by kernel_rfl)) ?_)
   intro b11 k12
   refine wl (sv rfl (v := .bool b11) (r_pkF (ebool (b := b6) (by kernel_rfl) v8) (by kernel_rfl)) ?_)
   refine wnil (then_n ?_)
   refine bcase b11 (fun v13 => ?_) (fun v13 => ?_)
   ·
    have p14 := of_decide_eq_false (k12.trans v13)
    refine wp_cond_false (ebool (b := b11) (by kernel_rfl) v13) ?_
    refine wp_skip (inb_n (then_n (rg_lit ?_)))
    refine wmv (v := .int .i64 (k : Int)) ?_
    refine wl (sv rfl (v := .int .i64 ((k + 1 : Nat) : Int)) (r_add (k := .i64) (m := (k : Int)) (n := 1) (c := ((k + 1 : Nat) : Int)) (by kernel_rfl) (by kernel_rfl) ((IntWalk.i64_in _ (by omega)).trans (by omega))) ?_)
    refine was (v := .int .i64 ((k + 1 : Nat) : Int)) ?_
    refine wnil (then_n ?_)
    refine ⟨s.size + 1 - (k + 1), ?_, (k + 1), fr, out, oA, oc, tget [undef, undef, undef, undef, undef, undef, undef, undef, .int .i64 (k : Int), .string s, .int .i64 (s.size : Int), .bool b2, .int .i64 (k : Int), .int .i64 ((k + 1 : Nat) : Int), .int .i64 (k : Int), .string s, .int .i64 (s.size : Int), .bool b6, .bool b6, .string s, .int .i64 (k : Int), .int .u8 ((y10.toNat : Nat) : Int), .int .u8 ((c.toNat : Nat) : Int), .bool b11, .bool b11, (Z 25), (Z 26), (Z 27), (Z 28), (Z 29), (Z 30), (Z 31), (Z 32), (Z 33)], rfl, (by kernel_rfl), hM1, (by omega), (by (try simp only [List.length_append, List.length_cons, List.length_nil]); omega), (CutI.miss hF1_2 hy10 p14), hF1_3⟩
    · omega
   have p14 := of_decide_eq_true (k12.trans v13)
   refine wp_cond_true (ebool (b := b11) (by kernel_rfl) v13) ?_
   refine wp_seq (rg_lit ?_)
   refine wmv (v := .slice oA out.length oc) ?_
   refine wmv (v := .string s) ?_
   refine wmv (v := .int .i64 (fr : Int)) ?_
   refine wmv (v := .int .i64 (k : Int)) ?_
   have h15 := CutI.fr hF1_2 (by omega)
   refine wl (sv rfl (v := .string (s.extract fr k)) (r_strsl (s := s) (a := fr) (b := k) (by kernel_rfl) (by kernel_rfl) (by kernel_rfl) (by omega) (by omega) Tryz.underlying9) ?_)
   refine wl (sn rfl (cs := #[.string (s.extract fr k)]) (T := 9) (V := fun b => .slice (some ⟨b, 0, none⟩) 1 1) (r_buildSlice (n := 1) (ps := [(0, .string (s.extract fr k))]) Ty.un69 Ty.sz9 Ty.zv9 (by decide) (by decide) (by kernel_rfl) (by kernel_rfl)) ?_)
   intro b16 w17 e18 h19 u20
   have g21 : w.heap.size ≤ b16 := by rw [e18]; exact M1.size
   have g22 : w.heap.size ≤ b16 := by rw [e18]; exact hM1.size
   have M23 := Mod.trans M1 (Mod.of_up u20)
   have M24 := Mod.trans hM1 (Mod.of_up u20)
   have h25 := (BRow.up hF1_3 u20)
   refine wl (snB rfl (L := out) (x := (s.extract fr k)) (by kernel_rfl) (by kernel_rfl) h25 Ty.un69 h19 M24.size (by omega) ?_)
   intro A26 c27 w28 h29 u30
   have M31 := Mod.trans' M23 u30 (fun k hk => Nat.le_trans (Mod.refl [] w).size (h25.own k hk).1)
   have M32 := Mod.trans' M24 u30 (fun k hk => Nat.le_trans (Nat.le_refl _) (h25.own k hk).1)
   refine was (v := .slice A26 ((out ++ [(s.extract fr k)]).length) c27) ?_
   refine wnil (then_n (rg_lit ?_))
   refine wmv (v := .int .i64 (k : Int)) ?_
   refine wl (sv rfl (v := .int .i64 ((k + 1 : Nat) : Int)) (r_add (k := .i64) (m := (k : Int)) (n := 1) (c := ((k + 1 : Nat) : Int)) (by kernel_rfl) (by kernel_rfl) ((IntWalk.i64_in _ (by omega)).trans (by omega))) ?_)
   refine was (v := .int .i64 ((k + 1 : Nat) : Int)) ?_
   refine wnil (inb_n (then_n (rg_lit ?_)))
   refine wmv (v := .int .i64 (k : Int)) ?_
   refine wl (sv rfl (v := .int .i64 ((k + 1 : Nat) : Int)) (r_add (k := .i64) (m := (k : Int)) (n := 1) (c := ((k + 1 : Nat) : Int)) (by kernel_rfl) (by kernel_rfl) ((IntWalk.i64_in _ (by omega)).trans (by omega))) ?_)
   refine was (v := .int .i64 ((k + 1 : Nat) : Int)) ?_
   refine wnil (then_n ?_)
   refine ⟨s.size + 1 - (k + 1), ?_, (k + 1), k + 1, (out ++ [(s.extract fr k)]), A26, c27, tget [undef, undef, undef, undef, undef, undef, undef, undef, .int .i64 (k : Int), .string s, .int .i64 (s.size : Int), .bool b2, .int .i64 (k : Int), .int .i64 ((k + 1 : Nat) : Int), .int .i64 (k : Int), .string s, .int .i64 (s.size : Int), .bool b6, .bool b6, .string s, .int .i64 (k : Int), .int .u8 ((y10.toNat : Nat) : Int), .int .u8 ((c.toNat : Nat) : Int), .bool b11, .bool b11, .slice oA out.length oc, .string s, .int .i64 (fr : Int), .int .i64 (k : Int), .string (s.extract fr k), .slice (some ⟨b16, 0, none⟩) 1 1, .slice A26 ((out ++ [(s.extract fr k)]).length) c27, .int .i64 (k : Int), .int .i64 ((k + 1 : Nat) : Int)], rfl, (by kernel_rfl), M32, (by omega), (by (try simp only [List.length_append, List.length_cons, List.length_nil]); omega), (CutI.hit hF1_2 (by rw [hy10, u8_of p14])), h29⟩
   · omega
  have p9 := of_decide_eq_true (k7.trans v8)
  refine wl (sp (wf (b := b6) rfl (by kernel_rfl) v8) ?_)
  refine wl (sp (wf (b := b6) rfl (by kernel_rfl) v8) ?_)
  refine wl (sp (wf (b := b6) rfl (by kernel_rfl) v8) ?_)
  refine wl (sp (wf (b := b6) rfl (by kernel_rfl) v8) ?_)
  refine wl (sp (wf (b := b6) rfl (by kernel_rfl) v8) ?_)
  refine wl (sv rfl (v := .bool true) (r_pkT (ebool (b := b6) (by kernel_rfl) v8) (by kernel_rfl)) ?_)
  refine wnil (then_n ?_)
  refine wp_cond_true (by kernel_rfl) ?_
  refine wp_seq (rg_lit ?_)
  refine wmv (v := .slice oA out.length oc) ?_
  refine wmv (v := .string s) ?_
  refine wmv (v := .int .i64 (fr : Int)) ?_
  refine wmv (v := .int .i64 (k : Int)) ?_
  have h10 := CutI.fr hF1_2 (by omega)
  refine wl (sv rfl (v := .string (s.extract fr k)) (r_strsl (s := s) (a := fr) (b := k) (by kernel_rfl) (by kernel_rfl) (by kernel_rfl) (by omega) (by omega) Tryz.underlying9) ?_)
  refine wl (sn rfl (cs := #[.string (s.extract fr k)]) (T := 9) (V := fun b => .slice (some ⟨b, 0, none⟩) 1 1) (r_buildSlice (n := 1) (ps := [(0, .string (s.extract fr k))]) Ty.un69 Ty.sz9 Ty.zv9 (by decide) (by decide) (by kernel_rfl) (by kernel_rfl)) ?_)
  intro b11 w12 e13 h14 u15
  have g16 : w.heap.size ≤ b11 := by rw [e13]; exact M1.size
  have g17 : w.heap.size ≤ b11 := by rw [e13]; exact hM1.size
  have M18 := Mod.trans M1 (Mod.of_up u15)
  have M19 := Mod.trans hM1 (Mod.of_up u15)
  have h20 := (BRow.up hF1_3 u15)
  refine wl (snB rfl (L := out) (x := (s.extract fr k)) (by kernel_rfl) (by kernel_rfl) h20 Ty.un69 h14 M19.size (by omega) ?_)
  intro A21 c22 w23 h24 u25
  have M26 := Mod.trans' M18 u25 (fun k hk => Nat.le_trans (Mod.refl [] w).size (h20.own k hk).1)
  have M27 := Mod.trans' M19 u25 (fun k hk => Nat.le_trans (Nat.le_refl _) (h20.own k hk).1)
  refine was (v := .slice A21 ((out ++ [(s.extract fr k)]).length) c22) ?_
  refine wnil (then_n (rg_lit ?_))
  refine wmv (v := .int .i64 (k : Int)) ?_
  refine wl (sv rfl (v := .int .i64 ((k + 1 : Nat) : Int)) (r_add (k := .i64) (m := (k : Int)) (n := 1) (c := ((k + 1 : Nat) : Int)) (by kernel_rfl) (by kernel_rfl) ((IntWalk.i64_in _ (by omega)).trans (by omega))) ?_)
  refine was (v := .int .i64 ((k + 1 : Nat) : Int)) ?_
  refine wnil (inb_n (then_n (rg_lit ?_)))
  refine wmv (v := .int .i64 (k : Int)) ?_
  refine wl (sv rfl (v := .int .i64 ((k + 1 : Nat) : Int)) (r_add (k := .i64) (m := (k : Int)) (n := 1) (c := ((k + 1 : Nat) : Int)) (by kernel_rfl) (by kernel_rfl) ((IntWalk.i64_in _ (by omega)).trans (by omega))) ?_)
  refine was (v := .int .i64 ((k + 1 : Nat) : Int)) ?_
  refine wnil (then_n ?_)
  refine ⟨s.size + 1 - (k + 1), ?_, (k + 1), k + 1, (out ++ [(s.extract fr k)]), A21, c22, tget [undef, undef, undef, undef, undef, undef, undef, undef, .int .i64 (k : Int), .string s, .int .i64 (s.size : Int), .bool b2, .int .i64 (k : Int), .int .i64 ((k + 1 : Nat) : Int), .int .i64 (k : Int), .string s, .int .i64 (s.size : Int), .bool b6, .bool b6, undef, undef, undef, undef, undef, .bool true, .slice oA out.length oc, .string s, .int .i64 (fr : Int), .int .i64 (k : Int), .string (s.extract fr k), .slice (some ⟨b11, 0, none⟩) 1 1, .slice A21 ((out ++ [(s.extract fr k)]).length) c22, .int .i64 (k : Int), .int .i64 ((k + 1 : Nat) : Int)], rfl, (by kernel_rfl), M27, (by omega), (by (try simp only [List.length_append, List.length_cons, List.length_nil]); omega), (CutI.last hF1_2 (by omega)), h24⟩
  · omega
set_option maxHeartbeats 2000000 in
theorem digD_at {w : World} (s : ByteArray) (dd : Int) (hs : s.size ≤ 100000) : Calls Tryz.prog 158 #[.string s, .int .i64 dd] w fun e w' => e = .returned (.bool (digB dd s)) ∧ Up w w' := by
  go_enter Tryz.func158, Tryz.ntmps158
  refine wp_seq (rg_lit ?_)
  refine was (v := .bool false) ?_
  refine wnil (then_n (wp_seq (wp_seq (rg_lit ?_))))
  refine was (v := .int .i64 0) ?_
  refine wnil (then_n (wp_block ?_))
  refine lp (fun n a r1 => ∃ (k : Nat) (z4 z6 z7 z8 z9 z10 z11 z12 z13 z14 z15 z16 z17 z18 z19 z20 z21 : Value), (n = s.size - k) ∧ (a = ⟨#[.string s, .int .i64 dd, undef, undef, z4, .int .i64 (k : Int), z6, z7, z8, z9, z10, z11, z12, z13, z14, z15, z16, z17, z18, z19, z20, z21, undef, undef, undef, undef, undef, undef, undef, undef, undef], []⟩) ∧ (Mod [] w r1) ∧ (k ≤ s.size) ∧ (Hid (∀ (j : Nat) (y : UInt8), j < k → s.data.toList[j]? = some y → ¬ ¬ (48 ≤ y.toNat ∧ y.toNat ≤ 57)))) ⟨_, 0, .bool false, undef, undef, undef, undef, undef, undef, undef, undef, undef, undef, undef, undef, undef, undef, undef, undef, rfl, (by kernel_rfl), Mod.refl _ _, (Nat.zero_le _), (fun j y hj => absurd hj (Nat.not_lt_zero _))⟩ ?_
  rintro _ _ r1 ⟨k, z4, z6, z7, z8, z9, z10, z11, z12, z13, z14, z15, z16, z17, z18, z19, z20, z21, rfl, rfl, hM1, hF1_0, hF1_1⟩
  have M1 := Mod.thin (Mod.refl [] w) hM1 (by simp)
  refine wp_seq (wp_seq (rg_lit ?_))
  refine wmv (v := .int .i64 (k : Int)) ?_
  refine wmv (v := .string s) ?_
  refine wl (sv rfl (v := .int .i64 (s.size : Int)) (r_lens Ty.un9 (s := s) (by kernel_rfl)) ?_)
  refine wl (sb rfl (r_lt (k := .i64) (m := (k : Int)) (n := (s.size : Int)) (by kernel_rfl) (by kernel_rfl)) ?_)
  intro b2 k3
  refine wnil (then_n ?_)
  refine bcase b2 (fun v4 => ?_) (fun v4 => ?_)
  ·
   have p5 := of_decide_eq_false (k3.trans v4)
   refine wp_cond_false (ebool (b := b2) (by kernel_rfl) v4) ?_
   refine wp_exit (then_x (by nofun) (then_x (by nofun) (inb_hit (then_n (wp_seq (rg_lit ?_))))))
   refine wmv (v := .string s) ?_
   refine wl (sv rfl (v := .int .i64 (s.size : Int)) (r_lens Ty.un9 (s := s) (by kernel_rfl)) ?_)
   refine wl (sb rfl (r_ge (k := .i64) (m := (s.size : Int)) (n := 1) (by kernel_rfl) (by kernel_rfl)) ?_)
   intro b6 k7
   refine wmv (v := .bool b6) ?_
   refine bcase b6 (fun v8 => ?_) (fun v8 => ?_)
   ·
    have p9 := of_decide_eq_false (k7.trans v8)
    refine wl (sp (wf (b := b6) rfl (by kernel_rfl) v8) ?_)
    refine wl (sp (wf (b := b6) rfl (by kernel_rfl) v8) ?_)
    refine wl (sp (wf (b := b6) rfl (by kernel_rfl) v8) ?_)
    refine wl (sp (wf (b := b6) rfl (by kernel_rfl) v8) ?_)
    refine wl (sv rfl (v := .bool false) (r_pkF (ebool (b := b6) (by kernel_rfl) v8) (by kernel_rfl)) ?_)
    refine was (v := .bool false) ?_
    refine wnil (then_n (wp_ret ?_))
    refine bodyPost_ret (v := .bool false) (res1 rfl (rv_t (by kernel_rfl))) (by kernel_rfl) ?_
    exact ⟨by rw [dig_1 p9], (Mod.up M1)⟩
   have p9 := of_decide_eq_true (k7.trans v8)
   refine wl (sv (wt (b := b6) rfl (by kernel_rfl) v8) (v := .string s) (r_move (by kernel_rfl)) ?_)
   refine wl (sv (wt (b := b6) rfl (by kernel_rfl) v8) (v := .int .i64 (s.size : Int)) (r_lens Ty.un9 (s := s) (by kernel_rfl)) ?_)
   refine wl (sv (wt (b := b6) rfl (by kernel_rfl) v8) (v := .int .i64 dd) (r_move (by kernel_rfl)) ?_)
   refine wl (sb (wt (b := b6) rfl (by kernel_rfl) v8) (r_le (k := .i64) (m := (s.size : Int)) (n := dd) (by kernel_rfl) (by kernel_rfl)) ?_)
   intro b10 k11
   refine wl (sv rfl (v := .bool b10) (r_pkT (ebool (b := b6) (by kernel_rfl) v8) (by kernel_rfl)) ?_)
   refine was (v := .bool b10) ?_
   refine wnil (then_n (wp_ret ?_))
   refine bodyPost_ret (v := .bool b10) (res1 rfl (rv_t (by kernel_rfl))) (by kernel_rfl) ?_
   have hall : ∀ x ∈ s.data.toList, 48 ≤ x.toNat ∧ x.toNat ≤ 57 := fun x hx => by obtain ⟨j, hj⟩ := List.mem_iff_getElem?.1 hx; exact Decidable.not_not.1 (none_end (p := fun c : UInt8 => ¬ (48 ≤ c.toNat ∧ c.toNat ≤ 57)) hF1_1 (by rw [← sz_len]; omega) j x hj)
   exact ⟨ret_bool (by rw [dig_all hall, decide_eq_true p9, Bool.true_and]; first | exact k11 | exact (k11).symm), (Mod.up M1)⟩
  have p5 := of_decide_eq_true (k3.trans v4)
  have q6 : k < s.size := by omega
  have q7 : k < s.size := by omega
  refine wp_cond_true (ebool (b := b2) (by kernel_rfl) v4) ?_
  refine wp_skip (then_n (wp_seq (wp_block (wp_seq (rg_lit ?_)))))
  refine wmv (v := .string s) ?_
  refine wmv (v := .int .i64 (k : Int)) ?_
  obtain ⟨y8, hy8⟩ : ∃ x, s.data.toList[k]? = some x := ⟨_, List.getElem?_eq_getElem (by rw [← sz_len]; omega)⟩
  refine wl (sv rfl (v := .int .u8 ((y8.toNat : Nat) : Int)) (r_strix (s := s) (k := k) (c := y8) (by kernel_rfl) (by kernel_rfl) hy8 Tryz.underlying9) ?_)
  refine wl (sb rfl (r_lt (k := .u8) (m := ((y8.toNat : Nat) : Int)) (n := 48) (by kernel_rfl) (by kernel_rfl)) ?_)
  intro b9 k10
  refine wmv (v := .bool b9) ?_
  refine bcase b9 (fun v11 => ?_) (fun v11 => ?_)
  ·
   have p12 := of_decide_eq_false (k10.trans v11)
   refine wl (sv (wt (b := b9) rfl (by kernel_rfl) v11) (v := .string s) (r_move (by kernel_rfl)) ?_)
   refine wl (sv (wt (b := b9) rfl (by kernel_rfl) v11) (v := .int .i64 (k : Int)) (r_move (by kernel_rfl)) ?_)
   refine wl (sv (wt (b := b9) rfl (by kernel_rfl) v11) (v := .int .u8 ((y8.toNat : Nat) : Int)) (r_strix (s := s) (k := k) (c := y8) (by kernel_rfl) (by kernel_rfl) hy8 Tryz.underlying9) ?_)
   refine wl (sb (wt (b := b9) rfl (by kernel_rfl) v11) (r_gt (k := .u8) (m := ((y8.toNat : Nat) : Int)) (n := 57) (by kernel_rfl) (by kernel_rfl)) ?_)
   intro b14 k15
   refine wl (sv rfl (v := .bool b14) (r_pkF (ebool (b := b9) (by kernel_rfl) v11) (by kernel_rfl)) ?_)
   refine wnil (then_n ?_)
   refine bcase b14 (fun v16 => ?_) (fun v16 => ?_)
   ·
    have p17 := of_decide_eq_false (k15.trans v16)
    refine wp_cond_false (ebool (b := b14) (by kernel_rfl) v16) ?_
    refine wp_skip (inb_n (then_n (rg_lit ?_)))
    refine wmv (v := .int .i64 (k : Int)) ?_
    refine wl (sv rfl (v := .int .i64 ((k + 1 : Nat) : Int)) (r_add (k := .i64) (m := (k : Int)) (n := 1) (c := ((k + 1 : Nat) : Int)) (by kernel_rfl) (by kernel_rfl) ((IntWalk.i64_in _ (by omega)).trans (by omega))) ?_)
    refine was (v := .int .i64 ((k + 1 : Nat) : Int)) ?_
    refine wnil (then_n ?_)
    refine ⟨s.size - (k + 1), ?_, (k + 1), z4, .int .i64 (k : Int), .string s, .int .i64 (s.size : Int), .bool b2, .int .i64 (k : Int), .int .i64 ((k + 1 : Nat) : Int), .string s, .int .i64 (k : Int), .int .u8 ((y8.toNat : Nat) : Int), .bool b9, .bool b9, .string s, .int .i64 (k : Int), .int .u8 ((y8.toNat : Nat) : Int), .bool b14, .bool b14, rfl, (by kernel_rfl), hM1, (by omega), (none_next (p := fun c : UInt8 => ¬ (48 ≤ c.toNat ∧ c.toNat ≤ 57)) hF1_1 hy8 (by have q1 := p12; have q2 := p17; omega))⟩
    · omega
   have p17 := of_decide_eq_true (k15.trans v16)
   refine wp_cond_true (ebool (b := b14) (by kernel_rfl) v16) ?_
   refine wp_seq (rg_lit ?_)
   refine was (v := .bool false) ?_
   refine wnil (then_n (wp_ret (inb_r (then_x (by nofun) (then_x (by nofun) (inb_r (then_x (by nofun) ?_)))))))
   refine bodyPost_ret (v := .bool false) (res1 rfl (rv_t (by kernel_rfl))) (by kernel_rfl) ?_
   exact ⟨by rw [dig_no (List.mem_of_getElem? hy8) (by have q1 := p17; omega)], (Mod.up M1)⟩
  have p12 := of_decide_eq_true (k10.trans v11)
  refine wl (sp (wf (b := b9) rfl (by kernel_rfl) v11) ?_)
  refine wl (sp (wf (b := b9) rfl (by kernel_rfl) v11) ?_)
  refine wl (sp (wf (b := b9) rfl (by kernel_rfl) v11) ?_)
  refine wl (sp (wf (b := b9) rfl (by kernel_rfl) v11) ?_)
  refine wl (sv rfl (v := .bool true) (r_pkT (ebool (b := b9) (by kernel_rfl) v11) (by kernel_rfl)) ?_)
  refine wnil (then_n ?_)
  refine wp_cond_true (by kernel_rfl) ?_
  refine wp_seq (rg_lit ?_)
  refine was (v := .bool false) ?_
  refine wnil (then_n (wp_ret (inb_r (then_x (by nofun) (then_x (by nofun) (inb_r (then_x (by nofun) ?_)))))))
  refine bodyPost_ret (v := .bool false) (res1 rfl (rv_t (by kernel_rfl))) (by kernel_rfl) ?_
  exact ⟨by rw [dig_no (List.mem_of_getElem? hy8) (by have q1 := p12; omega)], (Mod.up M1)⟩
set_option maxHeartbeats 2000000 in
theorem partD_at {w : World} (s : ByteArray) (hs : s.size ≤ 100000) : Calls Tryz.prog 109 #[.string s] w fun e w' => e = .returned (.bool (partB s)) ∧ Up w w' := by
  go_enter Tryz.func109, Tryz.ntmps109
  refine wp_seq (rg_lit ?_)
  refine was (v := .bool false) ?_
  refine wnil (then_n (wp_seq (rg_lit ?_)))
  refine wmv (v := .string s) ?_
  refine wl (sc rfl (r_callv (caps := []) (all := [.string s, .int .u8 126]) En.f105 (by kernel_rfl) (by kernel_rfl)) (cutD_at s 126 (by omega)) ?_)
  rintro e w1 ⟨A2, c3, rfl, h4, h5, u6⟩
  refine ⟨.slice A2 ((cutL 126 s).length) c3, rfl, ?_⟩
  have z7 := cutL_pos 126 s
  have z8 := cutL_count 126 s
  have M9 := Mod.trans (Mod.refl [] w) (Mod.of_up u6)
  refine was (v := .slice A2 ((cutL 126 s).length) c3) ?_
  refine wnil (then_n (wp_seq (wp_seq (rg_lit ?_))))
  refine wmv (v := .slice A2 ((cutL 126 s).length) c3) ?_
  refine wl (sv rfl (v := .int .i64 (((cutL 126 s).length) : Int)) (r_len Ty.un69 (ad := A2) (n := ((cutL 126 s).length)) (c := c3) (by kernel_rfl)) ?_)
  refine wl (sb rfl (r_eq (k := .i64) (m := (((cutL 126 s).length) : Int)) (n := 1) (by kernel_rfl) (by kernel_rfl)) ?_)
  intro b10 k11
  refine wnil (then_n ?_)
  refine bcase b10 (fun v12 => ?_) (fun v12 => ?_)
  ·
   have p13 := of_decide_eq_false (k11.trans v12)
   refine wp_cond_false (ebool (b := b10) (by kernel_rfl) v12) ?_
   refine wp_skip (then_n (wp_seq (wp_seq (rg_lit ?_))))
   refine wmv (v := .slice A2 ((cutL 126 s).length) c3) ?_
   refine wl (sv rfl (v := .int .i64 (((cutL 126 s).length) : Int)) (r_len Ty.un69 (ad := A2) (n := ((cutL 126 s).length)) (c := c3) (by kernel_rfl)) ?_)
   refine wl (sb rfl (r_ne (k := .i64) (m := (((cutL 126 s).length) : Int)) (n := 2) (by kernel_rfl) (by kernel_rfl)) ?_)
   intro b14 k15
   refine wnil (then_n ?_)
   refine bcase b14 (fun v16 => ?_) (fun v16 => ?_)
   ·
    have p17 := of_decide_eq_false (k15.trans v16)
    refine wp_cond_false (ebool (b := b14) (by kernel_rfl) v16) ?_
    refine wp_skip (then_n (wp_seq (rg_lit ?_)))
    refine wmv (v := .slice A2 ((cutL 126 s).length) c3) ?_
    obtain ⟨y18, hy18⟩ : ∃ x, (cutL 126 s)[1]? = some x := ⟨_, List.getElem?_eq_getElem (by omega)⟩
    obtain ⟨g18, f18, hA18, hl18, hc18⟩ := SSRow.get h4 hy18
    refine wl (sv rfl (v := .pointer (some ⟨g18, f18 + 1, none⟩)) (r_ixaddr' (A := A2) (b := g18) (o := f18) (n := ((cutL 126 s).length)) (c := c3) (sz := 1) (j := 1) (by kernel_rfl) hA18 (by kernel_rfl) Ty.un69 Ty.sz9 (by omega) (by omega) (by omega)) ?_)
    refine wl (sv rfl (v := .string y18) (r_loadc (by kernel_rfl) Ty.ag9 hc18) ?_)
    refine wl (sc rfl (r_callv (caps := []) (all := [.string y18, .int .u8 46]) En.f105 (by kernel_rfl) (by kernel_rfl)) (cutD_at y18 46 (by have q0 := cutL_size (List.mem_of_getElem? hy18); omega)) ?_)
    rintro e w19 ⟨A20, c21, rfl, h22, h23, u24⟩
    refine ⟨.slice A20 ((cutL 46 y18).length) c21, rfl, ?_⟩
    have z25 := cutL_pos 46 y18
    have z26 := cutL_count 46 y18
    have M27 := Mod.trans M9 (Mod.of_up u24)
    refine was (v := .slice A20 ((cutL 46 y18).length) c21) ?_
    refine wnil (then_n (wp_seq (rg_lit ?_)))
    refine wmv (v := .slice A2 ((cutL 126 s).length) c3) ?_
    have h28 := (SSRow.up h4 u24)
    obtain ⟨y29, hy29⟩ : ∃ x, (cutL 126 s)[0]? = some x := ⟨_, List.getElem?_eq_getElem (by omega)⟩
    obtain ⟨g29, f29, hA29, hl29, hc29⟩ := SSRow.get h28 hy29
    refine wl (sv rfl (v := .pointer (some ⟨g29, f29 + 0, none⟩)) (r_ixaddr' (A := A2) (b := g29) (o := f29) (n := ((cutL 126 s).length)) (c := c3) (sz := 1) (j := 0) (by kernel_rfl) hA29 (by kernel_rfl) Ty.un69 Ty.sz9 (by omega) (by omega) (by omega)) ?_)
    refine wl (sv rfl (v := .string y29) (r_loadc (by kernel_rfl) Ty.ag9 hc29) ?_)
    refine wl (sc rfl (r_callv (caps := []) (all := [.string y29]) En.f88 (by kernel_rfl) (by kernel_rfl)) (r15n_up y29 (by have q0 := cutL_size (List.mem_of_getElem? hy18); have q1 := cutL_size (List.mem_of_getElem? hy29); omega)) ?_)
    rintro e w30 ⟨rfl, u31⟩
    refine ⟨.bool (nameB y29), rfl, ?_⟩
    have M32 := Mod.trans M27 (Mod.of_up u31)
    refine wmv (v := .bool (nameB y29)) ?_
    refine bcase (nameB y29) (fun v33 => ?_) (fun v33 => ?_)
    ·
     refine wl (sp (wf (b := (nameB y29)) rfl (by kernel_rfl) v33) ?_)
     refine wl (sp (wf (b := (nameB y29)) rfl (by kernel_rfl) v33) ?_)
     refine wl (sp (wf (b := (nameB y29)) rfl (by kernel_rfl) v33) ?_)
     refine wl (sv rfl (v := .bool false) (r_pkF (ebool (b := (nameB y29)) (by kernel_rfl) v33) (by kernel_rfl)) ?_)
     refine wmv (v := .bool false) ?_
     refine wsp ?_
     refine wsp ?_
     refine wsp ?_
     refine wsp ?_
     refine wl (sv rfl (v := .bool false) (r_pkF (by kernel_rfl) (by kernel_rfl)) ?_)
     refine wmv (v := .bool false) ?_
     refine wsp ?_
     refine wsp ?_
     refine wsp ?_
     refine wsp ?_
     refine wl (sv rfl (v := .bool false) (r_pkF (by kernel_rfl) (by kernel_rfl)) ?_)
     refine was (v := .bool false) ?_
     refine wnil (then_n (wp_ret ?_))
     refine bodyPost_ret (v := .bool false) (res1 rfl (rv_t (by kernel_rfl))) (by kernel_rfl) ?_
     exact ⟨by rw [partD_name (by omega) hy29 hy18 v33], (Mod.up M32)⟩
    refine wl (sv (wt (b := (nameB y29)) rfl (by kernel_rfl) v33) (v := .slice A20 ((cutL 46 y18).length) c21) (r_move (by kernel_rfl)) ?_)
    refine wl (sv (wt (b := (nameB y29)) rfl (by kernel_rfl) v33) (v := .int .i64 (((cutL 46 y18).length) : Int)) (r_len Ty.un69 (ad := A20) (n := ((cutL 46 y18).length)) (c := c21) (by kernel_rfl)) ?_)
    refine wl (sb (wt (b := (nameB y29)) rfl (by kernel_rfl) v33) (r_eq (k := .i64) (m := (((cutL 46 y18).length) : Int)) (n := 2) (by kernel_rfl) (by kernel_rfl)) ?_)
    intro b34 k35
    refine wl (sv rfl (v := .bool b34) (r_pkT (ebool (b := (nameB y29)) (by kernel_rfl) v33) (by kernel_rfl)) ?_)
    refine wmv (v := .bool b34) ?_
    refine bcase b34 (fun v36 => ?_) (fun v36 => ?_)
    ·
     have p37 := of_decide_eq_false (k35.trans v36)
     refine wl (sp (wf (b := b34) rfl (by kernel_rfl) v36) ?_)
     refine wl (sp (wf (b := b34) rfl (by kernel_rfl) v36) ?_)
     refine wl (sp (wf (b := b34) rfl (by kernel_rfl) v36) ?_)
     refine wl (sp (wf (b := b34) rfl (by kernel_rfl) v36) ?_)
     refine wl (sv rfl (v := .bool false) (r_pkF (ebool (b := b34) (by kernel_rfl) v36) (by kernel_rfl)) ?_)
     refine wmv (v := .bool false) ?_
     refine wsp ?_
     refine wsp ?_
     refine wsp ?_
     refine wsp ?_
     refine wl (sv rfl (v := .bool false) (r_pkF (by kernel_rfl) (by kernel_rfl)) ?_)
     refine was (v := .bool false) ?_
     refine wnil (then_n (wp_ret ?_))
     refine bodyPost_ret (v := .bool false) (res1 rfl (rv_t (by kernel_rfl))) (by kernel_rfl) ?_
     exact ⟨by rw [partD_len (by omega) hy29 hy18 (by omega)], (Mod.up M32)⟩
    have p37 := of_decide_eq_true (k35.trans v36)
    refine wl (sv (wt (b := b34) rfl (by kernel_rfl) v36) (v := .slice A20 ((cutL 46 y18).length) c21) (r_move (by kernel_rfl)) ?_)
    have h38 := (SSRow.up h22 u31)
    obtain ⟨y39, hy39⟩ : ∃ x, (cutL 46 y18)[0]? = some x := ⟨_, List.getElem?_eq_getElem (by omega)⟩
    obtain ⟨g39, f39, hA39, hl39, hc39⟩ := SSRow.get h38 hy39
    refine wl (sv (wt (b := b34) rfl (by kernel_rfl) v36) (v := .pointer (some ⟨g39, f39 + 0, none⟩)) (r_ixaddr' (A := A20) (b := g39) (o := f39) (n := ((cutL 46 y18).length)) (c := c21) (sz := 1) (j := 0) (by kernel_rfl) hA39 (by kernel_rfl) Ty.un69 Ty.sz9 (by omega) (by omega) (by omega)) ?_)
    refine wl (sv (wt (b := b34) rfl (by kernel_rfl) v36) (v := .string y39) (r_loadc (by kernel_rfl) Ty.ag9 hc39) ?_)
    refine wl (sc (wt (b := b34) rfl (by kernel_rfl) v36) (r_callv (caps := []) (all := [.string y39, .int .i64 13]) En.f158 (by kernel_rfl) (by kernel_rfl)) (digD_at y39 13 (by have q0 := cutL_size (List.mem_of_getElem? hy18); have q1 := cutL_size (List.mem_of_getElem? hy29); have q2 := cutL_size (List.mem_of_getElem? hy39); omega)) ?_)
    rintro e w40 ⟨rfl, u41⟩
    refine ⟨.bool (digB 13 y39), rfl, ?_⟩
    have M42 := Mod.trans M32 (Mod.of_up u41)
    refine wl (sv rfl (v := .bool (digB 13 y39)) (r_pkT (ebool (b := b34) (by kernel_rfl) v36) (by kernel_rfl)) ?_)
    refine wmv (v := .bool (digB 13 y39)) ?_
    refine bcase (digB 13 y39) (fun v43 => ?_) (fun v43 => ?_)
    ·
     refine wl (sp (wf (b := (digB 13 y39)) rfl (by kernel_rfl) v43) ?_)
     refine wl (sp (wf (b := (digB 13 y39)) rfl (by kernel_rfl) v43) ?_)
     refine wl (sp (wf (b := (digB 13 y39)) rfl (by kernel_rfl) v43) ?_)
     refine wl (sp (wf (b := (digB 13 y39)) rfl (by kernel_rfl) v43) ?_)
     refine wl (sv rfl (v := .bool false) (r_pkF (ebool (b := (digB 13 y39)) (by kernel_rfl) v43) (by kernel_rfl)) ?_)
     refine was (v := .bool false) ?_
     refine wnil (then_n (wp_ret ?_))
     refine bodyPost_ret (v := .bool false) (res1 rfl (rv_t (by kernel_rfl))) (by kernel_rfl) ?_
     obtain ⟨z1, hz1⟩ : ∃ x, (cutL 46 y18)[1]? = some x := ⟨_, List.getElem?_eq_getElem (by omega)⟩
     exact ⟨by rw [partD_dig (by omega) hy29 hy18 v33 (by omega) hy39 hz1, v43, Bool.false_and], (Mod.up M42)⟩
    refine wl (sv (wt (b := (digB 13 y39)) rfl (by kernel_rfl) v43) (v := .slice A20 ((cutL 46 y18).length) c21) (r_move (by kernel_rfl)) ?_)
    have h44 := (SSRow.up h38 u41)
    obtain ⟨y45, hy45⟩ : ∃ x, (cutL 46 y18)[1]? = some x := ⟨_, List.getElem?_eq_getElem (by omega)⟩
    obtain ⟨g45, f45, hA45, hl45, hc45⟩ := SSRow.get h44 hy45
    refine wl (sv (wt (b := (digB 13 y39)) rfl (by kernel_rfl) v43) (v := .pointer (some ⟨g45, f45 + 1, none⟩)) (r_ixaddr' (A := A20) (b := g45) (o := f45) (n := ((cutL 46 y18).length)) (c := c21) (sz := 1) (j := 1) (by kernel_rfl) hA45 (by kernel_rfl) Ty.un69 Ty.sz9 (by omega) (by omega) (by omega)) ?_)
    refine wl (sv (wt (b := (digB 13 y39)) rfl (by kernel_rfl) v43) (v := .string y45) (r_loadc (by kernel_rfl) Ty.ag9 hc45) ?_)
    refine wl (sc (wt (b := (digB 13 y39)) rfl (by kernel_rfl) v43) (r_callv (caps := []) (all := [.string y45, .int .i64 2]) En.f158 (by kernel_rfl) (by kernel_rfl)) (digD_at y45 2 (by have q0 := cutL_size (List.mem_of_getElem? hy18); have q1 := cutL_size (List.mem_of_getElem? hy29); have q2 := cutL_size (List.mem_of_getElem? hy39); have q3 := cutL_size (List.mem_of_getElem? hy45); omega)) ?_)
    rintro e w46 ⟨rfl, u47⟩
    refine ⟨.bool (digB 2 y45), rfl, ?_⟩
    have M48 := Mod.trans M42 (Mod.of_up u47)
    refine wl (sv rfl (v := .bool (digB 2 y45)) (r_pkT (ebool (b := (digB 13 y39)) (by kernel_rfl) v43) (by kernel_rfl)) ?_)
    refine was (v := .bool (digB 2 y45)) ?_
    refine wnil (then_n (wp_ret ?_))
    refine bodyPost_ret (v := .bool (digB 2 y45)) (res1 rfl (rv_t (by kernel_rfl))) (by kernel_rfl) ?_
    exact ⟨by rw [partD_dig (by omega) hy29 hy18 v33 (by omega) hy39 hy45, v43, Bool.true_and], (Mod.up M48)⟩
   have p17 := of_decide_eq_true (k15.trans v16)
   refine wp_cond_true (ebool (b := b14) (by kernel_rfl) v16) ?_
   refine wp_seq (rg_lit ?_)
   refine was (v := .bool false) ?_
   refine wnil (then_n (wp_ret (then_x (by nofun) ?_)))
   refine bodyPost_ret (v := .bool false) (res1 rfl (rv_t (by kernel_rfl))) (by kernel_rfl) ?_
   exact ⟨by rw [partD_2 (by omega) (by omega)], (Mod.up M9)⟩
  have p13 := of_decide_eq_true (k11.trans v12)
  refine wp_cond_true (ebool (b := b10) (by kernel_rfl) v12) ?_
  refine wp_seq (rg_lit ?_)
  refine wmv (v := .string s) ?_
  refine wl (sc rfl (r_callv (caps := []) (all := [.string s]) En.f88 (by kernel_rfl) (by kernel_rfl)) (r15n_up s (by omega)) ?_)
  rintro e w14 ⟨rfl, u15⟩
  refine ⟨.bool (nameB s), rfl, ?_⟩
  have M16 := Mod.trans M9 (Mod.of_up u15)
  refine was (v := .bool (nameB s)) ?_
  refine wnil (then_n (wp_ret (then_x (by nofun) ?_)))
  refine bodyPost_ret (v := .bool (nameB s)) (res1 rfl (rv_t (by kernel_rfl))) (by kernel_rfl) ?_
  exact ⟨by rw [partD_1 (by omega)], (Mod.up M16)⟩
set_option maxHeartbeats 2000000 in
theorem showD_at {w : World} {l : List ByteArray} {xA : Option Addr} {xc : Nat} (hl : SSRow w (.slice xA l.length xc) l) (hsz : ∀ x ∈ l, x.size ≤ 100000) (hj : (joinB l).size ≤ 1000000) : Calls Tryz.prog 47 #[.slice xA l.length xc] w fun e w' => e = .returned (.tuple #[.string (showB l), .int .i64 (showK l)]) ∧ Up w w' := by
  go_enter Tryz.func47, Tryz.ntmps47
  refine wp_seq (rg_lit ?_)
  refine was (v := .string (⟨#[]⟩)) ?_
  refine was (v := .int .i64 0) ?_
  refine wnil (then_n (wp_seq (wp_seq (rg_lit ?_))))
  refine wmv (v := .slice xA l.length xc) ?_
  refine wl (sv rfl (v := .int .i64 (l.length : Int)) (r_len Ty.un69 (ad := xA) (n := l.length) (c := xc) (by kernel_rfl)) ?_)
  refine wl (sb rfl (r_gt (k := .i64) (m := (l.length : Int)) (n := 16) (by kernel_rfl) (by kernel_rfl)) ?_)
  intro b1 k2
  refine wnil (then_n ?_)
  refine bcase b1 (fun v3 => ?_) (fun v3 => ?_)
  ·
   have p4 := of_decide_eq_false (k2.trans v3)
   refine wp_cond_false (ebool (b := b1) (by kernel_rfl) v3) ?_
   refine wp_skip (then_n (wp_seq (rg_lit ?_)))
   refine was (v := .string (⟨#[]⟩)) ?_
   refine wnil (then_n (wp_seq (wp_seq (rg_lit ?_))))
   refine was (v := .int .i64 0) ?_
   refine wnil (then_n (wp_block ?_))
   refine lp (fun n a r1 => ∃ (k : Nat) (acc : ByteArray) (Z : Nat → Value), (n = l.length - k) ∧ (a = ⟨#[.slice xA l.length xc, undef, (Z 2), (Z 3), .string acc, .int .i64 (k : Int), .slice xA l.length xc, .int .i64 (l.length : Int), .bool b1, (Z 9), (Z 10), (Z 11), (Z 12), (Z 13), (Z 14), (Z 15), (Z 16), (Z 17), (Z 18), (Z 19), (Z 20), (Z 21), (Z 22), (Z 23), (Z 24), (Z 25), (Z 26), (Z 27), undef, undef, undef], []⟩) ∧ (Mod [] w r1) ∧ (k ≤ l.length) ∧ (acc = slashL (l.take k)) ∧ (Hid (∀ (j : Nat) (y : ByteArray), j < k → l[j]? = some y → ¬ partB y = false))) ⟨_, 0, ⟨#[]⟩, tget [undef, undef, .string (⟨#[]⟩), .int .i64 0, undef, undef, undef, undef, undef, undef, undef, undef, undef, undef, undef, undef, undef, undef, undef, undef, undef, undef, undef, undef, undef, undef, undef, undef], rfl, (by kernel_rfl), Mod.refl _ _, (Nat.zero_le _), rfl, (fun j y hj => absurd hj (Nat.not_lt_zero _))⟩ ?_
   rintro _ _ r1 ⟨k, acc, Z, rfl, rfl, hM1, hF1_0, hF1_1, hF1_2⟩
   have M5 := Mod.thin (Mod.refl [] w) hM1 (by simp)
   refine wp_seq (wp_seq (rg_lit ?_))
   refine wmv (v := .int .i64 (k : Int)) ?_
   refine wmv (v := .slice xA l.length xc) ?_
   refine wl (sv rfl (v := .int .i64 (l.length : Int)) (r_len Ty.un69 (ad := xA) (n := l.length) (c := xc) (by kernel_rfl)) ?_)
   refine wl (sb rfl (r_lt (k := .i64) (m := (k : Int)) (n := (l.length : Int)) (by kernel_rfl) (by kernel_rfl)) ?_)
   intro b6 k7
   refine wnil (then_n ?_)
   refine bcase b6 (fun v8 => ?_) (fun v8 => ?_)
   ·
    have p9 := of_decide_eq_false (k7.trans v8)
    refine wp_cond_false (ebool (b := b6) (by kernel_rfl) v8) ?_
    refine wp_exit (then_x (by nofun) (then_x (by nofun) (inb_hit (then_n (wp_seq (wp_seq (rg_lit ?_)))))))
    refine wmv (v := .string acc) ?_
    refine wl (sb rfl (r_eqs (m := acc) (n := (⟨#[]⟩)) (by kernel_rfl) (by kernel_rfl)) ?_)
    intro b10 k11
    refine wnil (then_n ?_)
    refine bcase b10 (fun v12 => ?_) (fun v12 => ?_)
    ·
     have p13 := of_decide_eq_false (k11.trans v12)
     refine wp_cond_false (ebool (b := b10) (by kernel_rfl) v12) ?_
     refine wp_skip (then_n (wp_seq (rg_lit ?_)))
     refine wmv (v := .string acc) ?_
     refine was (v := .string acc) ?_
     refine was (v := .int .i64 0) ?_
     refine wnil (then_n (wp_ret ?_))
     refine bodyPost_ret (v := .tuple #[.string acc, .int .i64 0]) (res2 rfl (rv_t (by kernel_rfl)) (rv_t (by kernel_rfl))) (by kernel_rfl) ?_
     exact ⟨show_ret (show_e2 (by omega) (idx_no (none_end hF1_2 (by omega))) (slash_all hF1_1 (by omega)) p13), (Mod.up M5)⟩
    have p13 := of_decide_eq_true (k11.trans v12)
    refine wp_cond_true (ebool (b := b10) (by kernel_rfl) v12) ?_
    refine rg_lit ?_
    refine was (v := .string (⟨#[47]⟩)) ?_
    refine wnil (then_n (wp_seq (rg_lit ?_)))
    refine wmv (v := .string (⟨#[47]⟩)) ?_
    refine was (v := .string (⟨#[47]⟩)) ?_
    refine was (v := .int .i64 0) ?_
    refine wnil (then_n (wp_ret ?_))
    refine bodyPost_ret (v := .tuple #[.string (⟨#[47]⟩), .int .i64 0]) (res2 rfl (rv_t (by kernel_rfl)) (rv_t (by kernel_rfl))) (by kernel_rfl) ?_
    exact ⟨show_ret (show_e1 (by omega) (idx_no (none_end hF1_2 (by omega))) (slash_all hF1_1 (by omega)) p13), (Mod.up M5)⟩
   have p9 := of_decide_eq_true (k7.trans v8)
   have q10 : k < l.length := by omega
   have q11 : k < l.length := by omega
   refine wp_cond_true (ebool (b := b6) (by kernel_rfl) v8) ?_
   refine wp_skip (then_n (wp_seq (wp_block (wp_seq (wp_seq (rg_lit ?_))))))
   refine wmv (v := .slice xA l.length xc) ?_
   refine wmv (v := .int .i64 (k : Int)) ?_
   have h12 := (SSRow.up hl (Mod.up M5))
   obtain ⟨y13, hy13⟩ : ∃ x, l[k]? = some x := ⟨_, List.getElem?_eq_getElem (by omega)⟩
   obtain ⟨g13, f13, hA13, hl13, hc13⟩ := SSRow.get h12 hy13
   refine wl (sv rfl (v := .pointer (some ⟨g13, f13 + k, none⟩)) (r_ixaddr' (A := xA) (b := g13) (o := f13) (n := l.length) (c := xc) (sz := 1) (j := (k : Int)) (by kernel_rfl) hA13 (by kernel_rfl) Ty.un69 Ty.sz9 (by omega) (by omega) (by simp)) ?_)
   refine wl (sv rfl (v := .string y13) (r_loadc (by kernel_rfl) Ty.ag9 hc13) ?_)
   refine wl (sc rfl (r_callv (caps := []) (all := [.string y13]) En.f109 (by kernel_rfl) (by kernel_rfl)) (partD_at y13 (by have hzg := hsz _ (List.mem_of_getElem? hy13); omega)) ?_)
   rintro e w14 ⟨rfl, u15⟩
   refine ⟨.bool (partB y13), rfl, ?_⟩
   have M16 := Mod.trans M5 (Mod.of_up u15)
   have M17 := Mod.trans hM1 (Mod.of_up u15)
   refine wl (sv rfl (v := .bool (!(partB y13))) (r_not (b := (partB y13)) (by kernel_rfl)) ?_)
   refine wnil (then_n ?_)
   refine bcase (partB y13) (fun v18 => ?_) (fun v18 => ?_)
   ·
    refine wp_cond_true (ebool (b := !(partB y13)) (by kernel_rfl) (bneg v18)) ?_
    refine wp_seq (rg_lit ?_)
    refine was (v := .string (⟨#[]⟩)) ?_
    refine was (v := .int .i64 17) ?_
    refine wnil (then_n (wp_ret (then_x (by nofun) (inb_r (then_x (by nofun) (then_x (by nofun) (inb_r (then_x (by nofun) ?_))))))))
    refine bodyPost_ret (v := .tuple #[.string (⟨#[]⟩), .int .i64 17]) (res2 rfl (rv_t (by kernel_rfl)) (rv_t (by kernel_rfl))) (by kernel_rfl) ?_
    exact ⟨show_ret (show_2 (idx_yes hy13 v18)), (Mod.up M16)⟩
   refine wp_cond_false (ebool (b := !(partB y13)) (by kernel_rfl) (bneg v18)) ?_
   refine wp_skip (then_n (rg_lit ?_))
   refine wmv (v := .string acc) ?_
   refine wl (sv rfl (v := .string (acc ++ (⟨#[47]⟩ : ByteArray))) (r_adds (m := acc) (n := (⟨#[47]⟩)) (by kernel_rfl) (by kernel_rfl) (by have q1 := slash_le hF1_1 hj; have q2 : (⟨#[47]⟩ : ByteArray).size = 1 := rfl; have q3 := hsz _ (List.mem_of_getElem? hy13); (try simp only [ByteArray.size_append]); omega)) ?_)
   refine wmv (v := .slice xA l.length xc) ?_
   refine wmv (v := .int .i64 (k : Int)) ?_
   have h19 := (SSRow.up hl (Mod.up M16))
   obtain ⟨g20, f20, hA20, hl20, hc20⟩ := SSRow.get h19 hy13
   refine wl (sv rfl (v := .pointer (some ⟨g20, f20 + k, none⟩)) (r_ixaddr' (A := xA) (b := g20) (o := f20) (n := l.length) (c := xc) (sz := 1) (j := (k : Int)) (by kernel_rfl) hA20 (by kernel_rfl) Ty.un69 Ty.sz9 (by omega) (by omega) (by simp)) ?_)
   refine wl (sv rfl (v := .string y13) (r_loadc (by kernel_rfl) Ty.ag9 hc20) ?_)
   refine wl (sv rfl (v := .string ((acc ++ (⟨#[47]⟩ : ByteArray)) ++ y13)) (r_adds (m := (acc ++ (⟨#[47]⟩ : ByteArray))) (n := y13) (by kernel_rfl) (by kernel_rfl) (by have q1 := slash_le hF1_1 hj; have q2 : (⟨#[47]⟩ : ByteArray).size = 1 := rfl; have q3 := hsz _ (List.mem_of_getElem? hy13); (try simp only [ByteArray.size_append]); omega)) ?_)
   refine was (v := .string ((acc ++ (⟨#[47]⟩ : ByteArray)) ++ y13)) ?_
   refine wnil (inb_n (then_n (rg_lit ?_)))
   refine wmv (v := .int .i64 (k : Int)) ?_
   refine wl (sv rfl (v := .int .i64 ((k + 1 : Nat) : Int)) (r_add (k := .i64) (m := (k : Int)) (n := 1) (c := ((k + 1 : Nat) : Int)) (by kernel_rfl) (by kernel_rfl) ((IntWalk.i64_in _ (by omega)).trans (by omega))) ?_)
   refine was (v := .int .i64 ((k + 1 : Nat) : Int)) ?_
   refine wnil (then_n ?_)
   refine ⟨l.length - (k + 1), ?_, (k + 1), ((acc ++ (⟨#[47]⟩ : ByteArray)) ++ y13), tget [undef, undef, (Z 2), (Z 3), undef, undef, undef, undef, undef, .int .i64 (k : Int), .slice xA l.length xc, .int .i64 (l.length : Int), .bool b6, .int .i64 (k : Int), .int .i64 ((k + 1 : Nat) : Int), .slice xA l.length xc, .int .i64 (k : Int), .pointer (some ⟨g13, f13 + k, none⟩), .string y13, .bool (partB y13), .bool (!(partB y13)), .string acc, .string (acc ++ (⟨#[47]⟩ : ByteArray)), .slice xA l.length xc, .int .i64 (k : Int), .pointer (some ⟨g20, f20 + k, none⟩), .string y13, .string ((acc ++ (⟨#[47]⟩ : ByteArray)) ++ y13)], rfl, (by kernel_rfl), M17, (by omega), (by rw [hF1_1]; exact slashL_next hy13), (none_next (p := fun y => partB y = false) hF1_2 hy13 (by rw [v18]; decide))⟩
   · omega
  have p4 := of_decide_eq_true (k2.trans v3)
  refine wp_cond_true (ebool (b := b1) (by kernel_rfl) v3) ?_
  refine wp_seq (rg_lit ?_)
  refine was (v := .string (⟨#[]⟩)) ?_
  refine was (v := .int .i64 17) ?_
  refine wnil (then_n (wp_ret (then_x (by nofun) ?_)))
  refine bodyPost_ret (v := .tuple #[.string (⟨#[]⟩), .int .i64 17]) (res2 rfl (rv_t (by kernel_rfl)) (rv_t (by kernel_rfl))) (by kernel_rfl) ?_
  exact ⟨show_ret (show_1 (by omega)), (Mod.up (Mod.refl [] w))⟩
set_option maxHeartbeats 2000000 in
theorem texts_at {w : World} {l m : List ByteArray} {xA yA : Option Addr} {xc yc : Nat} (hl : SSRow w (.slice xA l.length xc) l) (hm : SSRow w (.slice yA m.length yc) m) (hln : l.length ≤ 1000000) (hmn : m.length ≤ 1000000) : Calls Tryz.prog 33 #[.slice xA l.length xc, .slice yA m.length yc] w fun e w' => e = .returned (.bool (decide (l = m))) ∧ Up w w' := by
  go_enter Tryz.func33, Tryz.ntmps33
  refine wp_seq (rg_lit ?_)
  refine was (v := .bool false) ?_
  refine wnil (then_n (wp_seq (wp_seq (rg_lit ?_))))
  refine wmv (v := .slice xA l.length xc) ?_
  refine wl (sv rfl (v := .int .i64 (l.length : Int)) (r_len Ty.un69 (ad := xA) (n := l.length) (c := xc) (by kernel_rfl)) ?_)
  refine wmv (v := .slice yA m.length yc) ?_
  refine wl (sv rfl (v := .int .i64 (m.length : Int)) (r_len Ty.un69 (ad := yA) (n := m.length) (c := yc) (by kernel_rfl)) ?_)
  refine wl (sb rfl (r_ne (k := .i64) (m := (l.length : Int)) (n := (m.length : Int)) (by kernel_rfl) (by kernel_rfl)) ?_)
  intro b1 k2
  refine wnil (then_n ?_)
  refine bcase b1 (fun v3 => ?_) (fun v3 => ?_)
  ·
   have p4 := of_decide_eq_false (k2.trans v3)
   refine wp_cond_false (ebool (b := b1) (by kernel_rfl) v3) ?_
   refine wp_skip (then_n (wp_seq (wp_seq (rg_lit ?_))))
   refine was (v := .int .i64 0) ?_
   refine wnil (then_n (wp_block ?_))
   refine lp (fun n a r1 => ∃ (k : Nat) (z4 z11 z12 z13 z14 z15 z16 z17 z18 z19 z20 z21 z22 z23 z24 z25 : Value), (n = l.length - k) ∧ (a = ⟨#[.slice xA l.length xc, .slice yA m.length yc, undef, undef, z4, .int .i64 (k : Int), .slice xA l.length xc, .int .i64 (l.length : Int), .slice yA m.length yc, .int .i64 (m.length : Int), .bool b1, z11, z12, z13, z14, z15, z16, z17, z18, z19, z20, z21, z22, z23, z24, z25], []⟩) ∧ (Mod [] w r1) ∧ (k ≤ l.length) ∧ (Hid (∀ (j : Nat) (x y : ByteArray), j < k → l[j]? = some x → m[j]? = some y → x = y))) ⟨_, 0, .bool false, undef, undef, undef, undef, undef, undef, undef, undef, undef, undef, undef, undef, undef, undef, undef, rfl, (by kernel_rfl), Mod.refl _ _, (Nat.zero_le _), (fun j x y hj => absurd hj (Nat.not_lt_zero _))⟩ ?_
   rintro _ _ r1 ⟨k, z4, z11, z12, z13, z14, z15, z16, z17, z18, z19, z20, z21, z22, z23, z24, z25, rfl, rfl, hM1, hF1_0, hF1_1⟩
   have M5 := Mod.thin (Mod.refl [] w) hM1 (by simp)
   refine wp_seq (wp_seq (rg_lit ?_))
   refine wmv (v := .int .i64 (k : Int)) ?_
   refine wmv (v := .slice xA l.length xc) ?_
   refine wl (sv rfl (v := .int .i64 (l.length : Int)) (r_len Ty.un69 (ad := xA) (n := l.length) (c := xc) (by kernel_rfl)) ?_)
   refine wl (sb rfl (r_lt (k := .i64) (m := (k : Int)) (n := (l.length : Int)) (by kernel_rfl) (by kernel_rfl)) ?_)
   intro b6 k7
   refine wnil (then_n ?_)
   refine bcase b6 (fun v8 => ?_) (fun v8 => ?_)
   ·
    have p9 := of_decide_eq_false (k7.trans v8)
    refine wp_cond_false (ebool (b := b6) (by kernel_rfl) v8) ?_
    refine wp_exit (then_x (by nofun) (then_x (by nofun) (inb_hit (then_n (wp_seq (rg_lit ?_))))))
    refine was (v := .bool true) ?_
    refine wnil (then_n (wp_ret ?_))
    refine bodyPost_ret (v := .bool true) (res1 rfl (rv_t (by kernel_rfl))) (by kernel_rfl) ?_
    exact ⟨by rw [txt_end hF1_1 (by omega) (by omega)], (Mod.up M5)⟩
   have p9 := of_decide_eq_true (k7.trans v8)
   have q10 : k < l.length := by omega
   have q11 : k < l.length := by omega
   refine wp_cond_true (ebool (b := b6) (by kernel_rfl) v8) ?_
   refine wp_skip (then_n (wp_seq (wp_block (wp_seq ?_))))
   refine rg_all (by kernel_rfl) (by kernel_rfl) ?_
   refine qmv (v := .slice xA l.length xc) ?_
   refine qmv (v := .int .i64 (k : Int)) ?_
   have h12 := (SSRow.up hl (Mod.up M5))
   obtain ⟨y13, hy13⟩ : ∃ x, l[k]? = some x := ⟨_, List.getElem?_eq_getElem (by omega)⟩
   obtain ⟨g13, f13, hA13, hl13, hc13⟩ := SSRow.get h12 hy13
   refine qv rfl (v := .pointer (some ⟨g13, f13 + k, none⟩)) (fun _ _ => r_ixaddr' (A := xA) (b := g13) (o := f13) (n := l.length) (c := xc) (sz := 1) (j := (k : Int)) (by kernel_rfl) hA13 (by kernel_rfl) Ty.un69 Ty.sz9 (by omega) (by omega) (by simp)) ?_
   refine qv rfl (v := .string y13) (fun _ uz => r_loadc (by kernel_rfl) Ty.ag9 ((uz.cell (p := ⟨g13, f13 + k, none⟩) hl13).trans hc13)) ?_
   refine qmv (v := .slice yA m.length yc) ?_
   refine qmv (v := .int .i64 (k : Int)) ?_
   have h14 := (SSRow.up hm (Mod.up M5))
   obtain ⟨y15, hy15⟩ : ∃ x, m[k]? = some x := ⟨_, List.getElem?_eq_getElem (by omega)⟩
   obtain ⟨g15, f15, hA15, hl15, hc15⟩ := SSRow.get h14 hy15
   refine qv rfl (v := .pointer (some ⟨g15, f15 + k, none⟩)) (fun _ _ => r_ixaddr' (A := yA) (b := g15) (o := f15) (n := m.length) (c := yc) (sz := 1) (j := (k : Int)) (by kernel_rfl) hA15 (by kernel_rfl) Ty.un69 Ty.sz9 (by omega) (by omega) (by simp)) ?_
   refine qv rfl (v := .string y15) (fun _ uz => r_loadc (by kernel_rfl) Ty.ag9 ((uz.cell (p := ⟨g15, f15 + k, none⟩) hl15).trans hc15)) ?_
   refine qb rfl (fun _ _ => r_nes (m := y13) (n := y15) (by kernel_rfl) (by kernel_rfl)) ?_
   intro b16 k17
   refine qnil ?_
   intro w18 u19
   have M20 := Mod.trans M5 (Mod.of_up u19)
   have M21 := Mod.trans hM1 (Mod.of_up u19)
   refine then_n ?_
   refine bcase b16 (fun v22 => ?_) (fun v22 => ?_)
   ·
    have p23 := of_decide_eq_false (k17.trans v22)
    refine wp_cond_false (ebool (b := b16) (by kernel_rfl) v22) ?_
    refine wp_skip (inb_n (then_n (rg_lit ?_)))
    refine wmv (v := .int .i64 (k : Int)) ?_
    refine wl (sv rfl (v := .int .i64 ((k + 1 : Nat) : Int)) (r_add (k := .i64) (m := (k : Int)) (n := 1) (c := ((k + 1 : Nat) : Int)) (by kernel_rfl) (by kernel_rfl) ((IntWalk.i64_in _ (by omega)).trans (by omega))) ?_)
    refine was (v := .int .i64 ((k + 1 : Nat) : Int)) ?_
    refine wnil (then_n ?_)
    refine ⟨l.length - (k + 1), ?_, (k + 1), z4, .int .i64 (k : Int), .slice xA l.length xc, .int .i64 (l.length : Int), .bool b6, .int .i64 (k : Int), .int .i64 ((k + 1 : Nat) : Int), .slice xA l.length xc, .int .i64 (k : Int), .pointer (some ⟨g13, f13 + k, none⟩), .string y13, .slice yA m.length yc, .int .i64 (k : Int), .pointer (some ⟨g15, f15 + k, none⟩), .string y15, .bool b16, rfl, (by kernel_rfl), M21, (by omega), (txt_next hF1_1 hy13 hy15 (Decidable.not_not.1 p23))⟩
    · omega
   have p23 := of_decide_eq_true (k17.trans v22)
   refine wp_cond_true (ebool (b := b16) (by kernel_rfl) v22) ?_
   refine wp_seq (rg_lit ?_)
   refine was (v := .bool false) ?_
   refine wnil (then_n (wp_ret (inb_r (then_x (by nofun) (then_x (by nofun) (inb_r (then_x (by nofun) ?_)))))))
   refine bodyPost_ret (v := .bool false) (res1 rfl (rv_t (by kernel_rfl))) (by kernel_rfl) ?_
   exact ⟨by rw [txt_no hy13 hy15 p23], (Mod.up M20)⟩
  have p4 := of_decide_eq_true (k2.trans v3)
  refine wp_cond_true (ebool (b := b1) (by kernel_rfl) v3) ?_
  refine wp_seq (rg_lit ?_)
  refine was (v := .bool false) ?_
  refine wnil (then_n (wp_ret (then_x (by nofun) ?_)))
  refine bodyPost_ret (v := .bool false) (res1 rfl (rv_t (by kernel_rfl))) (by kernel_rfl) ?_
  exact ⟨by rw [txt_len p4], (Mod.up (Mod.refl [] w))⟩
set_option maxHeartbeats 2000000 in
theorem parseD_at {w : World} (s : ByteArray) (hs : s.size ≤ 100000) : Calls Tryz.prog 45 #[.string s] w fun e w' => ∃ xA c, e = .returned (.tuple #[.slice xA (parseL s).length c, .int .i64 (parseK s)]) ∧ SSRow w' (.slice xA (parseL s).length c) (parseL s) ∧ NewS w.heap.size (.slice xA (parseL s).length c) ∧ Up w w' := by
  have hz1 := restB_size s
  have hzp := rest_parts (s := s) hs
  go_enter Tryz.func45, Tryz.ntmps45
  refine wp_seq (rg_lit ?_)
  refine was (v := .slice none 0 0) ?_
  refine was (v := .int .i64 0) ?_
  refine wnil (then_n (wp_seq (wp_seq (rg_lit ?_))))
  refine wmv (v := .string s) ?_
  refine wl (sb rfl (r_eqs (m := s) (n := (⟨#[47]⟩)) (by kernel_rfl) (by kernel_rfl)) ?_)
  intro b1 k2
  refine wnil (then_n ?_)
  refine bcase b1 (fun v3 => ?_) (fun v3 => ?_)
  ·
   have p4 := of_decide_eq_false (k2.trans v3)
   refine wp_cond_false (ebool (b := b1) (by kernel_rfl) v3) ?_
   refine wp_skip (then_n (wp_seq (rg_lit ?_)))
   refine wmv (v := .string s) ?_
   refine wl (sc rfl (r_callv (caps := []) (all := [.string s, .int .u8 47]) En.f105 (by kernel_rfl) (by kernel_rfl)) (cutD_at s 47 (by omega)) ?_)
   rintro e w5 ⟨A6, c7, rfl, h8, h9, u10⟩
   refine ⟨.slice A6 ((cutL 47 s).length) c7, rfl, ?_⟩
   have z11 := cutL_pos 47 s
   have z12 := cutL_count 47 s
   have M13 := Mod.trans (Mod.refl [] w) (Mod.of_up u10)
   refine was (v := .slice A6 ((cutL 47 s).length) c7) ?_
   refine wnil (then_n (wp_seq (wp_seq (rg_lit ?_))))
   refine wmv (v := .slice A6 ((cutL 47 s).length) c7) ?_
   refine wl (sv rfl (v := .int .i64 (((cutL 47 s).length) : Int)) (r_len Ty.un69 (ad := A6) (n := ((cutL 47 s).length)) (c := c7) (by kernel_rfl)) ?_)
   refine wl (sb rfl (r_lt (k := .i64) (m := (((cutL 47 s).length) : Int)) (n := 2) (by kernel_rfl) (by kernel_rfl)) ?_)
   intro b14 k15
   refine wmv (v := .bool b14) ?_
   refine bcase b14 (fun v16 => ?_) (fun v16 => ?_)
   ·
    have p17 := of_decide_eq_false (k15.trans v16)
    refine wl (sv (wt (b := b14) rfl (by kernel_rfl) v16) (v := .slice A6 ((cutL 47 s).length) c7) (r_move (by kernel_rfl)) ?_)
    obtain ⟨y18, hy18⟩ : ∃ x, (cutL 47 s)[0]? = some x := ⟨_, List.getElem?_eq_getElem (by omega)⟩
    obtain ⟨g18, f18, hA18, hl18, hc18⟩ := SSRow.get h8 hy18
    refine wl (sv (wt (b := b14) rfl (by kernel_rfl) v16) (v := .pointer (some ⟨g18, f18 + 0, none⟩)) (r_ixaddr' (A := A6) (b := g18) (o := f18) (n := ((cutL 47 s).length)) (c := c7) (sz := 1) (j := 0) (by kernel_rfl) hA18 (by kernel_rfl) Ty.un69 Ty.sz9 (by omega) (by omega) (by omega)) ?_)
    refine wl (sv (wt (b := b14) rfl (by kernel_rfl) v16) (v := .string y18) (r_loadc (by kernel_rfl) Ty.ag9 hc18) ?_)
    refine wl (sb (wt (b := b14) rfl (by kernel_rfl) v16) (r_nes (m := y18) (n := (⟨#[]⟩)) (by kernel_rfl) (by kernel_rfl)) ?_)
    intro b19 k20
    refine wl (sv rfl (v := .bool b19) (r_pkF (ebool (b := b14) (by kernel_rfl) v16) (by kernel_rfl)) ?_)
    refine wnil (then_n ?_)
    refine bcase b19 (fun v21 => ?_) (fun v21 => ?_)
    ·
     have p22 := of_decide_eq_false (k20.trans v21)
     refine wp_cond_false (ebool (b := b19) (by kernel_rfl) v21) ?_
     refine wp_skip (then_n (wp_seq (wp_seq (rg_lit ?_))))
     refine wmv (v := .slice A6 ((cutL 47 s).length) c7) ?_
     have h23 := SSRow.tail h8 (by omega)
     have z24 := SSRow.capq h8
     have h25 := NewS.tail (m' := ((cutL 47 s).drop 1).length) (c' := c7 - 1) h9
     refine wl (sv rfl (v := .slice (tailA A6 c7) (((cutL 47 s).drop 1).length) (c7 - 1)) (r_slTail (A := A6) (n := ((cutL 47 s).length)) (c := c7) (m := ((cutL 47 s).drop 1).length) (by kernel_rfl) (by kernel_rfl) (by rw [List.length_drop]) (by omega) (by omega) Ty.un69 Ty.sz9) ?_)
     have htl := tail_is (slash_yes (s := s) (by omega) hy18 (Decidable.not_not.1 p22))
     have hzd : (∀ x ∈ ((cutL 47 s).drop 1), x.size ≤ 100000) ∧ (joinB ((cutL 47 s).drop 1)).size ≤ 1000000 := by rw [htl]; exact ⟨fun x hx => by have := splB_size hx; have := restB_size s; omega, hzp.2.2⟩
     refine wl (sc rfl (r_callv (caps := []) (all := [.slice (tailA A6 c7) (((cutL 47 s).drop 1).length) (c7 - 1)]) En.f47 (by kernel_rfl) (by kernel_rfl)) (showD_at (l := ((cutL 47 s).drop 1)) h23 hzd.1 hzd.2) ?_)
     rintro e w26 ⟨rfl, u27⟩
     refine ⟨.tuple #[.string (showB ((cutL 47 s).drop 1)), .int .i64 (showK ((cutL 47 s).drop 1))], rfl, ?_⟩
     have M28 := Mod.trans M13 (Mod.of_up u27)
     refine wmv (v := .tuple #[.string (showB ((cutL 47 s).drop 1)), .int .i64 (showK ((cutL 47 s).drop 1))]) ?_
     refine wl (sv rfl (v := .string (showB ((cutL 47 s).drop 1))) (r_extract (vs := [.string (showB ((cutL 47 s).drop 1)), .int .i64 (showK ((cutL 47 s).drop 1))]) (by kernel_rfl) rfl) ?_)
     refine wl (sv rfl (v := .int .i64 (showK ((cutL 47 s).drop 1))) (r_extract (vs := [.string (showB ((cutL 47 s).drop 1)), .int .i64 (showK ((cutL 47 s).drop 1))]) (by kernel_rfl) rfl) ?_)
     refine was (v := .string (showB ((cutL 47 s).drop 1))) ?_
     refine was (v := .int .i64 (showK ((cutL 47 s).drop 1))) ?_
     refine wnil (then_n (wp_seq (rg_lit ?_)))
     refine wmv (v := .int .i64 (showK ((cutL 47 s).drop 1))) ?_
     refine wl (sb rfl (r_ne (k := .i64) (m := (showK ((cutL 47 s).drop 1))) (n := 0) (by kernel_rfl) (by kernel_rfl)) ?_)
     intro b29 k30
     refine wnil (then_n ?_)
     refine bcase b29 (fun v31 => ?_) (fun v31 => ?_)
     ·
      have p32 := of_decide_eq_false (k30.trans v31)
      refine wp_cond_false (ebool (b := b29) (by kernel_rfl) v31) ?_
      refine wp_skip (then_n (wp_seq (rg_lit ?_)))
      refine wmv (v := .slice A6 ((cutL 47 s).length) c7) ?_
      have h33 := (SSRow.up h8 u27)
      have h34 := SSRow.tail h33 (by omega)
      have z35 := SSRow.capq h33
      have h36 := NewS.tail (m' := ((cutL 47 s).drop 1).length) (c' := c7 - 1) h9
      refine wl (sv rfl (v := .slice (tailA A6 c7) (((cutL 47 s).drop 1).length) (c7 - 1)) (r_slTail (A := A6) (n := ((cutL 47 s).length)) (c := c7) (m := ((cutL 47 s).drop 1).length) (by kernel_rfl) (by kernel_rfl) (by rw [List.length_drop]) (by omega) (by omega) Ty.un69 Ty.sz9) ?_)
      refine was (v := .slice (tailA A6 c7) (((cutL 47 s).drop 1).length) (c7 - 1)) ?_
      refine was (v := .int .i64 0) ?_
      refine wnil (then_n (wp_ret ?_))
      refine bodyPost_ret (v := .tuple #[.slice (tailA A6 c7) (((cutL 47 s).drop 1).length) (c7 - 1), .int .i64 0]) (res2 rfl (rv_t (by kernel_rfl)) (rv_t (by kernel_rfl))) (by kernel_rfl) ?_
      have hk1 := Decidable.not_not.1 p32
      rw [htl] at hk1
      exact parse_fin (by have := parse_4 (slash_yes (s := s) (by omega) hy18 (Decidable.not_not.1 p22)) (rest_ne (slash_yes (s := s) (by omega) hy18 (Decidable.not_not.1 p22)) p4) hk1; rwa [← htl] at this) h34 (NewS.old h36 (by first | exact Nat.le_refl _ | exact (Mod.refl [] w).size)) (Mod.up M28)
     have p32 := of_decide_eq_true (k30.trans v31)
     refine wp_cond_true (ebool (b := b29) (by kernel_rfl) v31) ?_
     refine wp_seq (rg_lit ?_)
     refine wmv (v := .int .i64 (showK ((cutL 47 s).drop 1))) ?_
     refine was (v := .slice none 0 0) ?_
     refine was (v := .int .i64 (showK ((cutL 47 s).drop 1))) ?_
     refine wnil (then_n (wp_ret (then_x (by nofun) ?_)))
     refine bodyPost_ret (v := .tuple #[.slice none 0 0, .int .i64 (showK ((cutL 47 s).drop 1))]) (res2 rfl (rv_t (by kernel_rfl)) (rv_t (by kernel_rfl))) (by kernel_rfl) ?_
     have hk1 := p32
     rw [htl] at hk1
     exact parse_fin (l := []) (A := none) (c := 0) (by have := parse_3 (slash_yes (s := s) (by omega) hy18 (Decidable.not_not.1 p22)) (rest_ne (slash_yes (s := s) (by omega) hy18 (Decidable.not_not.1 p22)) p4) hk1; rwa [← htl] at this) (SSRow.zero _) NewS.nil (Mod.up M28)
    have p22 := of_decide_eq_true (k20.trans v21)
    refine wp_cond_true (ebool (b := b19) (by kernel_rfl) v21) ?_
    refine wp_seq (rg_lit ?_)
    refine was (v := .slice none 0 0) ?_
    refine was (v := .int .i64 17) ?_
    refine wnil (then_n (wp_ret (then_x (by nofun) ?_)))
    refine bodyPost_ret (v := .tuple #[.slice none 0 0, .int .i64 17]) (res2 rfl (rv_t (by kernel_rfl)) (rv_t (by kernel_rfl))) (by kernel_rfl) ?_
    exact parse_fin (l := []) (A := none) (c := 0) (parse_1 (slash_head hy18 p22)) (SSRow.zero _) NewS.nil (Mod.up M13)
   have p17 := of_decide_eq_true (k15.trans v16)
   refine wl (sp (wf (b := b14) rfl (by kernel_rfl) v16) ?_)
   refine wl (sp (wf (b := b14) rfl (by kernel_rfl) v16) ?_)
   refine wl (sp (wf (b := b14) rfl (by kernel_rfl) v16) ?_)
   refine wl (sp (wf (b := b14) rfl (by kernel_rfl) v16) ?_)
   refine wl (sv rfl (v := .bool true) (r_pkT (ebool (b := b14) (by kernel_rfl) v16) (by kernel_rfl)) ?_)
   refine wnil (then_n ?_)
   refine wp_cond_true (by kernel_rfl) ?_
   refine wp_seq (rg_lit ?_)
   refine was (v := .slice none 0 0) ?_
   refine was (v := .int .i64 17) ?_
   refine wnil (then_n (wp_ret (then_x (by nofun) ?_)))
   refine bodyPost_ret (v := .tuple #[.slice none 0 0, .int .i64 17]) (res2 rfl (rv_t (by kernel_rfl)) (rv_t (by kernel_rfl))) (by kernel_rfl) ?_
   exact parse_fin (l := []) (A := none) (c := 0) (parse_1 (slash_no (by omega))) (SSRow.zero _) NewS.nil (Mod.up M13)
  have p4 := of_decide_eq_true (k2.trans v3)
  refine wp_cond_true (ebool (b := b1) (by kernel_rfl) v3) ?_
  refine wp_seq (rg_lit ?_)
  refine was (v := .slice none 0 0) ?_
  refine was (v := .int .i64 0) ?_
  refine wnil (then_n (wp_ret (then_x (by nofun) ?_)))
  refine bodyPost_ret (v := .tuple #[.slice none 0 0, .int .i64 0]) (res2 rfl (rv_t (by kernel_rfl)) (rv_t (by kernel_rfl))) (by kernel_rfl) ?_
  exact parse_fin (l := []) (A := none) (c := 0) (parseD_1 p4) (SSRow.zero _) NewS.nil (Mod.up (Mod.refl [] w))
set_option maxHeartbeats 2000000 in
theorem splitD_at {w : World} (s : ByteArray) (hs : s.size ≤ 100000) : Calls Tryz.prog 49 #[.string s] w fun e w' => e = .returned (.tuple #[.string (dirB s), .string (lastB s), .int .i64 (splitKd s)]) ∧ Up w w' := by
  have hzp := parse_parts hs
  have hzq := parse_le hs
  go_enter Tryz.func49, Tryz.ntmps49
  refine wp_seq (rg_lit ?_)
  refine was (v := .string (⟨#[]⟩)) ?_
  refine was (v := .string (⟨#[]⟩)) ?_
  refine was (v := .int .i64 0) ?_
  refine wnil (then_n (wp_seq (rg_lit ?_)))
  refine wmv (v := .string s) ?_
  refine wl (sc rfl (r_callv (caps := []) (all := [.string s]) En.f45 (by kernel_rfl) (by kernel_rfl)) (parseD_at s (by omega)) ?_)
  rintro e w1 ⟨A2, c3, rfl, h4, h5, u6⟩
  refine ⟨.tuple #[.slice A2 ((parseL s).length) c3, .int .i64 (parseK s)], rfl, ?_⟩
  have M7 := Mod.trans (Mod.refl [] w) (Mod.of_up u6)
  refine wmv (v := .tuple #[.slice A2 ((parseL s).length) c3, .int .i64 (parseK s)]) ?_
  refine wl (sv rfl (v := .slice A2 ((parseL s).length) c3) (r_extract (vs := [.slice A2 ((parseL s).length) c3, .int .i64 (parseK s)]) (by kernel_rfl) rfl) ?_)
  refine wl (sv rfl (v := .int .i64 (parseK s)) (r_extract (vs := [.slice A2 ((parseL s).length) c3, .int .i64 (parseK s)]) (by kernel_rfl) rfl) ?_)
  refine was (v := .slice A2 ((parseL s).length) c3) ?_
  refine was (v := .int .i64 (parseK s)) ?_
  refine wnil (then_n (wp_seq (wp_seq (rg_lit ?_))))
  refine wmv (v := .int .i64 (parseK s)) ?_
  refine wl (sb rfl (r_ne (k := .i64) (m := (parseK s)) (n := 0) (by kernel_rfl) (by kernel_rfl)) ?_)
  intro b8 k9
  refine wmv (v := .bool b8) ?_
  refine bcase b8 (fun v10 => ?_) (fun v10 => ?_)
  ·
   have p11 := of_decide_eq_false (k9.trans v10)
   refine wl (sv (wt (b := b8) rfl (by kernel_rfl) v10) (v := .slice A2 ((parseL s).length) c3) (r_move (by kernel_rfl)) ?_)
   refine wl (sv (wt (b := b8) rfl (by kernel_rfl) v10) (v := .int .i64 (((parseL s).length) : Int)) (r_len Ty.un69 (ad := A2) (n := ((parseL s).length)) (c := c3) (by kernel_rfl)) ?_)
   refine wl (sb (wt (b := b8) rfl (by kernel_rfl) v10) (r_eq (k := .i64) (m := (((parseL s).length) : Int)) (n := 0) (by kernel_rfl) (by kernel_rfl)) ?_)
   intro b12 k13
   refine wl (sv rfl (v := .bool b12) (r_pkF (ebool (b := b8) (by kernel_rfl) v10) (by kernel_rfl)) ?_)
   refine wnil (then_n ?_)
   refine bcase b12 (fun v14 => ?_) (fun v14 => ?_)
   ·
    have p15 := of_decide_eq_false (k13.trans v14)
    refine wp_cond_false (ebool (b := b12) (by kernel_rfl) v14) ?_
    refine wp_skip (then_n (wp_seq (rg_lit ?_)))
    refine wmv (v := .slice A2 ((parseL s).length) c3) ?_
    refine wmv (v := .slice A2 ((parseL s).length) c3) ?_
    refine wl (sv rfl (v := .int .i64 (((parseL s).length) : Int)) (r_len Ty.un69 (ad := A2) (n := ((parseL s).length)) (c := c3) (by kernel_rfl)) ?_)
    refine wl (sv rfl (v := .int .i64 ((((parseL s).length) : Int) - 1)) (r_sub (k := .i64) (m := (((parseL s).length) : Int)) (n := 1) (by kernel_rfl) (by kernel_rfl) (IntWalk.i64_in _ (by omega))) ?_)
    have h16 := SSRow.pre (k := (parseL s).length - 1) h4 (by omega)
    have z17 : ((parseL s).take ((parseL s).length - 1)).length = (parseL s).length - 1 := by rw [List.length_take]; omega
    refine wl (sv rfl (v := .slice A2 (((parseL s).take ((parseL s).length - 1)).length) c3) ((show _ = _ from by rw [z17]; exact r_slHi (w := w1) (t := 69) (k := (parseL s).length - 1) (L := (parseL s)) (j := ((((parseL s).length) : Int) - 1)) h4 (by kernel_rfl) (by kernel_rfl) (by omega) Ty.un69 Ty.sz9 (by omega))) ?_)
    have hzd : (∀ x ∈ ((parseL s).take ((parseL s).length - 1)), x.size ≤ 100000) ∧ (joinB ((parseL s).take ((parseL s).length - 1))).size ≤ 1000000 := ⟨fun x hx => by have := (take_parts ((parseL s).length - 1) hzp).1 x hx; have := hzq x (List.mem_of_mem_take hx); omega, (take_parts _ hzp).2.2⟩
    refine wl (sc rfl (r_callv (caps := []) (all := [.slice A2 (((parseL s).take ((parseL s).length - 1)).length) c3]) En.f47 (by kernel_rfl) (by kernel_rfl)) (showD_at (l := ((parseL s).take ((parseL s).length - 1))) h16 hzd.1 hzd.2) ?_)
    rintro e w18 ⟨rfl, u19⟩
    refine ⟨.tuple #[.string (showB ((parseL s).take ((parseL s).length - 1))), .int .i64 (showK ((parseL s).take ((parseL s).length - 1)))], rfl, ?_⟩
    have M20 := Mod.trans M7 (Mod.of_up u19)
    refine wmv (v := .tuple #[.string (showB ((parseL s).take ((parseL s).length - 1))), .int .i64 (showK ((parseL s).take ((parseL s).length - 1)))]) ?_
    refine wl (sv rfl (v := .string (showB ((parseL s).take ((parseL s).length - 1)))) (r_extract (vs := [.string (showB ((parseL s).take ((parseL s).length - 1))), .int .i64 (showK ((parseL s).take ((parseL s).length - 1)))]) (by kernel_rfl) rfl) ?_)
    refine wl (sv rfl (v := .int .i64 (showK ((parseL s).take ((parseL s).length - 1)))) (r_extract (vs := [.string (showB ((parseL s).take ((parseL s).length - 1))), .int .i64 (showK ((parseL s).take ((parseL s).length - 1)))]) (by kernel_rfl) rfl) ?_)
    refine was (v := .string (showB ((parseL s).take ((parseL s).length - 1)))) ?_
    refine was (v := .int .i64 (showK ((parseL s).take ((parseL s).length - 1)))) ?_
    refine wnil (then_n (wp_seq ?_))
    refine rg_all (by kernel_rfl) (by kernel_rfl) ?_
    refine qmv (v := .string (showB ((parseL s).take ((parseL s).length - 1)))) ?_
    refine qmv (v := .slice A2 ((parseL s).length) c3) ?_
    refine qmv (v := .slice A2 ((parseL s).length) c3) ?_
    refine qv rfl (v := .int .i64 (((parseL s).length) : Int)) (fun _ _ => r_len Ty.un69 (ad := A2) (n := ((parseL s).length)) (c := c3) (by kernel_rfl)) ?_
    refine qv rfl (v := .int .i64 ((((parseL s).length) : Int) - 1)) (fun _ _ => r_sub (k := .i64) (m := (((parseL s).length) : Int)) (n := 1) (by kernel_rfl) (by kernel_rfl) (IntWalk.i64_in _ (by omega))) ?_
    have h21 := (SSRow.up h4 u19)
    obtain ⟨y22, hy22⟩ : ∃ x, (parseL s)[(parseL s).length - 1]? = some x := ⟨_, List.getElem?_eq_getElem (by omega)⟩
    obtain ⟨g22, f22, hA22, hl22, hc22⟩ := SSRow.get h21 hy22
    refine qv rfl (v := .pointer (some ⟨g22, f22 + ((parseL s).length - 1), none⟩)) (fun _ _ => r_ixaddr' (A := A2) (b := g22) (o := f22) (n := ((parseL s).length)) (c := c3) (sz := 1) (j := ((((parseL s).length) : Int) - 1)) (by kernel_rfl) hA22 (by kernel_rfl) Ty.un69 Ty.sz9 (by omega) (by omega) (by omega)) ?_
    refine qv rfl (v := .string y22) (fun _ uz => r_loadc (by kernel_rfl) Ty.ag9 ((uz.cell (p := ⟨g22, f22 + ((parseL s).length - 1), none⟩) hl22).trans hc22)) ?_
    refine qas (v := .string (showB ((parseL s).take ((parseL s).length - 1)))) ?_
    refine qas (v := .string y22) ?_
    refine qas (v := .int .i64 0) ?_
    refine qnil ?_
    intro w23 u24
    have M25 := Mod.trans M20 (Mod.of_up u24)
    refine then_n (wp_ret ?_)
    refine bodyPost_ret (v := .tuple #[.string (showB ((parseL s).take ((parseL s).length - 1))), .string y22, .int .i64 0]) (res3 rfl (rv_t (by kernel_rfl)) (rv_t (by kernel_rfl)) (rv_t (by kernel_rfl))) (by kernel_rfl) ?_
    exact ⟨split_ret (split_3 (Decidable.not_not.1 p11) (by omega) hy22), (Mod.up M25)⟩
   have p15 := of_decide_eq_true (k13.trans v14)
   refine wp_cond_true (ebool (b := b12) (by kernel_rfl) v14) ?_
   refine wp_seq (rg_lit ?_)
   refine was (v := .string (⟨#[]⟩)) ?_
   refine was (v := .string (⟨#[]⟩)) ?_
   refine was (v := .int .i64 17) ?_
   refine wnil (then_n (wp_ret (then_x (by nofun) ?_)))
   refine bodyPost_ret (v := .tuple #[.string (⟨#[]⟩), .string (⟨#[]⟩), .int .i64 17]) (res3 rfl (rv_t (by kernel_rfl)) (rv_t (by kernel_rfl)) (rv_t (by kernel_rfl))) (by kernel_rfl) ?_
   exact ⟨split_ret (split_2 (by omega)), (Mod.up M7)⟩
  have p11 := of_decide_eq_true (k9.trans v10)
  refine wl (sp (wf (b := b8) rfl (by kernel_rfl) v10) ?_)
  refine wl (sp (wf (b := b8) rfl (by kernel_rfl) v10) ?_)
  refine wl (sp (wf (b := b8) rfl (by kernel_rfl) v10) ?_)
  refine wl (sv rfl (v := .bool true) (r_pkT (ebool (b := b8) (by kernel_rfl) v10) (by kernel_rfl)) ?_)
  refine wnil (then_n ?_)
  refine wp_cond_true (by kernel_rfl) ?_
  refine wp_seq (rg_lit ?_)
  refine was (v := .string (⟨#[]⟩)) ?_
  refine was (v := .string (⟨#[]⟩)) ?_
  refine was (v := .int .i64 17) ?_
  refine wnil (then_n (wp_ret (then_x (by nofun) ?_)))
  refine bodyPost_ret (v := .tuple #[.string (⟨#[]⟩), .string (⟨#[]⟩), .int .i64 17]) (res3 rfl (rv_t (by kernel_rfl)) (rv_t (by kernel_rfl)) (rv_t (by kernel_rfl))) (by kernel_rfl) ?_
  exact ⟨split_ret (split_1 p11), (Mod.up M7)⟩
set_option maxHeartbeats 2000000 in
theorem cleanD_at {w : World} (s : ByteArray) (hs : s.size ≤ 100000) : Calls Tryz.prog 51 #[.string s] w fun e w' => e = .returned (.tuple #[.string (cleanB s), .int .i64 (cleanK s)]) ∧ Up w w' := by
  go_enter Tryz.func51, Tryz.ntmps51
  refine wp_seq (rg_lit ?_)
  refine was (v := .string (⟨#[]⟩)) ?_
  refine was (v := .int .i64 0) ?_
  refine wnil (then_n (wp_seq (wp_seq (rg_lit ?_))))
  refine wmv (v := .string s) ?_
  refine wl (sv rfl (v := .int .i64 (s.size : Int)) (r_lens Ty.un9 (s := s) (by kernel_rfl)) ?_)
  refine wl (sb rfl (r_eq (k := .i64) (m := (s.size : Int)) (n := 0) (by kernel_rfl) (by kernel_rfl)) ?_)
  intro b1 k2
  refine wmv (v := .bool b1) ?_
  refine bcase b1 (fun v3 => ?_) (fun v3 => ?_)
  ·
   have p4 := of_decide_eq_false (k2.trans v3)
   refine wl (sv (wt (b := b1) rfl (by kernel_rfl) v3) (v := .string s) (r_move (by kernel_rfl)) ?_)
   obtain ⟨y5, hy5⟩ : ∃ x, s.data.toList[0]? = some x := ⟨_, List.getElem?_eq_getElem (by rw [← sz_len]; omega)⟩
   refine wl (sv (wt (b := b1) rfl (by kernel_rfl) v3) (v := .int .u8 ((y5.toNat : Nat) : Int)) (r_strix (s := s) (k := 0) (c := y5) (by kernel_rfl) (by kernel_rfl) hy5 Tryz.underlying9) ?_)
   refine wl (sb (wt (b := b1) rfl (by kernel_rfl) v3) (r_ne (k := .u8) (m := ((y5.toNat : Nat) : Int)) (n := 47) (by kernel_rfl) (by kernel_rfl)) ?_)
   intro b6 k7
   refine wl (sv rfl (v := .bool b6) (r_pkF (ebool (b := b1) (by kernel_rfl) v3) (by kernel_rfl)) ?_)
   refine wnil (then_n ?_)
   refine bcase b6 (fun v8 => ?_) (fun v8 => ?_)
   ·
    have p9 := of_decide_eq_false (k7.trans v8)
    refine wp_cond_false (ebool (b := b6) (by kernel_rfl) v8) ?_
    refine wp_skip (then_n (wp_seq (rg_lit ?_)))
    refine was (v := .slice none 0 0) ?_
    refine wnil (then_n (wp_seq (rg_lit ?_)))
    refine wmv (v := .string s) ?_
    refine wl (sc rfl (r_callv (caps := []) (all := [.string s, .int .u8 47]) En.f105 (by kernel_rfl) (by kernel_rfl)) (cutD_at s 47 (by omega)) ?_)
    rintro e w10 ⟨A11, c12, rfl, h13, h14, u15⟩
    refine ⟨.slice A11 ((cutL 47 s).length) c12, rfl, ?_⟩
    have z16 := cutL_pos 47 s
    have z17 := cutL_count 47 s
    have M18 := Mod.trans (Mod.refl [] w) (Mod.of_up u15)
    refine was (v := .slice A11 ((cutL 47 s).length) c12) ?_
    refine wnil (then_n (wp_seq (wp_seq (rg_lit ?_))))
    refine was (v := .int .i64 0) ?_
    refine wnil (then_n (wp_block ?_))
    refine lp (fun n a r1 => ∃ (k : Nat) (out : List ByteArray) (oA : Option Addr) (oc : Nat) (Z : Nat → Value), (n = (cutL 47 s).length - k) ∧ (a = ⟨#[.string s, undef, .string (⟨#[]⟩), .int .i64 0, .slice oA out.length oc, .slice A11 ((cutL 47 s).length) c12, .int .i64 (k : Int), .string s, .int .i64 (s.size : Int), .bool b1, .bool b1, .string s, .int .u8 ((y5.toNat : Nat) : Int), .bool b6, .bool b6, .string s, .slice A11 ((cutL 47 s).length) c12, (Z 17), (Z 18), (Z 19), (Z 20), (Z 21), (Z 22), (Z 23), (Z 24), (Z 25), (Z 26), (Z 27), (Z 28), (Z 29), (Z 30), (Z 31), (Z 32), (Z 33), (Z 34), (Z 35), (Z 36), (Z 37), (Z 38), (Z 39), (Z 40), (Z 41), (Z 42), (Z 43), (Z 44), (Z 45), (Z 46), (Z 47), (Z 48), (Z 49), (Z 50), (Z 51), (Z 52), (Z 53), (Z 54), (Z 55), (Z 56), undef, undef, undef, undef], []⟩) ∧ (Mod [] w10 r1) ∧ (k ≤ (cutL 47 s).length) ∧ (out.length ≤ k) ∧ (((cutL 47 s).drop k).foldl cleanS out = (cutL 47 s).foldl cleanS []) ∧ (BRow w10.heap.size r1 (.slice oA out.length oc) out)) ⟨_, 0, [], none, 0, tget [undef, undef, undef, undef, undef, undef, undef, undef, undef, undef, undef, undef, undef, undef, undef, undef, undef, undef, undef, undef, undef, undef, undef, undef, undef, undef, undef, undef, undef, undef, undef, undef, undef, undef, undef, undef, undef, undef, undef, undef, undef, undef, undef, undef, undef, undef, undef, undef, undef, undef, undef, undef, undef, undef, undef, undef, undef], rfl, (by kernel_rfl), Mod.refl _ _, (Nat.zero_le _), (Nat.zero_le _), rfl, (BRow.nil _ _)⟩ ?_
    rintro _ _ r1 ⟨k, out, oA, oc, Z, rfl, rfl, hM1, hF1_0, hF1_1, hF1_2, hF1_3⟩
    have M19 := Mod.thin M18 hM1 (by simp)
    refine wp_seq (wp_seq (rg_lit ?_))
    refine wmv (v := .int .i64 (k : Int)) ?_
    refine wmv (v := .slice A11 ((cutL 47 s).length) c12) ?_
    refine wl (sv rfl (v := .int .i64 (((cutL 47 s).length) : Int)) (r_len Ty.un69 (ad := A11) (n := ((cutL 47 s).length)) (c := c12) (by kernel_rfl)) ?_)
    refine wl (sb rfl (r_lt (k := .i64) (m := (k : Int)) (n := (((cutL 47 s).length) : Int)) (by kernel_rfl) (by kernel_rfl)) ?_)
    intro b20 k21
    refine wnil (then_n ?_)
    refine bcase b20 (fun v22 => ?_) (fun v22 => ?_)
    ·
     have p23 := of_decide_eq_false (k21.trans v22)
     refine wp_cond_false (ebool (b := b20) (by kernel_rfl) v22) ?_
     refine wp_exit (then_x (by nofun) (then_x (by nofun) (inb_hit (then_n (wp_seq (rg_lit ?_))))))
     refine wmv (v := .slice oA out.length oc) ?_
     have hoe : out = cleanO s := (clean_end (by omega) hF1_2).trans (cleanD_is (slash_c1 hy5 p9))
     have hzq := clean_out hs hoe
     have hzd : (∀ x ∈ out, x.size ≤ 100000) ∧ (joinB out).size ≤ 1000000 := ⟨fun x hx => clean_le6 hs hoe x hx, hzq.2.2⟩
     refine wl (sc rfl (r_callv (caps := []) (all := [.slice oA out.length oc]) En.f47 (by kernel_rfl) (by kernel_rfl)) (showD_at (l := out) (BRow.ss hF1_3) hzd.1 hzd.2) ?_)
     rintro e w24 ⟨rfl, u25⟩
     refine ⟨.tuple #[.string (showB out), .int .i64 (showK out)], rfl, ?_⟩
     have M26 := Mod.trans M19 (Mod.of_up u25)
     have M27 := Mod.trans hM1 (Mod.of_up u25)
     refine wl (sv rfl (v := .string (showB out)) (r_extract (vs := [.string (showB out), .int .i64 (showK out)]) (by kernel_rfl) rfl) ?_)
     refine wl (sv rfl (v := .int .i64 (showK out)) (r_extract (vs := [.string (showB out), .int .i64 (showK out)]) (by kernel_rfl) rfl) ?_)
     refine was (v := .string (showB out)) ?_
     refine was (v := .int .i64 (showK out)) ?_
     refine wnil (then_n (wp_ret ?_))
     refine bodyPost_ret (v := .tuple #[.string (showB out), .int .i64 (showK out)]) (res2 rfl (rv_t (by kernel_rfl)) (rv_t (by kernel_rfl))) (by kernel_rfl) ?_
     exact ⟨clean_ret (clean_show (slash_c1 hy5 p9) hoe), (Mod.up M26)⟩
    have p23 := of_decide_eq_true (k21.trans v22)
    refine wp_cond_true (ebool (b := b20) (by kernel_rfl) v22) ?_
    refine wp_skip (then_n (wp_seq (wp_block (wp_block (wp_seq (rg_lit ?_))))))
    refine wmv (v := .slice A11 ((cutL 47 s).length) c12) ?_
    refine wmv (v := .int .i64 (k : Int)) ?_
    have h24 := (SSRow.up h13 (Mod.up hM1))
    obtain ⟨y25, hy25⟩ : ∃ x, (cutL 47 s)[k]? = some x := ⟨_, List.getElem?_eq_getElem (by omega)⟩
    obtain ⟨g25, f25, hA25, hl25, hc25⟩ := SSRow.get h24 hy25
    refine wl (sv rfl (v := .pointer (some ⟨g25, f25 + k, none⟩)) (r_ixaddr' (A := A11) (b := g25) (o := f25) (n := ((cutL 47 s).length)) (c := c12) (sz := 1) (j := (k : Int)) (by kernel_rfl) hA25 (by kernel_rfl) Ty.un69 Ty.sz9 (by omega) (by omega) (by omega)) ?_)
    refine wl (sv rfl (v := .string y25) (r_loadc (by kernel_rfl) Ty.ag9 hc25) ?_)
    refine wl (sb rfl (r_eqs (m := y25) (n := (⟨#[]⟩)) (by kernel_rfl) (by kernel_rfl)) ?_)
    intro b26 k27
    refine wmv (v := .bool b26) ?_
    refine bcase b26 (fun v28 => ?_) (fun v28 => ?_)
    ·
     have p29 := of_decide_eq_false (k27.trans v28)
     refine wl (sv (wt (b := b26) rfl (by kernel_rfl) v28) (v := .slice A11 ((cutL 47 s).length) c12) (r_move (by kernel_rfl)) ?_)
     refine wl (sv (wt (b := b26) rfl (by kernel_rfl) v28) (v := .int .i64 (k : Int)) (r_move (by kernel_rfl)) ?_)
     obtain ⟨g30, f30, hA30, hl30, hc30⟩ := SSRow.get h24 hy25
     refine wl (sv (wt (b := b26) rfl (by kernel_rfl) v28) (v := .pointer (some ⟨g30, f30 + k, none⟩)) (r_ixaddr' (A := A11) (b := g30) (o := f30) (n := ((cutL 47 s).length)) (c := c12) (sz := 1) (j := (k : Int)) (by kernel_rfl) hA30 (by kernel_rfl) Ty.un69 Ty.sz9 (by omega) (by omega) (by omega)) ?_)
     refine wl (sv (wt (b := b26) rfl (by kernel_rfl) v28) (v := .string y25) (r_loadc (by kernel_rfl) Ty.ag9 hc30) ?_)
     refine wl (sb (wt (b := b26) rfl (by kernel_rfl) v28) (r_eqs (m := y25) (n := (⟨#[46]⟩)) (by kernel_rfl) (by kernel_rfl)) ?_)
     intro b31 k32
     refine wl (sv rfl (v := .bool b31) (r_pkF (ebool (b := b26) (by kernel_rfl) v28) (by kernel_rfl)) ?_)
     refine was (v := .bool b31) ?_
     refine wnil (then_n ?_)
     refine bcase b31 (fun v33 => ?_) (fun v33 => ?_)
     ·
      have p34 := of_decide_eq_false (k32.trans v33)
      refine wp_cond_false (ebool (b := b31) (by kernel_rfl) v33) ?_
      refine wp_seq (rg_lit ?_)
      refine wmv (v := .slice A11 ((cutL 47 s).length) c12) ?_
      refine wmv (v := .int .i64 (k : Int)) ?_
      obtain ⟨g35, f35, hA35, hl35, hc35⟩ := SSRow.get h24 hy25
      refine wl (sv rfl (v := .pointer (some ⟨g35, f35 + k, none⟩)) (r_ixaddr' (A := A11) (b := g35) (o := f35) (n := ((cutL 47 s).length)) (c := c12) (sz := 1) (j := (k : Int)) (by kernel_rfl) hA35 (by kernel_rfl) Ty.un69 Ty.sz9 (by omega) (by omega) (by omega)) ?_)
      refine wl (sv rfl (v := .string y25) (r_loadc (by kernel_rfl) Ty.ag9 hc35) ?_)
      refine wl (sb rfl (r_eqs (m := y25) (n := (⟨#[46, 46]⟩)) (by kernel_rfl) (by kernel_rfl)) ?_)
      intro b36 k37
      refine was (v := .bool b36) ?_
      refine wnil (then_n ?_)
      refine bcase b36 (fun v38 => ?_) (fun v38 => ?_)
      ·
       have p39 := of_decide_eq_false (k37.trans v38)
       refine wp_cond_false (ebool (b := b36) (by kernel_rfl) v38) ?_
       refine rg_lit ?_
       refine wmv (v := .slice oA out.length oc) ?_
       refine wmv (v := .slice A11 ((cutL 47 s).length) c12) ?_
       refine wmv (v := .int .i64 (k : Int)) ?_
       obtain ⟨g40, f40, hA40, hl40, hc40⟩ := SSRow.get h24 hy25
       refine wl (sv rfl (v := .pointer (some ⟨g40, f40 + k, none⟩)) (r_ixaddr' (A := A11) (b := g40) (o := f40) (n := ((cutL 47 s).length)) (c := c12) (sz := 1) (j := (k : Int)) (by kernel_rfl) hA40 (by kernel_rfl) Ty.un69 Ty.sz9 (by omega) (by omega) (by omega)) ?_)
       refine wl (sv rfl (v := .string y25) (r_loadc (by kernel_rfl) Ty.ag9 hc40) ?_)
       refine wl (sn rfl (cs := #[.string y25]) (T := 9) (V := fun b => .slice (some ⟨b, 0, none⟩) 1 1) (r_buildSlice (n := 1) (ps := [(0, .string y25)]) Ty.un69 Ty.sz9 Ty.zv9 (by decide) (by decide) (by kernel_rfl) (by kernel_rfl)) ?_)
       intro b41 w42 e43 h44 u45
       have g46 : w.heap.size ≤ b41 := by rw [e43]; exact M19.size
       have g47 : w10.heap.size ≤ b41 := by rw [e43]; exact hM1.size
       have M48 := Mod.trans M19 (Mod.of_up u45)
       have M49 := Mod.trans hM1 (Mod.of_up u45)
       have h50 := (BRow.up hF1_3 u45)
       refine wl (snB rfl (L := out) (x := y25) (by kernel_rfl) (by kernel_rfl) h50 Ty.un69 h44 M49.size (by omega) ?_)
       intro A51 c52 w53 h54 u55
       have M56 := Mod.trans' M48 u55 (fun k hk => Nat.le_trans M18.size (h50.own k hk).1)
       have M57 := Mod.trans' M49 u55 (fun k hk => Nat.le_trans (Nat.le_refl _) (h50.own k hk).1)
       refine was (v := .slice A51 ((out ++ [y25]).length) c52) ?_
       refine wnil (inb_n (inb_n (then_n (rg_lit ?_))))
       refine wmv (v := .int .i64 (k : Int)) ?_
       refine wl (sv rfl (v := .int .i64 ((k + 1 : Nat) : Int)) (r_add (k := .i64) (m := (k : Int)) (n := 1) (c := ((k + 1 : Nat) : Int)) (by kernel_rfl) (by kernel_rfl) ((IntWalk.i64_in _ (by omega)).trans (by omega))) ?_)
       refine was (v := .int .i64 ((k + 1 : Nat) : Int)) ?_
       refine wnil (then_n ?_)
       refine ⟨(cutL 47 s).length - (k + 1), ?_, (k + 1), (out ++ [y25]), A51, c52, tget [undef, undef, undef, undef, undef, undef, undef, undef, undef, undef, undef, undef, undef, undef, undef, undef, undef, .int .i64 (k : Int), .slice A11 ((cutL 47 s).length) c12, .int .i64 (((cutL 47 s).length) : Int), .bool b20, .int .i64 (k : Int), .int .i64 ((k + 1 : Nat) : Int), .slice oA out.length oc, .slice A11 ((cutL 47 s).length) c12, .int .i64 (k : Int), .pointer (some ⟨g40, f40 + k, none⟩), .string y25, .slice (some ⟨b41, 0, none⟩) 1 1, .slice A51 ((out ++ [y25]).length) c52, .bool b31, .slice A11 ((cutL 47 s).length) c12, .int .i64 (k : Int), .pointer (some ⟨g25, f25 + k, none⟩), .string y25, .bool b26, .bool b26, .slice A11 ((cutL 47 s).length) c12, .int .i64 (k : Int), .pointer (some ⟨g30, f30 + k, none⟩), .string y25, .bool b31, .bool b31, .bool b36, .slice A11 ((cutL 47 s).length) c12, .int .i64 (k : Int), .pointer (some ⟨g35, f35 + k, none⟩), .string y25, .bool b36, (Z 49), (Z 50), (Z 51), (Z 52), (Z 53), (Z 54), (Z 55), (Z 56)], rfl, (by kernel_rfl), M57, (by omega), (by (try simp only [List.length_append, List.length_cons, List.length_nil, List.length_take]); omega), (clean_nx hy25 hF1_2 (clS_d p29 p34 p39)), h54⟩
       · omega
      have p39 := of_decide_eq_true (k37.trans v38)
      refine wp_cond_true (ebool (b := b36) (by kernel_rfl) v38) ?_
      refine wp_seq (rg_lit ?_)
      refine wmv (v := .slice oA out.length oc) ?_
      refine wl (sv rfl (v := .int .i64 (out.length : Int)) (r_len Ty.un69 (ad := oA) (n := out.length) (c := oc) (by kernel_rfl)) ?_)
      refine wl (sb rfl (r_gt (k := .i64) (m := (out.length : Int)) (n := 0) (by kernel_rfl) (by kernel_rfl)) ?_)
      intro b40 k41
      refine wnil (then_n ?_)
      refine bcase b40 (fun v42 => ?_) (fun v42 => ?_)
      ·
       have p43 := of_decide_eq_false (k41.trans v42)
       refine wp_cond_false (ebool (b := b40) (by kernel_rfl) v42) ?_
       refine wp_skip (inb_n (inb_n (then_n (rg_lit ?_))))
       refine wmv (v := .int .i64 (k : Int)) ?_
       refine wl (sv rfl (v := .int .i64 ((k + 1 : Nat) : Int)) (r_add (k := .i64) (m := (k : Int)) (n := 1) (c := ((k + 1 : Nat) : Int)) (by kernel_rfl) (by kernel_rfl) ((IntWalk.i64_in _ (by omega)).trans (by omega))) ?_)
       refine was (v := .int .i64 ((k + 1 : Nat) : Int)) ?_
       refine wnil (then_n ?_)
       refine ⟨(cutL 47 s).length - (k + 1), ?_, (k + 1), out, oA, oc, tget [undef, undef, undef, undef, undef, undef, undef, undef, undef, undef, undef, undef, undef, undef, undef, undef, undef, .int .i64 (k : Int), .slice A11 ((cutL 47 s).length) c12, .int .i64 (((cutL 47 s).length) : Int), .bool b20, .int .i64 (k : Int), .int .i64 ((k + 1 : Nat) : Int), (Z 23), (Z 24), (Z 25), (Z 26), (Z 27), (Z 28), (Z 29), .bool b31, .slice A11 ((cutL 47 s).length) c12, .int .i64 (k : Int), .pointer (some ⟨g25, f25 + k, none⟩), .string y25, .bool b26, .bool b26, .slice A11 ((cutL 47 s).length) c12, .int .i64 (k : Int), .pointer (some ⟨g30, f30 + k, none⟩), .string y25, .bool b31, .bool b31, .bool b36, .slice A11 ((cutL 47 s).length) c12, .int .i64 (k : Int), .pointer (some ⟨g35, f35 + k, none⟩), .string y25, .bool b36, .slice oA out.length oc, .int .i64 (out.length : Int), .bool b40, (Z 52), (Z 53), (Z 54), (Z 55), (Z 56)], rfl, (by kernel_rfl), hM1, (by omega), (by (try simp only [List.length_append, List.length_cons, List.length_nil, List.length_take]); omega), (clean_nx hy25 hF1_2 (clS_c0 p39 p43)), hF1_3⟩
       · omega
      have p43 := of_decide_eq_true (k41.trans v42)
      refine wp_cond_true (ebool (b := b40) (by kernel_rfl) v42) ?_
      refine rg_lit ?_
      refine wmv (v := .slice oA out.length oc) ?_
      refine wmv (v := .slice oA out.length oc) ?_
      refine wl (sv rfl (v := .int .i64 (out.length : Int)) (r_len Ty.un69 (ad := oA) (n := out.length) (c := oc) (by kernel_rfl)) ?_)
      refine wl (sv rfl (v := .int .i64 ((out.length - 1 : Nat) : Int)) (r_sub (k := .i64) (m := (out.length : Int)) (n := 1) (c := ((out.length - 1 : Nat) : Int)) (by kernel_rfl) (by kernel_rfl) ((IntWalk.i64_in _ (by omega)).trans (by omega))) ?_)
      have h44 := BRow.pre (k := out.length - 1) hF1_3 (by omega)
      have z45 : (out.take (out.length - 1)).length = out.length - 1 := by rw [List.length_take]; omega
      refine wl (sv rfl (v := .slice oA ((out.take (out.length - 1)).length) oc) ((show _ = _ from by rw [z45]; exact r_slHi (w := r1) (t := 69) (k := out.length - 1) (L := out) (j := ((out.length - 1 : Nat) : Int)) (BRow.ss hF1_3) (by kernel_rfl) (by kernel_rfl) rfl Ty.un69 Ty.sz9 (by omega))) ?_)
      refine was (v := .slice oA ((out.take (out.length - 1)).length) oc) ?_
      refine wnil (inb_n (inb_n (then_n (rg_lit ?_))))
      refine wmv (v := .int .i64 (k : Int)) ?_
      refine wl (sv rfl (v := .int .i64 ((k + 1 : Nat) : Int)) (r_add (k := .i64) (m := (k : Int)) (n := 1) (c := ((k + 1 : Nat) : Int)) (by kernel_rfl) (by kernel_rfl) ((IntWalk.i64_in _ (by omega)).trans (by omega))) ?_)
      refine was (v := .int .i64 ((k + 1 : Nat) : Int)) ?_
      refine wnil (then_n ?_)
      refine ⟨(cutL 47 s).length - (k + 1), ?_, (k + 1), (out.take (out.length - 1)), oA, oc, tget [undef, undef, undef, undef, undef, undef, undef, undef, undef, undef, undef, undef, undef, undef, undef, undef, undef, .int .i64 (k : Int), .slice A11 ((cutL 47 s).length) c12, .int .i64 (((cutL 47 s).length) : Int), .bool b20, .int .i64 (k : Int), .int .i64 ((k + 1 : Nat) : Int), (Z 23), (Z 24), (Z 25), (Z 26), (Z 27), (Z 28), (Z 29), .bool b31, .slice A11 ((cutL 47 s).length) c12, .int .i64 (k : Int), .pointer (some ⟨g25, f25 + k, none⟩), .string y25, .bool b26, .bool b26, .slice A11 ((cutL 47 s).length) c12, .int .i64 (k : Int), .pointer (some ⟨g30, f30 + k, none⟩), .string y25, .bool b31, .bool b31, .bool b36, .slice A11 ((cutL 47 s).length) c12, .int .i64 (k : Int), .pointer (some ⟨g35, f35 + k, none⟩), .string y25, .bool b36, .slice oA out.length oc, .int .i64 (out.length : Int), .bool b40, .slice oA out.length oc, .slice oA out.length oc, .int .i64 (out.length : Int), .int .i64 ((out.length - 1 : Nat) : Int), .slice oA ((out.take (out.length - 1)).length) oc], rfl, (by kernel_rfl), hM1, (by omega), (by (try simp only [List.length_append, List.length_cons, List.length_nil, List.length_take]); omega), (clean_nx hy25 hF1_2 (clS_c p39)), h44⟩
      · omega
     have p34 := of_decide_eq_true (k32.trans v33)
     refine wp_cond_true (ebool (b := b31) (by kernel_rfl) v33) ?_
     refine wp_skip (inb_n (inb_n (then_n (rg_lit ?_))))
     refine wmv (v := .int .i64 (k : Int)) ?_
     refine wl (sv rfl (v := .int .i64 ((k + 1 : Nat) : Int)) (r_add (k := .i64) (m := (k : Int)) (n := 1) (c := ((k + 1 : Nat) : Int)) (by kernel_rfl) (by kernel_rfl) ((IntWalk.i64_in _ (by omega)).trans (by omega))) ?_)
     refine was (v := .int .i64 ((k + 1 : Nat) : Int)) ?_
     refine wnil (then_n ?_)
     refine ⟨(cutL 47 s).length - (k + 1), ?_, (k + 1), out, oA, oc, tget [undef, undef, undef, undef, undef, undef, undef, undef, undef, undef, undef, undef, undef, undef, undef, undef, undef, .int .i64 (k : Int), .slice A11 ((cutL 47 s).length) c12, .int .i64 (((cutL 47 s).length) : Int), .bool b20, .int .i64 (k : Int), .int .i64 ((k + 1 : Nat) : Int), (Z 23), (Z 24), (Z 25), (Z 26), (Z 27), (Z 28), (Z 29), .bool b31, .slice A11 ((cutL 47 s).length) c12, .int .i64 (k : Int), .pointer (some ⟨g25, f25 + k, none⟩), .string y25, .bool b26, .bool b26, .slice A11 ((cutL 47 s).length) c12, .int .i64 (k : Int), .pointer (some ⟨g30, f30 + k, none⟩), .string y25, .bool b31, .bool b31, (Z 43), (Z 44), (Z 45), (Z 46), (Z 47), (Z 48), (Z 49), (Z 50), (Z 51), (Z 52), (Z 53), (Z 54), (Z 55), (Z 56)], rfl, (by kernel_rfl), hM1, (by omega), (by (try simp only [List.length_append, List.length_cons, List.length_nil, List.length_take]); omega), (clean_nx hy25 hF1_2 (clS_b p34)), hF1_3⟩
     · omega
    have p29 := of_decide_eq_true (k27.trans v28)
    refine wl (sp (wf (b := b26) rfl (by kernel_rfl) v28) ?_)
    refine wl (sp (wf (b := b26) rfl (by kernel_rfl) v28) ?_)
    refine wl (sp (wf (b := b26) rfl (by kernel_rfl) v28) ?_)
    refine wl (sp (wf (b := b26) rfl (by kernel_rfl) v28) ?_)
    refine wl (sp (wf (b := b26) rfl (by kernel_rfl) v28) ?_)
    refine wl (sv rfl (v := .bool true) (r_pkT (ebool (b := b26) (by kernel_rfl) v28) (by kernel_rfl)) ?_)
    refine was (v := .bool true) ?_
    refine wnil (then_n ?_)
    refine wp_cond_true (by kernel_rfl) ?_
    refine wp_skip (inb_n (inb_n (then_n (rg_lit ?_))))
    refine wmv (v := .int .i64 (k : Int)) ?_
    refine wl (sv rfl (v := .int .i64 ((k + 1 : Nat) : Int)) (r_add (k := .i64) (m := (k : Int)) (n := 1) (c := ((k + 1 : Nat) : Int)) (by kernel_rfl) (by kernel_rfl) ((IntWalk.i64_in _ (by omega)).trans (by omega))) ?_)
    refine was (v := .int .i64 ((k + 1 : Nat) : Int)) ?_
    refine wnil (then_n ?_)
    refine ⟨(cutL 47 s).length - (k + 1), ?_, (k + 1), out, oA, oc, tget [undef, undef, undef, undef, undef, undef, undef, undef, undef, undef, undef, undef, undef, undef, undef, undef, undef, .int .i64 (k : Int), .slice A11 ((cutL 47 s).length) c12, .int .i64 (((cutL 47 s).length) : Int), .bool b20, .int .i64 (k : Int), .int .i64 ((k + 1 : Nat) : Int), (Z 23), (Z 24), (Z 25), (Z 26), (Z 27), (Z 28), (Z 29), .bool true, .slice A11 ((cutL 47 s).length) c12, .int .i64 (k : Int), .pointer (some ⟨g25, f25 + k, none⟩), .string y25, .bool b26, .bool b26, undef, undef, undef, undef, undef, .bool true, (Z 43), (Z 44), (Z 45), (Z 46), (Z 47), (Z 48), (Z 49), (Z 50), (Z 51), (Z 52), (Z 53), (Z 54), (Z 55), (Z 56)], rfl, (by kernel_rfl), hM1, (by omega), (by (try simp only [List.length_append, List.length_cons, List.length_nil, List.length_take]); omega), (clean_nx hy25 hF1_2 (clS_a p29)), hF1_3⟩
    · omega
   have p9 := of_decide_eq_true (k7.trans v8)
   refine wp_cond_true (ebool (b := b6) (by kernel_rfl) v8) ?_
   refine wp_seq (rg_lit ?_)
   refine was (v := .string (⟨#[]⟩)) ?_
   refine was (v := .int .i64 17) ?_
   refine wnil (then_n (wp_ret (then_x (by nofun) ?_)))
   refine bodyPost_ret (v := .tuple #[.string (⟨#[]⟩), .int .i64 17]) (res2 rfl (rv_t (by kernel_rfl)) (rv_t (by kernel_rfl))) (by kernel_rfl) ?_
   exact ⟨clean_ret (clean_1 (slash_c0 hy5 p9)), (Mod.up (Mod.refl [] w))⟩
  have p4 := of_decide_eq_true (k2.trans v3)
  refine wl (sp (wf (b := b1) rfl (by kernel_rfl) v3) ?_)
  refine wl (sp (wf (b := b1) rfl (by kernel_rfl) v3) ?_)
  refine wl (sp (wf (b := b1) rfl (by kernel_rfl) v3) ?_)
  refine wl (sv rfl (v := .bool true) (r_pkT (ebool (b := b1) (by kernel_rfl) v3) (by kernel_rfl)) ?_)
  refine wnil (then_n ?_)
  refine wp_cond_true (by kernel_rfl) ?_
  refine wp_seq (rg_lit ?_)
  refine was (v := .string (⟨#[]⟩)) ?_
  refine was (v := .int .i64 17) ?_
  refine wnil (then_n (wp_ret (then_x (by nofun) ?_)))
  refine bodyPost_ret (v := .tuple #[.string (⟨#[]⟩), .int .i64 17]) (res2 rfl (rv_t (by kernel_rfl)) (rv_t (by kernel_rfl))) (by kernel_rfl) ?_
  exact ⟨clean_ret (clean_1 (slash_empty p4)), (Mod.up (Mod.refl [] w))⟩
end Go.Proofs.YtefhfoioeoijlaaGreatDoor

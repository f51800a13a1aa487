/- GS: printed by gen.py -/
import Derived.Test.YtefhfoioeoijlaaGreatGR
import Derived.Test.YtefhfoioeoijlaaGreatPlain
import Derived.Test.YtefhfoioeoijlaaGreatGD
import Derived.Test.YtefhfoioeoijlaaGreatEx2
set_option linter.unusedVariables false
set_option linter.unusedSimpArgs false
namespace Go.Proofs.YtefhfoioeoijlaaGreat
open Go Go.RowKit Go.Sort
set_option maxHeartbeats 2000000 in
theorem rbuild_at {B : Nat} {w : World} {lA : Option Addr} {lc : Nat} {os : List OpD} (h : OpRow B w lA os) (hB : B ≤ w.heap.size) (hn : os.length ≤ 100000) :
    Calls Tryz.prog 17 #[.slice lA os.length lc] w fun e w' => ∃ ub, e = .returned (trP ub) ∧ RIs B w' ub (buildI os) ∧ Up w w' ∧ w.heap.size ≤ ub := by
  have hnm := h.names
  have hsl := sortO_len os
  go_enter Tryz.func17, Tryz.ntmps17
  refine wp_seq (rg_lit ?_)
  refine was (v := .pointer none) ?_
  refine wnil (then_n (wp_seq (rg_lit ?_)))
  refine wl (sv rfl (v := .agg #[.slice none 0 0]) (r_build (ps := []) (cs := [.slice none 0 0]) Ty.un54 Ty.zv54 Ty.pl54 (by kernel_rfl) (by kernel_rfl)) ?_)
  refine wl (sn rfl (cs := #[.slice none 0 0]) (T := 54) (V := fun b => .pointer (some ⟨b, 0, none⟩)) (r_box (v := .agg #[.slice none 0 0]) (by kernel_rfl) rfl) ?_)
  intro ub w1 e2 h3 u4
  have g5 : w.heap.size ≤ ub := by rw [e2]; exact (Mod.refl [] w).size
  have M6 := Mod.trans (Mod.refl [] w) (Mod.of_up u4)
  have h7 : RIs B w1 ub [] := ⟨Nat.le_trans hB g5, _, h3, RowI.nil _ _ _, (by nofun), (by simp)⟩
  refine was (v := .pointer (some ⟨ub, 0, none⟩)) ?_
  refine wnil (then_n (wp_seq (rg_lit ?_)))
  refine wmv (v := .slice lA os.length lc) ?_
  have h8 := (OpRow.up h (Mod.up M6))
  refine wl (sc rfl (r_callv (caps := []) (all := [.slice lA os.length lc]) En.f26 (by kernel_rfl) (by kernel_rfl)) (orow_sl (rsort_at h8 (Nat.le_trans hB M6.size) hn)) ?_)
  rintro e w9 ⟨A10, c11, rfl, h12, u13⟩
  refine ⟨.slice A10 ((sortO os).length) c11, rfl, ?_⟩
  have M14 := Mod.trans M6 (Mod.of_up u13)
  refine was (v := .slice A10 ((sortO os).length) c11) ?_
  refine wnil (then_n (wp_seq (wp_seq (rg_lit ?_))))
  refine was (v := .int .i64 0) ?_
  refine wnil (then_n (wp_block ?_))
  have h15 := (up_ob u13 h3)
  have h16 := (OpRow.up h (Mod.up M14))
  have h17 := (RIs.up h7 u13)
  refine lp (fun n a r1 => ∃ (kk : Nat) (Lc : List Item) (z10 z11 z12 z13 z14 z15 z16 z17 z18 z19 z20 z21 : Value), (n = (sortO os).length - kk) ∧ (a = ⟨#[.slice lA os.length lc, undef, .pointer none, .pointer (some ⟨ub, 0, none⟩), .slice A10 ((sortO os).length) c11, .int .i64 ((kk : Int)), .agg #[.slice none 0 0], .pointer (some ⟨ub, 0, none⟩), .slice lA os.length lc, .slice A10 ((sortO os).length) c11, z10, z11, z12, z13, z14, z15, z16, z17, z18, z19, z20, z21, undef], []⟩) ∧ (Mod [ub] w9 r1) ∧ (kk ≤ (sortO os).length) ∧ (Lc = ((sortO os).take kk).foldl playI []) ∧ (RIs B r1 ub Lc)) ⟨_, 0, [], undef, undef, undef, undef, undef, undef, undef, undef, undef, undef, undef, undef, rfl, (by kernel_rfl), Mod.refl _ _, (Nat.zero_le _), rfl, h17⟩ ?_
  rintro _ _ r1 ⟨kk, Lc, z10, z11, z12, z13, z14, z15, z16, z17, z18, z19, z20, z21, rfl, rfl, hM1, hF1_0, hF1_1, hF1_2⟩
  have M18 := Mod.thin M14 hM1 (fun y hy => by simp only [List.mem_cons, List.not_mem_nil, or_false] at hy; subst hy; exact .inr g5)
  have hsr : Srt Lc := by rw [hF1_1]; exact (fold_wf Wf.nil (by simp)).1.srt
  have hhu19 := hF1_2
  obtain ⟨_, vu19, hvu19, hlu19, _, _⟩ := hhu19
  rw [rowI_is] at hlu19
  obtain ⟨Au19, cu19, rfl⟩ := hlu19.form
  refine wp_seq (wp_seq (rg_lit ?_))
  refine wmv (v := .int .i64 ((kk : Int))) ?_
  refine wmv (v := .slice A10 ((sortO os).length) c11) ?_
  refine wl (sv rfl (v := .int .i64 ((((sortO os).length) : Int))) (r_len Ty.un28 (ad := A10) (n := ((sortO os).length)) (c := c11) (by kernel_rfl)) ?_)
  refine wl (sb rfl (r_lt (k := .i64) (m := ((kk : Int))) (n := ((((sortO os).length) : Int))) (by kernel_rfl) (by kernel_rfl)) ?_)
  intro b20 k21
  refine wnil (then_n ?_)
  refine bcase b20 (fun v22 => ?_) (fun v22 => ?_)
  ·
   have p23 := of_decide_eq_false (k21.trans v22)
   refine wp_cond_false (ebool (b := b20) (by kernel_rfl) v22) ?_
   refine wp_exit (then_x (by nofun) (then_x (by nofun) (inb_hit (then_n (wp_seq (rg_lit ?_))))))
   refine wmv (v := .pointer (some ⟨ub, 0, none⟩)) ?_
   refine was (v := .pointer (some ⟨ub, 0, none⟩)) ?_
   refine wnil (then_n (wp_ret ?_))
   refine bodyPost_ret (v := .pointer (some ⟨ub, 0, none⟩)) (res1 rfl (rv_t (by kernel_rfl))) (by kernel_rfl) ?_
   refine ⟨ub, rfl, ?_, (Mod.up M18), g5⟩
   have h0 := hF1_2
   rw [hF1_1, List.take_of_length_le (by omega)] at h0
   exact h0
  have p23 := of_decide_eq_true (k21.trans v22)
  refine wp_cond_true (ebool (b := b20) (by kernel_rfl) v22) ?_
  refine wp_skip (then_n (wp_seq (wp_block (rg_lit ?_))))
  refine wmv (v := .pointer (some ⟨ub, 0, none⟩)) ?_
  refine wmv (v := .slice A10 ((sortO os).length) c11) ?_
  refine wmv (v := .int .i64 ((kk : Int))) ?_
  have h24 := (ORow.chgn h12 (Mod.chg hM1) ⟨h17.1, NotU8.of h15 (by decide)⟩ (ORow.ne_old h12 (lt_ob h3)))
  obtain ⟨o25, ho25⟩ : ∃ x, ((sortO os))[kk]? = some x := ⟨_, List.getElem?_eq_getElem (by omega)⟩
  obtain ⟨g25, cp25, cu25, dA25, dn25, dc25, hA25, hg25, hb25, he25, hD25⟩ := ORow.get h24 ho25
  injection hA25 with hA25 _ _
  replace he25 : (cu25.toList.drop (0 + kk * 10)).take 10 = opC o25 (.slice dA25 dn25 dc25) := by rw [Nat.zero_add]; exact he25
  refine wl (sv rfl (v := .pointer (some ⟨g25, 0 + kk * 10, none⟩)) (r_ixaddr' (A := A10) (b := g25) (o := 0) (n := ((sortO os).length)) (c := c11) (sz := 10) (j := ((kk : Int))) (by kernel_rfl) hA25 (by kernel_rfl) Ty.un28 Ty.sz38 (by omega) (by omega) (by simp)) ?_)
  refine wl (sv rfl (v := opV o25 (.slice dA25 dn25 dc25)) (r_loads (k := 0 + kk * 10) (by kernel_rfl) Ty.ag38 Ty.sz38 hb25 (el_sub0 he25 rfl)) ?_)
  refine wl (sc rfl (r_callv (caps := []) (all := [.pointer (some ⟨ub, 0, none⟩), opV o25 (.slice dA25 dn25 dc25)]) En.f33 (by kernel_rfl) (by kernel_rfl)) (rdo_x hF1_2 (Nat.le_trans hB M18.size) hsr o25 dA25 dn25 dc25 hD25 (hnm _ (List.mem_of_getElem? ho25)) (rdo_at hF1_2 (Nat.le_trans hB M18.size) hsr o25 dA25 dn25 dc25 hD25 (hnm _ (List.mem_of_getElem? ho25)))) ?_)
  rintro e w26 ⟨A27, n28, c29, rfl, h30, h31, u32⟩
  refine ⟨.tuple #[itV (doI Lc o25).1.1 (.slice A27 n28 c29), .bool ((doI Lc o25).1.2.1), .int .i64 ((doI Lc o25).1.2.2)], rfl, ?_⟩
  have M33 := Mod.trans' M18 u32 (fun i hi => by injection hi with hi; rw [← hi]; exact g5)
  have M34 := Mod.trans hM1 (Mod.of_chg u32 (by simp))
  have hhu35 := h31
  obtain ⟨_, vu35, hvu35, hlu35, _, _⟩ := hhu35
  rw [rowI_is] at hlu35
  obtain ⟨Au35, cu35, rfl⟩ := hlu35.form
  refine wnil (inb_n (then_n (rg_lit ?_)))
  refine wmv (v := .int .i64 ((kk : Int))) ?_
  refine wl (sv rfl (v := .int .i64 (((kk + 1 : Nat) : Int))) (r_add (k := .i64) (m := ((kk : Int))) (n := 1) (c := (((kk + 1 : Nat) : Int))) (by kernel_rfl) (by kernel_rfl) ((IntWalk.i64_in _ (by omega)).trans (by omega))) ?_)
  refine was (v := .int .i64 (((kk + 1 : Nat) : Int))) ?_
  refine wnil (then_n ?_)
  refine ⟨(sortO os).length - (kk + 1), ?_, (kk + 1), (playI Lc o25), .int .i64 ((kk : Int)), .slice A10 ((sortO os).length) c11, .int .i64 ((((sortO os).length) : Int)), .bool b20, .int .i64 ((kk : Int)), .int .i64 (((kk + 1 : Nat) : Int)), .pointer (some ⟨ub, 0, none⟩), .slice A10 ((sortO os).length) c11, .int .i64 ((kk : Int)), .pointer (some ⟨g25, 0 + kk * 10, none⟩), opV o25 (.slice dA25 dn25 dc25), .tuple #[itV (doI Lc o25).1.1 (.slice A27 n28 c29), .bool ((doI Lc o25).1.2.1), .int .i64 ((doI Lc o25).1.2.2)], rfl, (by kernel_rfl), M34, (by omega), (by rw [tkO ho25, List.foldl_append, ← hF1_1]; rfl), h31⟩
  · omega
end Go.Proofs.YtefhfoioeoijlaaGreat

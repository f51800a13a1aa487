/- GLF: printed by gen.py -/
import Derived.Test.YtefhfoioeoijlaaGLE
import Derived.Test.YtefhfoioeoijlaaPlain
import Derived.Test.YtefhfoioeoijlaaGOL
import Derived.Test.YtefhfoioeoijlaaGR
set_option linter.unusedVariables false
set_option linter.unusedSimpArgs false
namespace Go.Proofs.Ytefhfoioeoijlaa
open Go Go.RowKit Go.Sort
theorem OpRow.small2 {B : Nat} {w : World} {A : Option Addr} {os : List OpD} (h : OpRow B w A os) : ∀ o ∈ os, o.name.size ≤ 9223372036854775807 := fun o ho => by
  obtain ⟨i, hi⟩ := List.mem_iff_getElem?.1 ho
  obtain ⟨_, _, _, _, _, _, _, _, _, hs⟩ := h i o hi
  exact hs
set_option maxRecDepth 20000 in
set_option maxHeartbeats 2000000 in
theorem undoSame_at {w : World} {lA : Option Addr} {lc : Nat} {os : List OpD} (h0 : OpRow0 w lA os) (hfull0 : Small os → OpRow w.heap.size w lA os) (hB : w.heap.size ≤ w.heap.size) (hn0 : os.length ≤ 9223372036854775807) {tA : Option Addr} {tc : Nat} {ts : List Int} (hts : IntRow w tA ts) (htn : ts.length ≤ 9223372036854775807)
    {mA : Option Addr} {mc : Nat} {ms : List OpD} (h2 : OpRow0 w mA ms) (hfull2 : Small ms → OpRow w.heap.size w mA ms) (_hB2 : w.heap.size ≤ w.heap.size) (hn2 : ms.length ≤ 9223372036854775807) :
    Calls Try.prog 5 #[.slice lA os.length lc, .slice tA ts.length tc, .slice mA ms.length mc] w fun e w' => e = .returned (.bool true) ∧ Up w w' := by
  go_enter Try.func5, Try.ntmps5
  refine wp_seq (rg_lit ?_)
  refine was (v := .bool false) ?_
  refine wnil (then_n (wp_seq (wp_seq (rg_lit ?_))))
  refine wmv (v := .slice lA os.length lc) ?_
  refine wl (sc rfl (r_callv (caps := []) (all := [.slice lA os.length lc, .int .i64 20]) En.f12 (by kernel_rfl) (by kernel_rfl)) (light2_at (OpRow0.up h0 (Mod.up (Mod.refl [] w))) hn0 20) ?_)
  rintro e w1 ⟨lb2, rfl, h3, u4⟩
  refine ⟨.bool lb2, rfl, ?_⟩
  have M5 := Mod.trans (Mod.refl [] w) (Mod.of_up u4)
  refine wl (sv rfl (v := .bool (!lb2)) (r_not (b := lb2) (by kernel_rfl)) ?_)
  refine wmv (v := .bool (!lb2)) ?_
  refine bcase lb2 (fun v6 => ?_) (fun v6 => ?_)
  ·
   refine wl (sp (wf (b := !lb2) rfl (by kernel_rfl) (bneg v6)) ?_)
   refine wl (sp (wf (b := !lb2) rfl (by kernel_rfl) (bneg v6)) ?_)
   refine wl (sp (wf (b := !lb2) rfl (by kernel_rfl) (bneg v6)) ?_)
   refine wl (sv rfl (v := .bool true) (r_pkT (ebool (b := !lb2) (by kernel_rfl) (bneg v6)) (by kernel_rfl)) ?_)
   refine wmv (v := .bool true) ?_
   refine wsp ?_
   refine wsp ?_
   refine wsp ?_
   refine wl (sv rfl (v := .bool true) (r_pkT (by kernel_rfl) (by kernel_rfl)) ?_)
   refine wnil (then_n ?_)
   refine wp_cond_true (by kernel_rfl) ?_
   refine wp_seq (rg_lit ?_)
   refine wl (sc rfl (r_callv (caps := []) (all := []) En.f32 (by kernel_rfl) (by kernel_rfl)) (alive17_at) ?_)
   rintro e w7 ⟨rfl, u8⟩
   refine ⟨.bool true, rfl, ?_⟩
   have M9 := Mod.trans M5 (Mod.of_up u8)
   refine was (v := .bool true) ?_
   refine wnil (then_n (wp_ret (then_x (by nofun) ?_)))
   refine bodyPost_ret (v := .bool true) (res1 rfl (rv_t (by kernel_rfl))) (by kernel_rfl) ?_
   exact ⟨rfl, Mod.up M9⟩
  obtain ⟨hsm0, hle0⟩ := h3 v6
  have hops0 := hfull0 hsm0
  refine wl (sv (wt (b := !lb2) rfl (by kernel_rfl) (bneg v6)) (v := .slice mA ms.length mc) (r_move (by kernel_rfl)) ?_)
  refine wl (sc (wt (b := !lb2) rfl (by kernel_rfl) (bneg v6)) (r_callv (caps := []) (all := [.slice mA ms.length mc, .int .i64 10]) En.f12 (by kernel_rfl) (by kernel_rfl)) (light2_at (OpRow0.up h2 (Mod.up M5)) hn2 10) ?_)
  rintro e w7 ⟨lb8, rfl, h9, u10⟩
  refine ⟨.bool lb8, rfl, ?_⟩
  have M11 := Mod.trans M5 (Mod.of_up u10)
  refine wl (sv (wt (b := !lb2) rfl (by kernel_rfl) (bneg v6)) (v := .bool (!lb8)) (r_not (b := lb8) (by kernel_rfl)) ?_)
  refine wl (sv rfl (v := .bool (!lb8)) (r_pkF (ebool (b := !lb2) (by kernel_rfl) (bneg v6)) (by kernel_rfl)) ?_)
  refine wmv (v := .bool (!lb8)) ?_
  refine bcase lb8 (fun v12 => ?_) (fun v12 => ?_)
  ·
   refine wl (sp (wf (b := !lb8) rfl (by kernel_rfl) (bneg v12)) ?_)
   refine wl (sp (wf (b := !lb8) rfl (by kernel_rfl) (bneg v12)) ?_)
   refine wl (sp (wf (b := !lb8) rfl (by kernel_rfl) (bneg v12)) ?_)
   refine wl (sv rfl (v := .bool true) (r_pkT (ebool (b := !lb8) (by kernel_rfl) (bneg v12)) (by kernel_rfl)) ?_)
   refine wnil (then_n ?_)
   refine wp_cond_true (by kernel_rfl) ?_
   refine wp_seq (rg_lit ?_)
   refine wl (sc rfl (r_callv (caps := []) (all := []) En.f32 (by kernel_rfl) (by kernel_rfl)) (alive17_at) ?_)
   rintro e w13 ⟨rfl, u14⟩
   refine ⟨.bool true, rfl, ?_⟩
   have M15 := Mod.trans M11 (Mod.of_up u14)
   refine was (v := .bool true) ?_
   refine wnil (then_n (wp_ret (then_x (by nofun) ?_)))
   refine bodyPost_ret (v := .bool true) (res1 rfl (rv_t (by kernel_rfl))) (by kernel_rfl) ?_
   exact ⟨rfl, Mod.up M15⟩
  obtain ⟨hsm2, hle2⟩ := h9 v12
  have hops2 := hfull2 hsm2
  refine wl (sv (wt (b := !lb8) rfl (by kernel_rfl) (bneg v12)) (v := .slice tA ts.length tc) (r_move (by kernel_rfl)) ?_)
  refine wl (sv (wt (b := !lb8) rfl (by kernel_rfl) (bneg v12)) (v := .int .i64 ((ts.length : Int))) (r_len Ty.un75 (ad := tA) (n := ts.length) (c := tc) (by kernel_rfl)) ?_)
  refine wl (sb (wt (b := !lb8) rfl (by kernel_rfl) (bneg v12)) (r_gt (k := .i64) (m := ((ts.length : Int))) (n := 60) (by kernel_rfl) (by kernel_rfl)) ?_)
  intro b13 k14
  refine wl (sv rfl (v := .bool b13) (r_pkF (ebool (b := !lb8) (by kernel_rfl) (bneg v12)) (by kernel_rfl)) ?_)
  refine wnil (then_n ?_)
  refine bcase b13 (fun v15 => ?_) (fun v15 => ?_)
  ·
   have p16 := of_decide_eq_false (k14.trans v15)
   refine wp_cond_false (ebool (b := b13) (by kernel_rfl) v15) ?_
   refine wp_skip (then_n (wp_seq (rg_lit ?_)))
   refine wmv (v := .slice lA os.length lc) ?_
   have h20 := (OpRow.up hops0 (Mod.up M11))
   refine wl (sc rfl (r_callv (caps := []) (all := [.slice lA os.length lc]) En.f42 (by kernel_rfl) (by kernel_rfl)) (rsort_at h20 (Nat.le_trans hB M11.size) (by omega)) ?_)
   rintro e w17 ⟨v, rfl, h18, u19⟩
   obtain ⟨S, hS⟩ : ∃ S, S = sortO os := ⟨_, rfl⟩
   rw [← hS] at h18
   have hSs : SrtO S := by rw [hS]; exact sortO_srt os
   have hSl : S.length ≤ 20 := by have h0 := sortO_len os; rw [← hS] at h0; omega
   have hSn : ∀ x ∈ S, x.name.size ≤ 9223372036854775807 := fun x hx => OpRow.small2 hops0 x (sortO_mem (by rw [← hS]; exact hx))
   obtain ⟨sA, sK, rfl⟩ := h18.form
   obtain ⟨bs, hbs⟩ : ∃ n, n = w7.heap.size := ⟨_, rfl⟩
   rw [← hbs] at h18
   have hbs0 : w.heap.size ≤ bs := by rw [hbs]; exact (Mod.up M11).size
   refine ⟨.slice sA S.length sK, rfl, ?_⟩
   have M21 := Mod.trans M11 (Mod.of_up u19)
   refine was (v := .slice sA S.length sK) ?_
   refine wnil (then_n (wp_seq (rg_lit ?_)))
   refine wl (sc rfl (r_callv (caps := []) (all := []) En.f33 (by kernel_rfl) (by kernel_rfl)) (lognew_at (Nat.le_trans hB M21.size)) ?_)
   rintro e w22 ⟨la, ta, qa, rfl, hL23, u24, z25, z26, z27⟩
   refine ⟨.pointer (some ⟨la, 0, none⟩), rfl, ?_⟩
   have M28 := Mod.trans M21 (Mod.of_up u24)
   refine wl (sc rfl (r_callv (caps := []) (all := []) En.f33 (by kernel_rfl) (by kernel_rfl)) (lognew_at (Nat.le_trans hB M28.size)) ?_)
   rintro e w29 ⟨lb, tb, qb, rfl, hL30, u31, z32, z33, z34⟩
   refine ⟨.pointer (some ⟨lb, 0, none⟩), rfl, ?_⟩
   have M35 := Mod.trans M28 (Mod.of_up u31)
   have hT36 := two_new hL23 u31 hL30 z32 z33 z34
   refine was (v := .pointer (some ⟨la, 0, none⟩)) ?_
   refine was (v := .pointer (some ⟨lb, 0, none⟩)) ?_
   refine wnil (then_n (wp_seq (wp_seq (rg_lit ?_))))
   refine was (v := .int .i64 0) ?_
   refine wnil (then_n (wp_block ?_))
   have h37 := (ORow.up (ORow.up h18 u24) u31)
   refine lp (fun n a r1 => ∃ (ka : Nat) (z34 z35 z36 z37 z38 z39 z40 z41 z42 z43 z44 z45 : Value), (n = S.length - ka) ∧ (a = ⟨#[.slice lA os.length lc, .slice tA ts.length tc, .slice mA ms.length mc, undef, undef, undef, .bool false, .slice sA S.length sK, .pointer (some ⟨la, 0, none⟩), .pointer (some ⟨lb, 0, none⟩), .int .i64 ((ka : Int)), undef, undef, undef, undef, undef, .slice lA os.length lc, .bool lb2, .bool (!lb2), .bool (!lb2), .slice mA ms.length mc, .bool lb8, .bool (!lb8), .bool (!lb8), .bool (!lb8), .slice tA ts.length tc, .int .i64 ((ts.length : Int)), .bool b13, .bool b13, undef, .slice lA os.length lc, .slice sA S.length sK, .pointer (some ⟨la, 0, none⟩), .pointer (some ⟨lb, 0, none⟩), z34, z35, z36, z37, z38, z39, z40, z41, z42, z43, z44, z45, undef, undef, undef, undef, undef, undef, undef, undef, undef, undef, undef, undef, undef, undef, undef, undef, undef, undef, undef, undef, undef, undef, undef, undef, undef, undef, undef, undef, undef, undef, undef, undef, undef, undef, undef, undef, undef, undef, undef, undef, undef, undef, undef, undef, undef, undef, undef, undef, undef, undef, undef, undef, undef, undef, undef, undef, undef, undef, undef, undef, undef, undef, undef, undef, undef, undef, undef, undef, undef, undef, undef, undef, undef, undef, undef, undef, undef, undef, undef, undef, undef, undef, undef, undef, undef, undef, undef, undef, undef, undef, undef, undef, undef, undef, undef, undef, undef, undef, undef, undef, undef, undef, undef, undef, undef, undef, undef, undef, undef, undef, undef, undef, undef, undef, undef, undef, undef, undef, undef, undef, undef, undef, undef], []⟩) ∧ (Up w r1) ∧ (ka ≤ S.length) ∧ (ORow 40 w.heap.size bs r1 (.slice sA S.length sK) S) ∧ (Two w.heap.size r1 la lb ((S.take ka).foldl insL []) ([] : List OpD))) ⟨_, 0, undef, undef, undef, undef, undef, undef, undef, undef, undef, undef, undef, undef, rfl, (by kernel_rfl), (Mod.up M35), (Nat.zero_le _), h37, hT36⟩ ?_
   rintro _ _ r1 ⟨ka, z34, z35, z36, z37, z38, z39, z40, z41, z42, z43, z44, z45, rfl, rfl, hU1, hF1_0, hF1_1, hF1_2⟩
   refine wp_seq (wp_seq (rg_lit ?_))
   refine wmv (v := .int .i64 ((ka : Int))) ?_
   refine wmv (v := .slice sA S.length sK) ?_
   refine wl (sv rfl (v := .int .i64 ((S.length : Int))) (r_len Ty.un22 (ad := sA) (n := S.length) (c := sK) (by kernel_rfl)) ?_)
   refine wl (sb rfl (r_lt (k := .i64) (m := ((ka : Int))) (n := ((S.length : Int))) (by kernel_rfl) (by kernel_rfl)) ?_)
   intro b38 k39
   refine wnil (then_n ?_)
   refine bcase b38 (fun v40 => ?_) (fun v40 => ?_)
   ·
    have p41 := of_decide_eq_false (k39.trans v40)
    refine wp_cond_false (ebool (b := b38) (by kernel_rfl) v40) ?_
    refine wp_exit (then_x (by nofun) (then_x (by nofun) (inb_hit (then_n (wp_seq (wp_seq (rg_lit ?_)))))))
    refine was (v := .int .i64 0) ?_
    refine wnil (then_n ?_)
    obtain ⟨Aa, hAa⟩ : ∃ A, A = S.foldl insL [] := ⟨_, rfl⟩
    have hAl : Aa.length ≤ 20 := by have h0 := insA_len S []; rw [← hAa] at h0; simp only [List.length_nil] at h0; omega
    have hAs : SrtO Aa := by rw [hAa]; exact insA_all_srt S
    have hAn : ∀ x ∈ Aa, x.name.size ≤ 9223372036854775807 := fun x hx => hSn x (insA_sub (by rw [← hAa]; exact hx))
    refine wp_cut (R := fun a wq => ∃ (S2 : List OpD) (y11 y12 y13 y46 y47 y48 y49 y50 y51 y52 y53 y54 y55 y56 y57 y58 y59 y60 y61 y62 y63 y64 y65 y66 y67 y68 y69 y70 y71 y72 y73 y74 y75 y76 y77 y78 y79 y80 y81 y82 : Value), (a = ⟨#[.slice lA os.length lc, .slice tA ts.length tc, .slice mA ms.length mc, undef, undef, undef, .bool false, .slice sA S.length sK, .pointer (some ⟨la, 0, none⟩), .pointer (some ⟨lb, 0, none⟩), .int .i64 ((ka : Int)), y11, y12, y13, undef, undef, .slice lA os.length lc, .bool lb2, .bool (!lb2), .bool (!lb2), .slice mA ms.length mc, .bool lb8, .bool (!lb8), .bool (!lb8), .bool (!lb8), .slice tA ts.length tc, .int .i64 ((ts.length : Int)), .bool b13, .bool b13, undef, .slice lA os.length lc, .slice sA S.length sK, .pointer (some ⟨la, 0, none⟩), .pointer (some ⟨lb, 0, none⟩), .int .i64 ((ka : Int)), .slice sA S.length sK, .int .i64 ((S.length : Int)), .bool b38, z38, z39, z40, z41, z42, z43, z44, z45, y46, y47, y48, y49, y50, y51, y52, y53, y54, y55, y56, y57, y58, y59, y60, y61, y62, y63, y64, y65, y66, y67, y68, y69, y70, y71, y72, y73, y74, y75, y76, y77, y78, y79, y80, y81, y82, undef, undef, undef, undef, undef, undef, undef, undef, undef, undef, undef, undef, undef, undef, undef, undef, undef, undef, undef, undef, undef, undef, undef, undef, undef, undef, undef, undef, undef, undef, undef, undef, undef, undef, undef, undef, undef, undef, undef, undef, undef, undef, undef, undef, undef, undef, undef, undef, undef, undef, undef, undef, undef, undef, undef, undef, undef, undef, undef, undef, undef, undef, undef, undef, undef, undef, undef, undef, undef, undef, undef, undef, undef, undef, undef, undef, undef, undef, undef, undef, undef, undef, undef, undef, undef, undef], []⟩) ∧ (Up w wq) ∧ (S2.length = S.length) ∧ (Hid (∀ z, z ∈ S2 ↔ z ∈ S)) ∧ (ORow 40 w.heap.size bs wq (.slice sA S.length sK) S2) ∧ (Two w.heap.size wq la lb Aa ([] : List OpD))) ?_ ?_
    ·
     refine wp_block ?_
     refine lp (fun n a r2 => ∃ (kb : Nat) (S2 : List OpD) (z12 z13 z46 z47 z48 z49 z50 z51 z52 z53 z54 z55 z56 z57 z58 z59 z60 z61 z62 z63 z64 z65 z66 z67 z68 z69 z70 z71 z72 z73 z74 z75 z76 z77 z78 z79 z80 z81 z82 : Value), (n = ts.length - kb) ∧ (a = ⟨#[.slice lA os.length lc, .slice tA ts.length tc, .slice mA ms.length mc, undef, undef, undef, .bool false, .slice sA S.length sK, .pointer (some ⟨la, 0, none⟩), .pointer (some ⟨lb, 0, none⟩), .int .i64 ((ka : Int)), .int .i64 ((kb : Int)), z12, z13, undef, undef, .slice lA os.length lc, .bool lb2, .bool (!lb2), .bool (!lb2), .slice mA ms.length mc, .bool lb8, .bool (!lb8), .bool (!lb8), .bool (!lb8), .slice tA ts.length tc, .int .i64 ((ts.length : Int)), .bool b13, .bool b13, undef, .slice lA os.length lc, .slice sA S.length sK, .pointer (some ⟨la, 0, none⟩), .pointer (some ⟨lb, 0, none⟩), .int .i64 ((ka : Int)), .slice sA S.length sK, .int .i64 ((S.length : Int)), .bool b38, z38, z39, z40, z41, z42, z43, z44, z45, z46, z47, z48, z49, z50, z51, z52, z53, z54, z55, z56, z57, z58, z59, z60, z61, z62, z63, z64, z65, z66, z67, z68, z69, z70, z71, z72, z73, z74, z75, z76, z77, z78, z79, z80, z81, z82, undef, undef, undef, undef, undef, undef, undef, undef, undef, undef, undef, undef, undef, undef, undef, undef, undef, undef, undef, undef, undef, undef, undef, undef, undef, undef, undef, undef, undef, undef, undef, undef, undef, undef, undef, undef, undef, undef, undef, undef, undef, undef, undef, undef, undef, undef, undef, undef, undef, undef, undef, undef, undef, undef, undef, undef, undef, undef, undef, undef, undef, undef, undef, undef, undef, undef, undef, undef, undef, undef, undef, undef, undef, undef, undef, undef, undef, undef, undef, undef, undef, undef, undef, undef, undef, undef], []⟩) ∧ (Up w r2) ∧ (kb ≤ ts.length) ∧ (S2.length = S.length) ∧ (Hid (∀ z, z ∈ S2 ↔ z ∈ S)) ∧ (ORow 40 w.heap.size bs r2 (.slice sA S.length sK) S2) ∧ (Two w.heap.size r2 la lb Aa ([] : List OpD))) ⟨_, 0, S, undef, undef, undef, undef, undef, undef, undef, undef, undef, undef, undef, undef, undef, undef, undef, undef, undef, undef, undef, undef, undef, undef, undef, undef, undef, undef, undef, undef, undef, undef, undef, undef, undef, undef, undef, undef, undef, undef, undef, rfl, (by kernel_rfl), (Mod.up (Mod.of_up (X := []) hU1)), (Nat.zero_le _), rfl, (fun z => Iff.rfl), hF1_1, (Two.to hF1_2 (by rw [foldA_all (S := S) (by omega)]; exact hAa.symm) rfl)⟩ ?_
     rintro _ _ r2 ⟨kb, S2, z12, z13, z46, z47, z48, z49, z50, z51, z52, z53, z54, z55, z56, z57, z58, z59, z60, z61, z62, z63, z64, z65, z66, z67, z68, z69, z70, z71, z72, z73, z74, z75, z76, z77, z78, z79, z80, z81, z82, rfl, rfl, hU2, hF2_0, hF2_1, hF2_2, hF2_3, hF2_4⟩
     have hS2l := hF2_1
     have hmem := hF2_2
     have hS2n : ∀ x ∈ S2, x.name.size ≤ 9223372036854775807 := fun x hx => hSn x ((hmem.out x).1 hx)
     refine wp_seq (wp_seq (rg_lit ?_))
     refine wmv (v := .int .i64 ((kb : Int))) ?_
     refine wmv (v := .slice tA ts.length tc) ?_
     refine wl (sv rfl (v := .int .i64 ((ts.length : Int))) (r_len Ty.un75 (ad := tA) (n := ts.length) (c := tc) (by kernel_rfl)) ?_)
     refine wl (sb rfl (r_lt (k := .i64) (m := ((kb : Int))) (n := ((ts.length : Int))) (by kernel_rfl) (by kernel_rfl)) ?_)
     intro b42 k43
     refine wmv (v := .bool b42) ?_
     refine bcase b42 (fun v44 => ?_) (fun v44 => ?_)
     ·
      have p45 := of_decide_eq_false (k43.trans v44)
      refine wl (sp (wf (b := b42) rfl (by kernel_rfl) v44) ?_)
      refine wl (sp (wf (b := b42) rfl (by kernel_rfl) v44) ?_)
      refine wl (sp (wf (b := b42) rfl (by kernel_rfl) v44) ?_)
      refine wl (sv rfl (v := .bool false) (r_pkF (ebool (b := b42) (by kernel_rfl) v44) (by kernel_rfl)) ?_)
      refine wnil (then_n ?_)
      refine wp_cond_false (by kernel_rfl) ?_
      refine wp_exit (then_x (by nofun) (then_x (by nofun) (inb_hit (then_n ?_))))
      exact ⟨S2, .int .i64 ((kb : Int)), z12, z13, .int .i64 ((kb : Int)), .slice tA ts.length tc, .int .i64 ((ts.length : Int)), .bool b42, .bool b42, undef, undef, undef, .bool false, z55, z56, z57, z58, z59, z60, z61, z62, z63, z64, z65, z66, z67, z68, z69, z70, z71, z72, z73, z74, z75, z76, z77, z78, z79, z80, z81, z82, (by kernel_rfl), (Mod.up (Mod.of_up (X := []) hU2)), hS2l, hmem, hF2_3, hF2_4⟩
     have p45 := of_decide_eq_true (k43.trans v44)
     refine wl (sv (wt (b := b42) rfl (by kernel_rfl) v44) (v := .slice sA S.length sK) (r_move (by kernel_rfl)) ?_)
     refine wl (sv (wt (b := b42) rfl (by kernel_rfl) v44) (v := .int .i64 ((S.length : Int))) (r_len Ty.un22 (ad := sA) (n := S.length) (c := sK) (by kernel_rfl)) ?_)
     refine wl (sb (wt (b := b42) rfl (by kernel_rfl) v44) (r_gt (k := .i64) (m := ((S.length : Int))) (n := 0) (by kernel_rfl) (by kernel_rfl)) ?_)
     intro b46 k47
     refine wl (sv rfl (v := .bool b46) (r_pkT (ebool (b := b42) (by kernel_rfl) v44) (by kernel_rfl)) ?_)
     refine wnil (then_n ?_)
     refine bcase b46 (fun v48 => ?_) (fun v48 => ?_)
     ·
      have p49 := of_decide_eq_false (k47.trans v48)
      refine wp_cond_false (ebool (b := b46) (by kernel_rfl) v48) ?_
      refine wp_exit (then_x (by nofun) (then_x (by nofun) (inb_hit (then_n ?_))))
      exact ⟨S2, .int .i64 ((kb : Int)), z12, z13, .int .i64 ((kb : Int)), .slice tA ts.length tc, .int .i64 ((ts.length : Int)), .bool b42, .bool b42, .slice sA S.length sK, .int .i64 ((S.length : Int)), .bool b46, .bool b46, z55, z56, z57, z58, z59, z60, z61, z62, z63, z64, z65, z66, z67, z68, z69, z70, z71, z72, z73, z74, z75, z76, z77, z78, z79, z80, z81, z82, (by kernel_rfl), (Mod.up (Mod.of_up (X := []) hU2)), hS2l, hmem, hF2_3, hF2_4⟩
     have p49 := of_decide_eq_true (k47.trans v48)
     refine wp_cond_true (ebool (b := b46) (by kernel_rfl) v48) ?_
     refine wp_skip (then_n (wp_seq (wp_block (wp_seq (rg_lit ?_)))))
     refine wmv (v := .slice tA ts.length tc) ?_
     refine wmv (v := .int .i64 ((kb : Int))) ?_
     have h51 := (IntRow.up hts (Mod.up (Mod.of_up (X := []) hU2)))
     obtain ⟨g50, f50, hA50, hl50, hc50⟩ := h51 kb (by omega)
     refine wl (sv rfl (v := .pointer (some ⟨g50, f50 + kb, none⟩)) (r_ixaddr' (A := tA) (b := g50) (o := f50) (n := ts.length) (c := tc) (sz := 1) (j := ((kb : Int))) (m := f50 + kb) (by kernel_rfl) hA50 (by kernel_rfl) Ty.un75 Ty.sz3 (by omega) (by omega) (by simp)) ?_)
     refine wl (sv rfl (v := .int .i64 (ts.getD kb 0)) (r_loadc (by kernel_rfl) Ty.ag3 hc50) ?_)
     refine wmv (v := .slice sA S.length sK) ?_
     refine wl (sv rfl (v := .int .i64 ((S.length : Int))) (r_len Ty.un22 (ad := sA) (n := S.length) (c := sK) (by kernel_rfl)) ?_)
     obtain ⟨qz, hqz, hqz1, hqz2⟩ := tmod_in (ts.getD kb 0) (n := S.length) (by omega)
     refine wl (sv rfl (v := .int .i64 qz) (r_rem (m := (ts.getD kb 0)) (n := ((S.length : Int))) (by kernel_rfl) (by kernel_rfl) (by omega) hqz) ?_)
     refine wmv (v := .slice sA S.length sK) ?_
     refine wl (sv rfl (v := .int .i64 ((S.length : Int))) (r_len Ty.un22 (ad := sA) (n := S.length) (c := sK) (by kernel_rfl)) ?_)
     refine wl (sv rfl (v := .int .i64 (qz + (S.length : Int))) (r_add (k := .i64) (m := qz) (n := ((S.length : Int))) (c := qz + (S.length : Int)) (by kernel_rfl) (by kernel_rfl) (IntWalk.i64_in _ (by omega))) ?_)
     refine wmv (v := .slice sA S.length sK) ?_
     refine wl (sv rfl (v := .int .i64 ((S.length : Int))) (r_len Ty.un22 (ad := sA) (n := S.length) (c := sK) (by kernel_rfl)) ?_)
     obtain ⟨bN, hbN, hbn⟩ := tmod_nat (n := S.length) (by omega) hqz1
     refine wl (sv rfl (v := .int .i64 ((bN : Int))) (r_rem (m := (qz + (S.length : Int))) (n := ((S.length : Int))) (by kernel_rfl) (by kernel_rfl) (by omega) hbN) ?_)
     refine was (v := .int .i64 ((bN : Int))) ?_
     refine wnil (then_n (wp_seq (rg_lit ?_)))
     refine wmv (v := .slice sA S.length sK) ?_
     obtain ⟨x52, hx52⟩ : ∃ x, S2[0]? = some x := ⟨_, List.getElem?_eq_getElem (by omega)⟩
     obtain ⟨g52, cp52, cu52, dA52, dn52, dc52, hA52, hg52, hb52, he52, hD52⟩ := ORow.get hF2_3 hx52
     injection hA52 with hA52 _ _
     refine wl (sv rfl (v := .pointer (some ⟨g52, 0 * 10, none⟩)) (r_ixaddr' (A := sA) (b := g52) (o := 0) (n := S.length) (c := sK) (sz := 10) (j := 0) (m := 0 * 10) (by kernel_rfl) hA52 (by kernel_rfl) Ty.un22 Ty.sz40 (by omega) (by omega) (by omega)) ?_)
     refine wl (sv rfl (v := opV x52 (.slice dA52 dn52 dc52)) (r_loads (k := 0 * 10) (vs := (opC x52 (.slice dA52 dn52 dc52))) (by kernel_rfl) Ty.ag40 Ty.sz40 hb52 he52) ?_)
     have hltg52 := lt_ob hb52
     refine wl (sn rfl (cs := #[.int .i64 0, .int .i64 0, .int .i64 0, .int .i64 0, .int .i64 0, .int .i64 0, .int .i64 0, .bool false, .string (⟨#[]⟩), .slice none 0 0]) (T := 40) (V := fun b => .pointer (some ⟨b, 0, none⟩)) (r_alloc Ty.zv40 rfl) ?_)
     intro b53 w54 e55 h56 u57
     have g58 : w.heap.size ≤ b53 := by rw [e55]; exact (Mod.of_up (X := []) hU2).size
     have M59 := Mod.trans (Mod.of_up (X := []) hU2) (Mod.of_up u57)
     refine wl (ss rfl (k := 0) (v := opV x52 (.slice dA52 dn52 dc52)) (vs := (opC x52 (.slice dA52 dn52 dc52))) (cs' := (opC x52 (.slice dA52 dn52 dc52))) (by kernel_rfl) (by kernel_rfl) rfl Ty.sz40 h56 rfl (Nat.le_of_ble_eq_true rfl) rfl ?_)
     intro w60 h61 c62
     have M63 := Mod.trans' M59 c62 (fun i hi => by injection hi with hi; rw [← hi]; exact g58)
     refine wnil (then_n (wp_seq (rg_lit ?_)))
     refine wmv (v := .slice sA S.length sK) ?_
     refine wmv (v := .slice sA S.length sK) ?_
     refine wmv (v := .int .i64 ((bN : Int))) ?_
     have h65 := (ORow.chgn (ORow.up hF2_3 u57) c62 ⟨(Nat.le_trans hB g58), NotU8.of h56 (by decide)⟩ (fun e => by rw [hA52] at e; injection e with e; have e : g52 = b53 := e; omega))
     obtain ⟨x64, hx64⟩ : ∃ x, S2[bN]? = some x := ⟨_, List.getElem?_eq_getElem (by omega)⟩
     obtain ⟨g64, cp64, cu64, dA64, dn64, dc64, hA64, hg64, hb64, he64, hD64⟩ := ORow.get h65 hx64
     injection hA64 with hA64 _ _
     have hgg64 : g64 = g52 := by have e := hA64.symm.trans hA52; injection e with e; injection e
     refine wl (sv rfl (v := .pointer (some ⟨g64, bN * 10, none⟩)) (r_ixaddr' (A := sA) (b := g64) (o := 0) (n := S.length) (c := sK) (sz := 10) (j := ((bN : Int))) (m := bN * 10) (by kernel_rfl) hA64 (by kernel_rfl) Ty.un22 Ty.sz40 (by omega) (by omega) (by omega)) ?_)
     refine wl (sv rfl (v := opV x64 (.slice dA64 dn64 dc64)) (r_loads (k := bN * 10) (vs := (opC x64 (.slice dA64 dn64 dc64))) (by kernel_rfl) Ty.ag40 Ty.sz40 hb64 he64) ?_)
     obtain ⟨g66, cp66, cu66, dA66, dn66, dc66, hA66, hg66, hb66, he66, hD66⟩ := ORow.get h65 hx52
     injection hA66 with hA66 _ _
     have hgg66 : g66 = g52 := by have e := hA66.symm.trans hA52; injection e with e; injection e
     refine wl (sv rfl (v := .pointer (some ⟨g66, 0 * 10, none⟩)) (r_ixaddr' (A := sA) (b := g66) (o := 0) (n := S.length) (c := sK) (sz := 10) (j := 0) (m := 0 * 10) (by kernel_rfl) hA66 (by kernel_rfl) Ty.un22 Ty.sz40 (by omega) (by omega) (by omega)) ?_)
     have h67 := (Two.chgT (Two.up hF2_4 u57) c62 h56 (Nat.le_trans hB g58) (by decide))
     have h72 := (Dat.chg (Dat.up hD52 u57) c62 ⟨(Nat.le_trans hB g58), NotU8.of h56 (by decide)⟩)
     obtain ⟨cu68, hb68, hk68, hp68⟩ := ORow.put (i := 0) (show ORow 40 w.heap.size bs w60 (.slice (some ⟨g66, 0, none⟩) S.length sK) S2 by rw [← hA66]; exact h65) (by omega) hD64 (by decide) hbs0
     refine wl (ss rfl (k := 0 * 10) (v := opV x64 (.slice dA64 dn64 dc64)) (vs := (opC x64 (.slice dA64 dn64 dc64))) (cs' := _) (by kernel_rfl) (by kernel_rfl) rfl Ty.sz40 hb68 rfl hk68 rfl ?_)
     intro w69 h70 c71
     have hr73 := hp68 _ h70 c71
     rw [← hA66] at hr73
     have hT74 := Two.chgT h67 c71 hb68 (Nat.le_trans hbs0 hg66) (by decide)
     have M75 := Mod.trans' M63 c71 (fun i hi => by injection hi with hi; rw [← hi]; exact Nat.le_trans hbs0 hg66)
     have h76 := chg_ob c71 (show b53 ≠ g66 by omega) h61
     have h77 := Dat.chg h72 c71 ⟨Nat.le_trans hbs0 hg66, NotU8.of hb68 (by decide)⟩
     have h78 := Dat.chg hD64 c71 ⟨Nat.le_trans hbs0 hg66, NotU8.of hb68 (by decide)⟩
     have h79 := Dat.chg hD66 c71 ⟨Nat.le_trans hbs0 hg66, NotU8.of hb68 (by decide)⟩
     refine wnil (then_n (rg_lit ?_))
     refine wmv (v := .slice sA S.length sK) ?_
     refine wmv (v := .int .i64 ((bN : Int))) ?_
     refine wl (sv rfl (v := opV x52 (.slice dA52 dn52 dc52)) (r_loads (k := 0) (by kernel_rfl) Ty.ag40 Ty.sz40 h76 (by kernel_rfl)) ?_)
     obtain ⟨x80, hx80⟩ : ∃ x, ((S2.set 0 x64))[bN]? = some x := ⟨_, List.getElem?_eq_getElem (by simp only [List.length_set]; omega)⟩
     obtain ⟨g80, cp80, cu80, dA80, dn80, dc80, hA80, hg80, hb80, he80, hD80⟩ := ORow.get hr73 hx80
     injection hA80 with hA80 _ _
     have hgg80 : g80 = g52 := by have e := hA80.symm.trans hA52; injection e with e; injection e
     refine wl (sv rfl (v := .pointer (some ⟨g80, bN * 10, none⟩)) (r_ixaddr' (A := sA) (b := g80) (o := 0) (n := S.length) (c := sK) (sz := 10) (j := ((bN : Int))) (m := bN * 10) (by kernel_rfl) hA80 (by kernel_rfl) Ty.un22 Ty.sz40 (by omega) (by omega) (by omega)) ?_)
     obtain ⟨cu81, hb81, hk81, hp81⟩ := ORow.put (i := bN) (show ORow 40 w.heap.size bs w69 (.slice (some ⟨g80, 0, none⟩) S.length sK) ((S2.set 0 x64)) by rw [← hA80]; exact hr73) (by simp only [List.length_set]; omega) h77 (by decide) hbs0
     refine wl (ss rfl (k := bN * 10) (v := opV x52 (.slice dA52 dn52 dc52)) (vs := (opC x52 (.slice dA52 dn52 dc52))) (cs' := _) (by kernel_rfl) (by kernel_rfl) rfl Ty.sz40 hb81 rfl hk81 rfl ?_)
     intro w82 h83 c84
     have hr85 := hp81 _ h83 c84
     rw [← hA80] at hr85
     have hT86 := Two.chgT hT74 c84 hb81 (Nat.le_trans hbs0 hg80) (by decide)
     have M87 := Mod.trans' M75 c84 (fun i hi => by injection hi with hi; rw [← hi]; exact Nat.le_trans hbs0 hg80)
     have h88 := chg_ob c84 (show b53 ≠ g80 by omega) h76
     have h89 := Dat.chg h77 c84 ⟨Nat.le_trans hbs0 hg80, NotU8.of hb81 (by decide)⟩
     have h90 := Dat.chg h78 c84 ⟨Nat.le_trans hbs0 hg80, NotU8.of hb81 (by decide)⟩
     have h91 := Dat.chg h79 c84 ⟨Nat.le_trans hbs0 hg80, NotU8.of hb81 (by decide)⟩
     have h92 := Dat.chg hD80 c84 ⟨Nat.le_trans hbs0 hg80, NotU8.of hb81 (by decide)⟩
     refine wnil (inb_n (then_n (rg_lit ?_)))
     refine wmv (v := .int .i64 ((kb : Int))) ?_
     refine wl (sv rfl (v := .int .i64 (((kb + 1 : Nat) : Int))) (r_add (k := .i64) (m := ((kb : Int))) (n := 1) (c := (((kb + 1 : Nat) : Int))) (by kernel_rfl) (by kernel_rfl) ((IntWalk.i64_in _ (by omega)).trans (by omega))) ?_)
     refine was (v := .int .i64 (((kb + 1 : Nat) : Int))) ?_
     refine wnil (then_n ?_)
     refine ⟨ts.length - (kb + 1), ?_, (kb + 1), ((S2.set 0 x64).set bN x52), .int .i64 ((bN : Int)), .pointer (some ⟨b53, 0, none⟩), .int .i64 ((kb : Int)), .slice tA ts.length tc, .int .i64 ((ts.length : Int)), .bool b42, .bool b42, .slice sA S.length sK, .int .i64 ((S.length : Int)), .bool b46, .bool b46, .int .i64 ((kb : Int)), .int .i64 (((kb + 1 : Nat) : Int)), .slice tA ts.length tc, .int .i64 ((kb : Int)), .pointer (some ⟨g50, f50 + kb, none⟩), .int .i64 (ts.getD kb 0), .slice sA S.length sK, .int .i64 ((S.length : Int)), .int .i64 qz, .slice sA S.length sK, .int .i64 ((S.length : Int)), .int .i64 (qz + (S.length : Int)), .slice sA S.length sK, .int .i64 ((S.length : Int)), .int .i64 ((bN : Int)), .slice sA S.length sK, .pointer (some ⟨g52, 0 * 10, none⟩), opV x52 (.slice dA52 dn52 dc52), .slice sA S.length sK, .slice sA S.length sK, .int .i64 ((bN : Int)), .pointer (some ⟨g64, bN * 10, none⟩), opV x64 (.slice dA64 dn64 dc64), .pointer (some ⟨g66, 0 * 10, none⟩), .slice sA S.length sK, .int .i64 ((bN : Int)), opV x52 (.slice dA52 dn52 dc52), .pointer (some ⟨g80, bN * 10, none⟩), rfl, (by kernel_rfl), (Mod.up M87), (by omega), (by simp only [List.length_set]; exact hS2l), (swap_mem_iff hmem hx52 hx64), hr85, hT86⟩
     · omega
    rintro _ wq31 ⟨S2, y11, y12, y13, y46, y47, y48, y49, y50, y51, y52, y53, y54, y55, y56, y57, y58, y59, y60, y61, y62, y63, y64, y65, y66, y67, y68, y69, y70, y71, y72, y73, y74, y75, y76, y77, y78, y79, y80, y81, y82, rfl, hU31c, hC31_0, hC31_1, hC31_2, hC31_3⟩
    have hS2l := hC31_0
    have hmem := hC31_1
    have hS2n : ∀ x ∈ S2, x.name.size ≤ 9223372036854775807 := fun x hx => hSn x ((hmem.out x).1 hx)
    refine wp_seq (wp_seq (rg_lit ?_))
    refine was (v := .int .i64 0) ?_
    refine wnil (then_n (wp_block ?_))
    refine lp (fun n a r3 => ∃ (kc : Nat) (z83 z84 z85 z86 z87 z88 z89 z90 z91 z92 z93 z94 z95 z96 z97 z98 z99 z100 z101 z102 z103 z104 z105 z106 z107 z108 z109 z110 z111 z112 z113 z114 z115 z116 z117 z118 z119 z120 z121 z122 z123 z124 : Value), (n = (S.length + ms.length) - kc) ∧ (a = ⟨#[.slice lA os.length lc, .slice tA ts.length tc, .slice mA ms.length mc, undef, undef, undef, .bool false, .slice sA S.length sK, .pointer (some ⟨la, 0, none⟩), .pointer (some ⟨lb, 0, none⟩), .int .i64 ((ka : Int)), y11, y12, y13, .int .i64 ((kc : Int)), undef, .slice lA os.length lc, .bool lb2, .bool (!lb2), .bool (!lb2), .slice mA ms.length mc, .bool lb8, .bool (!lb8), .bool (!lb8), .bool (!lb8), .slice tA ts.length tc, .int .i64 ((ts.length : Int)), .bool b13, .bool b13, undef, .slice lA os.length lc, .slice sA S.length sK, .pointer (some ⟨la, 0, none⟩), .pointer (some ⟨lb, 0, none⟩), .int .i64 ((ka : Int)), .slice sA S.length sK, .int .i64 ((S.length : Int)), .bool b38, z38, z39, z40, z41, z42, z43, z44, z45, y46, y47, y48, y49, y50, y51, y52, y53, y54, y55, y56, y57, y58, y59, y60, y61, y62, y63, y64, y65, y66, y67, y68, y69, y70, y71, y72, y73, y74, y75, y76, y77, y78, y79, y80, y81, y82, z83, z84, z85, z86, z87, z88, z89, z90, z91, z92, z93, z94, z95, z96, z97, z98, z99, z100, z101, z102, z103, z104, z105, z106, z107, z108, z109, z110, z111, z112, z113, z114, z115, z116, z117, z118, z119, z120, z121, z122, z123, z124, undef, undef, undef, undef, undef, undef, undef, undef, undef, undef, undef, undef, undef, undef, undef, undef, undef, undef, undef, undef, undef, undef, undef, undef, undef, undef, undef, undef, undef, undef, undef, undef, undef, undef, undef, undef, undef, undef, undef, undef, undef, undef, undef, undef], []⟩) ∧ (Up w r3) ∧ (kc ≤ S.length + ms.length) ∧ (ORow 40 w.heap.size bs r3 (.slice sA S.length sK) S2) ∧ (Two w.heap.size r3 la lb Aa (mixN Aa S2 ms kc))) ⟨_, 0, undef, undef, undef, undef, undef, undef, undef, undef, undef, undef, undef, undef, undef, undef, undef, undef, undef, undef, undef, undef, undef, undef, undef, undef, undef, undef, undef, undef, undef, undef, undef, undef, undef, undef, undef, undef, undef, undef, undef, undef, undef, undef, rfl, (by kernel_rfl), (Mod.up (Mod.of_up (X := []) hU31c)), (Nat.zero_le _), hC31_2, hC31_3⟩ ?_
    rintro _ _ r3 ⟨kc, z83, z84, z85, z86, z87, z88, z89, z90, z91, z92, z93, z94, z95, z96, z97, z98, z99, z100, z101, z102, z103, z104, z105, z106, z107, z108, z109, z110, z111, z112, z113, z114, z115, z116, z117, z118, z119, z120, z121, z122, z123, z124, rfl, rfl, hU3, hF3_0, hF3_1, hF3_2⟩
    refine wp_seq (wp_seq (rg_lit ?_))
    refine wmv (v := .int .i64 ((kc : Int))) ?_
    refine wmv (v := .slice sA S.length sK) ?_
    refine wl (sv rfl (v := .int .i64 ((S.length : Int))) (r_len Ty.un22 (ad := sA) (n := S.length) (c := sK) (by kernel_rfl)) ?_)
    refine wl (sb rfl (r_lt (k := .i64) (m := ((kc : Int))) (n := ((S.length : Int))) (by kernel_rfl) (by kernel_rfl)) ?_)
    intro b42 k43
    refine wmv (v := .bool b42) ?_
    refine bcase b42 (fun v44 => ?_) (fun v44 => ?_)
    ·
     have p45 := of_decide_eq_false (k43.trans v44)
     refine wl (sv (wt (b := b42) rfl (by kernel_rfl) v44) (v := .int .i64 ((kc : Int))) (r_move (by kernel_rfl)) ?_)
     refine wl (sv (wt (b := b42) rfl (by kernel_rfl) v44) (v := .slice mA ms.length mc) (r_move (by kernel_rfl)) ?_)
     refine wl (sv (wt (b := b42) rfl (by kernel_rfl) v44) (v := .int .i64 ((ms.length : Int))) (r_len Ty.un22 (ad := mA) (n := ms.length) (c := mc) (by kernel_rfl)) ?_)
     refine wl (sb (wt (b := b42) rfl (by kernel_rfl) v44) (r_lt (k := .i64) (m := ((kc : Int))) (n := ((ms.length : Int))) (by kernel_rfl) (by kernel_rfl)) ?_)
     intro b46 k47
     refine wl (sv rfl (v := .bool b46) (r_pkF (ebool (b := b42) (by kernel_rfl) v44) (by kernel_rfl)) ?_)
     refine wnil (then_n ?_)
     refine bcase b46 (fun v48 => ?_) (fun v48 => ?_)
     ·
      have p49 := of_decide_eq_false (k47.trans v48)
      refine wp_cond_false (ebool (b := b46) (by kernel_rfl) v48) ?_
      refine wp_exit (then_x (by nofun) (then_x (by nofun) (inb_hit (then_n (wp_seq (wp_seq (rg_lit ?_)))))))
      refine was (v := .int .i64 0) ?_
      refine wnil (then_n (wp_block ?_))
      refine lp (fun n a r4 => ∃ (kd : Nat) (Bb : List OpD) (z125 z126 z127 z128 z129 z130 z131 z132 z133 z134 z135 z136 z137 z138 z139 z140 z141 z142 z143 z144 z145 : Value), (n = ms.length - kd) ∧ (a = ⟨#[.slice lA os.length lc, .slice tA ts.length tc, .slice mA ms.length mc, undef, undef, undef, .bool false, .slice sA S.length sK, .pointer (some ⟨la, 0, none⟩), .pointer (some ⟨lb, 0, none⟩), .int .i64 ((ka : Int)), y11, y12, y13, .int .i64 ((kc : Int)), .int .i64 ((kd : Int)), .slice lA os.length lc, .bool lb2, .bool (!lb2), .bool (!lb2), .slice mA ms.length mc, .bool lb8, .bool (!lb8), .bool (!lb8), .bool (!lb8), .slice tA ts.length tc, .int .i64 ((ts.length : Int)), .bool b13, .bool b13, undef, .slice lA os.length lc, .slice sA S.length sK, .pointer (some ⟨la, 0, none⟩), .pointer (some ⟨lb, 0, none⟩), .int .i64 ((ka : Int)), .slice sA S.length sK, .int .i64 ((S.length : Int)), .bool b38, z38, z39, z40, z41, z42, z43, z44, z45, y46, y47, y48, y49, y50, y51, y52, y53, y54, y55, y56, y57, y58, y59, y60, y61, y62, y63, y64, y65, y66, y67, y68, y69, y70, y71, y72, y73, y74, y75, y76, y77, y78, y79, y80, y81, y82, .int .i64 ((kc : Int)), .slice sA S.length sK, .int .i64 ((S.length : Int)), .bool b42, .bool b42, .int .i64 ((kc : Int)), .slice mA ms.length mc, .int .i64 ((ms.length : Int)), .bool b46, .bool b46, z93, z94, z95, z96, z97, z98, z99, z100, z101, z102, z103, z104, z105, z106, z107, z108, z109, z110, z111, z112, z113, z114, z115, z116, z117, z118, z119, z120, z121, z122, z123, z124, z125, z126, z127, z128, z129, z130, z131, z132, z133, z134, z135, z136, z137, z138, z139, z140, z141, z142, z143, z144, z145, undef, undef, undef, undef, undef, undef, undef, undef, undef, undef, undef, undef, undef, undef, undef, undef, undef, undef, undef, undef, undef, undef, undef], []⟩) ∧ (Up w r4) ∧ (kd ≤ ms.length) ∧ (Bb.length ≤ 80) ∧ (Going Aa ms kd Bb) ∧ (Two w.heap.size r4 la lb Aa Bb)) ⟨_, 0, (mixN Aa S2 ms kc), undef, undef, undef, undef, undef, undef, undef, undef, undef, undef, undef, undef, undef, undef, undef, undef, undef, undef, undef, undef, undef, rfl, (by kernel_rfl), (Mod.up (Mod.of_up (X := []) hU3)), (Nat.zero_le _), (by have h0 := mixN_len Aa S2 ms kc; omega), (show Going Aa ms 0 _ by rw [hAa]; exact mix_going hSs hmem (by omega)), hF3_2⟩ ?_
      rintro _ _ r4 ⟨kd, Bb, z125, z126, z127, z128, z129, z130, z131, z132, z133, z134, z135, z136, z137, z138, z139, z140, z141, z142, z143, z144, z145, rfl, rfl, hU4, hF4_0, hF4_1, hF4_2, hF4_3⟩
      have hBl := hF4_1
      have hgo := hF4_2
      refine wp_seq (wp_seq (rg_lit ?_))
      refine wmv (v := .int .i64 ((kd : Int))) ?_
      refine wmv (v := .slice mA ms.length mc) ?_
      refine wl (sv rfl (v := .int .i64 ((ms.length : Int))) (r_len Ty.un22 (ad := mA) (n := ms.length) (c := mc) (by kernel_rfl)) ?_)
      refine wl (sb rfl (r_lt (k := .i64) (m := ((kd : Int))) (n := ((ms.length : Int))) (by kernel_rfl) (by kernel_rfl)) ?_)
      intro b50 k51
      refine wnil (then_n ?_)
      refine bcase b50 (fun v52 => ?_) (fun v52 => ?_)
      ·
       have p53 := of_decide_eq_false (k51.trans v52)
       refine wp_cond_false (ebool (b := b50) (by kernel_rfl) v52) ?_
       refine wp_exit (then_x (by nofun) (then_x (by nofun) (inb_hit (then_n (wp_seq (rg_lit ?_))))))
       refine wmv (v := .pointer (some ⟨la, 0, none⟩)) ?_
       have hBA : Bb = Aa := Going.all hAs hgo (by omega)
       have hTz := Two.to hF4_3 rfl hBA
       refine wl (sc rfl (r_callv (caps := []) (all := [.pointer (some ⟨la, 0, none⟩)]) En.f35 (by kernel_rfl) (by kernel_rfl)) (one_ops (Two.one hTz) (Nat.le_trans hB (Mod.of_up (X := []) hU4).size) (by omega)) ?_)
       rintro e w54 ⟨A55, c56, rfl, h57, u58⟩
       refine ⟨.slice A55 Aa.length c56, rfl, ?_⟩
       have M59 := Mod.trans (Mod.of_up (X := []) hU4) (Mod.of_up u58)
       refine wmv (v := .pointer (some ⟨lb, 0, none⟩)) ?_
       have h65 := (Two.up hTz u58)
       refine wl (sc rfl (r_callv (caps := []) (all := [.pointer (some ⟨lb, 0, none⟩)]) En.f35 (by kernel_rfl) (by kernel_rfl)) (one_ops (Two.one (Two.swap h65)) (Nat.le_trans hB M59.size) (by omega)) ?_)
       rintro e w60 ⟨A61, c62, rfl, h63, u64⟩
       refine ⟨.slice A61 Aa.length c62, rfl, ?_⟩
       have M66 := Mod.trans M59 (Mod.of_up u64)
       have h67 := (ORow.up h57 u64)
       refine wl (sc rfl (r_callv (caps := []) (all := [.slice A55 Aa.length c56, .slice A61 Aa.length c62]) En.f38 (by kernel_rfl) (by kernel_rfl)) (bool_true rfl (r15all_at h67 h63 (by omega))) ?_)
       rintro e w68 ⟨rfl, u69⟩
       refine ⟨.bool true, rfl, ?_⟩
       have M70 := Mod.trans M66 (Mod.of_up u69)
       refine wmv (v := .bool true) ?_
       refine wl (sv (by kernel_rfl) (v := .pointer (some ⟨la, 0, none⟩)) (r_move (by kernel_rfl)) ?_)
       have h76 := (Two.up (Two.up h65 u64) u69)
       refine wl (sc (by kernel_rfl) (r_callv (caps := []) (all := [.pointer (some ⟨la, 0, none⟩)]) En.f40 (by kernel_rfl) (by kernel_rfl)) (one_tree (Two.one h76) (by omega)) ?_)
       rintro e w71 ⟨tz72, rz73, rfl, h74, u75⟩
       refine ⟨.pointer (some ⟨tz72, 0, none⟩), rfl, ?_⟩
       have M77 := Mod.trans M70 (Mod.of_up u75)
       refine wl (sv (by kernel_rfl) (v := .pointer (some ⟨lb, 0, none⟩)) (r_move (by kernel_rfl)) ?_)
       have h83 := (Two.up h76 u75)
       refine wl (sc (by kernel_rfl) (r_callv (caps := []) (all := [.pointer (some ⟨lb, 0, none⟩)]) En.f40 (by kernel_rfl) (by kernel_rfl)) (one_tree (Two.one (Two.swap h83)) (by omega)) ?_)
       rintro e w78 ⟨tz79, rz80, rfl, h81, u82⟩
       refine ⟨.pointer (some ⟨tz79, 0, none⟩), rfl, ?_⟩
       have M84 := Mod.trans M77 (Mod.of_up u82)
       have h85 := (TreeIs.up h74 u82)
       refine wl (sc (by kernel_rfl) (r_callv (caps := []) (all := [.pointer (some ⟨tz72, 0, none⟩), .pointer (some ⟨tz79, 0, none⟩)]) En.f39 (by kernel_rfl) (by kernel_rfl)) (bool_true rfl (tsame_at h85 h81)) ?_)
       rintro e w86 ⟨rfl, u87⟩
       refine ⟨.bool true, rfl, ?_⟩
       have M88 := Mod.trans M84 (Mod.of_up u87)
       refine wl (sv rfl (v := .bool true) (r_pkT (by kernel_rfl) (by kernel_rfl)) ?_)
       refine wmv (v := .bool true) ?_
       refine wl (sv (by kernel_rfl) (v := .pointer (some ⟨la, 0, none⟩)) (r_move (by kernel_rfl)) ?_)
       have h94 := (Two.up (Two.up h83 u82) u87)
       refine wl (sc (by kernel_rfl) (r_callv (caps := []) (all := [.pointer (some ⟨la, 0, none⟩)]) En.f40 (by kernel_rfl) (by kernel_rfl)) (one_tree (Two.one h94) (by omega)) ?_)
       rintro e w89 ⟨tz90, rz91, rfl, h92, u93⟩
       refine ⟨.pointer (some ⟨tz90, 0, none⟩), rfl, ?_⟩
       have M95 := Mod.trans M88 (Mod.of_up u93)
       refine wl (sv (by kernel_rfl) (v := .pointer (some ⟨la, 0, none⟩)) (r_move (by kernel_rfl)) ?_)
       have h101 := (Two.up h94 u93)
       refine wl (sc (by kernel_rfl) (r_callv (caps := []) (all := [.pointer (some ⟨la, 0, none⟩)]) En.f35 (by kernel_rfl) (by kernel_rfl)) (one_ops (Two.one h101) (Nat.le_trans hB M95.size) (by omega)) ?_)
       rintro e w96 ⟨A97, c98, rfl, h99, u100⟩
       refine ⟨.slice A97 Aa.length c98, rfl, ?_⟩
       have M102 := Mod.trans M95 (Mod.of_up u100)
       refine wl (sc (by kernel_rfl) (r_callv (caps := []) (all := [.slice A97 Aa.length c98]) En.f36 (by kernel_rfl) (by kernel_rfl)) (build_at (os := Aa) (ORow.ops h99 hAn) (Nat.le_trans hB M102.size) (by omega)) ?_)
       rintro e w103 ⟨tz104, rz105, rfl, h106, u107, _, _⟩
       rw [buildI_srt hAs] at h106
       refine ⟨.pointer (some ⟨tz104, 0, none⟩), rfl, ?_⟩
       have M108 := Mod.trans M102 (Mod.of_up u107)
       have h109 := (TreeIs.up h92 (up_up u100 u107))
       refine wl (sc (by kernel_rfl) (r_callv (caps := []) (all := [.pointer (some ⟨tz90, 0, none⟩), .pointer (some ⟨tz104, 0, none⟩)]) En.f39 (by kernel_rfl) (by kernel_rfl)) (bool_true rfl (tsame_at h109 h106)) ?_)
       rintro e w110 ⟨rfl, u111⟩
       refine ⟨.bool true, rfl, ?_⟩
       have M112 := Mod.trans M108 (Mod.of_up u111)
       refine wl (sv rfl (v := .bool true) (r_pkT (by kernel_rfl) (by kernel_rfl)) ?_)
       refine wmv (v := .bool true) ?_
       refine wl (sc (by kernel_rfl) (r_callv (caps := []) (all := []) En.f32 (by kernel_rfl) (by kernel_rfl)) (alive17_at) ?_)
       rintro e w113 ⟨rfl, u114⟩
       refine ⟨.bool true, rfl, ?_⟩
       have M115 := Mod.trans M112 (Mod.of_up u114)
       refine wl (sv rfl (v := .bool true) (r_pkT (by kernel_rfl) (by kernel_rfl)) ?_)
       refine was (v := .bool true) ?_
       refine wnil (then_n (wp_ret ?_))
       refine bodyPost_ret (v := .bool true) (res1 rfl (rv_t (by kernel_rfl))) (by kernel_rfl) ?_
       exact ⟨rfl, Mod.up M115⟩
      have p53 := of_decide_eq_true (k51.trans v52)
      refine wp_cond_true (ebool (b := b50) (by kernel_rfl) v52) ?_
      refine wp_skip (then_n (wp_seq (wp_block (wp_seq (rg_lit ?_)))))
      refine wmv (v := .pointer (some ⟨la, 0, none⟩)) ?_
      refine wmv (v := .slice mA ms.length mc) ?_
      refine wmv (v := .int .i64 ((kd : Int))) ?_
      have h55 := (OpRow.up hops2 (Mod.up (Mod.of_up (X := []) hU4)))
      obtain ⟨m54, hm54⟩ : ∃ x, ms[kd]? = some x := ⟨_, List.getElem?_eq_getElem (by omega)⟩
      obtain ⟨g54, f54, dA54, dn54, dc54, hA54, hl54, hc54, hD54, hz54⟩ := h55 kd m54 hm54
      refine wl (sv rfl (v := .pointer (some ⟨g54, f54 + kd * 10, none⟩)) (r_ixaddr' (A := mA) (b := g54) (o := f54) (n := ms.length) (c := mc) (sz := 10) (j := ((kd : Int))) (m := f54 + kd * 10) (by kernel_rfl) hA54 (by kernel_rfl) Ty.un22 Ty.sz40 (by omega) (by omega) (by simp)) ?_)
      refine wl (sv rfl (v := .pointer (some ⟨g54, f54 + kd * 10 + 1, none⟩)) (r_fieldAddr (u := .pointer (some ⟨g54, f54 + kd * 10, none⟩)) (by kernel_rfl) (fun _ => (by kernel_rfl))) ?_)
      refine wl (sv rfl (v := .agg #[.int .i64 m54.at_.t, .int .i64 m54.at_.w]) (r_loadcN (k := f54 + kd * 10 + 1) (vs := [.int .i64 m54.at_.t, .int .i64 m54.at_.w]) (by kernel_rfl) Ty.ag24 Ty.sz24 (sub_cells 1 2 hc54)) ?_)
      refine wl (sc rfl (r_callv (caps := []) (all := [.pointer (some ⟨la, 0, none⟩), .agg #[.int .i64 m54.at_.t, .int .i64 m54.at_.w]]) En.f43 (by kernel_rfl) (by kernel_rfl)) (one_has (Two.one hF4_3) (by omega) m54.at_.t m54.at_.w) ?_)
      rintro e w56 ⟨rfl, u57⟩
      refine ⟨.bool ((hasL Aa ⟨m54.at_.t, m54.at_.w⟩)), rfl, ?_⟩
      have M58 := Mod.trans (Mod.of_up (X := []) hU4) (Mod.of_up u57)
      refine wl (sv rfl (v := .bool (!((hasL Aa ⟨m54.at_.t, m54.at_.w⟩)))) (r_not (b := ((hasL Aa ⟨m54.at_.t, m54.at_.w⟩))) (by kernel_rfl)) ?_)
      refine wnil (then_n ?_)
      refine bcase ((hasL Aa ⟨m54.at_.t, m54.at_.w⟩)) (fun v59 => ?_) (fun v59 => ?_)
      ·
       refine wp_cond_true (ebool (b := !((hasL Aa ⟨m54.at_.t, m54.at_.w⟩))) (by kernel_rfl) (bneg v59)) ?_
       refine rg_lit ?_
       refine wmv (v := .pointer (some ⟨lb, 0, none⟩)) ?_
       refine wmv (v := .slice mA ms.length mc) ?_
       refine wmv (v := .int .i64 ((kd : Int))) ?_
       have h61 := (OpRow.up hops2 (Mod.up M58))
       obtain ⟨g60, f60, dA60, dn60, dc60, hA60, hl60, hc60, hD60, hz60⟩ := h61 kd m54 hm54
       refine wl (sv rfl (v := .pointer (some ⟨g60, f60 + kd * 10, none⟩)) (r_ixaddr' (A := mA) (b := g60) (o := f60) (n := ms.length) (c := mc) (sz := 10) (j := ((kd : Int))) (m := f60 + kd * 10) (by kernel_rfl) hA60 (by kernel_rfl) Ty.un22 Ty.sz40 (by omega) (by omega) (by simp)) ?_)
       refine wl (sv rfl (v := .pointer (some ⟨g60, f60 + kd * 10 + 1, none⟩)) (r_fieldAddr (u := .pointer (some ⟨g60, f60 + kd * 10, none⟩)) (by kernel_rfl) (fun _ => (by kernel_rfl))) ?_)
       refine wl (sv rfl (v := .agg #[.int .i64 m54.at_.t, .int .i64 m54.at_.w]) (r_loadcN (k := f60 + kd * 10 + 1) (vs := [.int .i64 m54.at_.t, .int .i64 m54.at_.w]) (by kernel_rfl) Ty.ag24 Ty.sz24 (sub_cells 1 2 hc60)) ?_)
       have h62 := (Two.up hF4_3 u57)
       refine wl (sc rfl (r_callv (caps := []) (all := [.pointer (some ⟨lb, 0, none⟩), .agg #[.int .i64 m54.at_.t, .int .i64 m54.at_.w]]) En.f41 (by kernel_rfl) (by kernel_rfl)) (two_remB h62 (Nat.le_trans hB M58.size) (by omega) m54.at_.t m54.at_.w) ?_)
       rintro e w63 ⟨nn65, kk65, rfl, hT64, ho65⟩
       refine ⟨.tuple #[.int .i64 nn65, .int .i64 kk65], rfl, ?_⟩
       have M66 := Only.of_up (Mod.up M58) ho65
       have h67 := (Dat.up hD54 u57)
       have h68 := Only.dat ho65 h67
       have h69 := Only.dat ho65 hD60
       refine wnil (inb_n (then_n (rg_lit ?_)))
       refine wmv (v := .int .i64 ((kd : Int))) ?_
       refine wl (sv rfl (v := .int .i64 (((kd + 1 : Nat) : Int))) (r_add (k := .i64) (m := ((kd : Int))) (n := 1) (c := (((kd + 1 : Nat) : Int))) (by kernel_rfl) (by kernel_rfl) ((IntWalk.i64_in _ (by omega)).trans (by omega))) ?_)
       refine was (v := .int .i64 (((kd + 1 : Nat) : Int))) ?_
       refine wnil (then_n ?_)
       refine ⟨ms.length - (kd + 1), ?_, (kd + 1), (goneL Aa Bb m54), .int .i64 ((kd : Int)), .slice mA ms.length mc, .int .i64 ((ms.length : Int)), .bool b50, .int .i64 ((kd : Int)), .int .i64 (((kd + 1 : Nat) : Int)), .pointer (some ⟨la, 0, none⟩), .slice mA ms.length mc, .int .i64 ((kd : Int)), .pointer (some ⟨g54, f54 + kd * 10, none⟩), .pointer (some ⟨g54, f54 + kd * 10 + 1, none⟩), .agg #[.int .i64 m54.at_.t, .int .i64 m54.at_.w], .bool ((hasL Aa ⟨m54.at_.t, m54.at_.w⟩)), .bool (!((hasL Aa ⟨m54.at_.t, m54.at_.w⟩))), .pointer (some ⟨lb, 0, none⟩), .slice mA ms.length mc, .int .i64 ((kd : Int)), .pointer (some ⟨g60, f60 + kd * 10, none⟩), .pointer (some ⟨g60, f60 + kd * 10 + 1, none⟩), .agg #[.int .i64 m54.at_.t, .int .i64 m54.at_.w], .tuple #[.int .i64 nn65, .int .i64 kk65], rfl, (by kernel_rfl), (Mod.up (Mod.of_up (X := []) M66)), (by omega), (Nat.le_trans (goneL_len _ _ _) hBl), (Going.step hgo hm54), (Two.to hT64 rfl (goneL_no v59))⟩
       · omega
      refine wp_cond_false (ebool (b := !((hasL Aa ⟨m54.at_.t, m54.at_.w⟩))) (by kernel_rfl) (bneg v59)) ?_
      refine wp_skip (inb_n (then_n (rg_lit ?_)))
      refine wmv (v := .int .i64 ((kd : Int))) ?_
      refine wl (sv rfl (v := .int .i64 (((kd + 1 : Nat) : Int))) (r_add (k := .i64) (m := ((kd : Int))) (n := 1) (c := (((kd + 1 : Nat) : Int))) (by kernel_rfl) (by kernel_rfl) ((IntWalk.i64_in _ (by omega)).trans (by omega))) ?_)
      refine was (v := .int .i64 (((kd + 1 : Nat) : Int))) ?_
      refine wnil (then_n ?_)
      have h60 := (Two.up hF4_3 u57)
      refine ⟨ms.length - (kd + 1), ?_, (kd + 1), (goneL Aa Bb m54), .int .i64 ((kd : Int)), .slice mA ms.length mc, .int .i64 ((ms.length : Int)), .bool b50, .int .i64 ((kd : Int)), .int .i64 (((kd + 1 : Nat) : Int)), .pointer (some ⟨la, 0, none⟩), .slice mA ms.length mc, .int .i64 ((kd : Int)), .pointer (some ⟨g54, f54 + kd * 10, none⟩), .pointer (some ⟨g54, f54 + kd * 10 + 1, none⟩), .agg #[.int .i64 m54.at_.t, .int .i64 m54.at_.w], .bool ((hasL Aa ⟨m54.at_.t, m54.at_.w⟩)), .bool (!((hasL Aa ⟨m54.at_.t, m54.at_.w⟩))), z139, z140, z141, z142, z143, z144, z145, rfl, (by kernel_rfl), (Mod.up M58), (by omega), (Nat.le_trans (goneL_len _ _ _) hBl), (Going.step hgo hm54), (Two.to h60 rfl (goneL_yes v59))⟩
      · omega
     have p49 := of_decide_eq_true (k47.trans v48)
     refine wp_cond_true (ebool (b := b46) (by kernel_rfl) v48) ?_
     refine wp_skip (then_n (wp_seq (wp_block (wp_seq (wp_seq (rg_lit ?_))))))
     refine wmv (v := .int .i64 ((kc : Int))) ?_
     refine wmv (v := .slice mA ms.length mc) ?_
     refine wl (sv rfl (v := .int .i64 ((ms.length : Int))) (r_len Ty.un22 (ad := mA) (n := ms.length) (c := mc) (by kernel_rfl)) ?_)
     refine wl (sb rfl (r_lt (k := .i64) (m := ((kc : Int))) (n := ((ms.length : Int))) (by kernel_rfl) (by kernel_rfl)) ?_)
     intro b50 k51
     refine wmv (v := .bool b50) ?_
     refine bcase b50 (fun v52 => ?_) (fun v52 => ?_)
     ·
      have p53 := of_decide_eq_false (k51.trans v52)
      refine wl (sp (wf (b := b50) rfl (by kernel_rfl) v52) ?_)
      refine wl (sp (wf (b := b50) rfl (by kernel_rfl) v52) ?_)
      refine wl (sp (wf (b := b50) rfl (by kernel_rfl) v52) ?_)
      refine wl (sp (wf (b := b50) rfl (by kernel_rfl) v52) ?_)
      refine wl (sp (wf (b := b50) rfl (by kernel_rfl) v52) ?_)
      refine wl (sp (wf (b := b50) rfl (by kernel_rfl) v52) ?_)
      refine wl (sp (wf (b := b50) rfl (by kernel_rfl) v52) ?_)
      refine wl (sp (wf (b := b50) rfl (by kernel_rfl) v52) ?_)
      refine wl (sv rfl (v := .bool false) (r_pkF (ebool (b := b50) (by kernel_rfl) v52) (by kernel_rfl)) ?_)
      refine wnil (then_n ?_)
      refine wp_cond_false (by kernel_rfl) ?_
      refine wp_skip (then_n (wp_seq (rg_lit ?_)))
      refine wmv (v := .int .i64 ((kc : Int))) ?_
      refine wmv (v := .slice sA S.length sK) ?_
      refine wl (sv rfl (v := .int .i64 ((S.length : Int))) (r_len Ty.un22 (ad := sA) (n := S.length) (c := sK) (by kernel_rfl)) ?_)
      refine wl (sb rfl (r_lt (k := .i64) (m := ((kc : Int))) (n := ((S.length : Int))) (by kernel_rfl) (by kernel_rfl)) ?_)
      intro b54 k55
      refine wnil (then_n ?_)
      refine bcase b54 (fun v56 => ?_) (fun v56 => ?_)
      ·
       have p57 := of_decide_eq_false (k55.trans v56)
       refine wp_cond_false (ebool (b := b54) (by kernel_rfl) v56) ?_
       refine wp_skip (inb_n (then_n (rg_lit ?_)))
       refine wmv (v := .int .i64 ((kc : Int))) ?_
       refine wl (sv rfl (v := .int .i64 (((kc + 1 : Nat) : Int))) (r_add (k := .i64) (m := ((kc : Int))) (n := 1) (c := (((kc + 1 : Nat) : Int))) (by kernel_rfl) (by kernel_rfl) ((IntWalk.i64_in _ (by omega)).trans (by omega))) ?_)
       refine was (v := .int .i64 (((kc + 1 : Nat) : Int))) ?_
       refine wnil (then_n ?_)
       refine ⟨(S.length + ms.length) - (kc + 1), ?_, (kc + 1), .int .i64 ((kc : Int)), .slice sA S.length sK, .int .i64 ((S.length : Int)), .bool b42, .bool b42, .int .i64 ((kc : Int)), .slice mA ms.length mc, .int .i64 ((ms.length : Int)), .bool b46, .bool b46, .int .i64 ((kc : Int)), .int .i64 (((kc + 1 : Nat) : Int)), .int .i64 ((kc : Int)), .slice mA ms.length mc, .int .i64 ((ms.length : Int)), .bool b50, .bool b50, undef, undef, undef, undef, undef, undef, undef, undef, .bool false, z109, z110, z111, z112, z113, z114, .int .i64 ((kc : Int)), .slice sA S.length sK, .int .i64 ((S.length : Int)), .bool b54, z119, z120, z121, z122, z123, z124, rfl, (by kernel_rfl), (Mod.up (Mod.of_up (X := []) hU3)), (by omega), hF3_1, (Two.to hF3_2 rfl (mixN_next (.inr ⟨by omega, rfl⟩) (.inr ⟨by omega, rfl⟩)))⟩
       · omega
      have p57 := of_decide_eq_true (k55.trans v56)
      refine wp_cond_true (ebool (b := b54) (by kernel_rfl) v56) ?_
      refine rg_lit ?_
      refine wmv (v := .pointer (some ⟨lb, 0, none⟩)) ?_
      refine wmv (v := .slice sA S.length sK) ?_
      refine wmv (v := .int .i64 ((kc : Int))) ?_
      obtain ⟨x58, hx58⟩ : ∃ x, S2[kc]? = some x := ⟨_, List.getElem?_eq_getElem (by omega)⟩
      obtain ⟨g58, cp58, cu58, dA58, dn58, dc58, hA58, hg58, hb58, he58, hD58⟩ := ORow.get hF3_1 hx58
      injection hA58 with hA58 _ _
      refine wl (sv rfl (v := .pointer (some ⟨g58, kc * 10, none⟩)) (r_ixaddr' (A := sA) (b := g58) (o := 0) (n := S.length) (c := sK) (sz := 10) (j := ((kc : Int))) (m := kc * 10) (by kernel_rfl) hA58 (by kernel_rfl) Ty.un22 Ty.sz40 (by omega) (by omega) (by omega)) ?_)
      refine wl (sv rfl (v := opV x58 (.slice dA58 dn58 dc58)) (r_loads (k := kc * 10) (vs := (opC x58 (.slice dA58 dn58 dc58))) (by kernel_rfl) Ty.ag40 Ty.sz40 hb58 he58) ?_)
      refine wl (sc rfl (r_callv (caps := []) (all := [.pointer (some ⟨lb, 0, none⟩), opV x58 (.slice dA58 dn58 dc58)]) En.f37 (by kernel_rfl) (by kernel_rfl)) (two_insB hF3_2 (Nat.le_trans hB (Mod.of_up (X := []) hU3).size) (by have h0 := mixN_len Aa S2 ms kc; omega) x58 dA58 dn58 dc58 hD58 (hS2n x58 (List.mem_of_getElem? hx58))) ?_)
      rintro e w59 ⟨nn61, kk61, rfl, hT60, ho61⟩
      refine ⟨.tuple #[.int .i64 nn61, .int .i64 kk61], rfl, ?_⟩
      have M62 := Only.of_up (Mod.up (Mod.of_up (X := []) hU3)) ho61
      have h63 := ORow.only hF3_1 ho61
      have h64 := Only.dat ho61 hD58
      refine wnil (inb_n (then_n (rg_lit ?_)))
      refine wmv (v := .int .i64 ((kc : Int))) ?_
      refine wl (sv rfl (v := .int .i64 (((kc + 1 : Nat) : Int))) (r_add (k := .i64) (m := ((kc : Int))) (n := 1) (c := (((kc + 1 : Nat) : Int))) (by kernel_rfl) (by kernel_rfl) ((IntWalk.i64_in _ (by omega)).trans (by omega))) ?_)
      refine was (v := .int .i64 (((kc + 1 : Nat) : Int))) ?_
      refine wnil (then_n ?_)
      refine ⟨(S.length + ms.length) - (kc + 1), ?_, (kc + 1), .int .i64 ((kc : Int)), .slice sA S.length sK, .int .i64 ((S.length : Int)), .bool b42, .bool b42, .int .i64 ((kc : Int)), .slice mA ms.length mc, .int .i64 ((ms.length : Int)), .bool b46, .bool b46, .int .i64 ((kc : Int)), .int .i64 (((kc + 1 : Nat) : Int)), .int .i64 ((kc : Int)), .slice mA ms.length mc, .int .i64 ((ms.length : Int)), .bool b50, .bool b50, undef, undef, undef, undef, undef, undef, undef, undef, .bool false, z109, z110, z111, z112, z113, z114, .int .i64 ((kc : Int)), .slice sA S.length sK, .int .i64 ((S.length : Int)), .bool b54, .pointer (some ⟨lb, 0, none⟩), .slice sA S.length sK, .int .i64 ((kc : Int)), .pointer (some ⟨g58, kc * 10, none⟩), opV x58 (.slice dA58 dn58 dc58), .tuple #[.int .i64 nn61, .int .i64 kk61], rfl, (by kernel_rfl), (Mod.up (Mod.of_up (X := []) M62)), (by omega), h63, (Two.to hT60 rfl (mixN_next (.inr ⟨by omega, rfl⟩) (.inl ⟨x58, hx58, rfl⟩)))⟩
      · omega
     have p53 := of_decide_eq_true (k51.trans v52)
     refine wl (sv (wt (b := b50) rfl (by kernel_rfl) v52) (v := .pointer (some ⟨la, 0, none⟩)) (r_move (by kernel_rfl)) ?_)
     refine wl (sv (wt (b := b50) rfl (by kernel_rfl) v52) (v := .slice mA ms.length mc) (r_move (by kernel_rfl)) ?_)
     refine wl (sv (wt (b := b50) rfl (by kernel_rfl) v52) (v := .int .i64 ((kc : Int))) (r_move (by kernel_rfl)) ?_)
     have h55 := (OpRow.up hops2 (Mod.up (Mod.of_up (X := []) hU3)))
     obtain ⟨m54, hm54⟩ : ∃ x, ms[kc]? = some x := ⟨_, List.getElem?_eq_getElem (by omega)⟩
     obtain ⟨g54, f54, dA54, dn54, dc54, hA54, hl54, hc54, hD54, hz54⟩ := h55 kc m54 hm54
     refine wl (sv (wt (b := b50) rfl (by kernel_rfl) v52) (v := .pointer (some ⟨g54, f54 + kc * 10, none⟩)) (r_ixaddr' (A := mA) (b := g54) (o := f54) (n := ms.length) (c := mc) (sz := 10) (j := ((kc : Int))) (m := f54 + kc * 10) (by kernel_rfl) hA54 (by kernel_rfl) Ty.un22 Ty.sz40 (by omega) (by omega) (by simp)) ?_)
     refine wl (sv (wt (b := b50) rfl (by kernel_rfl) v52) (v := .pointer (some ⟨g54, f54 + kc * 10 + 1, none⟩)) (r_fieldAddr (u := .pointer (some ⟨g54, f54 + kc * 10, none⟩)) (by kernel_rfl) (fun _ => (by kernel_rfl))) ?_)
     refine wl (sv (wt (b := b50) rfl (by kernel_rfl) v52) (v := .agg #[.int .i64 m54.at_.t, .int .i64 m54.at_.w]) (r_loadcN (k := f54 + kc * 10 + 1) (vs := [.int .i64 m54.at_.t, .int .i64 m54.at_.w]) (by kernel_rfl) Ty.ag24 Ty.sz24 (sub_cells 1 2 hc54)) ?_)
     refine wl (sc (wt (b := b50) rfl (by kernel_rfl) v52) (r_callv (caps := []) (all := [.pointer (some ⟨la, 0, none⟩), .agg #[.int .i64 m54.at_.t, .int .i64 m54.at_.w]]) En.f43 (by kernel_rfl) (by kernel_rfl)) (one_has (Two.one hF3_2) (by omega) m54.at_.t m54.at_.w) ?_)
     rintro e w56 ⟨rfl, u57⟩
     refine ⟨.bool ((hasL Aa ⟨m54.at_.t, m54.at_.w⟩)), rfl, ?_⟩
     have M58 := Mod.trans (Mod.of_up (X := []) hU3) (Mod.of_up u57)
     refine wl (sv (wt (b := b50) rfl (by kernel_rfl) v52) (v := .bool (!((hasL Aa ⟨m54.at_.t, m54.at_.w⟩)))) (r_not (b := ((hasL Aa ⟨m54.at_.t, m54.at_.w⟩))) (by kernel_rfl)) ?_)
     refine wl (sv rfl (v := .bool (!((hasL Aa ⟨m54.at_.t, m54.at_.w⟩)))) (r_pkT (ebool (b := b50) (by kernel_rfl) v52) (by kernel_rfl)) ?_)
     refine wnil (then_n ?_)
     refine bcase ((hasL Aa ⟨m54.at_.t, m54.at_.w⟩)) (fun v59 => ?_) (fun v59 => ?_)
     ·
      refine wp_cond_true (ebool (b := !((hasL Aa ⟨m54.at_.t, m54.at_.w⟩))) (by kernel_rfl) (bneg v59)) ?_
      refine rg_lit ?_
      refine wmv (v := .pointer (some ⟨lb, 0, none⟩)) ?_
      refine wmv (v := .slice mA ms.length mc) ?_
      refine wmv (v := .int .i64 ((kc : Int))) ?_
      have h61 := (OpRow.up hops2 (Mod.up M58))
      obtain ⟨g60, f60, dA60, dn60, dc60, hA60, hl60, hc60, hD60, hz60⟩ := h61 kc m54 hm54
      refine wl (sv rfl (v := .pointer (some ⟨g60, f60 + kc * 10, none⟩)) (r_ixaddr' (A := mA) (b := g60) (o := f60) (n := ms.length) (c := mc) (sz := 10) (j := ((kc : Int))) (m := f60 + kc * 10) (by kernel_rfl) hA60 (by kernel_rfl) Ty.un22 Ty.sz40 (by omega) (by omega) (by simp)) ?_)
      refine wl (sv rfl (v := opV m54 (.slice dA60 dn60 dc60)) (r_loadcN (k := f60 + kc * 10) (vs := (opC m54 (.slice dA60 dn60 dc60))) (by kernel_rfl) Ty.ag40 Ty.sz40 hc60) ?_)
      have h62 := (Two.up hF3_2 u57)
      refine wl (sc rfl (r_callv (caps := []) (all := [.pointer (some ⟨lb, 0, none⟩), opV m54 (.slice dA60 dn60 dc60)]) En.f37 (by kernel_rfl) (by kernel_rfl)) (two_insB h62 (Nat.le_trans hB M58.size) (by have h0 := mixN_len Aa S2 ms kc; omega) m54 dA60 dn60 dc60 hD60 hz60) ?_)
      rintro e w63 ⟨nn65, kk65, rfl, hT64, ho65⟩
      refine ⟨.tuple #[.int .i64 nn65, .int .i64 kk65], rfl, ?_⟩
      have M66 := Only.of_up (Mod.up M58) ho65
      have h67 := (ORow.up hF3_1 u57)
      have h68 := ORow.only h67 ho65
      have h69 := (Dat.up hD54 u57)
      have h70 := Only.dat ho65 h69
      have h71 := Only.dat ho65 hD60
      refine wnil (then_n (wp_seq (rg_lit ?_)))
      refine wmv (v := .int .i64 ((kc : Int))) ?_
      refine wmv (v := .slice sA S.length sK) ?_
      refine wl (sv rfl (v := .int .i64 ((S.length : Int))) (r_len Ty.un22 (ad := sA) (n := S.length) (c := sK) (by kernel_rfl)) ?_)
      refine wl (sb rfl (r_lt (k := .i64) (m := ((kc : Int))) (n := ((S.length : Int))) (by kernel_rfl) (by kernel_rfl)) ?_)
      intro b72 k73
      refine wnil (then_n ?_)
      refine bcase b72 (fun v74 => ?_) (fun v74 => ?_)
      ·
       have p75 := of_decide_eq_false (k73.trans v74)
       refine wp_cond_false (ebool (b := b72) (by kernel_rfl) v74) ?_
       refine wp_skip (inb_n (then_n (rg_lit ?_)))
       refine wmv (v := .int .i64 ((kc : Int))) ?_
       refine wl (sv rfl (v := .int .i64 (((kc + 1 : Nat) : Int))) (r_add (k := .i64) (m := ((kc : Int))) (n := 1) (c := (((kc + 1 : Nat) : Int))) (by kernel_rfl) (by kernel_rfl) ((IntWalk.i64_in _ (by omega)).trans (by omega))) ?_)
       refine was (v := .int .i64 (((kc + 1 : Nat) : Int))) ?_
       refine wnil (then_n ?_)
       refine ⟨(S.length + ms.length) - (kc + 1), ?_, (kc + 1), .int .i64 ((kc : Int)), .slice sA S.length sK, .int .i64 ((S.length : Int)), .bool b42, .bool b42, .int .i64 ((kc : Int)), .slice mA ms.length mc, .int .i64 ((ms.length : Int)), .bool b46, .bool b46, .int .i64 ((kc : Int)), .int .i64 (((kc + 1 : Nat) : Int)), .int .i64 ((kc : Int)), .slice mA ms.length mc, .int .i64 ((ms.length : Int)), .bool b50, .bool b50, .pointer (some ⟨la, 0, none⟩), .slice mA ms.length mc, .int .i64 ((kc : Int)), .pointer (some ⟨g54, f54 + kc * 10, none⟩), .pointer (some ⟨g54, f54 + kc * 10 + 1, none⟩), .agg #[.int .i64 m54.at_.t, .int .i64 m54.at_.w], .bool ((hasL Aa ⟨m54.at_.t, m54.at_.w⟩)), .bool (!((hasL Aa ⟨m54.at_.t, m54.at_.w⟩))), .bool (!((hasL Aa ⟨m54.at_.t, m54.at_.w⟩))), .pointer (some ⟨lb, 0, none⟩), .slice mA ms.length mc, .int .i64 ((kc : Int)), .pointer (some ⟨g60, f60 + kc * 10, none⟩), opV m54 (.slice dA60 dn60 dc60), .tuple #[.int .i64 nn65, .int .i64 kk65], .int .i64 ((kc : Int)), .slice sA S.length sK, .int .i64 ((S.length : Int)), .bool b72, z119, z120, z121, z122, z123, z124, rfl, (by kernel_rfl), (Mod.up (Mod.of_up (X := []) M66)), (by omega), h68, (Two.to hT64 rfl (mixN_next (.inl ⟨m54, hm54, by rw [if_neg (by rw [v59]; decide)]⟩) (.inr ⟨by omega, rfl⟩)))⟩
       · omega
      have p75 := of_decide_eq_true (k73.trans v74)
      refine wp_cond_true (ebool (b := b72) (by kernel_rfl) v74) ?_
      refine rg_lit ?_
      refine wmv (v := .pointer (some ⟨lb, 0, none⟩)) ?_
      refine wmv (v := .slice sA S.length sK) ?_
      refine wmv (v := .int .i64 ((kc : Int))) ?_
      obtain ⟨x76, hx76⟩ : ∃ x, S2[kc]? = some x := ⟨_, List.getElem?_eq_getElem (by omega)⟩
      obtain ⟨g76, cp76, cu76, dA76, dn76, dc76, hA76, hg76, hb76, he76, hD76⟩ := ORow.get h68 hx76
      injection hA76 with hA76 _ _
      refine wl (sv rfl (v := .pointer (some ⟨g76, kc * 10, none⟩)) (r_ixaddr' (A := sA) (b := g76) (o := 0) (n := S.length) (c := sK) (sz := 10) (j := ((kc : Int))) (m := kc * 10) (by kernel_rfl) hA76 (by kernel_rfl) Ty.un22 Ty.sz40 (by omega) (by omega) (by omega)) ?_)
      refine wl (sv rfl (v := opV x76 (.slice dA76 dn76 dc76)) (r_loads (k := kc * 10) (vs := (opC x76 (.slice dA76 dn76 dc76))) (by kernel_rfl) Ty.ag40 Ty.sz40 hb76 he76) ?_)
      refine wl (sc rfl (r_callv (caps := []) (all := [.pointer (some ⟨lb, 0, none⟩), opV x76 (.slice dA76 dn76 dc76)]) En.f37 (by kernel_rfl) (by kernel_rfl)) (two_insB hT64 (Nat.le_trans hB (Mod.of_up (X := []) M66).size) (by have h0 := mixN_len Aa S2 ms kc; have h1 := insL_len (mixN Aa S2 ms kc) m54; omega) x76 dA76 dn76 dc76 hD76 (hS2n x76 (List.mem_of_getElem? hx76))) ?_)
      rintro e w77 ⟨nn79, kk79, rfl, hT78, ho79⟩
      refine ⟨.tuple #[.int .i64 nn79, .int .i64 kk79], rfl, ?_⟩
      have M80 := Only.of_up (Mod.up (Mod.of_up (X := []) M66)) ho79
      have h81 := ORow.only h68 ho79
      have h82 := Only.dat ho79 h70
      have h83 := Only.dat ho79 h71
      have h84 := Only.dat ho79 hD76
      refine wnil (inb_n (then_n (rg_lit ?_)))
      refine wmv (v := .int .i64 ((kc : Int))) ?_
      refine wl (sv rfl (v := .int .i64 (((kc + 1 : Nat) : Int))) (r_add (k := .i64) (m := ((kc : Int))) (n := 1) (c := (((kc + 1 : Nat) : Int))) (by kernel_rfl) (by kernel_rfl) ((IntWalk.i64_in _ (by omega)).trans (by omega))) ?_)
      refine was (v := .int .i64 (((kc + 1 : Nat) : Int))) ?_
      refine wnil (then_n ?_)
      refine ⟨(S.length + ms.length) - (kc + 1), ?_, (kc + 1), .int .i64 ((kc : Int)), .slice sA S.length sK, .int .i64 ((S.length : Int)), .bool b42, .bool b42, .int .i64 ((kc : Int)), .slice mA ms.length mc, .int .i64 ((ms.length : Int)), .bool b46, .bool b46, .int .i64 ((kc : Int)), .int .i64 (((kc + 1 : Nat) : Int)), .int .i64 ((kc : Int)), .slice mA ms.length mc, .int .i64 ((ms.length : Int)), .bool b50, .bool b50, .pointer (some ⟨la, 0, none⟩), .slice mA ms.length mc, .int .i64 ((kc : Int)), .pointer (some ⟨g54, f54 + kc * 10, none⟩), .pointer (some ⟨g54, f54 + kc * 10 + 1, none⟩), .agg #[.int .i64 m54.at_.t, .int .i64 m54.at_.w], .bool ((hasL Aa ⟨m54.at_.t, m54.at_.w⟩)), .bool (!((hasL Aa ⟨m54.at_.t, m54.at_.w⟩))), .bool (!((hasL Aa ⟨m54.at_.t, m54.at_.w⟩))), .pointer (some ⟨lb, 0, none⟩), .slice mA ms.length mc, .int .i64 ((kc : Int)), .pointer (some ⟨g60, f60 + kc * 10, none⟩), opV m54 (.slice dA60 dn60 dc60), .tuple #[.int .i64 nn65, .int .i64 kk65], .int .i64 ((kc : Int)), .slice sA S.length sK, .int .i64 ((S.length : Int)), .bool b72, .pointer (some ⟨lb, 0, none⟩), .slice sA S.length sK, .int .i64 ((kc : Int)), .pointer (some ⟨g76, kc * 10, none⟩), opV x76 (.slice dA76 dn76 dc76), .tuple #[.int .i64 nn79, .int .i64 kk79], rfl, (by kernel_rfl), (Mod.up (Mod.of_up (X := []) M80)), (by omega), h81, (Two.to hT78 rfl (mixN_next (.inl ⟨m54, hm54, by rw [if_neg (by rw [v59]; decide)]⟩) (.inl ⟨x76, hx76, rfl⟩)))⟩
      · omega
     refine wp_cond_false (ebool (b := !((hasL Aa ⟨m54.at_.t, m54.at_.w⟩))) (by kernel_rfl) (bneg v59)) ?_
     refine wp_skip (then_n (wp_seq (rg_lit ?_)))
     refine wmv (v := .int .i64 ((kc : Int))) ?_
     refine wmv (v := .slice sA S.length sK) ?_
     refine wl (sv rfl (v := .int .i64 ((S.length : Int))) (r_len Ty.un22 (ad := sA) (n := S.length) (c := sK) (by kernel_rfl)) ?_)
     refine wl (sb rfl (r_lt (k := .i64) (m := ((kc : Int))) (n := ((S.length : Int))) (by kernel_rfl) (by kernel_rfl)) ?_)
     intro b60 k61
     refine wnil (then_n ?_)
     refine bcase b60 (fun v62 => ?_) (fun v62 => ?_)
     ·
      have p63 := of_decide_eq_false (k61.trans v62)
      refine wp_cond_false (ebool (b := b60) (by kernel_rfl) v62) ?_
      refine wp_skip (inb_n (then_n (rg_lit ?_)))
      refine wmv (v := .int .i64 ((kc : Int))) ?_
      refine wl (sv rfl (v := .int .i64 (((kc + 1 : Nat) : Int))) (r_add (k := .i64) (m := ((kc : Int))) (n := 1) (c := (((kc + 1 : Nat) : Int))) (by kernel_rfl) (by kernel_rfl) ((IntWalk.i64_in _ (by omega)).trans (by omega))) ?_)
      refine was (v := .int .i64 (((kc + 1 : Nat) : Int))) ?_
      refine wnil (then_n ?_)
      have h64 := (ORow.up hF3_1 u57)
      have h65 := (Two.up hF3_2 u57)
      refine ⟨(S.length + ms.length) - (kc + 1), ?_, (kc + 1), .int .i64 ((kc : Int)), .slice sA S.length sK, .int .i64 ((S.length : Int)), .bool b42, .bool b42, .int .i64 ((kc : Int)), .slice mA ms.length mc, .int .i64 ((ms.length : Int)), .bool b46, .bool b46, .int .i64 ((kc : Int)), .int .i64 (((kc + 1 : Nat) : Int)), .int .i64 ((kc : Int)), .slice mA ms.length mc, .int .i64 ((ms.length : Int)), .bool b50, .bool b50, .pointer (some ⟨la, 0, none⟩), .slice mA ms.length mc, .int .i64 ((kc : Int)), .pointer (some ⟨g54, f54 + kc * 10, none⟩), .pointer (some ⟨g54, f54 + kc * 10 + 1, none⟩), .agg #[.int .i64 m54.at_.t, .int .i64 m54.at_.w], .bool ((hasL Aa ⟨m54.at_.t, m54.at_.w⟩)), .bool (!((hasL Aa ⟨m54.at_.t, m54.at_.w⟩))), .bool (!((hasL Aa ⟨m54.at_.t, m54.at_.w⟩))), z109, z110, z111, z112, z113, z114, .int .i64 ((kc : Int)), .slice sA S.length sK, .int .i64 ((S.length : Int)), .bool b60, z119, z120, z121, z122, z123, z124, rfl, (by kernel_rfl), (Mod.up M58), (by omega), h64, (Two.to h65 rfl (mixN_next (.inl ⟨m54, hm54, by rw [if_pos v59]⟩) (.inr ⟨by omega, rfl⟩)))⟩
      · omega
     have p63 := of_decide_eq_true (k61.trans v62)
     refine wp_cond_true (ebool (b := b60) (by kernel_rfl) v62) ?_
     refine rg_lit ?_
     refine wmv (v := .pointer (some ⟨lb, 0, none⟩)) ?_
     refine wmv (v := .slice sA S.length sK) ?_
     refine wmv (v := .int .i64 ((kc : Int))) ?_
     have h65 := (ORow.up hF3_1 u57)
     obtain ⟨x64, hx64⟩ : ∃ x, S2[kc]? = some x := ⟨_, List.getElem?_eq_getElem (by omega)⟩
     obtain ⟨g64, cp64, cu64, dA64, dn64, dc64, hA64, hg64, hb64, he64, hD64⟩ := ORow.get h65 hx64
     injection hA64 with hA64 _ _
     refine wl (sv rfl (v := .pointer (some ⟨g64, kc * 10, none⟩)) (r_ixaddr' (A := sA) (b := g64) (o := 0) (n := S.length) (c := sK) (sz := 10) (j := ((kc : Int))) (m := kc * 10) (by kernel_rfl) hA64 (by kernel_rfl) Ty.un22 Ty.sz40 (by omega) (by omega) (by omega)) ?_)
     refine wl (sv rfl (v := opV x64 (.slice dA64 dn64 dc64)) (r_loads (k := kc * 10) (vs := (opC x64 (.slice dA64 dn64 dc64))) (by kernel_rfl) Ty.ag40 Ty.sz40 hb64 he64) ?_)
     have h66 := (Two.up hF3_2 u57)
     refine wl (sc rfl (r_callv (caps := []) (all := [.pointer (some ⟨lb, 0, none⟩), opV x64 (.slice dA64 dn64 dc64)]) En.f37 (by kernel_rfl) (by kernel_rfl)) (two_insB h66 (Nat.le_trans hB M58.size) (by have h0 := mixN_len Aa S2 ms kc; omega) x64 dA64 dn64 dc64 hD64 (hS2n x64 (List.mem_of_getElem? hx64))) ?_)
     rintro e w67 ⟨nn69, kk69, rfl, hT68, ho69⟩
     refine ⟨.tuple #[.int .i64 nn69, .int .i64 kk69], rfl, ?_⟩
     have M70 := Only.of_up (Mod.up M58) ho69
     have h71 := ORow.only h65 ho69
     have h72 := (Dat.up hD54 u57)
     have h73 := Only.dat ho69 h72
     have h74 := Only.dat ho69 hD64
     refine wnil (inb_n (then_n (rg_lit ?_)))
     refine wmv (v := .int .i64 ((kc : Int))) ?_
     refine wl (sv rfl (v := .int .i64 (((kc + 1 : Nat) : Int))) (r_add (k := .i64) (m := ((kc : Int))) (n := 1) (c := (((kc + 1 : Nat) : Int))) (by kernel_rfl) (by kernel_rfl) ((IntWalk.i64_in _ (by omega)).trans (by omega))) ?_)
     refine was (v := .int .i64 (((kc + 1 : Nat) : Int))) ?_
     refine wnil (then_n ?_)
     refine ⟨(S.length + ms.length) - (kc + 1), ?_, (kc + 1), .int .i64 ((kc : Int)), .slice sA S.length sK, .int .i64 ((S.length : Int)), .bool b42, .bool b42, .int .i64 ((kc : Int)), .slice mA ms.length mc, .int .i64 ((ms.length : Int)), .bool b46, .bool b46, .int .i64 ((kc : Int)), .int .i64 (((kc + 1 : Nat) : Int)), .int .i64 ((kc : Int)), .slice mA ms.length mc, .int .i64 ((ms.length : Int)), .bool b50, .bool b50, .pointer (some ⟨la, 0, none⟩), .slice mA ms.length mc, .int .i64 ((kc : Int)), .pointer (some ⟨g54, f54 + kc * 10, none⟩), .pointer (some ⟨g54, f54 + kc * 10 + 1, none⟩), .agg #[.int .i64 m54.at_.t, .int .i64 m54.at_.w], .bool ((hasL Aa ⟨m54.at_.t, m54.at_.w⟩)), .bool (!((hasL Aa ⟨m54.at_.t, m54.at_.w⟩))), .bool (!((hasL Aa ⟨m54.at_.t, m54.at_.w⟩))), z109, z110, z111, z112, z113, z114, .int .i64 ((kc : Int)), .slice sA S.length sK, .int .i64 ((S.length : Int)), .bool b60, .pointer (some ⟨lb, 0, none⟩), .slice sA S.length sK, .int .i64 ((kc : Int)), .pointer (some ⟨g64, kc * 10, none⟩), opV x64 (.slice dA64 dn64 dc64), .tuple #[.int .i64 nn69, .int .i64 kk69], rfl, (by kernel_rfl), (Mod.up (Mod.of_up (X := []) M70)), (by omega), h71, (Two.to hT68 rfl (mixN_next (.inl ⟨m54, hm54, by rw [if_pos v59]⟩) (.inl ⟨x64, hx64, rfl⟩)))⟩
     · omega
    have p45 := of_decide_eq_true (k43.trans v44)
    refine wl (sp (wf (b := b42) rfl (by kernel_rfl) v44) ?_)
    refine wl (sp (wf (b := b42) rfl (by kernel_rfl) v44) ?_)
    refine wl (sp (wf (b := b42) rfl (by kernel_rfl) v44) ?_)
    refine wl (sp (wf (b := b42) rfl (by kernel_rfl) v44) ?_)
    refine wl (sv rfl (v := .bool true) (r_pkT (ebool (b := b42) (by kernel_rfl) v44) (by kernel_rfl)) ?_)
    refine wnil (then_n ?_)
    refine wp_cond_true (by kernel_rfl) ?_
    refine wp_skip (then_n (wp_seq (wp_block (wp_seq (wp_seq (rg_lit ?_))))))
    refine wmv (v := .int .i64 ((kc : Int))) ?_
    refine wmv (v := .slice mA ms.length mc) ?_
    refine wl (sv rfl (v := .int .i64 ((ms.length : Int))) (r_len Ty.un22 (ad := mA) (n := ms.length) (c := mc) (by kernel_rfl)) ?_)
    refine wl (sb rfl (r_lt (k := .i64) (m := ((kc : Int))) (n := ((ms.length : Int))) (by kernel_rfl) (by kernel_rfl)) ?_)
    intro b46 k47
    refine wmv (v := .bool b46) ?_
    refine bcase b46 (fun v48 => ?_) (fun v48 => ?_)
    ·
     have p49 := of_decide_eq_false (k47.trans v48)
     refine wl (sp (wf (b := b46) rfl (by kernel_rfl) v48) ?_)
     refine wl (sp (wf (b := b46) rfl (by kernel_rfl) v48) ?_)
     refine wl (sp (wf (b := b46) rfl (by kernel_rfl) v48) ?_)
     refine wl (sp (wf (b := b46) rfl (by kernel_rfl) v48) ?_)
     refine wl (sp (wf (b := b46) rfl (by kernel_rfl) v48) ?_)
     refine wl (sp (wf (b := b46) rfl (by kernel_rfl) v48) ?_)
     refine wl (sp (wf (b := b46) rfl (by kernel_rfl) v48) ?_)
     refine wl (sp (wf (b := b46) rfl (by kernel_rfl) v48) ?_)
     refine wl (sv rfl (v := .bool false) (r_pkF (ebool (b := b46) (by kernel_rfl) v48) (by kernel_rfl)) ?_)
     refine wnil (then_n ?_)
     refine wp_cond_false (by kernel_rfl) ?_
     refine wp_skip (then_n (wp_seq (rg_lit ?_)))
     refine wmv (v := .int .i64 ((kc : Int))) ?_
     refine wmv (v := .slice sA S.length sK) ?_
     refine wl (sv rfl (v := .int .i64 ((S.length : Int))) (r_len Ty.un22 (ad := sA) (n := S.length) (c := sK) (by kernel_rfl)) ?_)
     refine wl (sb rfl (r_lt (k := .i64) (m := ((kc : Int))) (n := ((S.length : Int))) (by kernel_rfl) (by kernel_rfl)) ?_)
     intro b50 k51
     refine wnil (then_n ?_)
     refine bcase b50 (fun v52 => ?_) (fun v52 => ?_)
     ·
      have p53 := of_decide_eq_false (k51.trans v52)
      refine wp_cond_false (ebool (b := b50) (by kernel_rfl) v52) ?_
      refine wp_skip (inb_n (then_n (rg_lit ?_)))
      refine wmv (v := .int .i64 ((kc : Int))) ?_
      refine wl (sv rfl (v := .int .i64 (((kc + 1 : Nat) : Int))) (r_add (k := .i64) (m := ((kc : Int))) (n := 1) (c := (((kc + 1 : Nat) : Int))) (by kernel_rfl) (by kernel_rfl) ((IntWalk.i64_in _ (by omega)).trans (by omega))) ?_)
      refine was (v := .int .i64 (((kc + 1 : Nat) : Int))) ?_
      refine wnil (then_n ?_)
      refine ⟨(S.length + ms.length) - (kc + 1), ?_, (kc + 1), .int .i64 ((kc : Int)), .slice sA S.length sK, .int .i64 ((S.length : Int)), .bool b42, .bool b42, undef, undef, undef, undef, .bool true, .int .i64 ((kc : Int)), .int .i64 (((kc + 1 : Nat) : Int)), .int .i64 ((kc : Int)), .slice mA ms.length mc, .int .i64 ((ms.length : Int)), .bool b46, .bool b46, undef, undef, undef, undef, undef, undef, undef, undef, .bool false, z109, z110, z111, z112, z113, z114, .int .i64 ((kc : Int)), .slice sA S.length sK, .int .i64 ((S.length : Int)), .bool b50, z119, z120, z121, z122, z123, z124, rfl, (by kernel_rfl), (Mod.up (Mod.of_up (X := []) hU3)), (by omega), hF3_1, (Two.to hF3_2 rfl (mixN_next (.inr ⟨by omega, rfl⟩) (.inr ⟨by omega, rfl⟩)))⟩
      · omega
     have p53 := of_decide_eq_true (k51.trans v52)
     refine wp_cond_true (ebool (b := b50) (by kernel_rfl) v52) ?_
     refine rg_lit ?_
     refine wmv (v := .pointer (some ⟨lb, 0, none⟩)) ?_
     refine wmv (v := .slice sA S.length sK) ?_
     refine wmv (v := .int .i64 ((kc : Int))) ?_
     obtain ⟨x54, hx54⟩ : ∃ x, S2[kc]? = some x := ⟨_, List.getElem?_eq_getElem (by omega)⟩
     obtain ⟨g54, cp54, cu54, dA54, dn54, dc54, hA54, hg54, hb54, he54, hD54⟩ := ORow.get hF3_1 hx54
     injection hA54 with hA54 _ _
     refine wl (sv rfl (v := .pointer (some ⟨g54, kc * 10, none⟩)) (r_ixaddr' (A := sA) (b := g54) (o := 0) (n := S.length) (c := sK) (sz := 10) (j := ((kc : Int))) (m := kc * 10) (by kernel_rfl) hA54 (by kernel_rfl) Ty.un22 Ty.sz40 (by omega) (by omega) (by omega)) ?_)
     refine wl (sv rfl (v := opV x54 (.slice dA54 dn54 dc54)) (r_loads (k := kc * 10) (vs := (opC x54 (.slice dA54 dn54 dc54))) (by kernel_rfl) Ty.ag40 Ty.sz40 hb54 he54) ?_)
     refine wl (sc rfl (r_callv (caps := []) (all := [.pointer (some ⟨lb, 0, none⟩), opV x54 (.slice dA54 dn54 dc54)]) En.f37 (by kernel_rfl) (by kernel_rfl)) (two_insB hF3_2 (Nat.le_trans hB (Mod.of_up (X := []) hU3).size) (by have h0 := mixN_len Aa S2 ms kc; omega) x54 dA54 dn54 dc54 hD54 (hS2n x54 (List.mem_of_getElem? hx54))) ?_)
     rintro e w55 ⟨nn57, kk57, rfl, hT56, ho57⟩
     refine ⟨.tuple #[.int .i64 nn57, .int .i64 kk57], rfl, ?_⟩
     have M58 := Only.of_up (Mod.up (Mod.of_up (X := []) hU3)) ho57
     have h59 := ORow.only hF3_1 ho57
     have h60 := Only.dat ho57 hD54
     refine wnil (inb_n (then_n (rg_lit ?_)))
     refine wmv (v := .int .i64 ((kc : Int))) ?_
     refine wl (sv rfl (v := .int .i64 (((kc + 1 : Nat) : Int))) (r_add (k := .i64) (m := ((kc : Int))) (n := 1) (c := (((kc + 1 : Nat) : Int))) (by kernel_rfl) (by kernel_rfl) ((IntWalk.i64_in _ (by omega)).trans (by omega))) ?_)
     refine was (v := .int .i64 (((kc + 1 : Nat) : Int))) ?_
     refine wnil (then_n ?_)
     refine ⟨(S.length + ms.length) - (kc + 1), ?_, (kc + 1), .int .i64 ((kc : Int)), .slice sA S.length sK, .int .i64 ((S.length : Int)), .bool b42, .bool b42, undef, undef, undef, undef, .bool true, .int .i64 ((kc : Int)), .int .i64 (((kc + 1 : Nat) : Int)), .int .i64 ((kc : Int)), .slice mA ms.length mc, .int .i64 ((ms.length : Int)), .bool b46, .bool b46, undef, undef, undef, undef, undef, undef, undef, undef, .bool false, z109, z110, z111, z112, z113, z114, .int .i64 ((kc : Int)), .slice sA S.length sK, .int .i64 ((S.length : Int)), .bool b50, .pointer (some ⟨lb, 0, none⟩), .slice sA S.length sK, .int .i64 ((kc : Int)), .pointer (some ⟨g54, kc * 10, none⟩), opV x54 (.slice dA54 dn54 dc54), .tuple #[.int .i64 nn57, .int .i64 kk57], rfl, (by kernel_rfl), (Mod.up (Mod.of_up (X := []) M58)), (by omega), h59, (Two.to hT56 rfl (mixN_next (.inr ⟨by omega, rfl⟩) (.inl ⟨x54, hx54, rfl⟩)))⟩
     · omega
    have p49 := of_decide_eq_true (k47.trans v48)
    refine wl (sv (wt (b := b46) rfl (by kernel_rfl) v48) (v := .pointer (some ⟨la, 0, none⟩)) (r_move (by kernel_rfl)) ?_)
    refine wl (sv (wt (b := b46) rfl (by kernel_rfl) v48) (v := .slice mA ms.length mc) (r_move (by kernel_rfl)) ?_)
    refine wl (sv (wt (b := b46) rfl (by kernel_rfl) v48) (v := .int .i64 ((kc : Int))) (r_move (by kernel_rfl)) ?_)
    have h51 := (OpRow.up hops2 (Mod.up (Mod.of_up (X := []) hU3)))
    obtain ⟨m50, hm50⟩ : ∃ x, ms[kc]? = some x := ⟨_, List.getElem?_eq_getElem (by omega)⟩
    obtain ⟨g50, f50, dA50, dn50, dc50, hA50, hl50, hc50, hD50, hz50⟩ := h51 kc m50 hm50
    refine wl (sv (wt (b := b46) rfl (by kernel_rfl) v48) (v := .pointer (some ⟨g50, f50 + kc * 10, none⟩)) (r_ixaddr' (A := mA) (b := g50) (o := f50) (n := ms.length) (c := mc) (sz := 10) (j := ((kc : Int))) (m := f50 + kc * 10) (by kernel_rfl) hA50 (by kernel_rfl) Ty.un22 Ty.sz40 (by omega) (by omega) (by simp)) ?_)
    refine wl (sv (wt (b := b46) rfl (by kernel_rfl) v48) (v := .pointer (some ⟨g50, f50 + kc * 10 + 1, none⟩)) (r_fieldAddr (u := .pointer (some ⟨g50, f50 + kc * 10, none⟩)) (by kernel_rfl) (fun _ => (by kernel_rfl))) ?_)
    refine wl (sv (wt (b := b46) rfl (by kernel_rfl) v48) (v := .agg #[.int .i64 m50.at_.t, .int .i64 m50.at_.w]) (r_loadcN (k := f50 + kc * 10 + 1) (vs := [.int .i64 m50.at_.t, .int .i64 m50.at_.w]) (by kernel_rfl) Ty.ag24 Ty.sz24 (sub_cells 1 2 hc50)) ?_)
    refine wl (sc (wt (b := b46) rfl (by kernel_rfl) v48) (r_callv (caps := []) (all := [.pointer (some ⟨la, 0, none⟩), .agg #[.int .i64 m50.at_.t, .int .i64 m50.at_.w]]) En.f43 (by kernel_rfl) (by kernel_rfl)) (one_has (Two.one hF3_2) (by omega) m50.at_.t m50.at_.w) ?_)
    rintro e w52 ⟨rfl, u53⟩
    refine ⟨.bool ((hasL Aa ⟨m50.at_.t, m50.at_.w⟩)), rfl, ?_⟩
    have M54 := Mod.trans (Mod.of_up (X := []) hU3) (Mod.of_up u53)
    refine wl (sv (wt (b := b46) rfl (by kernel_rfl) v48) (v := .bool (!((hasL Aa ⟨m50.at_.t, m50.at_.w⟩)))) (r_not (b := ((hasL Aa ⟨m50.at_.t, m50.at_.w⟩))) (by kernel_rfl)) ?_)
    refine wl (sv rfl (v := .bool (!((hasL Aa ⟨m50.at_.t, m50.at_.w⟩)))) (r_pkT (ebool (b := b46) (by kernel_rfl) v48) (by kernel_rfl)) ?_)
    refine wnil (then_n ?_)
    refine bcase ((hasL Aa ⟨m50.at_.t, m50.at_.w⟩)) (fun v55 => ?_) (fun v55 => ?_)
    ·
     refine wp_cond_true (ebool (b := !((hasL Aa ⟨m50.at_.t, m50.at_.w⟩))) (by kernel_rfl) (bneg v55)) ?_
     refine rg_lit ?_
     refine wmv (v := .pointer (some ⟨lb, 0, none⟩)) ?_
     refine wmv (v := .slice mA ms.length mc) ?_
     refine wmv (v := .int .i64 ((kc : Int))) ?_
     have h57 := (OpRow.up hops2 (Mod.up M54))
     obtain ⟨g56, f56, dA56, dn56, dc56, hA56, hl56, hc56, hD56, hz56⟩ := h57 kc m50 hm50
     refine wl (sv rfl (v := .pointer (some ⟨g56, f56 + kc * 10, none⟩)) (r_ixaddr' (A := mA) (b := g56) (o := f56) (n := ms.length) (c := mc) (sz := 10) (j := ((kc : Int))) (m := f56 + kc * 10) (by kernel_rfl) hA56 (by kernel_rfl) Ty.un22 Ty.sz40 (by omega) (by omega) (by simp)) ?_)
     refine wl (sv rfl (v := opV m50 (.slice dA56 dn56 dc56)) (r_loadcN (k := f56 + kc * 10) (vs := (opC m50 (.slice dA56 dn56 dc56))) (by kernel_rfl) Ty.ag40 Ty.sz40 hc56) ?_)
     have h58 := (Two.up hF3_2 u53)
     refine wl (sc rfl (r_callv (caps := []) (all := [.pointer (some ⟨lb, 0, none⟩), opV m50 (.slice dA56 dn56 dc56)]) En.f37 (by kernel_rfl) (by kernel_rfl)) (two_insB h58 (Nat.le_trans hB M54.size) (by have h0 := mixN_len Aa S2 ms kc; omega) m50 dA56 dn56 dc56 hD56 hz56) ?_)
     rintro e w59 ⟨nn61, kk61, rfl, hT60, ho61⟩
     refine ⟨.tuple #[.int .i64 nn61, .int .i64 kk61], rfl, ?_⟩
     have M62 := Only.of_up (Mod.up M54) ho61
     have h63 := (ORow.up hF3_1 u53)
     have h64 := ORow.only h63 ho61
     have h65 := (Dat.up hD50 u53)
     have h66 := Only.dat ho61 h65
     have h67 := Only.dat ho61 hD56
     refine wnil (then_n (wp_seq (rg_lit ?_)))
     refine wmv (v := .int .i64 ((kc : Int))) ?_
     refine wmv (v := .slice sA S.length sK) ?_
     refine wl (sv rfl (v := .int .i64 ((S.length : Int))) (r_len Ty.un22 (ad := sA) (n := S.length) (c := sK) (by kernel_rfl)) ?_)
     refine wl (sb rfl (r_lt (k := .i64) (m := ((kc : Int))) (n := ((S.length : Int))) (by kernel_rfl) (by kernel_rfl)) ?_)
     intro b68 k69
     refine wnil (then_n ?_)
     refine bcase b68 (fun v70 => ?_) (fun v70 => ?_)
     ·
      have p71 := of_decide_eq_false (k69.trans v70)
      refine wp_cond_false (ebool (b := b68) (by kernel_rfl) v70) ?_
      refine wp_skip (inb_n (then_n (rg_lit ?_)))
      refine wmv (v := .int .i64 ((kc : Int))) ?_
      refine wl (sv rfl (v := .int .i64 (((kc + 1 : Nat) : Int))) (r_add (k := .i64) (m := ((kc : Int))) (n := 1) (c := (((kc + 1 : Nat) : Int))) (by kernel_rfl) (by kernel_rfl) ((IntWalk.i64_in _ (by omega)).trans (by omega))) ?_)
      refine was (v := .int .i64 (((kc + 1 : Nat) : Int))) ?_
      refine wnil (then_n ?_)
      refine ⟨(S.length + ms.length) - (kc + 1), ?_, (kc + 1), .int .i64 ((kc : Int)), .slice sA S.length sK, .int .i64 ((S.length : Int)), .bool b42, .bool b42, undef, undef, undef, undef, .bool true, .int .i64 ((kc : Int)), .int .i64 (((kc + 1 : Nat) : Int)), .int .i64 ((kc : Int)), .slice mA ms.length mc, .int .i64 ((ms.length : Int)), .bool b46, .bool b46, .pointer (some ⟨la, 0, none⟩), .slice mA ms.length mc, .int .i64 ((kc : Int)), .pointer (some ⟨g50, f50 + kc * 10, none⟩), .pointer (some ⟨g50, f50 + kc * 10 + 1, none⟩), .agg #[.int .i64 m50.at_.t, .int .i64 m50.at_.w], .bool ((hasL Aa ⟨m50.at_.t, m50.at_.w⟩)), .bool (!((hasL Aa ⟨m50.at_.t, m50.at_.w⟩))), .bool (!((hasL Aa ⟨m50.at_.t, m50.at_.w⟩))), .pointer (some ⟨lb, 0, none⟩), .slice mA ms.length mc, .int .i64 ((kc : Int)), .pointer (some ⟨g56, f56 + kc * 10, none⟩), opV m50 (.slice dA56 dn56 dc56), .tuple #[.int .i64 nn61, .int .i64 kk61], .int .i64 ((kc : Int)), .slice sA S.length sK, .int .i64 ((S.length : Int)), .bool b68, z119, z120, z121, z122, z123, z124, rfl, (by kernel_rfl), (Mod.up (Mod.of_up (X := []) M62)), (by omega), h64, (Two.to hT60 rfl (mixN_next (.inl ⟨m50, hm50, by rw [if_neg (by rw [v55]; decide)]⟩) (.inr ⟨by omega, rfl⟩)))⟩
      · omega
     have p71 := of_decide_eq_true (k69.trans v70)
     refine wp_cond_true (ebool (b := b68) (by kernel_rfl) v70) ?_
     refine rg_lit ?_
     refine wmv (v := .pointer (some ⟨lb, 0, none⟩)) ?_
     refine wmv (v := .slice sA S.length sK) ?_
     refine wmv (v := .int .i64 ((kc : Int))) ?_
     obtain ⟨x72, hx72⟩ : ∃ x, S2[kc]? = some x := ⟨_, List.getElem?_eq_getElem (by omega)⟩
     obtain ⟨g72, cp72, cu72, dA72, dn72, dc72, hA72, hg72, hb72, he72, hD72⟩ := ORow.get h64 hx72
     injection hA72 with hA72 _ _
     refine wl (sv rfl (v := .pointer (some ⟨g72, kc * 10, none⟩)) (r_ixaddr' (A := sA) (b := g72) (o := 0) (n := S.length) (c := sK) (sz := 10) (j := ((kc : Int))) (m := kc * 10) (by kernel_rfl) hA72 (by kernel_rfl) Ty.un22 Ty.sz40 (by omega) (by omega) (by omega)) ?_)
     refine wl (sv rfl (v := opV x72 (.slice dA72 dn72 dc72)) (r_loads (k := kc * 10) (vs := (opC x72 (.slice dA72 dn72 dc72))) (by kernel_rfl) Ty.ag40 Ty.sz40 hb72 he72) ?_)
     refine wl (sc rfl (r_callv (caps := []) (all := [.pointer (some ⟨lb, 0, none⟩), opV x72 (.slice dA72 dn72 dc72)]) En.f37 (by kernel_rfl) (by kernel_rfl)) (two_insB hT60 (Nat.le_trans hB (Mod.of_up (X := []) M62).size) (by have h0 := mixN_len Aa S2 ms kc; have h1 := insL_len (mixN Aa S2 ms kc) m50; omega) x72 dA72 dn72 dc72 hD72 (hS2n x72 (List.mem_of_getElem? hx72))) ?_)
     rintro e w73 ⟨nn75, kk75, rfl, hT74, ho75⟩
     refine ⟨.tuple #[.int .i64 nn75, .int .i64 kk75], rfl, ?_⟩
     have M76 := Only.of_up (Mod.up (Mod.of_up (X := []) M62)) ho75
     have h77 := ORow.only h64 ho75
     have h78 := Only.dat ho75 h66
     have h79 := Only.dat ho75 h67
     have h80 := Only.dat ho75 hD72
     refine wnil (inb_n (then_n (rg_lit ?_)))
     refine wmv (v := .int .i64 ((kc : Int))) ?_
     refine wl (sv rfl (v := .int .i64 (((kc + 1 : Nat) : Int))) (r_add (k := .i64) (m := ((kc : Int))) (n := 1) (c := (((kc + 1 : Nat) : Int))) (by kernel_rfl) (by kernel_rfl) ((IntWalk.i64_in _ (by omega)).trans (by omega))) ?_)
     refine was (v := .int .i64 (((kc + 1 : Nat) : Int))) ?_
     refine wnil (then_n ?_)
     refine ⟨(S.length + ms.length) - (kc + 1), ?_, (kc + 1), .int .i64 ((kc : Int)), .slice sA S.length sK, .int .i64 ((S.length : Int)), .bool b42, .bool b42, undef, undef, undef, undef, .bool true, .int .i64 ((kc : Int)), .int .i64 (((kc + 1 : Nat) : Int)), .int .i64 ((kc : Int)), .slice mA ms.length mc, .int .i64 ((ms.length : Int)), .bool b46, .bool b46, .pointer (some ⟨la, 0, none⟩), .slice mA ms.length mc, .int .i64 ((kc : Int)), .pointer (some ⟨g50, f50 + kc * 10, none⟩), .pointer (some ⟨g50, f50 + kc * 10 + 1, none⟩), .agg #[.int .i64 m50.at_.t, .int .i64 m50.at_.w], .bool ((hasL Aa ⟨m50.at_.t, m50.at_.w⟩)), .bool (!((hasL Aa ⟨m50.at_.t, m50.at_.w⟩))), .bool (!((hasL Aa ⟨m50.at_.t, m50.at_.w⟩))), .pointer (some ⟨lb, 0, none⟩), .slice mA ms.length mc, .int .i64 ((kc : Int)), .pointer (some ⟨g56, f56 + kc * 10, none⟩), opV m50 (.slice dA56 dn56 dc56), .tuple #[.int .i64 nn61, .int .i64 kk61], .int .i64 ((kc : Int)), .slice sA S.length sK, .int .i64 ((S.length : Int)), .bool b68, .pointer (some ⟨lb, 0, none⟩), .slice sA S.length sK, .int .i64 ((kc : Int)), .pointer (some ⟨g72, kc * 10, none⟩), opV x72 (.slice dA72 dn72 dc72), .tuple #[.int .i64 nn75, .int .i64 kk75], rfl, (by kernel_rfl), (Mod.up (Mod.of_up (X := []) M76)), (by omega), h77, (Two.to hT74 rfl (mixN_next (.inl ⟨m50, hm50, by rw [if_neg (by rw [v55]; decide)]⟩) (.inl ⟨x72, hx72, rfl⟩)))⟩
     · omega
    refine wp_cond_false (ebool (b := !((hasL Aa ⟨m50.at_.t, m50.at_.w⟩))) (by kernel_rfl) (bneg v55)) ?_
    refine wp_skip (then_n (wp_seq (rg_lit ?_)))
    refine wmv (v := .int .i64 ((kc : Int))) ?_
    refine wmv (v := .slice sA S.length sK) ?_
    refine wl (sv rfl (v := .int .i64 ((S.length : Int))) (r_len Ty.un22 (ad := sA) (n := S.length) (c := sK) (by kernel_rfl)) ?_)
    refine wl (sb rfl (r_lt (k := .i64) (m := ((kc : Int))) (n := ((S.length : Int))) (by kernel_rfl) (by kernel_rfl)) ?_)
    intro b56 k57
    refine wnil (then_n ?_)
    refine bcase b56 (fun v58 => ?_) (fun v58 => ?_)
    ·
     have p59 := of_decide_eq_false (k57.trans v58)
     refine wp_cond_false (ebool (b := b56) (by kernel_rfl) v58) ?_
     refine wp_skip (inb_n (then_n (rg_lit ?_)))
     refine wmv (v := .int .i64 ((kc : Int))) ?_
     refine wl (sv rfl (v := .int .i64 (((kc + 1 : Nat) : Int))) (r_add (k := .i64) (m := ((kc : Int))) (n := 1) (c := (((kc + 1 : Nat) : Int))) (by kernel_rfl) (by kernel_rfl) ((IntWalk.i64_in _ (by omega)).trans (by omega))) ?_)
     refine was (v := .int .i64 (((kc + 1 : Nat) : Int))) ?_
     refine wnil (then_n ?_)
     have h60 := (ORow.up hF3_1 u53)
     have h61 := (Two.up hF3_2 u53)
     refine ⟨(S.length + ms.length) - (kc + 1), ?_, (kc + 1), .int .i64 ((kc : Int)), .slice sA S.length sK, .int .i64 ((S.length : Int)), .bool b42, .bool b42, undef, undef, undef, undef, .bool true, .int .i64 ((kc : Int)), .int .i64 (((kc + 1 : Nat) : Int)), .int .i64 ((kc : Int)), .slice mA ms.length mc, .int .i64 ((ms.length : Int)), .bool b46, .bool b46, .pointer (some ⟨la, 0, none⟩), .slice mA ms.length mc, .int .i64 ((kc : Int)), .pointer (some ⟨g50, f50 + kc * 10, none⟩), .pointer (some ⟨g50, f50 + kc * 10 + 1, none⟩), .agg #[.int .i64 m50.at_.t, .int .i64 m50.at_.w], .bool ((hasL Aa ⟨m50.at_.t, m50.at_.w⟩)), .bool (!((hasL Aa ⟨m50.at_.t, m50.at_.w⟩))), .bool (!((hasL Aa ⟨m50.at_.t, m50.at_.w⟩))), z109, z110, z111, z112, z113, z114, .int .i64 ((kc : Int)), .slice sA S.length sK, .int .i64 ((S.length : Int)), .bool b56, z119, z120, z121, z122, z123, z124, rfl, (by kernel_rfl), (Mod.up M54), (by omega), h60, (Two.to h61 rfl (mixN_next (.inl ⟨m50, hm50, by rw [if_pos v55]⟩) (.inr ⟨by omega, rfl⟩)))⟩
     · omega
    have p59 := of_decide_eq_true (k57.trans v58)
    refine wp_cond_true (ebool (b := b56) (by kernel_rfl) v58) ?_
    refine rg_lit ?_
    refine wmv (v := .pointer (some ⟨lb, 0, none⟩)) ?_
    refine wmv (v := .slice sA S.length sK) ?_
    refine wmv (v := .int .i64 ((kc : Int))) ?_
    have h61 := (ORow.up hF3_1 u53)
    obtain ⟨x60, hx60⟩ : ∃ x, S2[kc]? = some x := ⟨_, List.getElem?_eq_getElem (by omega)⟩
    obtain ⟨g60, cp60, cu60, dA60, dn60, dc60, hA60, hg60, hb60, he60, hD60⟩ := ORow.get h61 hx60
    injection hA60 with hA60 _ _
    refine wl (sv rfl (v := .pointer (some ⟨g60, kc * 10, none⟩)) (r_ixaddr' (A := sA) (b := g60) (o := 0) (n := S.length) (c := sK) (sz := 10) (j := ((kc : Int))) (m := kc * 10) (by kernel_rfl) hA60 (by kernel_rfl) Ty.un22 Ty.sz40 (by omega) (by omega) (by omega)) ?_)
    refine wl (sv rfl (v := opV x60 (.slice dA60 dn60 dc60)) (r_loads (k := kc * 10) (vs := (opC x60 (.slice dA60 dn60 dc60))) (by kernel_rfl) Ty.ag40 Ty.sz40 hb60 he60) ?_)
    have h62 := (Two.up hF3_2 u53)
    refine wl (sc rfl (r_callv (caps := []) (all := [.pointer (some ⟨lb, 0, none⟩), opV x60 (.slice dA60 dn60 dc60)]) En.f37 (by kernel_rfl) (by kernel_rfl)) (two_insB h62 (Nat.le_trans hB M54.size) (by have h0 := mixN_len Aa S2 ms kc; omega) x60 dA60 dn60 dc60 hD60 (hS2n x60 (List.mem_of_getElem? hx60))) ?_)
    rintro e w63 ⟨nn65, kk65, rfl, hT64, ho65⟩
    refine ⟨.tuple #[.int .i64 nn65, .int .i64 kk65], rfl, ?_⟩
    have M66 := Only.of_up (Mod.up M54) ho65
    have h67 := ORow.only h61 ho65
    have h68 := (Dat.up hD50 u53)
    have h69 := Only.dat ho65 h68
    have h70 := Only.dat ho65 hD60
    refine wnil (inb_n (then_n (rg_lit ?_)))
    refine wmv (v := .int .i64 ((kc : Int))) ?_
    refine wl (sv rfl (v := .int .i64 (((kc + 1 : Nat) : Int))) (r_add (k := .i64) (m := ((kc : Int))) (n := 1) (c := (((kc + 1 : Nat) : Int))) (by kernel_rfl) (by kernel_rfl) ((IntWalk.i64_in _ (by omega)).trans (by omega))) ?_)
    refine was (v := .int .i64 (((kc + 1 : Nat) : Int))) ?_
    refine wnil (then_n ?_)
    refine ⟨(S.length + ms.length) - (kc + 1), ?_, (kc + 1), .int .i64 ((kc : Int)), .slice sA S.length sK, .int .i64 ((S.length : Int)), .bool b42, .bool b42, undef, undef, undef, undef, .bool true, .int .i64 ((kc : Int)), .int .i64 (((kc + 1 : Nat) : Int)), .int .i64 ((kc : Int)), .slice mA ms.length mc, .int .i64 ((ms.length : Int)), .bool b46, .bool b46, .pointer (some ⟨la, 0, none⟩), .slice mA ms.length mc, .int .i64 ((kc : Int)), .pointer (some ⟨g50, f50 + kc * 10, none⟩), .pointer (some ⟨g50, f50 + kc * 10 + 1, none⟩), .agg #[.int .i64 m50.at_.t, .int .i64 m50.at_.w], .bool ((hasL Aa ⟨m50.at_.t, m50.at_.w⟩)), .bool (!((hasL Aa ⟨m50.at_.t, m50.at_.w⟩))), .bool (!((hasL Aa ⟨m50.at_.t, m50.at_.w⟩))), z109, z110, z111, z112, z113, z114, .int .i64 ((kc : Int)), .slice sA S.length sK, .int .i64 ((S.length : Int)), .bool b56, .pointer (some ⟨lb, 0, none⟩), .slice sA S.length sK, .int .i64 ((kc : Int)), .pointer (some ⟨g60, kc * 10, none⟩), opV x60 (.slice dA60 dn60 dc60), .tuple #[.int .i64 nn65, .int .i64 kk65], rfl, (by kernel_rfl), (Mod.up (Mod.of_up (X := []) M66)), (by omega), h67, (Two.to hT64 rfl (mixN_next (.inl ⟨m50, hm50, by rw [if_pos v55]⟩) (.inl ⟨x60, hx60, rfl⟩)))⟩
    · omega
   have p41 := of_decide_eq_true (k39.trans v40)
   refine wp_cond_true (ebool (b := b38) (by kernel_rfl) v40) ?_
   refine wp_skip (then_n (wp_seq (wp_block (rg_lit ?_))))
   refine wmv (v := .pointer (some ⟨la, 0, none⟩)) ?_
   refine wmv (v := .slice sA S.length sK) ?_
   refine wmv (v := .int .i64 ((ka : Int))) ?_
   obtain ⟨x42, hx42⟩ : ∃ x, S[ka]? = some x := ⟨_, List.getElem?_eq_getElem (by omega)⟩
   obtain ⟨g42, cp42, cu42, dA42, dn42, dc42, hA42, hg42, hb42, he42, hD42⟩ := ORow.get hF1_1 hx42
   injection hA42 with hA42 _ _
   refine wl (sv rfl (v := .pointer (some ⟨g42, ka * 10, none⟩)) (r_ixaddr' (A := sA) (b := g42) (o := 0) (n := S.length) (c := sK) (sz := 10) (j := ((ka : Int))) (m := ka * 10) (by kernel_rfl) hA42 (by kernel_rfl) Ty.un22 Ty.sz40 (by omega) (by omega) (by omega)) ?_)
   refine wl (sv rfl (v := opV x42 (.slice dA42 dn42 dc42)) (r_loads (k := ka * 10) (vs := (opC x42 (.slice dA42 dn42 dc42))) (by kernel_rfl) Ty.ag40 Ty.sz40 hb42 he42) ?_)
   refine wl (sc rfl (r_callv (caps := []) (all := [.pointer (some ⟨la, 0, none⟩), opV x42 (.slice dA42 dn42 dc42)]) En.f37 (by kernel_rfl) (by kernel_rfl)) (two_insA hF1_2 (Nat.le_trans hB (Mod.of_up (X := []) hU1).size) (by have h0 := insT_len S ka; omega) x42 dA42 dn42 dc42 hD42 (hSn x42 (List.mem_of_getElem? hx42))) ?_)
   rintro e w43 ⟨nn45, kk45, rfl, hT44, ho45⟩
   refine ⟨.tuple #[.int .i64 nn45, .int .i64 kk45], rfl, ?_⟩
   have M46 := Only.of_up (Mod.up (Mod.of_up (X := []) hU1)) ho45
   have h47 := ORow.only hF1_1 ho45
   have h48 := Only.dat ho45 hD42
   refine wnil (inb_n (then_n (rg_lit ?_)))
   refine wmv (v := .int .i64 ((ka : Int))) ?_
   refine wl (sv rfl (v := .int .i64 (((ka + 1 : Nat) : Int))) (r_add (k := .i64) (m := ((ka : Int))) (n := 1) (c := (((ka + 1 : Nat) : Int))) (by kernel_rfl) (by kernel_rfl) ((IntWalk.i64_in _ (by omega)).trans (by omega))) ?_)
   refine was (v := .int .i64 (((ka + 1 : Nat) : Int))) ?_
   refine wnil (then_n ?_)
   refine ⟨S.length - (ka + 1), ?_, (ka + 1), .int .i64 ((ka : Int)), .slice sA S.length sK, .int .i64 ((S.length : Int)), .bool b38, .int .i64 ((ka : Int)), .int .i64 (((ka + 1 : Nat) : Int)), .pointer (some ⟨la, 0, none⟩), .slice sA S.length sK, .int .i64 ((ka : Int)), .pointer (some ⟨g42, ka * 10, none⟩), opV x42 (.slice dA42 dn42 dc42), .tuple #[.int .i64 nn45, .int .i64 kk45], rfl, (by kernel_rfl), (Mod.up (Mod.of_up (X := []) M46)), (by omega), h47, (Two.to hT44 (foldA_next hx42) rfl)⟩
   · omega
  have p16 := of_decide_eq_true (k14.trans v15)
  refine wp_cond_true (ebool (b := b13) (by kernel_rfl) v15) ?_
  refine wp_seq (rg_lit ?_)
  refine wl (sc rfl (r_callv (caps := []) (all := []) En.f32 (by kernel_rfl) (by kernel_rfl)) (alive17_at) ?_)
  rintro e w17 ⟨rfl, u18⟩
  refine ⟨.bool true, rfl, ?_⟩
  have M19 := Mod.trans M11 (Mod.of_up u18)
  refine was (v := .bool true) ?_
  refine wnil (then_n (wp_ret (then_x (by nofun) ?_)))
  refine bodyPost_ret (v := .bool true) (res1 rfl (rv_t (by kernel_rfl))) (by kernel_rfl) ?_
  exact ⟨rfl, Mod.up M19⟩
end Go.Proofs.Ytefhfoioeoijlaa

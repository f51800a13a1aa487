/- PJ -/
import Derived.Test.YtefhfoioeoijlaaGreatDoorQaa
import Derived.Test.YtefhfoioeoijlaaGreatDoorQab
import Derived.Test.YtefhfoioeoijlaaGreatDoorQac
import Derived.Test.YtefhfoioeoijlaaGreatDoorQad
import Derived.Test.YtefhfoioeoijlaaGreatDoorQae
import Derived.Test.YtefhfoioeoijlaaGreatDoorQaf
import Derived.Test.YtefhfoioeoijlaaGreatDoorQag
import Derived.Test.YtefhfoioeoijlaaGreatDoorQah
import Derived.Test.YtefhfoioeoijlaaGreatDoorQai
import Derived.Test.YtefhfoioeoijlaaGreatDoorQaj
import Derived.Test.YtefhfoioeoijlaaGreatDoorQak
import Derived.Test.YtefhfoioeoijlaaGreatDoorQal
import Derived.Test.YtefhfoioeoijlaaGreatDoorQam
import Derived.Test.YtefhfoioeoijlaaGreatDoorQan
import Derived.Test.YtefhfoioeoijlaaGreatDoorQao
import Derived.Test.YtefhfoioeoijlaaGreatDoorQap
import Derived.Test.YtefhfoioeoijlaaGreatDoorQaq
import Derived.Test.YtefhfoioeoijlaaGreatDoorQar
import Derived.Test.YtefhfoioeoijlaaGreatDoorQas
import Derived.Test.YtefhfoioeoijlaaGreatDoorQat
import Derived.Test.YtefhfoioeoijlaaGreatDoorQau
import Derived.Test.YtefhfoioeoijlaaGreatDoorQav
import Derived.Test.YtefhfoioeoijlaaGreatDoorQPathAlla
import Derived.Test.YtefhfoioeoijlaaGreatDoorQPathAllb
set_option linter.unusedVariables false
set_option linter.unusedSimpArgs false
namespace Go.Proofs.YtefhfoioeoijlaaGreatDoor
open Go Go.RowKit Go.Sort
set_option maxHeartbeats 2000000 in
theorem walkNil_at {w : World} (hmx : Mx w) : Calls Tryz.prog 43 #[.pointer none, .string ⟨#[47]⟩] w fun e w' => e = .returned (.tuple #[.agg #[.int .i64 0, .int .i64 0], .int .i64 23]) ∧ Up w w' := by
  go_enter Tryz.func43, Tryz.ntmps43
  refine wp_seq (rg_lit ?_)
  refine wl (sn rfl (cs := #[.int .i64 0, .int .i64 0]) (T := 24) (V := fun b => .pointer (some ⟨b, 0, none⟩)) (r_alloc Ty.zv24 rfl) ?_)
  intro pb w1 e2 h3 u4
  have g5 : w.heap.size ≤ pb := by rw [e2]; exact (Mod.refl [] w).size
  have M6 := Mod.trans (Mod.refl [] w) (Mod.of_up u4)
  refine was (v := .int .i64 0) ?_
  refine wnil (then_n (wp_seq (rg_lit ?_)))
  refine wmv (v := .string (⟨#[47]⟩)) ?_
  refine wl (sc rfl (r_callv (caps := []) (all := [.string (⟨#[47]⟩)]) En.f44 (by kernel_rfl) (by kernel_rfl)) (parse_at (Mx.up hmx (Mod.up M6)) (⟨#[47]⟩) (by decide)) ?_)
  rintro e w7 ⟨A8, c9, rfl, h10, h11, u12⟩
  have h13 := NewS.ne h11 (lt_ob h3)
  refine ⟨.tuple #[.slice A8 ((parseL (⟨#[47]⟩)).length) c9, .int .i64 (parseK (⟨#[47]⟩))], rfl, ?_⟩
  have M14 := Mod.trans M6 (Mod.of_up u12)
  refine wmv (v := .tuple #[.slice A8 ((parseL (⟨#[47]⟩)).length) c9, .int .i64 (parseK (⟨#[47]⟩))]) ?_
  refine wl (sv rfl (v := .slice A8 ((parseL (⟨#[47]⟩)).length) c9) (r_extract (vs := [.slice A8 ((parseL (⟨#[47]⟩)).length) c9, .int .i64 (parseK (⟨#[47]⟩))]) (by kernel_rfl) rfl) ?_)
  refine wl (sv rfl (v := .int .i64 (parseK (⟨#[47]⟩))) (r_extract (vs := [.slice A8 ((parseL (⟨#[47]⟩)).length) c9, .int .i64 (parseK (⟨#[47]⟩))]) (by kernel_rfl) rfl) ?_)
  refine was (v := .slice A8 ((parseL (⟨#[47]⟩)).length) c9) ?_
  refine was (v := .int .i64 (parseK (⟨#[47]⟩))) ?_
  refine wnil (then_n (wp_seq (wp_block (wp_seq (rg_lit ?_)))))
  refine wmv (v := .int .i64 (parseK (⟨#[47]⟩))) ?_
  refine wl (sb rfl (r_ne (k := .i64) (m := (parseK (⟨#[47]⟩))) (n := 0) (by kernel_rfl) (by kernel_rfl)) ?_)
  intro b15 k16
  refine was (v := .bool b15) ?_
  refine wnil (then_n ?_)
  refine bcase b15 (fun v17 => ?_) (fun v17 => ?_)
  ·
   have p18 := of_decide_eq_false (k16.trans v17)
   refine wp_cond_false (ebool (b := b15) (by kernel_rfl) v17) ?_
   refine wp_seq (rg_lit ?_)
   refine wmv (v := .pointer none) ?_
   refine wl (sv (w' := w7) rfl (v := .bool true) (by kernel_rfl) ?_)
   refine was (v := .bool true) ?_
   refine wnil (then_n ?_)
   refine wp_cond_true (by kernel_rfl) ?_
   refine wp_seq (rg_lit ?_)
   have h19 := (up_ob u12 h3)
   refine wl (sv rfl (v := .agg #[.int .i64 0, .int .i64 0]) (r_loads (k := 0) (by kernel_rfl) Ty.ag24 Ty.sz24 h19 (by kernel_rfl)) ?_)
   refine wl (ss rfl (k := 0) (v := .agg #[.int .i64 0, .int .i64 0]) (vs := [.int .i64 0, .int .i64 0]) (cs' := [.int .i64 0, .int .i64 0]) (by kernel_rfl) (by kernel_rfl) rfl Ty.sz24 h19 rfl (Nat.le_of_ble_eq_true rfl) rfl ?_)
   intro w20 h21 c22
   have M23 := Mod.trans' M14 c22 (fun i hi => by injection hi with hi; rw [← hi]; exact g5)
   refine was (v := .int .i64 23) ?_
   refine wnil (then_n (wp_ret (inb_r (then_x (by nofun) ?_))))
   refine bodyPost_ret (v := .tuple #[.agg #[.int .i64 0, .int .i64 0], .int .i64 23]) (res2 rfl (rv_c (p := ⟨pb, 0, none⟩) (by kernel_rfl) (run_loadVars (vs := [.int .i64 0, .int .i64 0]) Ty.ag24 Ty.sz24 h21 (by kernel_rfl))) (rv_t (by kernel_rfl))) (by kernel_rfl) ?_
   exact ⟨rfl, (Mod.up M23)⟩
  have p18 := of_decide_eq_true (k16.trans v17)
  exact absurd rfl p18
set_option maxHeartbeats 2000000 in
theorem ofNil_at {w : World} : Calls Tryz.prog 42 #[.pointer none, .agg #[.int .i64 0, .int .i64 0]] w fun e w' => e = .returned (.tuple #[.string ⟨#[]⟩, .int .i64 23]) ∧ Up w w' := by
  go_enter Tryz.func42, Tryz.ntmps42
  refine wp_seq (rg_lit ?_)
  refine wl (sn rfl (cs := #[.int .i64 0, .int .i64 0]) (T := 24) (V := fun b => .pointer (some ⟨b, 0, none⟩)) (r_box (v := .agg #[.int .i64 0, .int .i64 0]) (by kernel_rfl) rfl) ?_)
  intro pb w1 e2 h3 u4
  have g5 : w.heap.size ≤ pb := by rw [e2]; exact (Mod.refl [] w).size
  have M6 := Mod.trans (Mod.refl [] w) (Mod.of_up u4)
  refine was (v := .string (⟨#[]⟩)) ?_
  refine was (v := .int .i64 0) ?_
  refine wnil (then_n (wp_seq (wp_block (wp_seq (rg_lit ?_)))))
  refine wmv (v := .pointer none) ?_
  refine wl (sv (w' := w1) rfl (v := .bool true) (by kernel_rfl) ?_)
  refine was (v := .bool true) ?_
  refine wnil (then_n ?_)
  refine wp_cond_true (by kernel_rfl) ?_
  refine wp_seq (rg_lit ?_)
  refine was (v := .string (⟨#[]⟩)) ?_
  refine was (v := .int .i64 23) ?_
  refine wnil (then_n (wp_ret (inb_r (then_x (by nofun) ?_))))
  refine bodyPost_ret (v := .tuple #[.string (⟨#[]⟩), .int .i64 23]) (res2 rfl (rv_t (by kernel_rfl)) (rv_t (by kernel_rfl))) (by kernel_rfl) ?_
  exact ⟨rfl, (Mod.up M6)⟩
set_option maxHeartbeats 2000000 in
theorem allNil_at {w : World} : Calls Tryz.prog 54 #[.pointer none] w fun e w' => e = .returned (.tuple #[.slice none 0 0, .int .i64 23]) ∧ Up w w' := by
  go_enter Tryz.func54, Tryz.ntmps54
  refine wp_seq (rg_lit ?_)
  refine was (v := .slice none 0 0) ?_
  refine was (v := .int .i64 0) ?_
  refine wnil (then_n (wp_seq (wp_seq (rg_lit ?_))))
  refine wmv (v := .pointer none) ?_
  refine wl (sv (w' := w) rfl (v := .bool true) (by kernel_rfl) ?_)
  refine wnil (then_n ?_)
  refine wp_cond_true (by kernel_rfl) ?_
  refine wp_seq (rg_lit ?_)
  refine was (v := .slice none 0 0) ?_
  refine was (v := .int .i64 23) ?_
  refine wnil (then_n (wp_ret (then_x (by nofun) ?_)))
  refine bodyPost_ret (v := .tuple #[.slice none 0 0, .int .i64 23]) (res2 rfl (rv_t (by kernel_rfl)) (rv_t (by kernel_rfl))) (by kernel_rfl) ?_
  exact ⟨rfl, (Mod.up (Mod.refl [] w))⟩
set_option maxRecDepth 20000 in
set_option maxHeartbeats 2000000 in
theorem pathAll_at {B : Nat} {w : World} {lA : Option Addr} {lc : Nat} {os : List OpD} (h0 : OpRow0 w lA os) (hfull : Small os → OpRow B w lA os) (hB : B ≤ w.heap.size) (hn : os.length ≤ 9223372036854775807) (htab : Tab w) (hmx : Mx w) :
    Calls Tryz.prog 12 #[.slice lA os.length lc] w fun e w' => e = .returned (.bool true) ∧ Up w w' := by
  go_enter Tryz.func12, Tryz.ntmps12
  refine wp_seq (rg_lit ?_)
  refine was (v := .bool false) ?_
  refine wnil (then_n (wp_seq (wp_seq (rg_lit ?_))))
  refine wmv (v := .slice lA os.length lc) ?_
  refine wl (sc rfl (r_callv (caps := []) (all := [.slice lA os.length lc, .int .i64 30]) En.f13 (by kernel_rfl) (by kernel_rfl)) (light2_at (OpRow0.up h0 (Mod.up (Mod.refl [] w))) hn 30) ?_)
  rintro e w1 ⟨lb2, rfl, h3, u4⟩
  refine ⟨.bool lb2, rfl, ?_⟩
  have M5 := Mod.trans (Mod.refl [] w) (Mod.of_up u4)
  refine wl (sv rfl (v := .bool (!lb2)) (r_not (b := lb2) (by kernel_rfl)) ?_)
  refine wnil (then_n ?_)
  refine bcase lb2 (fun v6 => ?_) (fun v6 => ?_)
  ·
   refine wp_cond_true (ebool (b := !lb2) (by kernel_rfl) (bneg v6)) ?_
   refine wp_seq (rg_lit ?_)
   refine wl (sc rfl (r_callv (caps := []) (all := []) En.f40 (by kernel_rfl) (by kernel_rfl)) (alive19_at (TabIs.up htab (Mod.up M5)) (Mx.up hmx (Mod.up M5))) ?_)
   rintro e w7 ⟨rfl, u8⟩
   refine ⟨.bool true, rfl, ?_⟩
   have M9 := Mod.trans M5 (Mod.of_up u8)
   refine was (v := .bool true) ?_
   refine wnil (then_n (wp_ret (then_x (by nofun) ?_)))
   refine bodyPost_ret (v := .bool true) (res1 rfl (rv_t (by kernel_rfl))) (by kernel_rfl) ?_
   exact ⟨rfl, (Mod.up M9)⟩
  obtain ⟨hsm7, hle7⟩ := h3 v6
  have hops := hfull hsm7
  refine wp_cond_false (ebool (b := !lb2) (by kernel_rfl) (bneg v6)) ?_
  refine wp_skip (then_n (wp_seq (rg_lit ?_)))
  refine wmv (v := .slice lA os.length lc) ?_
  have h8 := (OpRow.up hops (Mod.up M5))
  refine wl (sc rfl (r_callv (caps := []) (all := [.slice lA os.length lc]) En.f15 (by kernel_rfl) (by kernel_rfl)) (build_at h8 (Nat.le_trans hB M5.size) (by omega)) ?_)
  rintro e w9 ⟨tb, r, rfl, h10, u11, z12, z13⟩
  refine ⟨.pointer (some ⟨tb, 0, none⟩), rfl, ?_⟩
  have M14 := Mod.trans M5 (Mod.of_up u11)
  obtain ⟨hwf, hlen⟩ := buildI_wf os
  obtain ⟨L0, hL0⟩ : ∃ L, buildI os = L := ⟨_, rfl⟩
  rw [hL0] at hwf hlen h10
  obtain ⟨eshr15, clhr15, xshr15, hr15, _⟩ := h10.2.2.2.1
  have hF : Fit L0 := by rw [← hL0]; exact fit_build os
  have hNm : Named L0 := by rw [← hL0]; exact named_build os
  refine was (v := .pointer (some ⟨tb, 0, none⟩)) ?_
  refine wnil (then_n (wp_seq (rg_lit ?_)))
  refine wmv (v := .pointer (some ⟨tb, 0, none⟩)) ?_
  refine wl (sc rfl (r_callv (caps := []) (all := [.pointer (some ⟨tb, 0, none⟩)]) En.f54 (by kernel_rfl) (by kernel_rfl)) (pall_at h10 (Nat.le_trans hB M14.size) hF (TabIs.up htab (Mod.up M14))) ?_)
  rintro e w16 ⟨A17, c18, rfl, h19, u20⟩
  have hal := allB_len hF.len
  have hap : 1 ≤ (allB L0).length := by simp [allB]
  refine ⟨.tuple #[.slice A17 ((allB L0).length) c18, .int .i64 0], rfl, ?_⟩
  have M21 := Mod.trans M14 (Mod.of_up u20)
  refine wmv (v := .tuple #[.slice A17 ((allB L0).length) c18, .int .i64 0]) ?_
  refine wl (sv rfl (v := .slice A17 ((allB L0).length) c18) (r_extract (vs := [.slice A17 ((allB L0).length) c18, .int .i64 0]) (by kernel_rfl) rfl) ?_)
  refine wl (sv rfl (v := .int .i64 0) (r_extract (vs := [.slice A17 ((allB L0).length) c18, .int .i64 0]) (by kernel_rfl) rfl) ?_)
  refine was (v := .slice A17 ((allB L0).length) c18) ?_
  refine was (v := .int .i64 0) ?_
  refine wnil (then_n (wp_seq (wp_seq (rg_lit ?_))))
  refine wmv (v := .int .i64 0) ?_
  refine wl (sv (w' := w16) rfl (v := .bool false) (by kernel_rfl) ?_)
  refine wmv (v := .bool false) ?_
  refine wl (sv (by kernel_rfl) (v := .slice A17 ((allB L0).length) c18) (r_move (by kernel_rfl)) ?_)
  refine wl (sv (by kernel_rfl) (v := .int .i64 (((allB L0).length) : Int)) (r_len Ty.un69 (ad := A17) (n := ((allB L0).length)) (c := c18) (by kernel_rfl)) ?_)
  refine wl (sb (by kernel_rfl) (r_eq (k := .i64) (m := (((allB L0).length) : Int)) (n := 0) (by kernel_rfl) (by kernel_rfl)) ?_)
  intro b22 k23
  refine wl (sv rfl (v := .bool b22) (r_pkF (by kernel_rfl) (by kernel_rfl)) ?_)
  refine wmv (v := .bool b22) ?_
  refine bcase b22 (fun v24 => ?_) (fun v24 => ?_)
  ·
   have p25 := of_decide_eq_false (k23.trans v24)
   refine wl (sv (wt (b := b22) rfl (by kernel_rfl) v24) (v := .slice A17 ((allB L0).length) c18) (r_move (by kernel_rfl)) ?_)
   obtain ⟨y26, hy26⟩ : ∃ x, (allB L0)[0]? = some x := ⟨_, List.getElem?_eq_getElem (by omega)⟩
   obtain ⟨g26, f26, hA26, hl26, hc26⟩ := SSRow.get h19 hy26
   refine wl (sv (wt (b := b22) rfl (by kernel_rfl) v24) (v := .pointer (some ⟨g26, f26 + 0, none⟩)) (r_ixaddr' (A := A17) (b := g26) (o := f26) (n := ((allB L0).length)) (c := c18) (sz := 1) (j := 0) (by kernel_rfl) hA26 (by kernel_rfl) Ty.un69 Ty.sz9 (by omega) (by omega) (by omega)) ?_)
   refine wl (sv (wt (b := b22) rfl (by kernel_rfl) v24) (v := .string y26) (r_loadc (by kernel_rfl) Ty.ag9 hc26) ?_)
   refine wl (sb (wt (b := b22) rfl (by kernel_rfl) v24) (r_nes (m := y26) (n := (⟨#[47]⟩)) (by kernel_rfl) (by kernel_rfl)) ?_)
   intro b27 k28
   refine wl (sv rfl (v := .bool b27) (r_pkF (ebool (b := b22) (by kernel_rfl) v24) (by kernel_rfl)) ?_)
   refine wnil (then_n ?_)
   refine bcase b27 (fun v29 => ?_) (fun v29 => ?_)
   ·
    have p30 := of_decide_eq_false (k28.trans v29)
    refine wp_cond_false (ebool (b := b27) (by kernel_rfl) v29) ?_
    refine wp_skip (then_n (wp_seq (rg_lit ?_)))
    refine was (v := .slice none 0 0) ?_
    refine wnil (then_n (wp_seq (wp_seq (rg_lit ?_))))
    refine was (v := .int .i64 0) ?_
    refine wnil (then_n (wp_block ?_))
    have h31 := (up_ob u20 hr15)
    have h32 := (up_ob u20 h10.1)
    have h33 := h3
    have h34 := (OpRow.up hops (Mod.up M21))
    have h35 := (TreeIs.up h10 u20)
    refine lp (fun n a r1 => ∃ (k : Nat) (met : List Stamp) (mA : Option Addr) (mc : Nat) (Z : Nat → Value), (n = (allB L0).length - k) ∧ (a = ⟨#[.slice lA os.length lc, undef, (Z 2), .pointer (some ⟨tb, 0, none⟩), .slice A17 ((allB L0).length) c18, .int .i64 0, .slice mA met.length mc, .int .i64 (k : Int), (Z 8), (Z 9), (Z 10), undef, undef, undef, undef, undef, undef, .slice lA os.length lc, .bool lb2, .bool (!lb2), undef, .slice lA os.length lc, .pointer (some ⟨tb, 0, none⟩), .tuple #[.slice A17 ((allB L0).length) c18, .int .i64 0], .pointer (some ⟨tb, 0, none⟩), .tuple #[.slice A17 ((allB L0).length) c18, .int .i64 0], .slice A17 ((allB L0).length) c18, .int .i64 0, .int .i64 0, .bool false, .bool false, .slice A17 ((allB L0).length) c18, .int .i64 (((allB L0).length) : Int), .bool b22, .bool b22, .bool b22, .slice A17 ((allB L0).length) c18, .pointer (some ⟨g26, f26 + 0, none⟩), .string y26, .bool b27, .bool b27, (Z 41), (Z 42), (Z 43), (Z 44), (Z 45), (Z 46), (Z 47), (Z 48), (Z 49), (Z 50), (Z 51), (Z 52), (Z 53), (Z 54), (Z 55), (Z 56), (Z 57), (Z 58), (Z 59), (Z 60), (Z 61), (Z 62), (Z 63), (Z 64), (Z 65), (Z 66), (Z 67), (Z 68), (Z 69), (Z 70), (Z 71), (Z 72), (Z 73), (Z 74), (Z 75), (Z 76), (Z 77), (Z 78), (Z 79), (Z 80), (Z 81), (Z 82), (Z 83), (Z 84), (Z 85), (Z 86), (Z 87), (Z 88), (Z 89), undef, undef, undef, undef, undef, undef, undef, undef, undef, undef, undef, undef, undef, undef, undef, undef, undef, undef, undef, undef, undef, undef, undef, undef, undef, undef], []⟩) ∧ (Mod [] w16 r1) ∧ (k ≤ (allB L0).length) ∧ (met.length = k) ∧ (met = metW L0 k) ∧ (MRow w16.heap.size r1 (.slice mA met.length mc) met)) ⟨_, 0, [], none, 0, tget [undef, undef, .bool false, undef, undef, undef, undef, undef, undef, undef, undef, undef, undef, undef, undef, undef, undef, undef, undef, undef, undef, undef, undef, undef, undef, undef, undef, undef, undef, undef, undef, undef, undef, undef, undef, undef, undef, undef, undef, undef, undef, undef, undef, undef, undef, undef, undef, undef, undef, undef, undef, undef, undef, undef, undef, undef, undef, undef, undef, undef, undef, undef, undef, undef, undef, undef, undef, undef, undef, undef, undef, undef, undef, undef, undef, undef, undef, undef, undef, undef, undef, undef, undef, undef, undef, undef, undef, undef, undef, undef], rfl, (by kernel_rfl), Mod.refl _ _, (Nat.zero_le _), rfl, rfl, (MRow.nil _ _)⟩ ?_
    rintro _ _ r1 ⟨k, met, mA, mc, Z, rfl, rfl, hM1, hF1_0, hF1_1, hF1_2, hF1_3⟩
    have M36 := Mod.thin M21 hM1 (by simp)
    refine wp_seq (wp_seq (rg_lit ?_))
    refine wmv (v := .int .i64 (k : Int)) ?_
    refine wmv (v := .slice A17 ((allB L0).length) c18) ?_
    refine wl (sv rfl (v := .int .i64 (((allB L0).length) : Int)) (r_len Ty.un69 (ad := A17) (n := ((allB L0).length)) (c := c18) (by kernel_rfl)) ?_)
    refine wl (sb rfl (r_lt (k := .i64) (m := (k : Int)) (n := (((allB L0).length) : Int)) (by kernel_rfl) (by kernel_rfl)) ?_)
    intro b37 k38
    refine wnil (then_n ?_)
    refine bcase b37 (fun v39 => ?_) (fun v39 => ?_)
    ·
     have p40 := of_decide_eq_false (k38.trans v39)
     refine wp_cond_false (ebool (b := b37) (by kernel_rfl) v39) ?_
     refine wp_exit (then_x (by nofun) (then_x (by nofun) (inb_hit (then_n (wp_seq (rg_lit ?_))))))
     refine wl (sc rfl (r_callv (caps := []) (all := [.pointer none, .string (⟨#[47]⟩)]) En.f43 (by kernel_rfl) (by kernel_rfl)) (walkNil_at (Mx.up hmx (Mod.up M36))) ?_)
     rintro e w41 ⟨rfl, u42⟩
     refine ⟨.tuple #[.agg #[.int .i64 0, .int .i64 0], .int .i64 23], rfl, ?_⟩
     have M43 := Mod.trans M36 (Mod.of_up u42)
     have M44 := Mod.trans hM1 (Mod.of_up u42)
     refine wmv (v := .tuple #[.agg #[.int .i64 0, .int .i64 0], .int .i64 23]) ?_
     refine wl (sv rfl (v := .agg #[.int .i64 0, .int .i64 0]) (r_extract (vs := [.agg #[.int .i64 0, .int .i64 0], .int .i64 23]) (by kernel_rfl) rfl) ?_)
     refine wl (sv rfl (v := .int .i64 23) (r_extract (vs := [.agg #[.int .i64 0, .int .i64 0], .int .i64 23]) (by kernel_rfl) rfl) ?_)
     refine wl (sn rfl (cs := #[.int .i64 0, .int .i64 0]) (T := 24) (V := fun b => .pointer (some ⟨b, 0, none⟩)) (r_alloc Ty.zv24 rfl) ?_)
     intro b45 w46 e47 h48 u49
     have h50 := md_ob M44 nin0 h31
     have l51 : r < b45 := by rw [e47]; exact lt_ob h50
     have h52 := md_ob M44 nin0 h32
     have l53 : tb < b45 := by rw [e47]; exact lt_ob h52
     have g54 : w.heap.size ≤ b45 := by rw [e47]; exact M43.size
     have g55 : w16.heap.size ≤ b45 := by rw [e47]; exact M44.size
     have M56 := Mod.trans M43 (Mod.of_up u49)
     have M57 := Mod.trans M44 (Mod.of_up u49)
     refine wl (ss rfl (k := 0) (v := .agg #[.int .i64 0, .int .i64 0]) (vs := [.int .i64 0, .int .i64 0]) (cs' := [.int .i64 0, .int .i64 0]) (by kernel_rfl) (by kernel_rfl) rfl Ty.sz24 h48 rfl (Nat.le_of_ble_eq_true rfl) rfl ?_)
     intro w58 h59 c60
     have M61 := Mod.trans' M56 c60 (fun i hi => by injection hi with hi; rw [← hi]; exact g54)
     have M62 := Mod.trans' M57 c60 (fun i hi => by injection hi with hi; rw [← hi]; exact g55)
     refine was (v := .int .i64 23) ?_
     refine wnil (then_n (wp_seq (rg_lit ?_)))
     refine wl (sv rfl (v := .agg #[.int .i64 0, .int .i64 0]) (r_build (ps := []) (cs := [.int .i64 0, .int .i64 0]) Ty.un24 Ty.zv24 Ty.pl24 (by kernel_rfl) (by kernel_rfl)) ?_)
     refine wl (sc rfl (r_callv (caps := []) (all := [.pointer none, .agg #[.int .i64 0, .int .i64 0]]) En.f42 (by kernel_rfl) (by kernel_rfl)) (ofNil_at) ?_)
     rintro e w63 ⟨rfl, u64⟩
     refine ⟨.tuple #[.string (⟨#[]⟩), .int .i64 23], rfl, ?_⟩
     have M65 := Mod.trans M61 (Mod.of_up u64)
     have M66 := Mod.trans M62 (Mod.of_up u64)
     refine wmv (v := .tuple #[.string (⟨#[]⟩), .int .i64 23]) ?_
     refine wl (sv rfl (v := .string (⟨#[]⟩)) (r_extract (vs := [.string (⟨#[]⟩), .int .i64 23]) (by kernel_rfl) rfl) ?_)
     refine wl (sv rfl (v := .int .i64 23) (r_extract (vs := [.string (⟨#[]⟩), .int .i64 23]) (by kernel_rfl) rfl) ?_)
     refine was (v := .string (⟨#[]⟩)) ?_
     refine was (v := .int .i64 23) ?_
     refine wnil (then_n (wp_seq (rg_lit ?_)))
     refine wl (sc rfl (r_callv (caps := []) (all := [.pointer none]) En.f54 (by kernel_rfl) (by kernel_rfl)) allNil_at ?_)
     rintro e w67 ⟨rfl, u71⟩
     refine ⟨.tuple #[.slice none 0 0, .int .i64 23], rfl, ?_⟩
     have M72 := Mod.trans M65 (Mod.of_up u71)
     have M73 := Mod.trans M66 (Mod.of_up u71)
     refine wmv (v := .tuple #[.slice none 0 0, .int .i64 23]) ?_
     refine wl (sv rfl (v := .slice none 0 0) (r_extract (vs := [.slice none 0 0, .int .i64 23]) (by kernel_rfl) rfl) ?_)
     refine wl (sv rfl (v := .int .i64 23) (r_extract (vs := [.slice none 0 0, .int .i64 23]) (by kernel_rfl) rfl) ?_)
     refine was (v := .slice none 0 0) ?_
     refine was (v := .int .i64 23) ?_
     refine wnil (then_n (wp_seq (rg_lit ?_)))
     refine wmv (v := .int .i64 23) ?_
     refine wl (sv (w' := w67) rfl (v := .bool true) (by kernel_rfl) ?_)
     refine wmv (v := .bool true) ?_
     refine wl (sv (by kernel_rfl) (v := .int .i64 23) (r_move (by kernel_rfl)) ?_)
     refine wl (sv (w' := w67) (by kernel_rfl) (v := .bool true) (by kernel_rfl) ?_)
     refine wl (sv rfl (v := .bool true) (r_pkT (by kernel_rfl) (by kernel_rfl)) ?_)
     refine wmv (v := .bool true) ?_
     refine wl (sv (by kernel_rfl) (v := .int .i64 23) (r_move (by kernel_rfl)) ?_)
     refine wl (sv (w' := w67) (by kernel_rfl) (v := .bool true) (by kernel_rfl) ?_)
     refine wl (sv rfl (v := .bool true) (r_pkT (by kernel_rfl) (by kernel_rfl)) ?_)
     refine wmv (v := .bool true) ?_
     refine wl (sc (by kernel_rfl) (r_callv (caps := []) (all := []) En.f40 (by kernel_rfl) (by kernel_rfl)) (alive19_at (TabIs.up htab (Mod.up M72)) (Mx.up hmx (Mod.up M72))) ?_)
     rintro e w74 ⟨rfl, u75⟩
     refine ⟨.bool true, rfl, ?_⟩
     have M76 := Mod.trans M72 (Mod.of_up u75)
     have M77 := Mod.trans M73 (Mod.of_up u75)
     refine wl (sv rfl (v := .bool true) (r_pkT (by kernel_rfl) (by kernel_rfl)) ?_)
     refine was (v := .bool true) ?_
     refine wnil (then_n (wp_ret ?_))
     refine bodyPost_ret (v := .bool true) (res1 rfl (rv_t (by kernel_rfl))) (by kernel_rfl) ?_
     exact ⟨rfl, (Mod.up M76)⟩
    have p40 := of_decide_eq_true (k38.trans v39)
    refine wp_cond_true (ebool (b := b37) (by kernel_rfl) v39) ?_
    refine wp_skip (then_n (wp_seq (wp_block (wp_seq (rg_lit ?_)))))
    refine wmv (v := .pointer (some ⟨tb, 0, none⟩)) ?_
    refine wmv (v := .slice A17 ((allB L0).length) c18) ?_
    refine wmv (v := .int .i64 (k : Int)) ?_
    have h41 := (SSRow.up h19 (Mod.up hM1))
    obtain ⟨y42, hy42⟩ : ∃ x, (allB L0)[k]? = some x := ⟨_, List.getElem?_eq_getElem (by omega)⟩
    obtain ⟨g42, f42, hA42, hl42, hc42⟩ := SSRow.get h41 hy42
    refine wl (sv rfl (v := .pointer (some ⟨g42, f42 + k, none⟩)) (r_ixaddr' (A := A17) (b := g42) (o := f42) (n := ((allB L0).length)) (c := c18) (sz := 1) (j := (k : Int)) (by kernel_rfl) hA42 (by kernel_rfl) Ty.un69 Ty.sz9 (by omega) (by omega) (by omega)) ?_)
    refine wl (sv rfl (v := .string y42) (r_loadc (by kernel_rfl) Ty.ag9 hc42) ?_)
    have h43 := (TreeIs.up h35 (Mod.up hM1))
    refine wl (sc rfl (r_callv (caps := []) (all := [.pointer (some ⟨tb, 0, none⟩), .string y42]) En.f43 (by kernel_rfl) (by kernel_rfl)) (walk_at h43 (Nat.le_trans hB M36.size) hF (TabIs.up htab (Mod.up M36)) (Mx.up hmx (Mod.up M36)) y42 (by have := allB_size hF hNm (List.mem_of_getElem? hy42); omega)) ?_)
    rintro e w44 ⟨rfl, u45⟩
    refine ⟨.tuple #[.agg #[.int .i64 ((walkS L0 y42).t), .int .i64 ((walkS L0 y42).w)], .int .i64 (walkK L0 y42)], rfl, ?_⟩
    have M46 := Mod.trans M36 (Mod.of_up u45)
    have M47 := Mod.trans hM1 (Mod.of_up u45)
    refine wmv (v := .tuple #[.agg #[.int .i64 ((walkS L0 y42).t), .int .i64 ((walkS L0 y42).w)], .int .i64 (walkK L0 y42)]) ?_
    refine wl (sv rfl (v := .agg #[.int .i64 ((walkS L0 y42).t), .int .i64 ((walkS L0 y42).w)]) (r_extract (vs := [.agg #[.int .i64 ((walkS L0 y42).t), .int .i64 ((walkS L0 y42).w)], .int .i64 (walkK L0 y42)]) (by kernel_rfl) rfl) ?_)
    refine wl (sv rfl (v := .int .i64 (walkK L0 y42)) (r_extract (vs := [.agg #[.int .i64 ((walkS L0 y42).t), .int .i64 ((walkS L0 y42).w)], .int .i64 (walkK L0 y42)]) (by kernel_rfl) rfl) ?_)
    refine wl (sn rfl (cs := #[.int .i64 0, .int .i64 0]) (T := 24) (V := fun b => .pointer (some ⟨b, 0, none⟩)) (r_alloc Ty.zv24 rfl) ?_)
    intro b48 w49 e50 h51 u52
    have h53 := md_ob M47 nin0 h31
    have l54 : r < b48 := by rw [e50]; exact lt_ob h53
    have h55 := md_ob M47 nin0 h32
    have l56 : tb < b48 := by rw [e50]; exact lt_ob h55
    have g57 : w.heap.size ≤ b48 := by rw [e50]; exact M46.size
    have g58 : w16.heap.size ≤ b48 := by rw [e50]; exact M47.size
    have M59 := Mod.trans M46 (Mod.of_up u52)
    have M60 := Mod.trans M47 (Mod.of_up u52)
    refine wl (ss rfl (k := 0) (v := .agg #[.int .i64 ((walkS L0 y42).t), .int .i64 ((walkS L0 y42).w)]) (vs := [.int .i64 ((walkS L0 y42).t), .int .i64 ((walkS L0 y42).w)]) (cs' := [.int .i64 ((walkS L0 y42).t), .int .i64 ((walkS L0 y42).w)]) (by kernel_rfl) (by kernel_rfl) rfl Ty.sz24 h51 rfl (Nat.le_of_ble_eq_true rfl) rfl ?_)
    intro w61 h62 c63
    have M64 := Mod.trans' M59 c63 (fun i hi => by injection hi with hi; rw [← hi]; exact g57)
    have M65 := Mod.trans' M60 c63 (fun i hi => by injection hi with hi; rw [← hi]; exact g58)
    refine was (v := .int .i64 (walkK L0 y42)) ?_
    refine wnil (then_n (wp_seq (wp_seq ?_)))
    refine rg_all (by kernel_rfl) (by kernel_rfl) ?_
    refine qmv (v := .int .i64 (walkK L0 y42)) ?_
    refine qb rfl (fun _ _ => r_ne (k := .i64) (m := (walkK L0 y42)) (n := 0) (by kernel_rfl) (by kernel_rfl)) ?_
    intro b66 k67
    refine qmv (v := .bool b66) ?_
    refine bcase b66 (fun v68 => ?_) (fun v68 => ?_)
    ·
     have p69 := of_decide_eq_false (k67.trans v68)
     refine qv (wt (b := b66) rfl (by kernel_rfl) v68) (v := .int .i64 (k : Int)) (fun _ _ => r_move (by kernel_rfl)) ?_
     refine qb (wt (b := b66) rfl (by kernel_rfl) v68) (fun _ _ => r_gt (k := .i64) (m := (k : Int)) (n := 1) (by kernel_rfl) (by kernel_rfl)) ?_
     intro b70 k71
     refine qv (wt (b := b66) rfl (by kernel_rfl) v68) (v := .bool b70) (fun _ _ => r_move (by kernel_rfl)) ?_
     refine bcase b70 (fun v72 => ?_) (fun v72 => ?_)
     ·
      have p73 := of_decide_eq_false (k71.trans v72)
      refine qp (wf (b := b70) rfl (by kernel_rfl) v72) ?_
      refine qp (wf (b := b70) rfl (by kernel_rfl) v72) ?_
      refine qp (wf (b := b70) rfl (by kernel_rfl) v72) ?_
      refine qp (wf (b := b70) rfl (by kernel_rfl) v72) ?_
      refine qp (wf (b := b70) rfl (by kernel_rfl) v72) ?_
      refine qp (wf (b := b70) rfl (by kernel_rfl) v72) ?_
      refine qp (wf (b := b70) rfl (by kernel_rfl) v72) ?_
      refine qp (wf (b := b70) rfl (by kernel_rfl) v72) ?_
      refine qp (wf (b := b70) rfl (by kernel_rfl) v72) ?_
      refine qp (wf (b := b70) rfl (by kernel_rfl) v72) ?_
      refine qv (wt (b := b66) rfl (by kernel_rfl) v68) (v := .bool false) (fun _ _ => r_pkF (ebool (b := b70) (by kernel_rfl) v72) (by kernel_rfl)) ?_
      refine qv rfl (v := .bool false) (fun _ _ => r_pkF (ebool (b := b66) (by kernel_rfl) v68) (by kernel_rfl)) ?_
      refine qnil ?_
      intro w74 u75
      have M76 := Mod.trans M64 (Mod.of_up u75)
      have M77 := Mod.trans M65 (Mod.of_up u75)
      refine then_n ?_
      refine wp_cond_false (by kernel_rfl) ?_
      refine wp_skip (then_n (wp_seq (wp_seq (rg_lit ?_))))
      refine was (v := .int .i64 0) ?_
      refine wnil (then_n (wp_block ?_))
      have h78 := md_ob M77 nin0 h31
      have h79 := md_ob M77 nin0 h32
      have h80 := (up_ob u75 h62)
      have h81 := h33
      have h82 := (OpRow.up hops (Mod.up M76))
      have h83 := (TreeIs.up h35 (Mod.up M77))
      have h84 := (SSRow.up h19 (Mod.up M77))
      have h85 := (MRow.up hF1_3 (up_up (up_chgn (up_up u45 u52) c63 (by rw [e50]; exact u45.size)) u75))
      refine lp (fun n a r2 => ∃ (j : Nat) (z2 z74 z75 z76 z77 z78 z79 z80 z81 z82 z83 z84 z85 : Value), (n = met.length - j) ∧ (a = ⟨#[.slice lA os.length lc, undef, z2, .pointer (some ⟨tb, 0, none⟩), .slice A17 ((allB L0).length) c18, .int .i64 0, .slice mA met.length mc, .int .i64 (k : Int), .pointer (some ⟨b48, 0, none⟩), .int .i64 (walkK L0 y42), .int .i64 (j : Int), undef, undef, undef, undef, undef, undef, .slice lA os.length lc, .bool lb2, .bool (!lb2), undef, .slice lA os.length lc, .pointer (some ⟨tb, 0, none⟩), .tuple #[.slice A17 ((allB L0).length) c18, .int .i64 0], .pointer (some ⟨tb, 0, none⟩), .tuple #[.slice A17 ((allB L0).length) c18, .int .i64 0], .slice A17 ((allB L0).length) c18, .int .i64 0, .int .i64 0, .bool false, .bool false, .slice A17 ((allB L0).length) c18, .int .i64 (((allB L0).length) : Int), .bool b22, .bool b22, .bool b22, .slice A17 ((allB L0).length) c18, .pointer (some ⟨g26, f26 + 0, none⟩), .string y26, .bool b27, .bool b27, .int .i64 (k : Int), .slice A17 ((allB L0).length) c18, .int .i64 (((allB L0).length) : Int), .bool b37, (Z 45), (Z 46), .tuple #[.agg #[.int .i64 ((walkS L0 y42).t), .int .i64 ((walkS L0 y42).w)], .int .i64 (walkK L0 y42)], .pointer (some ⟨tb, 0, none⟩), .slice A17 ((allB L0).length) c18, .int .i64 (k : Int), .pointer (some ⟨g42, f42 + k, none⟩), .string y42, .tuple #[.agg #[.int .i64 ((walkS L0 y42).t), .int .i64 ((walkS L0 y42).w)], .int .i64 (walkK L0 y42)], .agg #[.int .i64 ((walkS L0 y42).t), .int .i64 ((walkS L0 y42).w)], .int .i64 (walkK L0 y42), .int .i64 (walkK L0 y42), .bool b66, .bool b66, .int .i64 (k : Int), .bool b70, .bool b70, undef, undef, undef, undef, undef, undef, undef, undef, undef, undef, .bool false, .bool false, z74, z75, z76, z77, z78, z79, z80, z81, z82, z83, z84, z85, (Z 86), (Z 87), (Z 88), (Z 89), undef, undef, undef, undef, undef, undef, undef, undef, undef, undef, undef, undef, undef, undef, undef, undef, undef, undef, undef, undef, undef, undef, undef, undef, undef, undef], []⟩) ∧ (Mod [] w74 r2) ∧ (j ≤ met.length)) ⟨_, 0, (Z 2), (Z 74), (Z 75), (Z 76), (Z 77), (Z 78), (Z 79), (Z 80), (Z 81), (Z 82), (Z 83), (Z 84), (Z 85), rfl, (by kernel_rfl), Mod.refl _ _, (Nat.zero_le _)⟩ ?_
      rintro _ _ r2 ⟨j, z2, z74, z75, z76, z77, z78, z79, z80, z81, z82, z83, z84, z85, rfl, rfl, hM2, hF2_0⟩
      have M86 := Mod.thin M76 hM2 (by simp)
      have M87 := Mod.thin M77 hM2 (by simp)
      refine wp_seq (wp_seq (rg_lit ?_))
      refine wmv (v := .int .i64 (j : Int)) ?_
      refine wmv (v := .slice mA met.length mc) ?_
      refine wl (sv rfl (v := .int .i64 (met.length : Int)) (r_len Ty.un95 (ad := mA) (n := met.length) (c := mc) (by kernel_rfl)) ?_)
      refine wl (sb rfl (r_lt (k := .i64) (m := (j : Int)) (n := (met.length : Int)) (by kernel_rfl) (by kernel_rfl)) ?_)
      intro b88 k89
      refine wnil (then_n ?_)
      refine bcase b88 (fun v90 => ?_) (fun v90 => ?_)
      ·
       have p91 := of_decide_eq_false (k89.trans v90)
       refine wp_cond_false (ebool (b := b88) (by kernel_rfl) v90) ?_
       refine wp_exit (then_x (by nofun) (then_x (by nofun) (inb_hit (then_n (rg_lit ?_)))))
       refine wmv (v := .slice mA met.length mc) ?_
       have h92 := md_ob hM2 nin0 h80
       refine wl (sv rfl (v := .agg #[.int .i64 ((walkS L0 y42).t), .int .i64 ((walkS L0 y42).w)]) (r_loads (k := 0) (by kernel_rfl) Ty.ag24 Ty.sz24 h92 (by kernel_rfl)) ?_)
       refine wl (sn rfl (cs := #[.int .i64 ((walkS L0 y42).t), .int .i64 ((walkS L0 y42).w)]) (T := 24) (V := fun b => .slice (some ⟨b, 0, none⟩) 1 1) (r_buildSlice (n := 1) (ps := [(0, .agg #[.int .i64 ((walkS L0 y42).t), .int .i64 ((walkS L0 y42).w)])]) Ty.un95 Ty.sz24 Ty.zv24 (by decide) (by decide) (by kernel_rfl) (by kernel_rfl)) ?_)
       intro b93 w94 e95 h96 u97
       have h98 := md_ob M87 nin0 h31
       have l99 : r < b93 := by rw [e95]; exact lt_ob h98
       have h100 := md_ob M87 nin0 h32
       have l101 : tb < b93 := by rw [e95]; exact lt_ob h100
       have l102 : b48 < b93 := by rw [e95]; exact lt_ob h92
       have g103 : w.heap.size ≤ b93 := by rw [e95]; exact M86.size
       have g104 : w16.heap.size ≤ b93 := by rw [e95]; exact M87.size
       have g105 : w74.heap.size ≤ b93 := by rw [e95]; exact hM2.size
       have M106 := Mod.trans M86 (Mod.of_up u97)
       have M107 := Mod.trans M87 (Mod.of_up u97)
       have M108 := Mod.trans hM2 (Mod.of_up u97)
       have h109 := (MRow.up h85 (Mod.up M108))
       refine wl (snM rfl (L := met) (x := (walkS L0 y42).t) (y := (walkS L0 y42).w) (by kernel_rfl) (by kernel_rfl) h109 Ty.un95 h96 M107.size (by omega) ?_)
       intro A110 c111 w112 h113 u114
       have M115 := Mod.trans' M106 u114 (fun k hk => Nat.le_trans M21.size (h109.own k hk).1)
       have M116 := Mod.trans' M107 u114 (fun k hk => Nat.le_trans (Nat.le_refl _) (h109.own k hk).1)
       refine was (v := .slice A110 ((met ++ [(⟨(walkS L0 y42).t, (walkS L0 y42).w⟩ : Stamp)]).length) c111) ?_
       refine wnil (inb_n (then_n (rg_lit ?_)))
       refine wmv (v := .int .i64 (k : Int)) ?_
       refine wl (sv rfl (v := .int .i64 ((k + 1 : Nat) : Int)) (r_add (k := .i64) (m := (k : Int)) (n := 1) (c := ((k + 1 : Nat) : Int)) (by kernel_rfl) (by kernel_rfl) ((IntWalk.i64_in _ (by omega)).trans (by omega))) ?_)
       refine was (v := .int .i64 ((k + 1 : Nat) : Int)) ?_
       refine wnil (then_n ?_)
       refine ⟨(allB L0).length - (k + 1), ?_, (k + 1), (met ++ [(⟨(walkS L0 y42).t, (walkS L0 y42).w⟩ : Stamp)]), A110, c111, tget [undef, undef, z2, undef, undef, undef, undef, undef, .pointer (some ⟨b48, 0, none⟩), .int .i64 (walkK L0 y42), .int .i64 (j : Int), undef, undef, undef, undef, undef, undef, undef, undef, undef, undef, undef, undef, undef, undef, undef, undef, undef, undef, undef, undef, undef, undef, undef, undef, undef, undef, undef, undef, undef, undef, .int .i64 (k : Int), .slice A17 ((allB L0).length) c18, .int .i64 (((allB L0).length) : Int), .bool b37, .int .i64 (k : Int), .int .i64 ((k + 1 : Nat) : Int), .tuple #[.agg #[.int .i64 ((walkS L0 y42).t), .int .i64 ((walkS L0 y42).w)], .int .i64 (walkK L0 y42)], .pointer (some ⟨tb, 0, none⟩), .slice A17 ((allB L0).length) c18, .int .i64 (k : Int), .pointer (some ⟨g42, f42 + k, none⟩), .string y42, .tuple #[.agg #[.int .i64 ((walkS L0 y42).t), .int .i64 ((walkS L0 y42).w)], .int .i64 (walkK L0 y42)], .agg #[.int .i64 ((walkS L0 y42).t), .int .i64 ((walkS L0 y42).w)], .int .i64 (walkK L0 y42), .int .i64 (walkK L0 y42), .bool b66, .bool b66, .int .i64 (k : Int), .bool b70, .bool b70, undef, undef, undef, undef, undef, undef, undef, undef, undef, undef, .bool false, .bool false, .int .i64 (j : Int), .slice mA met.length mc, .int .i64 (met.length : Int), .bool b88, z78, z79, z80, z81, z82, z83, z84, z85, .slice mA met.length mc, .agg #[.int .i64 ((walkS L0 y42).t), .int .i64 ((walkS L0 y42).w)], .slice (some ⟨b93, 0, none⟩) 1 1, .slice A110 ((met ++ [(⟨(walkS L0 y42).t, (walkS L0 y42).w⟩ : Stamp)]).length) c111], rfl, (by kernel_rfl), M116, (by omega), (by simp only [List.length_append, List.length_cons, List.length_nil]; omega), (by rw [hF1_2]; exact metW_next hy42), h113⟩
       · omega
      have p91 := of_decide_eq_true (k89.trans v90)
      have q92 : j < met.length := by omega
      have q93 : j < met.length := by omega
      refine wp_cond_true (ebool (b := b88) (by kernel_rfl) v90) ?_
      refine wp_skip (then_n (wp_seq (wp_block (wp_seq ?_))))
      refine rg_all (by kernel_rfl) (by kernel_rfl) ?_
      refine qmv (v := .slice mA met.length mc) ?_
      refine qmv (v := .int .i64 (j : Int)) ?_
      have h94 := (MRow.up h85 (Mod.up hM2))
      obtain ⟨y95, hy95⟩ : ∃ x, met[j]? = some x := ⟨_, List.getElem?_eq_getElem (by omega)⟩
      obtain ⟨g95, hA95, hl95, hc95, hd95⟩ := MRow.get h94 hy95
      refine qv rfl (v := .pointer (some ⟨g95, j * 2, none⟩)) (fun _ _ => r_ixaddr' (A := mA) (b := g95) (o := 0) (n := met.length) (c := mc) (sz := 2) (j := (j : Int)) (m := j * 2) (by kernel_rfl) hA95 (by kernel_rfl) Ty.un95 Ty.sz24 (by omega) (by omega) (by simp)) ?_
      refine qv rfl (v := .agg #[.int .i64 y95.t, .int .i64 y95.w]) (fun _ uz => r_loadc2 (by kernel_rfl) Ty.ag24 Ty.sz24 ((uz.cell (p := ⟨g95, j * 2, none⟩) hl95).trans hc95) ((uz.cell (p := ⟨g95, j * 2 + 1, none⟩) hl95).trans hd95)) ?_
      have h96 := md_ob hM2 nin0 h80
      refine qv rfl (v := .agg #[.int .i64 ((walkS L0 y42).t), .int .i64 ((walkS L0 y42).w)]) (fun _ uz => r_loads (k := 0) (by kernel_rfl) Ty.ag24 Ty.sz24 (up_ob uz h96) (by kernel_rfl)) ?_
      refine qb rfl (fun _ _ => r_eqS (a := y95.t) (b := y95.w) (c := ((walkS L0 y42).t)) (e := ((walkS L0 y42).w)) (by kernel_rfl) (by kernel_rfl)) ?_
      intro b97 k98
      refine qnil ?_
      intro w99 u100
      have M101 := Mod.trans M86 (Mod.of_up u100)
      have M102 := Mod.trans M87 (Mod.of_up u100)
      have M103 := Mod.trans hM2 (Mod.of_up u100)
      refine then_n ?_
      refine bcase b97 (fun v104 => ?_) (fun v104 => ?_)
      ·
       have p105 := of_decide_eq_false (k98.trans v104)
       refine wp_cond_false (ebool (b := b97) (by kernel_rfl) v104) ?_
       refine wp_skip (inb_n (then_n (rg_lit ?_)))
       refine wmv (v := .int .i64 (j : Int)) ?_
       refine wl (sv rfl (v := .int .i64 ((j + 1 : Nat) : Int)) (r_add (k := .i64) (m := (j : Int)) (n := 1) (c := ((j + 1 : Nat) : Int)) (by kernel_rfl) (by kernel_rfl) ((IntWalk.i64_in _ (by omega)).trans (by omega))) ?_)
       refine was (v := .int .i64 ((j + 1 : Nat) : Int)) ?_
       refine wnil (then_n ?_)
       refine ⟨met.length - (j + 1), ?_, (j + 1), z2, .int .i64 (j : Int), .slice mA met.length mc, .int .i64 (met.length : Int), .bool b88, .int .i64 (j : Int), .int .i64 ((j + 1 : Nat) : Int), .slice mA met.length mc, .int .i64 (j : Int), .pointer (some ⟨g95, j * 2, none⟩), .agg #[.int .i64 y95.t, .int .i64 y95.w], .agg #[.int .i64 ((walkS L0 y42).t), .int .i64 ((walkS L0 y42).w)], .bool b97, rfl, (by kernel_rfl), M103, (by omega)⟩
       · omega
      have p105 := of_decide_eq_true (k98.trans v104)
      exact absurd p105 (met_new hF hNm hF1_2 hy95 hy42)
     have p73 := of_decide_eq_true (k71.trans v72)
     refine qv (wt (b := b70) rfl (by kernel_rfl) v72) (v := .slice A17 ((allB L0).length) c18) (fun _ _ => r_move (by kernel_rfl)) ?_
     refine qv (wt (b := b70) rfl (by kernel_rfl) v72) (v := .int .i64 (k : Int)) (fun _ _ => r_move (by kernel_rfl)) ?_
     refine qv (wt (b := b70) rfl (by kernel_rfl) v72) (v := .int .i64 ((k - 1 : Nat) : Int)) (fun _ _ => r_sub (k := .i64) (m := (k : Int)) (n := 1) (c := ((k - 1 : Nat) : Int)) (by kernel_rfl) (by kernel_rfl) ((IntWalk.i64_in _ (by omega)).trans (by omega))) ?_
     have h74 := (SSRow.up h19 (Mod.up M65))
     obtain ⟨y75, hy75⟩ : ∃ x, (allB L0)[k - 1]? = some x := ⟨_, List.getElem?_eq_getElem (by omega)⟩
     obtain ⟨g75, f75, hA75, hl75, hc75⟩ := SSRow.get h74 hy75
     refine qv (wt (b := b70) rfl (by kernel_rfl) v72) (v := .pointer (some ⟨g75, f75 + (k - 1), none⟩)) (fun _ _ => r_ixaddr' (A := A17) (b := g75) (o := f75) (n := ((allB L0).length)) (c := c18) (sz := 1) (j := ((k - 1 : Nat) : Int)) (by kernel_rfl) hA75 (by kernel_rfl) Ty.un69 Ty.sz9 (by omega) (by omega) (by omega)) ?_
     refine qv (wt (b := b70) rfl (by kernel_rfl) v72) (v := .string y75) (fun _ uz => r_loadc (by kernel_rfl) Ty.ag9 ((uz.cell (p := ⟨g75, f75 + (k - 1), none⟩) hl75).trans hc75)) ?_
     refine qv (wt (b := b70) rfl (by kernel_rfl) v72) (v := .slice A17 ((allB L0).length) c18) (fun _ _ => r_move (by kernel_rfl)) ?_
     refine qv (wt (b := b70) rfl (by kernel_rfl) v72) (v := .int .i64 (k : Int)) (fun _ _ => r_move (by kernel_rfl)) ?_
     obtain ⟨g76, f76, hA76, hl76, hc76⟩ := SSRow.get h74 hy42
     refine qv (wt (b := b70) rfl (by kernel_rfl) v72) (v := .pointer (some ⟨g76, f76 + k, none⟩)) (fun _ _ => r_ixaddr' (A := A17) (b := g76) (o := f76) (n := ((allB L0).length)) (c := c18) (sz := 1) (j := (k : Int)) (by kernel_rfl) hA76 (by kernel_rfl) Ty.un69 Ty.sz9 (by omega) (by omega) (by omega)) ?_
     refine qv (wt (b := b70) rfl (by kernel_rfl) v72) (v := .string y42) (fun _ uz => r_loadc (by kernel_rfl) Ty.ag9 ((uz.cell (p := ⟨g76, f76 + k, none⟩) hl76).trans hc76)) ?_
     refine qv (wt (b := b70) rfl (by kernel_rfl) v72) (v := .bool false) (fun _ _ => r_ges (m := y75) (n := y42) (by kernel_rfl) (by kernel_rfl) (allB_rise hF hNm (i := k - 1) (by omega) hy75 (by rw [show (k - 1) + 1 = k by omega]; exact hy42))) ?_
     refine qv (wt (b := b66) rfl (by kernel_rfl) v68) (v := .bool false) (fun _ _ => r_pkT (ebool (b := b70) (by kernel_rfl) v72) (by kernel_rfl)) ?_
     refine qv rfl (v := .bool false) (fun _ _ => r_pkF (ebool (b := b66) (by kernel_rfl) v68) (by kernel_rfl)) ?_
     refine qnil ?_
     intro w77 u78
     have M79 := Mod.trans M64 (Mod.of_up u78)
     have M80 := Mod.trans M65 (Mod.of_up u78)
     refine then_n ?_
     refine wp_cond_false (by kernel_rfl) ?_
     refine wp_skip (then_n (wp_seq (wp_seq (rg_lit ?_))))
     refine was (v := .int .i64 0) ?_
     refine wnil (then_n (wp_block ?_))
     have h81 := md_ob M80 nin0 h31
     have h82 := md_ob M80 nin0 h32
     have h83 := (up_ob u78 h62)
     have h84 := h33
     have h85 := (OpRow.up hops (Mod.up M79))
     have h86 := (TreeIs.up h35 (Mod.up M80))
     have h87 := (SSRow.up h19 (Mod.up M80))
     have h88 := (MRow.up hF1_3 (up_up (up_chgn (up_up u45 u52) c63 (by rw [e50]; exact u45.size)) u78))
     refine lp (fun n a r3 => ∃ (j : Nat) (z2 z74 z75 z76 z77 z78 z79 z80 z81 z82 z83 z84 z85 : Value), (n = met.length - j) ∧ (a = ⟨#[.slice lA os.length lc, undef, z2, .pointer (some ⟨tb, 0, none⟩), .slice A17 ((allB L0).length) c18, .int .i64 0, .slice mA met.length mc, .int .i64 (k : Int), .pointer (some ⟨b48, 0, none⟩), .int .i64 (walkK L0 y42), .int .i64 (j : Int), undef, undef, undef, undef, undef, undef, .slice lA os.length lc, .bool lb2, .bool (!lb2), undef, .slice lA os.length lc, .pointer (some ⟨tb, 0, none⟩), .tuple #[.slice A17 ((allB L0).length) c18, .int .i64 0], .pointer (some ⟨tb, 0, none⟩), .tuple #[.slice A17 ((allB L0).length) c18, .int .i64 0], .slice A17 ((allB L0).length) c18, .int .i64 0, .int .i64 0, .bool false, .bool false, .slice A17 ((allB L0).length) c18, .int .i64 (((allB L0).length) : Int), .bool b22, .bool b22, .bool b22, .slice A17 ((allB L0).length) c18, .pointer (some ⟨g26, f26 + 0, none⟩), .string y26, .bool b27, .bool b27, .int .i64 (k : Int), .slice A17 ((allB L0).length) c18, .int .i64 (((allB L0).length) : Int), .bool b37, (Z 45), (Z 46), .tuple #[.agg #[.int .i64 ((walkS L0 y42).t), .int .i64 ((walkS L0 y42).w)], .int .i64 (walkK L0 y42)], .pointer (some ⟨tb, 0, none⟩), .slice A17 ((allB L0).length) c18, .int .i64 (k : Int), .pointer (some ⟨g42, f42 + k, none⟩), .string y42, .tuple #[.agg #[.int .i64 ((walkS L0 y42).t), .int .i64 ((walkS L0 y42).w)], .int .i64 (walkK L0 y42)], .agg #[.int .i64 ((walkS L0 y42).t), .int .i64 ((walkS L0 y42).w)], .int .i64 (walkK L0 y42), .int .i64 (walkK L0 y42), .bool b66, .bool b66, .int .i64 (k : Int), .bool b70, .bool b70, .slice A17 ((allB L0).length) c18, .int .i64 (k : Int), .int .i64 ((k - 1 : Nat) : Int), .pointer (some ⟨g75, f75 + (k - 1), none⟩), .string y75, .slice A17 ((allB L0).length) c18, .int .i64 (k : Int), .pointer (some ⟨g76, f76 + k, none⟩), .string y42, .bool false, .bool false, .bool false, z74, z75, z76, z77, z78, z79, z80, z81, z82, z83, z84, z85, (Z 86), (Z 87), (Z 88), (Z 89), undef, undef, undef, undef, undef, undef, undef, undef, undef, undef, undef, undef, undef, undef, undef, undef, undef, undef, undef, undef, undef, undef, undef, undef, undef, undef], []⟩) ∧ (Mod [] w77 r3) ∧ (j ≤ met.length)) ⟨_, 0, (Z 2), (Z 74), (Z 75), (Z 76), (Z 77), (Z 78), (Z 79), (Z 80), (Z 81), (Z 82), (Z 83), (Z 84), (Z 85), rfl, (by kernel_rfl), Mod.refl _ _, (Nat.zero_le _)⟩ ?_
     rintro _ _ r3 ⟨j, z2, z74, z75, z76, z77, z78, z79, z80, z81, z82, z83, z84, z85, rfl, rfl, hM3, hF3_0⟩
     have M89 := Mod.thin M79 hM3 (by simp)
     have M90 := Mod.thin M80 hM3 (by simp)
     refine wp_seq (wp_seq (rg_lit ?_))
     refine wmv (v := .int .i64 (j : Int)) ?_
     refine wmv (v := .slice mA met.length mc) ?_
     refine wl (sv rfl (v := .int .i64 (met.length : Int)) (r_len Ty.un95 (ad := mA) (n := met.length) (c := mc) (by kernel_rfl)) ?_)
     refine wl (sb rfl (r_lt (k := .i64) (m := (j : Int)) (n := (met.length : Int)) (by kernel_rfl) (by kernel_rfl)) ?_)
     intro b91 k92
     refine wnil (then_n ?_)
     refine bcase b91 (fun v93 => ?_) (fun v93 => ?_)
     ·
      have p94 := of_decide_eq_false (k92.trans v93)
      refine wp_cond_false (ebool (b := b91) (by kernel_rfl) v93) ?_
      refine wp_exit (then_x (by nofun) (then_x (by nofun) (inb_hit (then_n (rg_lit ?_)))))
      refine wmv (v := .slice mA met.length mc) ?_
      have h95 := md_ob hM3 nin0 h83
      refine wl (sv rfl (v := .agg #[.int .i64 ((walkS L0 y42).t), .int .i64 ((walkS L0 y42).w)]) (r_loads (k := 0) (by kernel_rfl) Ty.ag24 Ty.sz24 h95 (by kernel_rfl)) ?_)
      refine wl (sn rfl (cs := #[.int .i64 ((walkS L0 y42).t), .int .i64 ((walkS L0 y42).w)]) (T := 24) (V := fun b => .slice (some ⟨b, 0, none⟩) 1 1) (r_buildSlice (n := 1) (ps := [(0, .agg #[.int .i64 ((walkS L0 y42).t), .int .i64 ((walkS L0 y42).w)])]) Ty.un95 Ty.sz24 Ty.zv24 (by decide) (by decide) (by kernel_rfl) (by kernel_rfl)) ?_)
      intro b96 w97 e98 h99 u100
      have h101 := md_ob M90 nin0 h31
      have l102 : r < b96 := by rw [e98]; exact lt_ob h101
      have h103 := md_ob M90 nin0 h32
      have l104 : tb < b96 := by rw [e98]; exact lt_ob h103
      have l105 : b48 < b96 := by rw [e98]; exact lt_ob h95
      have g106 : w.heap.size ≤ b96 := by rw [e98]; exact M89.size
      have g107 : w16.heap.size ≤ b96 := by rw [e98]; exact M90.size
      have g108 : w77.heap.size ≤ b96 := by rw [e98]; exact hM3.size
      have M109 := Mod.trans M89 (Mod.of_up u100)
      have M110 := Mod.trans M90 (Mod.of_up u100)
      have M111 := Mod.trans hM3 (Mod.of_up u100)
      have h112 := (MRow.up h88 (Mod.up M111))
      refine wl (snM rfl (L := met) (x := (walkS L0 y42).t) (y := (walkS L0 y42).w) (by kernel_rfl) (by kernel_rfl) h112 Ty.un95 h99 M110.size (by omega) ?_)
      intro A113 c114 w115 h116 u117
      have M118 := Mod.trans' M109 u117 (fun k hk => Nat.le_trans M21.size (h112.own k hk).1)
      have M119 := Mod.trans' M110 u117 (fun k hk => Nat.le_trans (Nat.le_refl _) (h112.own k hk).1)
      refine was (v := .slice A113 ((met ++ [(⟨(walkS L0 y42).t, (walkS L0 y42).w⟩ : Stamp)]).length) c114) ?_
      refine wnil (inb_n (then_n (rg_lit ?_)))
      refine wmv (v := .int .i64 (k : Int)) ?_
      refine wl (sv rfl (v := .int .i64 ((k + 1 : Nat) : Int)) (r_add (k := .i64) (m := (k : Int)) (n := 1) (c := ((k + 1 : Nat) : Int)) (by kernel_rfl) (by kernel_rfl) ((IntWalk.i64_in _ (by omega)).trans (by omega))) ?_)
      refine was (v := .int .i64 ((k + 1 : Nat) : Int)) ?_
      refine wnil (then_n ?_)
      refine ⟨(allB L0).length - (k + 1), ?_, (k + 1), (met ++ [(⟨(walkS L0 y42).t, (walkS L0 y42).w⟩ : Stamp)]), A113, c114, tget [undef, undef, z2, undef, undef, undef, undef, undef, .pointer (some ⟨b48, 0, none⟩), .int .i64 (walkK L0 y42), .int .i64 (j : Int), undef, undef, undef, undef, undef, undef, undef, undef, undef, undef, undef, undef, undef, undef, undef, undef, undef, undef, undef, undef, undef, undef, undef, undef, undef, undef, undef, undef, undef, undef, .int .i64 (k : Int), .slice A17 ((allB L0).length) c18, .int .i64 (((allB L0).length) : Int), .bool b37, .int .i64 (k : Int), .int .i64 ((k + 1 : Nat) : Int), .tuple #[.agg #[.int .i64 ((walkS L0 y42).t), .int .i64 ((walkS L0 y42).w)], .int .i64 (walkK L0 y42)], .pointer (some ⟨tb, 0, none⟩), .slice A17 ((allB L0).length) c18, .int .i64 (k : Int), .pointer (some ⟨g42, f42 + k, none⟩), .string y42, .tuple #[.agg #[.int .i64 ((walkS L0 y42).t), .int .i64 ((walkS L0 y42).w)], .int .i64 (walkK L0 y42)], .agg #[.int .i64 ((walkS L0 y42).t), .int .i64 ((walkS L0 y42).w)], .int .i64 (walkK L0 y42), .int .i64 (walkK L0 y42), .bool b66, .bool b66, .int .i64 (k : Int), .bool b70, .bool b70, .slice A17 ((allB L0).length) c18, .int .i64 (k : Int), .int .i64 ((k - 1 : Nat) : Int), .pointer (some ⟨g75, f75 + (k - 1), none⟩), .string y75, .slice A17 ((allB L0).length) c18, .int .i64 (k : Int), .pointer (some ⟨g76, f76 + k, none⟩), .string y42, .bool false, .bool false, .bool false, .int .i64 (j : Int), .slice mA met.length mc, .int .i64 (met.length : Int), .bool b91, z78, z79, z80, z81, z82, z83, z84, z85, .slice mA met.length mc, .agg #[.int .i64 ((walkS L0 y42).t), .int .i64 ((walkS L0 y42).w)], .slice (some ⟨b96, 0, none⟩) 1 1, .slice A113 ((met ++ [(⟨(walkS L0 y42).t, (walkS L0 y42).w⟩ : Stamp)]).length) c114], rfl, (by kernel_rfl), M119, (by omega), (by simp only [List.length_append, List.length_cons, List.length_nil]; omega), (by rw [hF1_2]; exact metW_next hy42), h116⟩
      · omega
     have p94 := of_decide_eq_true (k92.trans v93)
     have q95 : j < met.length := by omega
     have q96 : j < met.length := by omega
     refine wp_cond_true (ebool (b := b91) (by kernel_rfl) v93) ?_
     refine wp_skip (then_n (wp_seq (wp_block (wp_seq ?_))))
     refine rg_all (by kernel_rfl) (by kernel_rfl) ?_
     refine qmv (v := .slice mA met.length mc) ?_
     refine qmv (v := .int .i64 (j : Int)) ?_
     have h97 := (MRow.up h88 (Mod.up hM3))
     obtain ⟨y98, hy98⟩ : ∃ x, met[j]? = some x := ⟨_, List.getElem?_eq_getElem (by omega)⟩
     obtain ⟨g98, hA98, hl98, hc98, hd98⟩ := MRow.get h97 hy98
     refine qv rfl (v := .pointer (some ⟨g98, j * 2, none⟩)) (fun _ _ => r_ixaddr' (A := mA) (b := g98) (o := 0) (n := met.length) (c := mc) (sz := 2) (j := (j : Int)) (m := j * 2) (by kernel_rfl) hA98 (by kernel_rfl) Ty.un95 Ty.sz24 (by omega) (by omega) (by simp)) ?_
     refine qv rfl (v := .agg #[.int .i64 y98.t, .int .i64 y98.w]) (fun _ uz => r_loadc2 (by kernel_rfl) Ty.ag24 Ty.sz24 ((uz.cell (p := ⟨g98, j * 2, none⟩) hl98).trans hc98) ((uz.cell (p := ⟨g98, j * 2 + 1, none⟩) hl98).trans hd98)) ?_
     have h99 := md_ob hM3 nin0 h83
     refine qv rfl (v := .agg #[.int .i64 ((walkS L0 y42).t), .int .i64 ((walkS L0 y42).w)]) (fun _ uz => r_loads (k := 0) (by kernel_rfl) Ty.ag24 Ty.sz24 (up_ob uz h99) (by kernel_rfl)) ?_
     refine qb rfl (fun _ _ => r_eqS (a := y98.t) (b := y98.w) (c := ((walkS L0 y42).t)) (e := ((walkS L0 y42).w)) (by kernel_rfl) (by kernel_rfl)) ?_
     intro b100 k101
     refine qnil ?_
     intro w102 u103
     have M104 := Mod.trans M89 (Mod.of_up u103)
     have M105 := Mod.trans M90 (Mod.of_up u103)
     have M106 := Mod.trans hM3 (Mod.of_up u103)
     refine then_n ?_
     refine bcase b100 (fun v107 => ?_) (fun v107 => ?_)
     ·
      have p108 := of_decide_eq_false (k101.trans v107)
      refine wp_cond_false (ebool (b := b100) (by kernel_rfl) v107) ?_
      refine wp_skip (inb_n (then_n (rg_lit ?_)))
      refine wmv (v := .int .i64 (j : Int)) ?_
      refine wl (sv rfl (v := .int .i64 ((j + 1 : Nat) : Int)) (r_add (k := .i64) (m := (j : Int)) (n := 1) (c := ((j + 1 : Nat) : Int)) (by kernel_rfl) (by kernel_rfl) ((IntWalk.i64_in _ (by omega)).trans (by omega))) ?_)
      refine was (v := .int .i64 ((j + 1 : Nat) : Int)) ?_
      refine wnil (then_n ?_)
      refine ⟨met.length - (j + 1), ?_, (j + 1), z2, .int .i64 (j : Int), .slice mA met.length mc, .int .i64 (met.length : Int), .bool b91, .int .i64 (j : Int), .int .i64 ((j + 1 : Nat) : Int), .slice mA met.length mc, .int .i64 (j : Int), .pointer (some ⟨g98, j * 2, none⟩), .agg #[.int .i64 y98.t, .int .i64 y98.w], .agg #[.int .i64 ((walkS L0 y42).t), .int .i64 ((walkS L0 y42).w)], .bool b100, rfl, (by kernel_rfl), M106, (by omega)⟩
      · omega
     have p108 := of_decide_eq_true (k101.trans v107)
     exact absurd p108 (met_new hF hNm hF1_2 hy98 hy42)
    have p69 := of_decide_eq_true (k67.trans v68)
    exact absurd (allB_walk hF hNm (List.mem_of_getElem? hy42)) p69
   have p30 := of_decide_eq_true (k28.trans v29)
   exact absurd (Option.some.inj (hy26.symm.trans (allB_root L0))) p30
  have p25 := of_decide_eq_true (k23.trans v24)
  exact absurd p25 (by omega)
end Go.Proofs.YtefhfoioeoijlaaGreatDoor

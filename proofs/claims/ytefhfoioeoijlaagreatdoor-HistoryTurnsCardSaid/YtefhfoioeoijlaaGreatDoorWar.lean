/- HA, HB, Side, GQN, OT, ChR -/
import Derived.Test.YtefhfoioeoijlaaGreatDoorWaf
import Derived.Test.YtefhfoioeoijlaaGreatDoorWam
import Derived.Test.YtefhfoioeoijlaaGreatDoorWan
import Derived.Test.YtefhfoioeoijlaaGreatDoorWao
import Derived.Test.YtefhfoioeoijlaaGreatDoorWap
import Derived.Test.YtefhfoioeoijlaaGreatDoorWaq
set_option linter.unusedVariables false
set_option linter.unusedSimpArgs false
namespace Go.Proofs.YtefhfoioeoijlaaGreatDoor
open Go Go.RowKit Go.Sort
set_option maxHeartbeats 2000000 in
theorem compactM_at {base : Nat} {w : World} {g nn c : Nat} {ZL : List Stamp} (h : MRow base w (.slice (some ⟨g, 0, none⟩) nn c) ZL) (hZ : StSorted ZL) (hn : nn ≤ 1000000) :
    Calls Tryz.prog 134 #[.slice (some ⟨g, 0, none⟩) nn c] w fun e w' => ∃ A m D, e = .returned (.slice A m c) ∧ MRow base w' (.slice A m c) D ∧ Thn ZL D ∧ Chg w w' g := by
  obtain ⟨hnL, hnc, hbg, cu0, hg, hcs0⟩ := MRow.blk h
  obtain ⟨zO, hzO, hzO1, hzO2⟩ := zero_st
  go_enter Tryz.func134, Tryz.ntmps134
  refine wp_seq (rg_lit ?_)
  refine was (v := .slice none 0 0) ?_
  refine wnil (then_n (wp_seq (wp_seq (rg_lit ?_))))
  refine wmv (v := .slice (some ⟨g, 0, none⟩) nn c) ?_
  refine wl (sv rfl (v := .int .i64 (nn : Int)) (r_len Ty.un95 (ad := (some ⟨g, 0, none⟩)) (n := nn) (c := c) (by kernel_rfl)) ?_)
  refine wl (sb rfl (r_lt (k := .i64) (m := (nn : Int)) (n := 2) (by kernel_rfl) (by kernel_rfl)) ?_)
  intro b1 k2
  refine wnil (then_n ?_)
  refine bcase b1 (fun v3 => ?_) (fun v3 => ?_)
  ·
   have p4 := of_decide_eq_false (k2.trans v3)
   refine wp_cond_false (ebool (b := b1) (by kernel_rfl) v3) ?_
   refine wp_skip (then_n (wp_seq (wp_seq (rg_lit ?_))))
   refine was (v := .int .i64 1) ?_
   refine wnil (then_n (wp_block ?_))
   refine lp (fun n a r1 => ∃ (kk : Nat) (Zkk : Nat → Value), (n = nn - kk) ∧ (a = ⟨#[.slice (some ⟨g, 0, none⟩) nn c, undef, (Zkk 2), .int .i64 (kk : Int), (Zkk 4), (Zkk 5), .slice (some ⟨g, 0, none⟩) nn c, .int .i64 (nn : Int), .bool b1, undef, (Zkk 10), (Zkk 11), (Zkk 12), (Zkk 13), (Zkk 14), (Zkk 15), (Zkk 16), (Zkk 17), (Zkk 18), (Zkk 19), (Zkk 20), (Zkk 21), (Zkk 22), (Zkk 23), (Zkk 24), (Zkk 25), (Zkk 26), (Zkk 27), (Zkk 28), (Zkk 29), (Zkk 30), (Zkk 31), (Zkk 32), (Zkk 33), (Zkk 34), (Zkk 35), (Zkk 36), (Zkk 37), (Zkk 38), (Zkk 39), (Zkk 40), (Zkk 41), (Zkk 42), (Zkk 43), (Zkk 44), (Zkk 45), (Zkk 46), (Zkk 47), (Zkk 48), (Zkk 49), (Zkk 50), (Zkk 51), (Zkk 52), (Zkk 53), (Zkk 54), (Zkk 55), (Zkk 56), (Zkk 57), (Zkk 58), (Zkk 59), undef], []⟩) ∧ (Mod [] w r1) ∧ (1 ≤ kk) ∧ (kk ≤ nn) ∧ (Thn (ZL.take kk) (ZL.take kk))) ⟨_, 1, tget [undef, undef, .slice none 0 0, undef, undef, undef, undef, undef, undef, undef, undef, undef, undef, undef, undef, undef, undef, undef, undef, undef, undef, undef, undef, undef, undef, undef, undef, undef, undef, undef, undef, undef, undef, undef, undef, undef, undef, undef, undef, undef, undef, undef, undef, undef, undef, undef, undef, undef, undef, undef, undef, undef, undef, undef, undef, undef, undef, undef, undef, undef], rfl, (by kernel_rfl), Mod.refl _ _, (Nat.le_refl _), (by omega), Thn.first⟩ ?_
   rintro _ _ r1 ⟨kk, Zkk, rfl, rfl, hM1, hF1_0, hF1_1, hF1_2⟩
   have M5 := Mod.thin (Mod.refl [] w) hM1 (by simp)
   refine wp_seq (wp_seq (rg_lit ?_))
   refine wmv (v := .int .i64 (kk : Int)) ?_
   refine wmv (v := .slice (some ⟨g, 0, none⟩) nn c) ?_
   refine wl (sv rfl (v := .int .i64 (nn : Int)) (r_len Ty.un95 (ad := (some ⟨g, 0, none⟩)) (n := nn) (c := c) (by kernel_rfl)) ?_)
   refine wl (sb rfl (r_lt (k := .i64) (m := (kk : Int)) (n := (nn : Int)) (by kernel_rfl) (by kernel_rfl)) ?_)
   intro b6 k7
   refine wnil (then_n ?_)
   refine bcase b6 (fun v8 => ?_) (fun v8 => ?_)
   ·
    have p9 := of_decide_eq_false (k7.trans v8)
    refine wp_cond_false (ebool (b := b6) (by kernel_rfl) v8) ?_
    refine wp_exit (then_x (by nofun) (then_x (by nofun) (inb_hit (then_n (wp_seq (rg_lit ?_))))))
    refine wmv (v := .slice (some ⟨g, 0, none⟩) nn c) ?_
    refine was (v := .slice (some ⟨g, 0, none⟩) nn c) ?_
    refine wnil (then_n (wp_ret ?_))
    refine bodyPost_ret (v := .slice (some ⟨g, 0, none⟩) nn c) (res1 rfl (rv_t (by kernel_rfl))) (by kernel_rfl) ?_
    have h10 := (MRow.up h (Mod.up M5))
    have hk : ZL.take kk = ZL := List.take_of_length_le (by omega)
    have ht := hF1_2
    rw [hk] at ht
    exact ⟨_, _, _, rfl, h10, ht, (to_chg (Mod.up M5) g)⟩
   have p9 := of_decide_eq_true (k7.trans v8)
   refine wp_cond_true (ebool (b := b6) (by kernel_rfl) v8) ?_
   refine wp_skip (then_n (wp_seq (wp_block (wp_seq ?_))))
   refine rg_all (by kernel_rfl) (by kernel_rfl) ?_
   refine qmv (v := .slice (some ⟨g, 0, none⟩) nn c) ?_
   refine qmv (v := .int .i64 (kk : Int)) ?_
   refine qv rfl (v := .pointer (some ⟨g, kk * 2, none⟩)) (fun _ _ => r_ixaddr' (A := some ⟨g, 0, none⟩) (b := g) (o := 0) (n := nn) (c := c) (sz := 2) (j := (kk : Int)) (m := kk * 2) (by kernel_rfl) rfl (by kernel_rfl) Ty.un95 Ty.sz24 (by omega) (by omega) (by omega)) ?_
   have h10 := (MRow.up h (Mod.up M5))
   obtain ⟨x11, hx11⟩ : ∃ x, ZL[kk]? = some x := ⟨_, List.getElem?_eq_getElem (by omega)⟩
   obtain ⟨hc12, hd12, hl12⟩ := MRow.at h10 hx11
   refine qv rfl (v := .agg #[.int .i64 x11.t, .int .i64 x11.w]) (fun _ uz => r_loadc2 (by kernel_rfl) Ty.ag24 Ty.sz24 ((uz.cell (p := ⟨g, kk * 2, none⟩) hl12).trans hc12) ((uz.cell (p := ⟨g, kk * 2 + 1, none⟩) hl12).trans hd12)) ?_
   refine qmv (v := .slice (some ⟨g, 0, none⟩) nn c) ?_
   refine qmv (v := .int .i64 (kk : Int)) ?_
   refine qv rfl (v := .int .i64 ((kk - 1 : Nat) : Int)) (fun _ _ => r_sub (k := .i64) (m := (kk : Int)) (n := 1) (c := ((kk - 1 : Nat) : Int)) (by kernel_rfl) (by kernel_rfl) ((IntWalk.i64_in _ (by omega)).trans (by omega))) ?_
   refine qv rfl (v := .pointer (some ⟨g, (kk - 1) * 2, none⟩)) (fun _ _ => r_ixaddr' (A := some ⟨g, 0, none⟩) (b := g) (o := 0) (n := nn) (c := c) (sz := 2) (j := ((kk - 1 : Nat) : Int)) (m := (kk - 1) * 2) (by kernel_rfl) rfl (by kernel_rfl) Ty.un95 Ty.sz24 (by omega) (by omega) (by omega)) ?_
   obtain ⟨x13, hx13⟩ : ∃ x, ZL[kk - 1]? = some x := ⟨_, List.getElem?_eq_getElem (by omega)⟩
   obtain ⟨hc14, hd14, hl14⟩ := MRow.at h10 hx13
   refine qv rfl (v := .agg #[.int .i64 x13.t, .int .i64 x13.w]) (fun _ uz => r_loadc2 (by kernel_rfl) Ty.ag24 Ty.sz24 ((uz.cell (p := ⟨g, (kk - 1) * 2, none⟩) hl14).trans hc14) ((uz.cell (p := ⟨g, (kk - 1) * 2 + 1, none⟩) hl14).trans hd14)) ?_
   refine qb rfl (fun _ _ => r_eqS (a := x11.t) (b := x11.w) (c := x13.t) (e := x13.w) (by kernel_rfl) (by kernel_rfl)) ?_
   intro b15 k16
   refine qnil ?_
   intro w17 u18
   have M19 := Mod.trans M5 (Mod.of_up u18)
   have M20 := Mod.trans hM1 (Mod.of_up u18)
   refine then_n ?_
   refine bcase b15 (fun v21 => ?_) (fun v21 => ?_)
   ·
    have p22 := of_decide_eq_false (k16.trans v21)
    refine wp_cond_false (ebool (b := b15) (by kernel_rfl) v21) ?_
    refine wp_skip (inb_n (then_n (rg_lit ?_)))
    refine wmv (v := .int .i64 (kk : Int)) ?_
    refine wl (sv rfl (v := .int .i64 ((kk + 1 : Nat) : Int)) (r_add (k := .i64) (m := (kk : Int)) (n := 1) (c := ((kk + 1 : Nat) : Int)) (by kernel_rfl) (by kernel_rfl) ((IntWalk.i64_in _ (by omega)).trans (by omega))) ?_)
    refine was (v := .int .i64 ((kk + 1 : Nat) : Int)) ?_
    refine wnil (then_n ?_)
    refine ⟨nn - (kk + 1), ?_, (kk + 1), tget [undef, undef, (Zkk 2), undef, (Zkk 4), (Zkk 5), undef, undef, undef, undef, .int .i64 (kk : Int), .slice (some ⟨g, 0, none⟩) nn c, .int .i64 (nn : Int), .bool b6, .int .i64 (kk : Int), .int .i64 ((kk + 1 : Nat) : Int), .slice (some ⟨g, 0, none⟩) nn c, .int .i64 (kk : Int), .pointer (some ⟨g, kk * 2, none⟩), .agg #[.int .i64 x11.t, .int .i64 x11.w], .slice (some ⟨g, 0, none⟩) nn c, .int .i64 (kk : Int), .int .i64 ((kk - 1 : Nat) : Int), .pointer (some ⟨g, (kk - 1) * 2, none⟩), .agg #[.int .i64 x13.t, .int .i64 x13.w], .bool b15, (Zkk 26), (Zkk 27), (Zkk 28), (Zkk 29), (Zkk 30), (Zkk 31), (Zkk 32), (Zkk 33), (Zkk 34), (Zkk 35), (Zkk 36), (Zkk 37), (Zkk 38), (Zkk 39), (Zkk 40), (Zkk 41), (Zkk 42), (Zkk 43), (Zkk 44), (Zkk 45), (Zkk 46), (Zkk 47), (Zkk 48), (Zkk 49), (Zkk 50), (Zkk 51), (Zkk 52), (Zkk 53), (Zkk 54), (Zkk 55), (Zkk 56), (Zkk 57), (Zkk 58), (Zkk 59)], rfl, (by kernel_rfl), M20, (by omega), (by omega), (Thn.same hZ hF1_2 (by omega) hx11 hx13 p22)⟩
    · omega
   have p22 := of_decide_eq_true (k16.trans v21)
   refine wp_cond_true (ebool (b := b15) (by kernel_rfl) v21) ?_
   refine wp_seq (rg_lit ?_)
   refine wmv (v := .slice (some ⟨g, 0, none⟩) nn c) ?_
   refine wmv (v := .int .i64 (kk : Int)) ?_
   refine wl (sv rfl (v := .slice (some ⟨g, 0 + kk * 2, none⟩) (nn - kk : Nat) (c - kk : Nat)) (r_sliceLo (b := g) (o := 0) (n := nn) (c := c) (k := kk) (by kernel_rfl) (by kernel_rfl) Ty.un95 Ty.sz24 (by omega) (by omega)) ?_)
   refine was (v := .slice (some ⟨g, 0 + kk * 2, none⟩) (nn - kk : Nat) (c - kk : Nat)) ?_
   refine wnil (then_n (wp_seq (wp_seq (rg_lit ?_))))
   refine was (v := .int .i64 1) ?_
   refine wnil (then_n (wp_block ?_))
   have h23 := md_ob M19 nin0 hg
   have h24 := (MRow.up h (Mod.up M19))
   refine lp (fun n a r2 => ∃ (R : List Stamp) (kl : Nat) (km : Nat) (ZR : Nat → Value), (n = nn - kl) ∧ (a = ⟨#[.slice (some ⟨g, 0, none⟩) nn c, undef, (Zkk 2), .int .i64 (km : Int), .slice (some ⟨g, 0 + kk * 2, none⟩) (nn - kk : Nat) (c - kk : Nat), .int .i64 (kl : Int), .slice (some ⟨g, 0, none⟩) nn c, .int .i64 (nn : Int), .bool b1, undef, .int .i64 (kk : Int), .slice (some ⟨g, 0, none⟩) nn c, .int .i64 (nn : Int), .bool b6, (Zkk 14), (Zkk 15), .slice (some ⟨g, 0, none⟩) nn c, .int .i64 (kk : Int), .pointer (some ⟨g, kk * 2, none⟩), .agg #[.int .i64 x11.t, .int .i64 x11.w], .slice (some ⟨g, 0, none⟩) nn c, .int .i64 (kk : Int), .int .i64 ((kk - 1 : Nat) : Int), .pointer (some ⟨g, (kk - 1) * 2, none⟩), .agg #[.int .i64 x13.t, .int .i64 x13.w], .bool b15, .slice (some ⟨g, 0, none⟩) nn c, .int .i64 (kk : Int), .slice (some ⟨g, 0 + kk * 2, none⟩) (nn - kk : Nat) (c - kk : Nat), (ZR 29), (ZR 30), (ZR 31), (ZR 32), (ZR 33), (ZR 34), (ZR 35), (ZR 36), (ZR 37), (ZR 38), (ZR 39), (ZR 40), (ZR 41), (ZR 42), (ZR 43), (ZR 44), (ZR 45), (ZR 46), (ZR 47), (ZR 48), (ZR 49), (ZR 50), (ZR 51), (ZR 52), (ZR 53), (Zkk 54), (Zkk 55), (Zkk 56), (Zkk 57), (Zkk 58), (Zkk 59), undef], []⟩) ∧ (Mod [g] w17 r2) ∧ (CmpM ZL R (kk + kl) km) ∧ (1 ≤ kl) ∧ (MRow base r2 (.slice (some ⟨g, 0, none⟩) nn c) R)) ⟨_, ZL, 1, kk, tget [undef, undef, undef, undef, undef, undef, undef, undef, undef, undef, undef, undef, undef, undef, undef, undef, undef, undef, undef, undef, undef, undef, undef, undef, undef, undef, undef, undef, undef, (Zkk 29), (Zkk 30), (Zkk 31), (Zkk 32), (Zkk 33), (Zkk 34), (Zkk 35), (Zkk 36), (Zkk 37), (Zkk 38), (Zkk 39), (Zkk 40), (Zkk 41), (Zkk 42), (Zkk 43), (Zkk 44), (Zkk 45), (Zkk 46), (Zkk 47), (Zkk 48), (Zkk 49), (Zkk 50), (Zkk 51), (Zkk 52), (Zkk 53)], rfl, (by kernel_rfl), Mod.refl _ _, (CmpM.first hF1_2 (by omega) hx11 hx13 p22), (Nat.le_refl _), h24⟩ ?_
   rintro _ _ r2 ⟨R, kl, km, ZR, rfl, rfl, hM2, hF2_0, hF2_1, hF2_2⟩
   have M25 := Mod.trans (Mod.of_mod (Y := [g]) M19 (by simp)) (Mod.of_mod (Y := [g]) hM2 (by simp))
   have M26 := Mod.trans (Mod.of_mod (Y := [g]) M20 (by simp)) (Mod.of_mod (Y := [g]) hM2 (by simp))
   have hcm := hF2_0
   obtain ⟨hc1, hc2, hc3, hc4, hc5, hc6⟩ := hcm
   obtain ⟨_, _, _, cg27, hg27, _⟩ := MRow.blk hF2_2
   refine wp_seq (wp_seq (rg_lit ?_))
   refine wmv (v := .int .i64 (kl : Int)) ?_
   refine wmv (v := .slice (some ⟨g, 0 + kk * 2, none⟩) (nn - kk : Nat) (c - kk : Nat)) ?_
   refine wl (sv rfl (v := .int .i64 ((nn - kk : Nat) : Int)) (r_len Ty.un95 (ad := (some ⟨g, 0 + kk * 2, none⟩)) (n := (nn - kk : Nat)) (c := (c - kk : Nat)) (by kernel_rfl)) ?_)
   refine wl (sb rfl (r_lt (k := .i64) (m := (kl : Int)) (n := ((nn - kk : Nat) : Int)) (by kernel_rfl) (by kernel_rfl)) ?_)
   intro b28 k29
   refine wnil (then_n ?_)
   refine bcase b28 (fun v30 => ?_) (fun v30 => ?_)
   ·
    have p31 := of_decide_eq_false (k29.trans v30)
    refine wp_cond_false (ebool (b := b28) (by kernel_rfl) v30) ?_
    refine wp_exit (then_x (by nofun) (then_x (by nofun) (inb_hit (then_n (wp_seq (rg_lit ?_))))))
    refine wmv (v := .slice (some ⟨g, 0, none⟩) nn c) ?_
    refine wmv (v := .int .i64 (km : Int)) ?_
    refine wl (sv rfl (v := .slice (some ⟨g, 0 + km * 2, none⟩) (nn - km : Nat) (c - km : Nat)) (r_sliceLo (b := g) (o := 0) (n := nn) (c := c) (k := km) (by kernel_rfl) (by kernel_rfl) Ty.un95 Ty.sz24 (by omega) (by omega)) ?_)
    refine wl (clrM rfl (n := nn) (k := km) (m := 0 + km * 2) (q := (nn - km : Nat)) (cc := (c - km : Nat)) (z := zO) (by kernel_rfl) (by omega) (by omega) (by omega) hF2_2 Ty.un95 hzO hzO1 hzO2 ?_)
    intro w32 h33 c34
    have M35 := Mod.trans M25 (Mod.of_chg c34 (by simp))
    have M36 := Mod.trans M26 (Mod.of_chg c34 (by simp))
    have M37 := Mod.trans hM2 (Mod.of_chg c34 (by simp))
    refine wnil (then_n (wp_seq (rg_lit ?_)))
    refine wmv (v := .slice (some ⟨g, 0, none⟩) nn c) ?_
    refine wmv (v := .int .i64 (km : Int)) ?_
    refine wl (sv rfl (v := .slice (some ⟨g, 0, none⟩) km c) (r_sliceHi (b := g) (o := 0) (n := nn) (c := c) (k := km) (by kernel_rfl) (by kernel_rfl) Ty.un95 Ty.sz24 (by omega)) ?_)
    refine was (v := .slice (some ⟨g, 0, none⟩) km c) ?_
    refine wnil (then_n (wp_ret (inb_r (then_x (by nofun) (then_x (by nofun) (inb_r (then_x (by nofun) ?_)))))))
    refine bodyPost_ret (v := .slice (some ⟨g, 0, none⟩) km c) (res1 rfl (rv_t (by kernel_rfl))) (by kernel_rfl) ?_
    exact ⟨_, _, _, rfl, h33, CmpM.fin hF2_0 (by omega), (Mod.chg M35)⟩
   have p31 := of_decide_eq_true (k29.trans v30)
   refine wp_cond_true (ebool (b := b28) (by kernel_rfl) v30) ?_
   refine wp_skip (then_n (wp_seq (wp_block (wp_seq ?_))))
   refine rg_all (by kernel_rfl) (by kernel_rfl) ?_
   refine qmv (v := .slice (some ⟨g, 0 + kk * 2, none⟩) (nn - kk : Nat) (c - kk : Nat)) ?_
   refine qmv (v := .int .i64 (kl : Int)) ?_
   refine qv rfl (v := .pointer (some ⟨g, (kk + kl) * 2, none⟩)) (fun _ _ => r_ixaddr' (A := some ⟨g, 0 + kk * 2, none⟩) (b := g) (o := 0 + kk * 2) (n := (nn - kk : Nat)) (c := (c - kk : Nat)) (sz := 2) (j := (kl : Int)) (m := (kk + kl) * 2) (by kernel_rfl) rfl (by kernel_rfl) Ty.un95 Ty.sz24 (by omega) (by omega) (by omega)) ?_
   obtain ⟨x32, hx32⟩ : ∃ x, R[kk + kl]? = some x := ⟨_, List.getElem?_eq_getElem (by omega)⟩
   obtain ⟨hc33, hd33, hl33⟩ := MRow.at hF2_2 hx32
   refine qv rfl (v := .agg #[.int .i64 x32.t, .int .i64 x32.w]) (fun _ uz => r_loadc2 (by kernel_rfl) Ty.ag24 Ty.sz24 ((uz.cell (p := ⟨g, (kk + kl) * 2, none⟩) hl33).trans hc33) ((uz.cell (p := ⟨g, (kk + kl) * 2 + 1, none⟩) hl33).trans hd33)) ?_
   refine qmv (v := .slice (some ⟨g, 0 + kk * 2, none⟩) (nn - kk : Nat) (c - kk : Nat)) ?_
   refine qmv (v := .int .i64 (kl : Int)) ?_
   refine qv rfl (v := .int .i64 ((kl - 1 : Nat) : Int)) (fun _ _ => r_sub (k := .i64) (m := (kl : Int)) (n := 1) (c := ((kl - 1 : Nat) : Int)) (by kernel_rfl) (by kernel_rfl) ((IntWalk.i64_in _ (by omega)).trans (by omega))) ?_
   refine qv rfl (v := .pointer (some ⟨g, (kk + (kl - 1)) * 2, none⟩)) (fun _ _ => r_ixaddr' (A := some ⟨g, 0 + kk * 2, none⟩) (b := g) (o := 0 + kk * 2) (n := (nn - kk : Nat)) (c := (c - kk : Nat)) (sz := 2) (j := ((kl - 1 : Nat) : Int)) (m := (kk + (kl - 1)) * 2) (by kernel_rfl) rfl (by kernel_rfl) Ty.un95 Ty.sz24 (by omega) (by omega) (by omega)) ?_
   obtain ⟨x34, hx34⟩ : ∃ x, R[kk + (kl - 1)]? = some x := ⟨_, List.getElem?_eq_getElem (by omega)⟩
   obtain ⟨hc35, hd35, hl35⟩ := MRow.at hF2_2 hx34
   refine qv rfl (v := .agg #[.int .i64 x34.t, .int .i64 x34.w]) (fun _ uz => r_loadc2 (by kernel_rfl) Ty.ag24 Ty.sz24 ((uz.cell (p := ⟨g, (kk + (kl - 1)) * 2, none⟩) hl35).trans hc35) ((uz.cell (p := ⟨g, (kk + (kl - 1)) * 2 + 1, none⟩) hl35).trans hd35)) ?_
   refine qb rfl (fun _ _ => r_neS2 (a := x32.t) (b := x32.w) (c := x34.t) (e := x34.w) (by kernel_rfl) (by kernel_rfl)) ?_
   intro b36 k37
   refine qnil ?_
   intro w38 u39
   have M40 := Mod.trans M25 (Mod.of_up u39)
   have M41 := Mod.trans M26 (Mod.of_up u39)
   have M42 := Mod.trans hM2 (Mod.of_up u39)
   refine then_n ?_
   refine bcase b36 (fun v43 => ?_) (fun v43 => ?_)
   ·
    have p44 := of_decide_eq_false (k37.trans v43)
    refine wp_cond_false (ebool (b := b36) (by kernel_rfl) v43) ?_
    refine wp_skip (inb_n (then_n (rg_lit ?_)))
    refine wmv (v := .int .i64 (kl : Int)) ?_
    refine wl (sv rfl (v := .int .i64 ((kl + 1 : Nat) : Int)) (r_add (k := .i64) (m := (kl : Int)) (n := 1) (c := ((kl + 1 : Nat) : Int)) (by kernel_rfl) (by kernel_rfl) ((IntWalk.i64_in _ (by omega)).trans (by omega))) ?_)
    refine was (v := .int .i64 ((kl + 1 : Nat) : Int)) ?_
    refine wnil (then_n ?_)
    have h45 := (MRow.up hF2_2 u39)
    refine ⟨nn - (kl + 1), ?_, R, (kl + 1), km, tget [undef, undef, undef, undef, undef, undef, undef, undef, undef, undef, undef, undef, undef, undef, undef, undef, undef, undef, undef, undef, undef, undef, undef, undef, undef, undef, undef, undef, undef, .int .i64 (kl : Int), .slice (some ⟨g, 0 + kk * 2, none⟩) (nn - kk : Nat) (c - kk : Nat), .int .i64 ((nn - kk : Nat) : Int), .bool b28, .int .i64 (kl : Int), .int .i64 ((kl + 1 : Nat) : Int), .slice (some ⟨g, 0 + kk * 2, none⟩) (nn - kk : Nat) (c - kk : Nat), .int .i64 (kl : Int), .pointer (some ⟨g, (kk + kl) * 2, none⟩), .agg #[.int .i64 x32.t, .int .i64 x32.w], .slice (some ⟨g, 0 + kk * 2, none⟩) (nn - kk : Nat) (c - kk : Nat), .int .i64 (kl : Int), .int .i64 ((kl - 1 : Nat) : Int), .pointer (some ⟨g, (kk + (kl - 1)) * 2, none⟩), .agg #[.int .i64 x34.t, .int .i64 x34.w], .bool b36, (ZR 45), (ZR 46), (ZR 47), (ZR 48), (ZR 49), (ZR 50), (ZR 51), (ZR 52), (ZR 53)], rfl, (by kernel_rfl), M42, (CmpM.keep hF2_0 hx32 (by show R[kk + kl - 1]? = _; rw [show kk + kl - 1 = kk + (kl - 1) by omega]; exact hx34) (Decidable.not_not.1 p44)), (by omega), h45⟩
    · omega
   have p44 := of_decide_eq_true (k37.trans v43)
   refine wp_cond_true (ebool (b := b36) (by kernel_rfl) v43) ?_
   refine wp_seq (rg_lit ?_)
   refine wmv (v := .slice (some ⟨g, 0, none⟩) nn c) ?_
   refine wmv (v := .int .i64 (km : Int)) ?_
   refine wmv (v := .slice (some ⟨g, 0 + kk * 2, none⟩) (nn - kk : Nat) (c - kk : Nat)) ?_
   refine wmv (v := .int .i64 (kl : Int)) ?_
   refine wl (sv rfl (v := .pointer (some ⟨g, (kk + kl) * 2, none⟩)) (r_ixaddr' (A := some ⟨g, 0 + kk * 2, none⟩) (b := g) (o := 0 + kk * 2) (n := (nn - kk : Nat)) (c := (c - kk : Nat)) (sz := 2) (j := (kl : Int)) (m := (kk + kl) * 2) (by kernel_rfl) rfl (by kernel_rfl) Ty.un95 Ty.sz24 (by omega) (by omega) (by omega)) ?_)
   have h45 := (MRow.up hF2_2 u39)
   obtain ⟨hc46, hd46, hl46⟩ := MRow.at h45 hx32
   refine wl (sv rfl (v := .agg #[.int .i64 x32.t, .int .i64 x32.w]) (r_loadc2 (by kernel_rfl) Ty.ag24 Ty.sz24 hc46 hd46) ?_)
   refine wl (sv rfl (v := .pointer (some ⟨g, km * 2, none⟩)) (r_ixaddr' (A := some ⟨g, 0, none⟩) (b := g) (o := 0) (n := nn) (c := c) (sz := 2) (j := (km : Int)) (m := km * 2) (by kernel_rfl) rfl (by kernel_rfl) Ty.un95 Ty.sz24 (by omega) (by omega) (by omega)) ?_)
   obtain ⟨cu47, hb47, hk47, hp47⟩ := MRow.put (i := km) h45 (by omega) x32
   refine wl (ss rfl (k := km * 2) (v := .agg #[.int .i64 x32.t, .int .i64 x32.w]) (vs := [.int .i64 x32.t, .int .i64 x32.w]) (cs' := _) (by kernel_rfl) (by kernel_rfl) rfl Ty.sz24 hb47 rfl hk47 rfl ?_)
   intro w48 h49 c50
   have hr47 := hp47 _ h49
   have M51 := Mod.trans M40 (Mod.of_chg c50 (by simp))
   have M52 := Mod.trans M41 (Mod.of_chg c50 (by simp))
   have M53 := Mod.trans M42 (Mod.of_chg c50 (by simp))
   obtain ⟨_, _, _, cg54, hg54, _⟩ := MRow.blk hr47
   refine wnil (then_n (rg_lit ?_))
   refine wmv (v := .int .i64 (km : Int)) ?_
   refine wl (sv rfl (v := .int .i64 ((km + 1 : Nat) : Int)) (r_add (k := .i64) (m := (km : Int)) (n := 1) (c := ((km + 1 : Nat) : Int)) (by kernel_rfl) (by kernel_rfl) ((IntWalk.i64_in _ (by omega)).trans (by omega))) ?_)
   refine was (v := .int .i64 ((km + 1 : Nat) : Int)) ?_
   refine wnil (inb_n (then_n (rg_lit ?_)))
   refine wmv (v := .int .i64 (kl : Int)) ?_
   refine wl (sv rfl (v := .int .i64 ((kl + 1 : Nat) : Int)) (r_add (k := .i64) (m := (kl : Int)) (n := 1) (c := ((kl + 1 : Nat) : Int)) (by kernel_rfl) (by kernel_rfl) ((IntWalk.i64_in _ (by omega)).trans (by omega))) ?_)
   refine was (v := .int .i64 ((kl + 1 : Nat) : Int)) ?_
   refine wnil (then_n ?_)
   refine ⟨nn - (kl + 1), ?_, (R.set km x32), (kl + 1), (km + 1), tget [undef, undef, undef, undef, undef, undef, undef, undef, undef, undef, undef, undef, undef, undef, undef, undef, undef, undef, undef, undef, undef, undef, undef, undef, undef, undef, undef, undef, undef, .int .i64 (kl : Int), .slice (some ⟨g, 0 + kk * 2, none⟩) (nn - kk : Nat) (c - kk : Nat), .int .i64 ((nn - kk : Nat) : Int), .bool b28, .int .i64 (kl : Int), .int .i64 ((kl + 1 : Nat) : Int), .slice (some ⟨g, 0 + kk * 2, none⟩) (nn - kk : Nat) (c - kk : Nat), .int .i64 (kl : Int), .pointer (some ⟨g, (kk + kl) * 2, none⟩), .agg #[.int .i64 x32.t, .int .i64 x32.w], .slice (some ⟨g, 0 + kk * 2, none⟩) (nn - kk : Nat) (c - kk : Nat), .int .i64 (kl : Int), .int .i64 ((kl - 1 : Nat) : Int), .pointer (some ⟨g, (kk + (kl - 1)) * 2, none⟩), .agg #[.int .i64 x34.t, .int .i64 x34.w], .bool b36, .slice (some ⟨g, 0, none⟩) nn c, .int .i64 (km : Int), .slice (some ⟨g, 0 + kk * 2, none⟩) (nn - kk : Nat) (c - kk : Nat), .int .i64 (kl : Int), .pointer (some ⟨g, (kk + kl) * 2, none⟩), .agg #[.int .i64 x32.t, .int .i64 x32.w], .pointer (some ⟨g, km * 2, none⟩), .int .i64 (km : Int), .int .i64 ((km + 1 : Nat) : Int)], rfl, (by kernel_rfl), M53, (CmpM.copy hZ hF2_0 hx32 (by show R[kk + kl - 1]? = _; rw [show kk + kl - 1 = kk + (kl - 1) by omega]; exact hx34) p44), (by omega), hr47⟩
   · omega
  have p4 := of_decide_eq_true (k2.trans v3)
  refine wp_cond_true (ebool (b := b1) (by kernel_rfl) v3) ?_
  refine wp_seq (rg_lit ?_)
  refine wmv (v := .slice (some ⟨g, 0, none⟩) nn c) ?_
  refine was (v := .slice (some ⟨g, 0, none⟩) nn c) ?_
  refine wnil (then_n (wp_ret (then_x (by nofun) ?_)))
  refine bodyPost_ret (v := .slice (some ⟨g, 0, none⟩) nn c) (res1 rfl (rv_t (by kernel_rfl))) (by kernel_rfl) ?_
  exact ⟨_, _, _, rfl, h, Thn.small (by omega), (to_chg (Mod.up (Mod.refl [] w)) g)⟩
set_option maxHeartbeats 2000000 in
theorem compactM0_at {w : World} : Calls Tryz.prog 134 #[.slice none 0 0] w fun e w' => e = .returned (.slice none 0 0) ∧ Up w w' := by
  go_enter Tryz.func134, Tryz.ntmps134
  refine wp_seq (rg_lit ?_)
  refine was (v := .slice none 0 0) ?_
  refine wnil (then_n (wp_seq (wp_seq (rg_lit ?_))))
  refine wmv (v := .slice none 0 0) ?_
  refine wl (sv rfl (v := .int .i64 0) (r_len Ty.un95 (ad := none) (n := 0) (c := 0) (by kernel_rfl)) ?_)
  refine wl (sv (w' := w) rfl (v := .bool true) (by kernel_rfl) ?_)
  refine wnil (then_n ?_)
  refine wp_cond_true (by kernel_rfl) ?_
  refine wp_seq (rg_lit ?_)
  refine wmv (v := .slice none 0 0) ?_
  refine was (v := .slice none 0 0) ?_
  refine wnil (then_n (wp_ret (then_x (by nofun) ?_)))
  refine bodyPost_ret (v := .slice none 0 0) (res1 rfl (rv_t (by kernel_rfl))) (by kernel_rfl) ?_
  exact ⟨rfl, (Mod.up (Mod.refl [] w))⟩
end Go.Proofs.YtefhfoioeoijlaaGreatDoor
set_option linter.unusedVariables false
set_option linter.unusedSimpArgs false
namespace Go.Proofs.YtefhfoioeoijlaaGreatDoor
open Go Go.RowKit Go.Sort
set_option maxHeartbeats 2000000 in
theorem growI_at {B : Nat} {w : World} (nn : Nat) (hn : nn ≤ 100000) : Calls Tryz.prog 132 #[.slice none 0 0, .int .i64 (nn : Int)] w fun e w' => ∃ A c, e = .returned (.slice A 0 c) ∧ IRow 42 B w.heap.size w' (.slice A 0 c) [] ∧ Up w w' := by
  go_enter Tryz.func132, Tryz.ntmps132
  refine wp_seq (rg_lit ?_)
  refine was (v := .slice none 0 0) ?_
  refine wnil (then_n (wp_seq (wp_seq (rg_lit ?_))))
  refine wmv (v := .int .i64 (nn : Int)) ?_
  refine wl (sb rfl (r_lt (k := .i64) (m := (nn : Int)) (n := 0) (by kernel_rfl) (by kernel_rfl)) ?_)
  intro b1 k2
  refine wnil (then_n ?_)
  refine bcase b1 (fun v3 => ?_) (fun v3 => ?_)
  ·
   have p4 := of_decide_eq_false (k2.trans v3)
   refine wp_cond_false (ebool (b := b1) (by kernel_rfl) v3) ?_
   refine wp_skip (then_n (wp_seq (wp_seq (rg_lit ?_))))
   refine wmv (v := .int .i64 (nn : Int)) ?_
   refine wmv (v := .slice none 0 0) ?_
   refine wl (sv (w' := w) rfl (v := .int .i64 0) (by kernel_rfl) ?_)
   refine wmv (v := .slice none 0 0) ?_
   refine wl (sv rfl (v := .int .i64 0) (r_len Ty.un74 (ad := none) (n := 0) (c := 0) (by kernel_rfl)) ?_)
   refine wl (sv (w' := w) rfl (v := .int .i64 0) (by kernel_rfl) ?_)
   refine wl (sv rfl (v := .int .i64 ((nn - 0 : Nat) : Int)) (r_sub (k := .i64) (m := (nn : Int)) (n := 0) (c := ((nn - 0 : Nat) : Int)) (by kernel_rfl) (by kernel_rfl) ((IntWalk.i64_in _ (by omega)).trans (by omega))) ?_)
   refine was (v := .int .i64 ((nn - 0 : Nat) : Int)) ?_
   refine wnil (then_n (wp_seq (rg_lit ?_)))
   refine wmv (v := .int .i64 ((nn - 0 : Nat) : Int)) ?_
   refine wl (sb rfl (r_gt (k := .i64) (m := ((nn - 0 : Nat) : Int)) (n := 0) (by kernel_rfl) (by kernel_rfl)) ?_)
   intro b5 k6
   refine wnil (then_n ?_)
   refine bcase b5 (fun v7 => ?_) (fun v7 => ?_)
   ·
    have p8 := of_decide_eq_false (k6.trans v7)
    refine wp_cond_false (ebool (b := b5) (by kernel_rfl) v7) ?_
    refine wp_skip (then_n (wp_seq (rg_lit ?_)))
    refine wmv (v := .slice none 0 0) ?_
    refine was (v := .slice none 0 0) ?_
    refine wnil (then_n (wp_ret ?_))
    refine bodyPost_ret (v := .slice none 0 0) (res1 rfl (rv_t (by kernel_rfl))) (by kernel_rfl) ?_
    exact ⟨none, 0, rfl, IRow.nil _ _ _ _, (Mod.up (Mod.refl [] w))⟩
   have p8 := of_decide_eq_true (k6.trans v7)
   refine wp_cond_true (ebool (b := b5) (by kernel_rfl) v7) ?_
   refine rg_lit ?_
   refine wmv (v := .slice none 0 0) ?_
   refine wmv (v := .slice none 0 0) ?_
   refine wl (sv (w' := w) rfl (v := .int .i64 0) (by kernel_rfl) ?_)
   refine wl (sv rfl (v := .slice none 0 0) (r_slNil (by kernel_rfl) (by kernel_rfl) Ty.un74 Ty.sz42) ?_)
   refine wmv (v := .int .i64 ((nn - 0 : Nat) : Int)) ?_
   refine wl (snGZ rfl (n := (nn - 0)) (by kernel_rfl) (by kernel_rfl) (by omega) (by omega) Ty.un74 Tryz.underlying3 ?_)
   intro g9 c10 r11 w12 h13 h14 h15 h16 h17 u18
   have M19 := Mod.trans (Mod.refl [] w) (Mod.of_up u18)
   refine wmv (v := .slice none 0 0) ?_
   refine wl (sv rfl (v := .int .i64 0) (r_len Ty.un74 (ad := none) (n := 0) (c := 0) (by kernel_rfl)) ?_)
   refine wl (sv rfl (v := .slice (some ⟨g9, 0, none⟩) 0 c10) (r_sliceHi (b := g9) (o := 0) (n := (nn - 0)) (c := c10) (k := 0) (by kernel_rfl) (by kernel_rfl) Ty.un74 Ty.sz42 (by omega)) ?_)
   refine was (v := .slice (some ⟨g9, 0, none⟩) 0 c10) ?_
   refine wnil (then_n (wp_seq (rg_lit ?_)))
   refine wmv (v := .slice (some ⟨g9, 0, none⟩) 0 c10) ?_
   refine was (v := .slice (some ⟨g9, 0, none⟩) 0 c10) ?_
   refine wnil (then_n (wp_ret ?_))
   refine bodyPost_ret (v := .slice (some ⟨g9, 0, none⟩) 0 c10) (res1 rfl (rv_t (by kernel_rfl))) (by kernel_rfl) ?_
   exact ⟨_, _, rfl, IRow.room h16 (by omega) h15 h17, (Mod.up M19)⟩
  have p4 := of_decide_eq_true (k2.trans v3)
  exact absurd p4 (by omega)
set_option maxHeartbeats 2000000 in
theorem concatI_at {B base : Nat} {w : World} {bv nn : Nat} {vs : List Value} {Ls : List (List Item)} (hB : B ≤ w.heap.size) (hbv : w.heap[bv]? = some (.cells vs.toArray 74 (0, 0))) (hnn : nn = Ls.length) (hR : RowsI B base w vs Ls) (hn : nn ≤ 1000) (hsum : Ls.flatten.length ≤ 100000) :
    Calls Tryz.prog 73 #[.slice (some ⟨bv, 0, none⟩) nn nn] w fun e w' => ∃ A c, e = .returned (.slice A Ls.flatten.length c) ∧ IRow 42 B w.heap.size w' (.slice A Ls.flatten.length c) Ls.flatten ∧ Up w w' := by
  go_enter Tryz.func73, Tryz.ntmps73
  refine wp_seq (rg_lit ?_)
  refine was (v := .slice none 0 0) ?_
  refine wnil (then_n (wp_seq (rg_lit ?_)))
  refine was (v := .int .i64 0) ?_
  refine wnil (then_n (wp_seq (wp_seq (rg_lit ?_))))
  refine wmv (v := .slice (some ⟨bv, 0, none⟩) nn nn) ?_
  refine wl (sv rfl (v := .int .i64 (nn : Int)) (r_len Ty.un177 (ad := (some ⟨bv, 0, none⟩)) (n := nn) (c := nn) (by kernel_rfl)) ?_)
  refine wmv (v := .int .i64 0) ?_
  refine wnil (then_n (wp_block ?_))
  refine lp (fun n a r1 => ∃ (k : Nat) (m : Nat) (z5 z12 z13 z14 z15 z16 z17 z18 z19 z20 z21 z22 : Value), (n = nn - k) ∧ (a = ⟨#[.slice (some ⟨bv, 0, none⟩) nn nn, undef, .slice none 0 0, .int .i64 (m : Int), undef, z5, undef, undef, undef, .slice (some ⟨bv, 0, none⟩) nn nn, .int .i64 (nn : Int), .int .i64 (k : Int), z12, z13, z14, z15, z16, z17, z18, z19, z20, z21, z22, undef, undef, undef, undef, undef, undef, undef, undef, undef, undef, undef, undef, undef], []⟩) ∧ (Mod [] w r1) ∧ (k ≤ nn) ∧ (m = (Ls.take k).flatten.length)) ⟨_, 0, 0, undef, undef, undef, undef, undef, undef, undef, undef, undef, undef, undef, undef, rfl, (by kernel_rfl), Mod.refl _ _, (Nat.zero_le _), rfl⟩ ?_
  rintro _ _ r1 ⟨k, m, z5, z12, z13, z14, z15, z16, z17, z18, z19, z20, z21, z22, rfl, rfl, hM1, hF1_0, hF1_1⟩
  have M1 := Mod.thin (Mod.refl [] w) hM1 (by simp)
  have hm1 := hF1_1
  have hm2 := flat_le (Ls := Ls) k
  refine wp_seq (rg_lit ?_)
  refine wl (sb rfl (r_lt (k := .i64) (m := (k : Int)) (n := (nn : Int)) (by kernel_rfl) (by kernel_rfl)) ?_)
  intro b2 k3
  refine wnil (then_n (wp_seq ?_))
  refine bcase b2 (fun v4 => ?_) (fun v4 => ?_)
  ·
   have p5 := of_decide_eq_false (k3.trans v4)
   refine wp_cond_false (ebool (b := b2) (by kernel_rfl) v4) ?_
   refine wp_exit (then_x (by nofun) (then_x (by nofun) (inb_hit (then_n (wp_seq (rg_lit ?_))))))
   refine wmv (v := .int .i64 (m : Int)) ?_
   refine wl (sc rfl (r_callv (caps := []) (all := [.slice none 0 0, .int .i64 (m : Int)]) En.f132 (by kernel_rfl) (by kernel_rfl)) (growI_at (B := B) m (by omega)) ?_)
   rintro e w6 ⟨A7, c8, rfl, h9, u10⟩
   have h11 := IRow.base h9 M1.size
   refine ⟨.slice A7 0 c8, rfl, ?_⟩
   have M12 := Mod.trans M1 (Mod.of_up u10)
   have M13 := Mod.trans hM1 (Mod.of_up u10)
   refine was (v := .slice A7 0 c8) ?_
   refine wnil (then_n (wp_seq (wp_seq (rg_lit ?_))))
   refine wmv (v := .slice (some ⟨bv, 0, none⟩) nn nn) ?_
   refine wl (sv rfl (v := .int .i64 (nn : Int)) (r_len Ty.un177 (ad := (some ⟨bv, 0, none⟩)) (n := nn) (c := nn) (by kernel_rfl)) ?_)
   refine wmv (v := .int .i64 0) ?_
   refine wnil (then_n (wp_block ?_))
   refine lp (fun n a r2 => ∃ (k2 : Nat) (out : List Item) (oA : Option Addr) (oc : Nat) (z8 z28 z29 z30 z31 z32 z33 z34 : Value), (n = nn - k2) ∧ (a = ⟨#[.slice (some ⟨bv, 0, none⟩) nn nn, undef, .slice none 0 0, .int .i64 (m : Int), undef, z5, .slice oA out.length oc, undef, z8, .slice (some ⟨bv, 0, none⟩) nn nn, .int .i64 (nn : Int), .int .i64 (k : Int), .bool b2, z13, z14, z15, z16, z17, z18, z19, z20, z21, z22, .int .i64 (m : Int), .slice A7 0 c8, .slice (some ⟨bv, 0, none⟩) nn nn, .int .i64 (nn : Int), .int .i64 (k2 : Int), z28, z29, z30, z31, z32, z33, z34, undef], []⟩) ∧ (Mod [] w r2) ∧ (k2 ≤ nn) ∧ (out = (Ls.take k2).flatten) ∧ (IRow 42 B w.heap.size r2 (.slice oA out.length oc) out)) ⟨_, 0, [], A7, c8, undef, undef, undef, undef, undef, undef, undef, undef, rfl, (by kernel_rfl), M12, (Nat.zero_le _), rfl, h11⟩ ?_
   rintro _ _ r2 ⟨k2, out, oA, oc, z8, z28, z29, z30, z31, z32, z33, z34, rfl, rfl, hM2, hF2_0, hF2_1, hF2_2⟩
   have ho1 := hF2_1
   have ho2 := flat_le (Ls := Ls) k2
   have ho3 := congrArg List.length ho1
   rw [← ho1] at ho2
   refine wp_seq (rg_lit ?_)
   refine wl (sb rfl (r_lt (k := .i64) (m := (k2 : Int)) (n := (nn : Int)) (by kernel_rfl) (by kernel_rfl)) ?_)
   intro b16 k17
   refine wnil (then_n (wp_seq ?_))
   refine bcase b16 (fun v18 => ?_) (fun v18 => ?_)
   ·
    have p19 := of_decide_eq_false (k17.trans v18)
    refine wp_cond_false (ebool (b := b16) (by kernel_rfl) v18) ?_
    refine wp_exit (then_x (by nofun) (then_x (by nofun) (inb_hit (then_n (wp_seq (rg_lit ?_))))))
    refine wmv (v := .slice oA out.length oc) ?_
    refine was (v := .slice oA out.length oc) ?_
    refine wnil (then_n (wp_ret ?_))
    refine bodyPost_ret (v := .slice oA out.length oc) (res1 rfl (rv_t (by kernel_rfl))) (by kernel_rfl) ?_
    have hoe : out = Ls.flatten := by rw [ho1, List.take_of_length_le (by omega)]
    rw [← hoe]
    exact ⟨_, _, rfl, hF2_2, (Mod.up hM2)⟩
   have p19 := of_decide_eq_true (k17.trans v18)
   refine wp_cond_true (ebool (b := b16) (by kernel_rfl) v18) ?_
   refine wp_skip (then_n (wp_seq (wp_block (wp_seq (rg_lit ?_)))))
   obtain ⟨L20, hL20⟩ : ∃ x, Ls[k2]? = some x := ⟨_, List.getElem?_eq_getElem (by omega)⟩
   obtain ⟨A20, c20, hv20, hI20⟩ := hR.2 _ _ hL20
   have hc20 := ((Mod.up hM2).cell (p := ⟨bv, 0 + k2, none⟩) (lt_ob hbv)).trans (cell_vs hbv hv20)
   have hl20 := Nat.lt_of_lt_of_le (lt_ob hbv) hM2.size
   have hfn20 := congrArg List.length (flat_next hL20)
   rw [List.length_append] at hfn20
   have hfl20 := flat_le (Ls := Ls) (k2 + 1)
   refine wl (sv rfl (v := .pointer (some ⟨bv, 0 + k2, none⟩)) (r_ixaddr' (A := (some ⟨bv, 0, none⟩)) (b := bv) (o := 0) (n := nn) (c := nn) (sz := 1) (j := (k2 : Int)) (by kernel_rfl) rfl (by kernel_rfl) Ty.un177 Ty.sz74 (by omega) (by omega) (by simp)) ?_)
   refine wl (sv rfl (v := .slice A20 L20.length c20) (r_loadc (by kernel_rfl) Ty.ag74 hc20) ?_)
   refine was (v := .slice A20 L20.length c20) ?_
   refine wnil (then_n (rg_lit ?_))
   refine wmv (v := .slice oA out.length oc) ?_
   refine wmv (v := .slice A20 L20.length c20) ?_
   refine wl (snIR rfl (L := out) (M := L20) (by kernel_rfl) (by kernel_rfl) hF2_2 (IRow.up hI20 (Mod.up hM2)) Ty.un74 hB hM2.size (by omega) ?_)
   intro A21 c22 w23 h24 u25
   have M26 := Mod.trans' hM2 u25 (fun k hk => Nat.le_trans (Nat.le_refl _) (hF2_2.own k hk).1)
   have M27 := Mod.trans' hM2 u25 (fun k hk => Nat.le_trans (Nat.le_refl _) (hF2_2.own k hk).1)
   refine was (v := .slice A21 ((out ++ L20).length) c22) ?_
   refine wnil (inb_n (then_n (rg_lit ?_)))
   refine wl (sv rfl (v := .int .i64 ((k2 + 1 : Nat) : Int)) (r_add (k := .i64) (m := (k2 : Int)) (n := 1) (c := ((k2 + 1 : Nat) : Int)) (by kernel_rfl) (by kernel_rfl) ((IntWalk.i64_in _ (by omega)).trans (by omega))) ?_)
   refine wmv (v := .int .i64 ((k2 + 1 : Nat) : Int)) ?_
   refine wnil (then_n ?_)
   refine ⟨nn - (k2 + 1), ?_, (k2 + 1), (out ++ L20), A21, c22, .slice A20 L20.length c20, .bool b16, .pointer (some ⟨bv, 0 + k2, none⟩), .slice A20 L20.length c20, .slice oA out.length oc, .slice A20 L20.length c20, .slice A21 ((out ++ L20).length) c22, .int .i64 ((k2 + 1 : Nat) : Int), rfl, (by kernel_rfl), M27, (by omega), (by rw [flat_next hL20, ← ho1]), h24⟩
   · omega
  have p5 := of_decide_eq_true (k3.trans v4)
  refine wp_cond_true (ebool (b := b2) (by kernel_rfl) v4) ?_
  refine wp_skip (then_n (wp_seq (wp_block (wp_seq (rg_lit ?_)))))
  obtain ⟨L6, hL6⟩ : ∃ x, Ls[k]? = some x := ⟨_, List.getElem?_eq_getElem (by omega)⟩
  obtain ⟨A6, c6, hv6, hI6⟩ := hR.2 _ _ hL6
  have hc6 := ((Mod.up M1).cell (p := ⟨bv, 0 + k, none⟩) (lt_ob hbv)).trans (cell_vs hbv hv6)
  have hl6 := Nat.lt_of_lt_of_le (lt_ob hbv) M1.size
  have hfn6 := congrArg List.length (flat_next hL6)
  rw [List.length_append] at hfn6
  have hfl6 := flat_le (Ls := Ls) (k + 1)
  refine wl (sv rfl (v := .pointer (some ⟨bv, 0 + k, none⟩)) (r_ixaddr' (A := (some ⟨bv, 0, none⟩)) (b := bv) (o := 0) (n := nn) (c := nn) (sz := 1) (j := (k : Int)) (by kernel_rfl) rfl (by kernel_rfl) Ty.un177 Ty.sz74 (by omega) (by omega) (by simp)) ?_)
  refine wl (sv rfl (v := .slice A6 L6.length c6) (r_loadc (by kernel_rfl) Ty.ag74 hc6) ?_)
  refine was (v := .slice A6 L6.length c6) ?_
  refine wnil (then_n (wp_seq (rg_lit ?_)))
  refine wmv (v := .int .i64 (m : Int)) ?_
  refine wmv (v := .slice A6 L6.length c6) ?_
  refine wl (sv rfl (v := .int .i64 (L6.length : Int)) (r_len Ty.un74 (ad := A6) (n := L6.length) (c := c6) (by kernel_rfl)) ?_)
  refine wl (sv rfl (v := .int .i64 ((m + L6.length : Nat) : Int)) (r_add (k := .i64) (m := (m : Int)) (n := (L6.length : Int)) (c := ((m + L6.length : Nat) : Int)) (by kernel_rfl) (by kernel_rfl) ((IntWalk.i64_in _ (by omega)).trans (by omega))) ?_)
  refine was (v := .int .i64 ((m + L6.length : Nat) : Int)) ?_
  refine wnil (then_n (wp_seq (rg_lit ?_)))
  refine wmv (v := .int .i64 ((m + L6.length : Nat) : Int)) ?_
  refine wl (sb rfl (r_lt (k := .i64) (m := ((m + L6.length : Nat) : Int)) (n := 0) (by kernel_rfl) (by kernel_rfl)) ?_)
  intro b7 k8
  refine wnil (then_n ?_)
  refine bcase b7 (fun v9 => ?_) (fun v9 => ?_)
  ·
   have p10 := of_decide_eq_false (k8.trans v9)
   refine wp_cond_false (ebool (b := b7) (by kernel_rfl) v9) ?_
   refine wp_skip (inb_n (then_n (rg_lit ?_)))
   refine wl (sv rfl (v := .int .i64 ((k + 1 : Nat) : Int)) (r_add (k := .i64) (m := (k : Int)) (n := 1) (c := ((k + 1 : Nat) : Int)) (by kernel_rfl) (by kernel_rfl) ((IntWalk.i64_in _ (by omega)).trans (by omega))) ?_)
   refine wmv (v := .int .i64 ((k + 1 : Nat) : Int)) ?_
   refine wnil (then_n ?_)
   refine ⟨nn - (k + 1), ?_, (k + 1), (m + L6.length), .slice A6 L6.length c6, .bool b2, .pointer (some ⟨bv, 0 + k, none⟩), .slice A6 L6.length c6, .int .i64 (m : Int), .slice A6 L6.length c6, .int .i64 (L6.length : Int), .int .i64 ((m + L6.length : Nat) : Int), .int .i64 ((m + L6.length : Nat) : Int), .bool b7, z21, .int .i64 ((k + 1 : Nat) : Int), rfl, (by kernel_rfl), hM1, (by omega), (by rw [hfn6, hm1])⟩
   · omega
  have p10 := of_decide_eq_true (k8.trans v9)
  exact absurd p10 (by omega)
end Go.Proofs.YtefhfoioeoijlaaGreatDoor
set_option linter.unusedVariables false
set_option linter.unusedSimpArgs false
namespace Go.Proofs.YtefhfoioeoijlaaGreatDoor
open Go Go.RowKit Go.Sort
theorem compactAny_at {base : Nat} {w : World} {v : Value} {zs : List Stamp} (hm : MRow base w v zs) (hs : StSorted zs) (hl : zs.length ≤ 1000) :
    Calls Tryz.prog 134 #[v] w fun e w' => ∃ A m c D, e = .returned (.slice A m c) ∧ MRow base w' (.slice A m c) D ∧ Thn zs D ∧ w.grownBy w' v.ownBlock := by
  rcases hm.2 with ⟨rfl, h0⟩ | ⟨g, cap, cur, rfl, hb, hg, hc, hm2, hcs, htk⟩
  · have hz : zs = [] := List.length_eq_zero_iff.1 h0
    subst hz
    refine compactM0_at.mono ?_
    rintro e w' ⟨rfl, u⟩
    exact ⟨none, 0, 0, [], rfl, MRow.nil _ _, Thn.small (by decide), ⟨u.os, u.tape, u.output, u.size, fun k hk _ => u.block k hk⟩⟩
  · exact (compactM_at hm hs (by omega)).mono fun e w' ⟨A, m, D, h1, h2, h3, h4⟩ => ⟨A, m, cap, D, h1, h2, h3, h4⟩
theorem stampSort_at {base : Nat} {w : World} {A : Option Addr} {c : Nat} {ks : List Stamp} (hrd : MRow base w (.slice A ks.length c) ks) (hlen : ks.length ≤ 1000) :
    Calls Tryz.prog 75 #[.slice A ks.length c] w fun e w' => ∃ A' m c' D, e = .returned (.slice A' m c') ∧ MRow w.heap.size w' (.slice A' m c') D ∧ Thn ks D ∧ Up w w' := by
  have k1 := Lib.hid (values_at (w := w) A ks.length c)
  go_enter Tryz.func75, Tryz.ntmps75
  go_wp2_with fail
  refine k1.out.mono ?_
  rintro e w1 ⟨b, rfl, hb, u1⟩
  go_wp2_with fail
  refine (sortedV_at hb (hrd.up u1) hlen).mono ?_
  rintro e w2 ⟨v, zs, rfl, hp, hs, hm, u2⟩
  go_wp2_with fail
  refine (compactAny_at hm hs (by rw [hp.length_eq]; exact hlen)).mono ?_
  rintro e w3 ⟨A', m, c', D, rfl, hD, hT, hU⟩
  go_wp2_with fail
  go_ret
  have hu3 : Up w1 w3 := Mod.up (Mod.trans' (Mod.of_up u2) hU (fun i hi => (hm.own i hi).1))
  refine ⟨A', m, c', D, rfl, ?_, hT.perm hp, up_trans u1 hu3⟩
  obtain ⟨h1, h2⟩ := hD
  refine ⟨h1, ?_⟩
  rcases h2 with hn | ⟨g, cap, cur, hv, hbg, rest⟩
  · exact .inl hn
  · exact .inr ⟨g, cap, cur, hv, Nat.le_trans u1.size hbg, rest⟩
structure SideP where
  x : Item
  hangs : Bool
  path : ByteArray
def sideP (L : List Item) (m : Stamp) : SideP := ⟨gotI L m, hangsI L 301 m, ofB L m⟩
def kindP (a b : SideP) : Int :=
  if a.hangs = false ∧ b.hangs = false then 0 else if a.hangs = false then 1 else if b.hangs = false then 2 else if a.path ≠ b.path then 3
  else if a.x.by_ ≠ b.x.by_ ∨ a.x.data ≠ b.x.data then 4 else 0
structure ChgD where
  kind : Int
  node : Stamp
  fr : ByteArray
  tt : ByteArray
  deriving DecidableEq
def chg1 (La Lb : List Item) (m : Stamp) : List ChgD := if kindP (sideP La m) (sideP Lb m) = 0 then [] else [⟨kindP (sideP La m) (sideP Lb m), m, (sideP La m).path, (sideP Lb m).path⟩]
def chgs (La Lb : List Item) (D : List Stamp) : List ChgD := D.flatMap (chg1 La Lb)
def nodesI (L : List Item) : List Stamp := L.map (·.node)
end Go.Proofs.YtefhfoioeoijlaaGreatDoor
set_option linter.unusedVariables false
set_option linter.unusedSimpArgs false
namespace Go.Proofs.YtefhfoioeoijlaaGreatDoor
open Go Go.RowKit Go.Sort
set_option maxHeartbeats 2000000 in
theorem tget_nil {w : World} (m1 m2 : Int) : Calls Tryz.prog 20 #[.pointer none, .agg #[.int .i64 m1, .int .i64 m2]] w fun e w' => e = .returned (.tuple #[.agg #[.int .i64 0, .int .i64 0, .int .i64 0, .int .i64 0, .string ⟨#[]⟩, .bool false, .bool false, .slice none 0 0, .int .i64 0, .int .i64 0], .bool false]) ∧ Up w w' := by
  go_enter Tryz.func20, Tryz.ntmps20
  refine wp_seq (rg_lit ?_)
  refine wl (sn rfl (cs := #[.int .i64 m1, .int .i64 m2]) (T := 24) (V := fun b => .pointer (some ⟨b, 0, none⟩)) (r_box (v := .agg #[.int .i64 m1, .int .i64 m2]) (by kernel_rfl) rfl) ?_)
  intro b1 w2 e3 h4 u5
  have g6 : w.heap.size ≤ b1 := by rw [e3]; exact (Mod.refl [] w).size
  have M7 := Mod.trans (Mod.refl [] w) (Mod.of_up u5)
  refine wl (sn rfl (cs := #[.int .i64 0, .int .i64 0, .int .i64 0, .int .i64 0, .string (⟨#[]⟩), .bool false, .bool false, .slice none 0 0, .int .i64 0, .int .i64 0]) (T := 42) (V := fun b => .pointer (some ⟨b, 0, none⟩)) (r_alloc Ty.zv42 rfl) ?_)
  intro b8 w9 e10 h11 u12
  have l13 : b1 < b8 := by rw [e10]; exact lt_ob h4
  have g14 : w.heap.size ≤ b8 := by rw [e10]; exact M7.size
  have M15 := Mod.trans M7 (Mod.of_up u12)
  refine was (v := .bool false) ?_
  refine wnil (then_n (wp_seq (wp_seq (rg_lit ?_))))
  refine wmv (v := .pointer none) ?_
  refine wl (sv (w' := w9) rfl (v := .bool true) (by kernel_rfl) ?_)
  refine wnil (then_n ?_)
  refine wp_cond_true (by kernel_rfl) ?_
  refine wp_seq (rg_lit ?_)
  refine wl (sv rfl (v := .agg #[.int .i64 0, .int .i64 0, .int .i64 0, .int .i64 0, .string (⟨#[]⟩), .bool false, .bool false, .slice none 0 0, .int .i64 0, .int .i64 0]) (r_build (ps := []) (cs := [.int .i64 0, .int .i64 0, .int .i64 0, .int .i64 0, .string (⟨#[]⟩), .bool false, .bool false, .slice none 0 0, .int .i64 0, .int .i64 0]) Ty.un42 Ty.zv42 Ty.pl42 (by kernel_rfl) (by kernel_rfl)) ?_)
  refine wl (ss rfl (k := 0) (v := .agg #[.int .i64 0, .int .i64 0, .int .i64 0, .int .i64 0, .string (⟨#[]⟩), .bool false, .bool false, .slice none 0 0, .int .i64 0, .int .i64 0]) (vs := [.int .i64 0, .int .i64 0, .int .i64 0, .int .i64 0, .string (⟨#[]⟩), .bool false, .bool false, .slice none 0 0, .int .i64 0, .int .i64 0]) (cs' := [.int .i64 0, .int .i64 0, .int .i64 0, .int .i64 0, .string (⟨#[]⟩), .bool false, .bool false, .slice none 0 0, .int .i64 0, .int .i64 0]) (by kernel_rfl) (by kernel_rfl) rfl Ty.sz42 h11 rfl (Nat.le_of_ble_eq_true rfl) rfl ?_)
  intro w16 h17 c18
  have M19 := Mod.trans' M15 c18 (fun i hi => by injection hi with hi; rw [← hi]; exact g14)
  refine was (v := .bool false) ?_
  refine wnil (then_n (wp_ret (then_x (by nofun) ?_)))
  refine bodyPost_ret (v := .tuple #[.agg #[.int .i64 0, .int .i64 0, .int .i64 0, .int .i64 0, .string (⟨#[]⟩), .bool false, .bool false, .slice none 0 0, .int .i64 0, .int .i64 0], .bool false]) (res2 rfl (rv_c (p := ⟨b8, 0, none⟩) (by kernel_rfl) (run_loadVars (vs := [.int .i64 0, .int .i64 0, .int .i64 0, .int .i64 0, .string (⟨#[]⟩), .bool false, .bool false, .slice none 0 0, .int .i64 0, .int .i64 0]) Ty.ag42 Ty.sz42 h17 (by kernel_rfl))) (rv_t (by kernel_rfl))) (by kernel_rfl) ?_
  exact ⟨rfl, (Mod.up M19)⟩
set_option maxHeartbeats 2000000 in
theorem tsome_nil1 {w : World}  : Calls Tryz.prog 97 #[.pointer none, .func (.func 100) #[] #[]] w fun e w' => e = .returned (.slice none 0 0) ∧ Up w w' := by
  go_enter Tryz.func97, Tryz.ntmps97
  refine wp_seq (rg_lit ?_)
  refine was (v := .slice none 0 0) ?_
  refine wnil (then_n (wp_seq (wp_seq (rg_lit ?_))))
  refine wmv (v := .pointer none) ?_
  refine wl (sv (w' := w) rfl (v := .bool true) (by kernel_rfl) ?_)
  refine wnil (then_n ?_)
  refine wp_cond_true (by kernel_rfl) ?_
  refine wp_seq (rg_lit ?_)
  refine was (v := .slice none 0 0) ?_
  refine wnil (then_n (wp_ret (then_x (by nofun) ?_)))
  refine bodyPost_ret (v := .slice none 0 0) (res1 rfl (rv_t (by kernel_rfl))) (by kernel_rfl) ?_
  exact ⟨rfl, (Mod.up (Mod.refl [] w))⟩
set_option maxHeartbeats 2000000 in
theorem tall_nil {w : World}  : Calls Tryz.prog 41 #[.pointer none] w fun e w' => e = .returned (.slice none 0 0) ∧ Up w w' := by
  go_enter Tryz.func41, Tryz.ntmps41
  refine wp_seq (rg_lit ?_)
  refine was (v := .slice none 0 0) ?_
  refine wnil (then_n (wp_seq (rg_lit ?_)))
  refine wmv (v := .pointer none) ?_
  refine wl (sc rfl (r_callv (caps := []) (all := [.pointer none, .func (.func 100) #[] #[]]) En.f97 (by kernel_rfl) (by kernel_rfl)) (tsome_nil1) ?_)
  rintro e w1 ⟨rfl, u2⟩
  refine ⟨.slice none 0 0, rfl, ?_⟩
  have M3 := Mod.trans (Mod.refl [] w) (Mod.of_up u2)
  refine was (v := .slice none 0 0) ?_
  refine wnil (then_n (wp_ret ?_))
  refine bodyPost_ret (v := .slice none 0 0) (res1 rfl (rv_t (by kernel_rfl))) (by kernel_rfl) ?_
  exact ⟨rfl, (Mod.up M3)⟩
set_option maxHeartbeats 2000000 in
theorem thangs_nil {w : World} (m1 m2 : Int) : Calls Tryz.prog 39 #[.pointer none, .agg #[.int .i64 m1, .int .i64 m2]] w fun e w' => e = .returned (.bool false) ∧ Up w w' := by
  go_enter Tryz.func39, Tryz.ntmps39
  refine wp_seq (rg_lit ?_)
  refine wl (sn rfl (cs := #[.int .i64 m1, .int .i64 m2]) (T := 24) (V := fun b => .pointer (some ⟨b, 0, none⟩)) (r_box (v := .agg #[.int .i64 m1, .int .i64 m2]) (by kernel_rfl) rfl) ?_)
  intro b1 w2 e3 h4 u5
  have g6 : w.heap.size ≤ b1 := by rw [e3]; exact (Mod.refl [] w).size
  have M7 := Mod.trans (Mod.refl [] w) (Mod.of_up u5)
  refine was (v := .bool false) ?_
  refine wnil (then_n (wp_seq (wp_seq (rg_lit ?_))))
  refine wmv (v := .pointer none) ?_
  refine wl (sv (w' := w2) rfl (v := .bool true) (by kernel_rfl) ?_)
  refine wnil (then_n ?_)
  refine wp_cond_true (by kernel_rfl) ?_
  refine wp_seq (rg_lit ?_)
  refine was (v := .bool false) ?_
  refine wnil (then_n (wp_ret (then_x (by nofun) ?_)))
  refine bodyPost_ret (v := .bool false) (res1 rfl (rv_t (by kernel_rfl))) (by kernel_rfl) ?_
  exact ⟨rfl, (Mod.up M7)⟩
end Go.Proofs.YtefhfoioeoijlaaGreatDoor
set_option linter.unusedVariables false
set_option linter.unusedSimpArgs false
namespace Go.Proofs.YtefhfoioeoijlaaGreatDoor
open Go Go.RowKit Go.Sort
def OT (B : Nat) (w : World) (p : Option Addr) (L : List Item) : Prop := (∃ tb r, p = some ⟨tb, 0, none⟩ ∧ TreeIs B w tb r L) ∨ (p = none ∧ L = [])
theorem OT.up {B : Nat} {w w' : World} {p : Option Addr} {L : List Item} (h : OT B w p L) (u : Up w w') : OT B w' p L := by
  rcases h with ⟨tb, r, e, h⟩ | h
  · exact .inl ⟨tb, r, e, h.up u⟩
  · exact .inr h
theorem OT.of {B : Nat} {w : World} {tb r : Nat} {L : List Item} (h : TreeIs B w tb r L) : OT B w (some ⟨tb, 0, none⟩) L := .inl ⟨tb, r, rfl, h⟩
theorem OT.no {B : Nat} {w : World} : OT B w none [] := .inr ⟨rfl, rfl⟩
theorem allO_at {B : Nat} {w : World} {p : Option Addr} {L : List Item} (h : OT B w p L) (hB : B ≤ w.heap.size) : Calls Tryz.prog 41 #[.pointer p] w fun e w' => ∃ A c, e = .returned (.slice A L.length c) ∧ IRow 42 B w.heap.size w' (.slice A L.length c) L ∧ Up w w' := by
  rcases h with ⟨tb, r, rfl, h⟩ | ⟨rfl, rfl⟩
  · refine (all_at h hB).mono ?_
    rintro e w' ⟨v, rfl, hr, u⟩
    obtain ⟨A, c, rfl⟩ := hr.form
    exact ⟨A, c, rfl, hr, u⟩
  · refine tall_nil.mono ?_
    rintro e w' ⟨rfl, u⟩
    exact ⟨none, 0, rfl, IRow.nil _ _ _ _, u⟩
theorem getO_at {B : Nat} {w : World} {p : Option Addr} {L : List Item} (h : OT B w p L) (m1 m2 : Int) : Calls Tryz.prog 20 #[.pointer p, .agg #[.int .i64 m1, .int .i64 m2]] w fun e w' =>
    ∃ A k c, e = .returned (.tuple #[itV (gotI L ⟨m1, m2⟩) (.slice A k c), .bool (hasI L ⟨m1, m2⟩)]) ∧ Dat B w' (.slice A k c) (gotI L ⟨m1, m2⟩).data ∧ Up w w' := by
  rcases h with ⟨tb, r, rfl, h⟩ | ⟨rfl, rfl⟩
  · exact get_x h ⟨m1, m2⟩ rfl rfl
  · refine (tget_nil m1 m2).mono ?_
    rintro e w' ⟨rfl, u⟩
    exact ⟨none, 0, 0, rfl, Dat.nil B w', u⟩
theorem hangsO_no (m : Stamp) (hm : m ≠ nilS) : hangsI [] 301 m = false := by
  show hangsI [] (300 + 1) m = false
  rw [hangsI, if_neg hm]; rfl
theorem hangsO_at {B : Nat} {w : World} {p : Option Addr} {L : List Item} (h : OT B w p L) (m1 m2 : Int) (hm : (⟨m1, m2⟩ : Stamp) ≠ nilS) : Calls Tryz.prog 39 #[.pointer p, .agg #[.int .i64 m1, .int .i64 m2]] w fun e w' => e = .returned (.bool (hangsI L 301 ⟨m1, m2⟩)) ∧ Up w w' := by
  rcases h with ⟨tb, r, rfl, h⟩ | ⟨rfl, rfl⟩
  · exact hangs_at h m1 m2
  · rw [hangsO_no _ hm]; exact thangs_nil m1 m2
end Go.Proofs.YtefhfoioeoijlaaGreatDoor
set_option linter.unusedVariables false
set_option linter.unusedSimpArgs false
namespace Go.Proofs.YtefhfoioeoijlaaGreatDoor
open Go Go.RowKit Go.Sort
def chC (x : ChgD) : List Value := [.int .i64 x.kind, .int .i64 x.node.t, .int .i64 x.node.w, .string x.fr, .string x.tt]
def chV (x : ChgD) : Value := .agg #[.int .i64 x.kind, .int .i64 x.node.t, .int .i64 x.node.w, .string x.fr, .string x.tt]
def flatC (L : List ChgD) : List Value := L.flatMap chC
def CRow (T : TypeId) (base : Nat) (w : World) (v : Value) (L : List ChgD) : Prop := w.ownsRow base T 5 v L.length (flatC L)
theorem CRow.nil (T : TypeId) (base : Nat) (w : World) : CRow T base w (.slice none 0 0) [] := World.ownsRow_nil w base _ 5
theorem CRow.keep {T : TypeId} {base : Nat} {w w' : World} {v : Value} {L : List ChgD} (h : CRow T base w v L) {q : Option Nat} (hg : w.grownBy w' q) (hv : v.ownBlock = none ∨ v.ownBlock ≠ q) : CRow T base w' v L := World.ownsRow.kept h hg hv
theorem CRow.up {T : TypeId} {base : Nat} {w w' : World} {v : Value} {L : List ChgD} (h : CRow T base w v L) (hb : Up w w') : CRow T base w' v L :=
  h.keep (q := none) ⟨hb.os, hb.tape, hb.output, hb.size, fun k hk _ => hb.block k hk⟩ (by cases hv : v.ownBlock <;> simp)
theorem CRow.form {T : TypeId} {base : Nat} {w : World} {v : Value} {L : List ChgD} (h : CRow T base w v L) : ∃ A c, v = .slice A L.length c := by
  obtain ⟨_, ⟨rfl, h0⟩ | ⟨g, cap, cur, rfl, _⟩⟩ := h
  · exact ⟨none, 0, by rw [h0]⟩
  · exact ⟨_, cap, rfl⟩
theorem CRow.own {T : TypeId} {base : Nat} {w : World} {v : Value} {L : List ChgD} (h : CRow T base w v L) : ∀ k, v.ownBlock = some k → base ≤ k ∧ k < w.heap.size := World.ownsRow.lt h
theorem CRow.ne_old {T : TypeId} {base b : Nat} {w : World} {v : Value} {L : List ChgD} (h : CRow T base w v L) (e : b < base) : v.ownBlock ≠ some b := fun hh => by have := (h.own _ hh).1; omega
theorem CRow.base {T : TypeId} {base base' : Nat} {w : World} {v : Value} {L : List ChgD} (h : CRow T base w v L) (hb : base' ≤ base) : CRow T base' w v L := by
  obtain ⟨h1, h2⟩ := h
  refine ⟨h1, ?_⟩
  rcases h2 with hn | ⟨g, cap, cur, hv, hbg, rest⟩
  · exact .inl hn
  · exact .inr ⟨g, cap, cur, hv, Nat.le_trans hb hbg, rest⟩
def Ch5 (T : TypeId) : Prop := ∃ i z, Tryz.prog.info? T = some i ∧ i.zero = some z ∧ i.size = 5 ∧ i.bytes = 56 ∧ z.cells.size = 5
theorem ch5_a : Ch5 61 := by
  have h : (Tryz.prog.info? 61).map (fun i => (i.zero.map (·.cells.size), i.size, i.bytes)) = some (some 5, 5, 56) := by kernel_rfl
  unfold Ch5
  cases hi : Tryz.prog.info? 61 with
  | none => rw [hi] at h; cases h
  | some i =>
    rw [hi] at h; simp at h
    obtain ⟨⟨z, hz, h1⟩, h2, h3⟩ := h
    exact ⟨i, z, rfl, hz, h2, h3, h1⟩
theorem ch5_b : Ch5 117 := by
  have h : (Tryz.prog.info? 117).map (fun i => (i.zero.map (·.cells.size), i.size, i.bytes)) = some (some 5, 5, 56) := by kernel_rfl
  unfold Ch5
  cases hi : Tryz.prog.info? 117 with
  | none => rw [hi] at h; cases h
  | some i =>
    rw [hi] at h; simp at h
    obtain ⟨⟨z, hz, h1⟩, h2, h3⟩ := h
    exact ⟨i, z, rfl, hz, h2, h3, h1⟩
theorem flatC_app (L M : List ChgD) : flatC (L ++ M) = flatC L ++ flatC M := by simp [flatC]
theorem CRow.snoc {T : TypeId} {base : Nat} {w : World} {v : Value} {L : List ChgD} (h5 : Ch5 T) (h : CRow T base w v L) {t ty : TypeId} (ht : Tryz.prog.underlying t = some (.slice T)) {b : Nat} {x : ChgD} (hb : w.heap[b]? = some (.cells #[.int .i64 x.kind, .int .i64 x.node.t, .int .i64 x.node.w, .string x.fr, .string x.tt] T (0, 0))) (hbase : base ≤ w.heap.size) (hlen : L.length ≤ 100000) :
    ∃ v' w', (Builtin.append_ #[t, t] ty #[v, .slice (some ⟨b, 0, none⟩) 1 1]).run Tryz.prog w = .ok v' w' ∧ CRow T base w' v' (L ++ [x]) ∧ w.grownBy w' v.ownBlock := by
  obtain ⟨i, z, hi, hz, hsize, hby, hzs⟩ := h5
  obtain ⟨v', w', h1, h2, h3, h4⟩ := run_append_own (P := Tryz.prog) w base t ty T i z 5 56 ht hi hz hsize hby hzs (by decide) v L.length (flatC L) h ⟨b, 0, none⟩ 1 1 (chC x) (by simp [chC])
    (fun j u hj => by
      rw [add_at, Nat.zero_add]
      simp only [World.cell?, hb]; simpa [chC] using hj) (by intro u hu; simp [chC] at hu; rcases hu with rfl | rfl | rfl | rfl | rfl <;> rfl) (by unfold maxLen; omega) (by omega) hbase
  refine ⟨v', w', h1, ?_, h3⟩
  unfold CRow
  rw [flatC_app]
  simpa [flatC] using h2
theorem snC {ops : Array Oper} {Q : Exit → Act → World → Prop} {a : Act} {w : World} {J : Act → World → Prop} {d : Option Tmp} {ty : TypeId} {pos : String} {af : Array Edge} {g : Option (Nat × Bool)}
    {T : TypeId} {base : Nat} {v : Value} {L : List ChgD} {t : TypeId} {s p : Operand} {b : Nat} {x : ChgD} (h5 : Ch5 T)
    (hw : Region.wanted (⟨d, .call ⟨.builtin .append, #[s, p], #[t, t]⟩, ty, pos, af, g⟩ : Oper) (yielded ops a.tmps) = true) (hs : a.eval s = v) (hy : a.eval p = .slice (some ⟨b, 0, none⟩) 1 1)
    (h : CRow T base w v L) (ht : Tryz.prog.underlying t = some (.slice T)) (hb : w.heap[b]? = some (.cells #[.int .i64 x.kind, .int .i64 x.node.t, .int .i64 x.node.w, .string x.fr, .string x.tt] T (0, 0))) (hbase : base ≤ w.heap.size) (hlen : L.length ≤ 100000)
    (k : ∀ A c w', CRow T base w' (.slice A (L ++ [x]).length c) (L ++ [x]) → w.grownBy w' v.ownBlock → J (a.put d (.slice A (L ++ [x]).length c)) w') : St1 Tryz.prog ops Q ⟨d, .call ⟨.builtin .append, #[s, p], #[t, t]⟩, ty, pos, af, g⟩ J a w := by
  obtain ⟨v', w', h1, h2, h3⟩ := h.snoc (ty := ty) h5 ht hb hbase hlen
  obtain ⟨A, c, rfl⟩ := h2.form
  refine sv hw ?_ (k A c w' h2 h3)
  simp [execOp, resolve, invoke, builtin, hs, hy, h1]
theorem flatC_get : ∀ {L : List ChgD} {i k : Nat} {x : ChgD}, L[i]? = some x → k < 5 → (flatC L)[i * 5 + k]? = (chC x)[k]?
  | y :: L, 0, k, x, h, hk => by simp at h; subst h; show (chC y ++ flatC L)[0 * 5 + k]? = _; rw [List.getElem?_append_left (by simp [chC]; omega), Nat.zero_mul, Nat.zero_add]
  | y :: L, i + 1, k, x, h, hk => by
    have ih := flatC_get (L := L) (i := i) (k := k) (x := x) (by simpa using h) hk
    show (chC y ++ flatC L)[(i + 1) * 5 + k]? = _
    rw [List.getElem?_append_right (by simp [chC]; omega), show (i + 1) * 5 + k - (chC y).length = i * 5 + k by simp [chC]; omega]
    exact ih
theorem CRow.get {T : TypeId} {base : Nat} {w : World} {A : Option Addr} {n c i : Nat} {L : List ChgD} {x : ChgD} (h : CRow T base w (.slice A n c) L) (hx : L[i]? = some x) :
    ∃ g, A = some ⟨g, 0, none⟩ ∧ g < w.heap.size ∧ (∀ k u, (chC x)[k]? = some u → w.cell? ⟨g, i * 5 + k, none⟩ = some u) ∧ ∃ cur, w.heap[g]? = some (.cells cur T (0, 0)) ∧ (cur.toList.drop (i * 5)).take 5 = chC x := by
  obtain ⟨hl, ⟨e, h0⟩ | ⟨g, cap, cur, e, hb, hg, hc, hm, hcs, htk⟩⟩ := h
  · have := (List.getElem?_eq_some_iff.1 hx).1; omega
  · injection e with e1 _ e3
    have hil := (List.getElem?_eq_some_iff.1 hx).1
    have hget : ∀ k, k < 5 → cur.toList[i * 5 + k]? = (chC x)[k]? := fun k hk => by
      have h1 := flatC_get hx hk
      rw [← htk, List.getElem?_take, if_pos (by omega)] at h1
      exact h1
    refine ⟨g, e1, lt_ob hg, fun k u hu => ?_, cur, hg, ?_⟩
    · have hk : k < 5 := by have := (List.getElem?_eq_some_iff.1 hu).1; simpa [chC] using this
      simp only [World.cell?, hg]
      rw [← Array.getElem?_toList, hget k hk, hu]; rfl
    · refine List.ext_getElem? fun k => ?_
      by_cases hk : k < 5
      · rw [List.getElem?_take, if_pos hk, List.getElem?_drop, hget k hk]
      · rw [List.getElem?_eq_none (by rw [List.length_take]; omega), List.getElem?_eq_none (by simp [chC]; omega)]
def LookAt (w : World) (v : Value) (p : Option Addr) : Prop := ∃ b1 b2 b3, v = .func (.func 133) #[] #[.pointer (some ⟨b1, 0, none⟩), .pointer (some ⟨b2, 0, none⟩), .pointer (some ⟨b3, 0, none⟩)] ∧
  w.heap[b1]? = some (.cells #[.func (.func 20) #[.pointer p] #[]] 44 (0, 0)) ∧ w.heap[b2]? = some (.cells #[.pointer p] 27 (0, 0)) ∧ w.heap[b3]? = some (.cells #[.func (.func 39) #[.pointer p] #[]] 76 (0, 0))
def sdV (s : SideP) (d : Value) : Value := .agg #[.int .i64 s.x.node.t, .int .i64 s.x.node.w, .int .i64 s.x.parent.t, .int .i64 s.x.parent.w, .string s.x.name, .bool s.x.dir, .bool s.x.gone, d, .int .i64 s.x.by_.t, .int .i64 s.x.by_.w, .bool s.hangs, .string s.path]
theorem kind_0 {a b : SideP} (h1 : a.hangs = false) (h2 : b.hangs = false) : kindP a b = 0 := by simp [kindP, h1, h2]
theorem kind_1 {a b : SideP} (h1 : a.hangs = false) (h2 : b.hangs = true) : kindP a b = 1 := by simp [kindP, h1, h2]
theorem kind_2 {a b : SideP} (h1 : a.hangs = true) (h2 : b.hangs = false) : kindP a b = 2 := by simp [kindP, h1, h2]
theorem kind_3 {a b : SideP} (h1 : a.hangs = true) (h2 : b.hangs = true) (h3 : a.path ≠ b.path) : kindP a b = 3 := by simp [kindP, h1, h2, h3]
theorem kind_4 {a b : SideP} (h1 : a.hangs = true) (h2 : b.hangs = true) (h3 : a.path = b.path) (h4 : a.x.by_ ≠ b.x.by_ ∨ a.x.data ≠ b.x.data) : kindP a b = 4 := by
  simp only [kindP, h1, h2, h3]; simp [h4]
theorem kind_5 {a b : SideP} (h1 : a.hangs = true) (h2 : b.hangs = true) (h3 : a.path = b.path) (h4 : a.x.by_ = b.x.by_) (h5 : a.x.data = b.x.data) : kindP a b = 0 := by simp [kindP, h1, h2, h3, h4, h5]
end Go.Proofs.YtefhfoioeoijlaaGreatDoor

/- GPC: printed by gen.py -/
import Derived.Test.YtefhfoioeoijlaaGreatGPA
set_option linter.unusedVariables false
set_option linter.unusedSimpArgs false
namespace Go.Proofs.YtefhfoioeoijlaaGreat
open Go Go.RowKit Go.Sort
set_option maxRecDepth 20000 in
set_option maxHeartbeats 2000000 in
theorem rrem_at {B base : Nat} {w : World} {mb vc : Nat} {vA : Option Addr} {D : List OpD} (hmb : w.heap[mb]? = some (.cells #[.slice vA D.length vc] 30 (0, 0))) (hD : ORow 38 B base w (.slice vA D.length vc) D) (hn : D.length ≤ 10000) (hBm : B ≤ mb) (hmb0 : mb < base) (hbw : base ≤ w.heap.size) (hBw : B ≤ w.heap.size) (hsD : SrtO D) (hnm : ∀ x ∈ D, x.name.size ≤ 9223372036854775807) (m1 m2 : Int) :
    Calls Tryz.prog 8 #[trP mb, .agg #[.int .i64 m1, .int .i64 m2]] w fun e w' => ∃ nn kk, e = .returned (.tuple #[.int .i64 nn, .int .i64 kk]) ∧ ansR D ⟨m1, m2⟩ nn kk ∧ RLog B base w' mb (remL D ⟨m1, m2⟩) ∧ Chg w w' mb := by
  obtain ⟨iO, zO, hiO, hzO, hsO, hbO, hcO⟩ := info_op
  have hB := hBw
  go_enter Tryz.func8, Tryz.ntmps8
  refine wp_seq (rg_lit ?_)
  refine wl (sn rfl (cs := #[.int .i64 m1, .int .i64 m2]) (T := 35) (V := fun b => .pointer (some ⟨b, 0, none⟩)) (r_box (v := .agg #[.int .i64 m1, .int .i64 m2]) (by kernel_rfl) rfl) ?_)
  intro b1 w2 e3 h4 u5
  have l6 : mb < b1 := by rw [e3]; exact lt_ob hmb
  have g7 : w.heap.size ≤ b1 := by rw [e3]; exact (Mod.refl [] w).size
  have M8 := Mod.trans (Mod.refl [] w) (Mod.of_up u5)
  refine was (v := .int .i64 0) ?_
  refine was (v := .int .i64 0) ?_
  refine wnil (then_n (wp_seq (rg_lit ?_)))
  refine wmv (v := .pointer (some ⟨mb, 0, none⟩)) ?_
  refine wl (sv rfl (v := .agg #[.int .i64 m1, .int .i64 m2]) (r_loads (k := 0) (by kernel_rfl) Ty.ag35 Ty.sz35 h4 (by kernel_rfl)) ?_)
  have h9 := md_ob M8 nin0 hmb
  have h10 := (ORow.up hD (Mod.up M8))
  refine wl (sc rfl (r_callv (caps := []) (all := [.pointer (some ⟨mb, 0, none⟩), .agg #[.int .i64 m1, .int .i64 m2]]) En.f24 (by kernel_rfl) (by kernel_rfl)) (behind_at h9 h10 (by omega) m1 m2) ?_)
  rintro e w11 ⟨n12, p13, rfl, h14, h15, u16⟩
  rcases plp_end h15 rfl with ⟨rfl, h17⟩ | ⟨i18, x19, rfl, l20, h21, e22, h17⟩
  ·
   refine ⟨.tuple #[.int .i64 ((n12 : Int)), .int .i64 (-1)], rfl, ?_⟩
   have M23 := Mod.trans M8 (Mod.of_up u16)
   refine wmv (v := .tuple #[.int .i64 ((n12 : Int)), .int .i64 (-1)]) ?_
   refine wl (sv rfl (v := .int .i64 ((n12 : Int))) (r_extract (vs := [.int .i64 ((n12 : Int)), .int .i64 (-1)]) (by kernel_rfl) rfl) ?_)
   refine wl (sv rfl (v := .int .i64 (-1)) (r_extract (vs := [.int .i64 ((n12 : Int)), .int .i64 (-1)]) (by kernel_rfl) rfl) ?_)
   refine was (v := .int .i64 ((n12 : Int))) ?_
   refine was (v := .int .i64 (-1)) ?_
   refine wnil (then_n (wp_seq (wp_seq (rg_lit ?_))))
   refine wmv (v := .int .i64 (-1)) ?_
   refine wl (sv (w' := w11) rfl (v := .bool true) (by kernel_rfl) ?_)
   refine wnil (then_n ?_)
   refine wp_cond_true (by kernel_rfl) ?_
   refine wp_seq (rg_lit ?_)
   refine was (v := .int .i64 0) ?_
   refine was (v := .int .i64 12) ?_
   refine wnil (then_n (wp_ret (then_x (by nofun) ?_)))
   refine bodyPost_ret (v := .tuple #[.int .i64 0, .int .i64 12]) (res2 rfl (rv_t (by kernel_rfl)) (rv_t (by kernel_rfl))) (by kernel_rfl) ?_
   have h24 := md_ob M23 nin0 hmb
   have h25 := (ORow.up hD (Mod.up M23))
   exact ⟨0, 12, rfl, ansR_no h17, ⟨_, h24, ORow.to h25 (remL_no h17).symm⟩, (to_chg (Mod.up M23) mb)⟩
  ·
   refine ⟨.tuple #[.int .i64 ((n12 : Int)), .int .i64 ((i18 : Int))], rfl, ?_⟩
   have M23 := Mod.trans M8 (Mod.of_up u16)
   refine wmv (v := .tuple #[.int .i64 ((n12 : Int)), .int .i64 ((i18 : Int))]) ?_
   refine wl (sv rfl (v := .int .i64 ((n12 : Int))) (r_extract (vs := [.int .i64 ((n12 : Int)), .int .i64 ((i18 : Int))]) (by kernel_rfl) rfl) ?_)
   refine wl (sv rfl (v := .int .i64 ((i18 : Int))) (r_extract (vs := [.int .i64 ((n12 : Int)), .int .i64 ((i18 : Int))]) (by kernel_rfl) rfl) ?_)
   refine was (v := .int .i64 ((n12 : Int))) ?_
   refine was (v := .int .i64 ((i18 : Int))) ?_
   refine wnil (then_n (wp_seq (wp_seq (rg_lit ?_))))
   refine wmv (v := .int .i64 ((i18 : Int))) ?_
   refine wl (sb rfl (r_lt (k := .i64) (m := ((i18 : Int))) (n := 0) (by kernel_rfl) (by kernel_rfl)) ?_)
   intro b24 k25
   refine wnil (then_n ?_)
   refine bcase b24 (fun v26 => ?_) (fun v26 => ?_)
   ·
    have p27 := of_decide_eq_false (k25.trans v26)
    refine wp_cond_false (ebool (b := b24) (by kernel_rfl) v26) ?_
    refine wp_skip (then_n (wp_seq ?_))
    refine rg_held [mb] (n := 20) (by kernel_rfl) rfl ?_
    intro w28 u29
    have M30 := Mod.trans M23 (Mod.of_up u29)
    have h31 := md_ob M30 nin0 hmb
    have h32 := (up_ob u29 (up_ob u16 h4))
    have h33 := (ORow.up hD (Mod.up M30))
    refine hvq (i := 0) (fuel := 19) rfl (fun _ _ _ h => h) (Mod.refl [mb] w28) rfl (v := .pointer (some ⟨mb, 0, none⟩)) (fun _ _ => r_move (by kernel_rfl)) ?_
    refine hvq (i := 2) (fuel := 18) rfl (fun _ _ _ h => h) (Mod.refl [mb] w28) rfl (v := .pointer (some ⟨mb, 0, none⟩)) (fun _ _ => r_move (by kernel_rfl)) ?_
    refine hvq (i := 3) (fuel := 17) rfl (fun _ _ _ h => h) (Mod.refl [mb] w28) rfl (v := .pointer (some ⟨mb, 0, none⟩)) (fun _ _ => r_nilCheck (by kernel_rfl)) ?_
    refine hvq (i := 4) (fuel := 16) rfl (fun _ _ _ h => h) (Mod.refl [mb] w28) rfl (v := .pointer (some ⟨mb, 0, none⟩)) (fun _ _ => r_fieldAddr (u := .pointer (some ⟨mb, 0, none⟩)) (by kernel_rfl) (fun _ => (by kernel_rfl))) ?_
    refine hvq (i := 6) (fuel := 15) rfl (fun _ _ _ h => h) (Mod.refl [mb] w28) rfl (v := .int .i64 ((i18 : Int))) (fun _ _ => r_move (by kernel_rfl)) ?_
    refine hvq (i := 9) (fuel := 14) rfl (fun _ _ _ h => h) (Mod.refl [mb] w28) rfl (v := .pointer (some ⟨mb, 0, none⟩)) (fun _ _ => r_move (by kernel_rfl)) ?_
    refine hvq (i := 10) (fuel := 13) rfl (fun _ _ _ h => h) (Mod.refl [mb] w28) rfl (v := .pointer (some ⟨mb, 0, none⟩)) (fun _ _ => r_nilCheck (by kernel_rfl)) ?_
    refine hvq (i := 11) (fuel := 12) rfl (fun _ _ _ h => h) (Mod.refl [mb] w28) rfl (v := .pointer (some ⟨mb, 0, none⟩)) (fun _ _ => r_fieldAddr (u := .pointer (some ⟨mb, 0, none⟩)) (by kernel_rfl) (fun _ => (by kernel_rfl))) ?_
    refine hvq (i := 13) (fuel := 11) rfl (fun _ _ _ h => h) (Mod.refl [mb] w28) rfl (v := .int .i64 ((i18 : Int))) (fun _ _ => r_move (by kernel_rfl)) ?_
    refine hvq (i := 14) (fuel := 10) rfl (fun _ _ _ h => h) (Mod.refl [mb] w28) rfl (v := .int .i64 (((i18 + 1 : Nat) : Int))) (fun _ _ => r_add (k := .i64) (m := ((i18 : Int))) (n := 1) (c := (((i18 + 1 : Nat) : Int))) (by kernel_rfl) (by kernel_rfl) ((IntWalk.i64_in _ (by omega)).trans (by omega))) ?_
    refine h3 (i := 1) (j := 5) (k := 12) (fuel := 9) (by kernel_rfl) rfl rfl rfl ?_ ?_ ?_
    ·
     refine litO rfl (B := B) (base := w28.heap.size) Ty.un28 Ty.sz38 (Mod.refl [mb] w28).size ?_
     intro b34 w35 e36 h37 h38 u39
     have l40 : mb < b34 := by rw [e36]; exact lt_ob h31
     have l41 : b1 < b34 := by rw [e36]; exact lt_ob h32
     have g42 : w.heap.size ≤ b34 := by rw [e36]; exact M30.size
     have g43 : w28.heap.size ≤ b34 := by rw [e36]; exact (Mod.refl [mb] w28).size
     have M44 := Mod.trans M30 (Mod.of_up u39)
     have M45 := Mod.trans (Mod.refl [mb] w28) (Mod.of_up u39)
     refine ⟨M45, ?_⟩
     refine h2 (i := 5) (j := 12) (fuel := 8) (by kernel_rfl) rfl rfl ?_ ?_
     ·
      have h46 := md_ob M44 nin0 hmb
      refine sv rfl (v := .slice vA D.length vc) (r_load (k := 0) (by kernel_rfl) Ty.ag28 h46 (by kernel_rfl)) ?_
      refine ⟨M45, ?_⟩
      have h47 := (ORow.up hD (Mod.up M44))
      have hq48 := (ORow.headCut (P := Tryz.prog) (k := i18) h47 (by omega) 28 38 Ty.un28 Ty.sz38).2
      refine hvq (i := 7) (fuel := 7) rfl (fun _ _ _ h => h) M45 rfl (v := .slice vA i18 vc) (fun _ _ => hq48 _ _ _ _ _ _ _ _ _ (by kernel_rfl) (by kernel_rfl)) ?_
      refine h2 (i := 8) (j := 12) (fuel := 6) (by kernel_rfl) rfl rfl ?_ ?_
      ·
       refine apO rfl (by kernel_rfl) (by kernel_rfl) h38 (ORow.headCut (P := Tryz.prog) (k := i18) h47 (by omega) 28 38 Ty.un28 Ty.sz38).1 Ty.un28 hiO hzO hsO hbO hcO (by decide) (Nat.le_trans (Nat.le_trans hB M30.size) (Nat.le_refl _)) M45.size (by simp; omega) ?_
       intro b49 n50 c51 w52 e53 h54 g55 c56
       have M57 := Mod.trans' M44 c56 (fun i hi => by injection hi with hi; rw [← hi]; exact g42)
       have M58 := Mod.trans' M45 c56 (fun i hi => by injection hi with hi; rw [← hi]; exact g43)
       obtain ⟨_, _, _, cg59, hg59, _⟩ := ORow.blk h54
       refine ⟨M58, ?_⟩
       have h60 := md_ob M57 nin0 hmb
       refine h1 (i := 12) (fuel := 5) (by kernel_rfl) rfl (sv rfl (v := .slice vA D.length vc) (r_load (k := 0) (by kernel_rfl) Ty.ag28 h60 (by kernel_rfl)) ?_)
       refine ⟨M58, ?_⟩
       have h61 := (ORow.up hD (Mod.up M57))
       obtain ⟨A62, hs62, hq62⟩ := ORow.tailW (P := Tryz.prog) (k := i18 + 1) h61 (by omega) 28 38 Ty.un28 Ty.sz38
       refine hvq (i := 15) (fuel := 4) rfl (fun _ _ _ h => h) M58 rfl (v := .slice A62 ((D.length - (i18 + 1) : Nat)) ((vc - (i18 + 1) : Nat))) (fun _ _ => hq62 _ _ _ _ _ _ _ _ _ (by kernel_rfl) (by kernel_rfl)) ?_
       refine h1 (i := 16) (fuel := 3) (by kernel_rfl) rfl (apO rfl (by kernel_rfl) (by kernel_rfl) h54 (hs62 _ h61) Ty.un28 hiO hzO hsO hbO hcO (by decide) (Nat.le_trans (Nat.le_trans hB M30.size) (Nat.le_refl _)) M58.size (by simp; omega) ?_)
       intro b63 n64 c65 w66 e67 h68 g69 c70
       have M71 := Mod.trans' M57 c70 (fun i hi => by injection hi with hi; rw [← hi]; exact (Nat.le_trans M30.size g55))
       have M72 := Mod.trans' M58 c70 (fun i hi => by injection hi with hi; rw [← hi]; exact g55)
       obtain ⟨_, _, _, cg73, hg73, _⟩ := ORow.blk h68
       refine ⟨M72, ?_⟩
       refine hvq (i := 17) (fuel := 2) rfl (fun _ _ _ h => h) M72 rfl (v := .pointer (some ⟨mb, 0, none⟩)) (fun _ _ => r_nilCheck (by kernel_rfl)) ?_
       refine hvq (i := 18) (fuel := 1) rfl (fun _ _ _ h => h) M72 rfl (v := .pointer (some ⟨mb, 0, none⟩)) (fun _ _ => r_fieldAddr (u := .pointer (some ⟨mb, 0, none⟩)) (by kernel_rfl) (fun _ => (by kernel_rfl))) ?_
       have h74 := md_ob M71 nin0 hmb
       refine h1 (i := 19) (fuel := 0) (by kernel_rfl) rfl (ss rfl (k := 0) (v := .slice (some ⟨b63, 0, none⟩) n64 c65) (vs := [.slice (some ⟨b63, 0, none⟩) n64 c65]) (cs' := [.slice (some ⟨b63, 0, none⟩) n64 c65]) (by kernel_rfl) (by kernel_rfl) rfl Ty.sz28 h74 rfl (Nat.le_of_ble_eq_true rfl) rfl ?_)
       intro w75 h76 c77
       have M78 := md_old M71 c77
       have M79 := Mod.trans M72 (Mod.of_chg c77 (by simp))
       refine ⟨M79, ?_⟩
       refine hend (by kernel_rfl) ?_
       refine then_n (wp_seq (rg_lit ?_))
       refine wmv (v := .int .i64 ((n12 : Int))) ?_
       refine was (v := .int .i64 ((n12 : Int))) ?_
       refine was (v := .int .i64 0) ?_
       refine wnil (then_n (wp_ret ?_))
       refine bodyPost_ret (v := .tuple #[.int .i64 ((n12 : Int)), .int .i64 0]) (res2 rfl (rv_t (by kernel_rfl)) (rv_t (by kernel_rfl))) (by kernel_rfl) ?_
       have h80 := (ORow.chgn h68 c77 ⟨hBm, NotU8.of h74 (by decide)⟩ (ORow.ne_old h68 (lt_ob h31)))
       exact ⟨_, _, rfl, ansR_ok h17 h14, ⟨_, h76, ORow.base (ORow.to h80 (by rw [List.nil_append]; exact cut_rem hsD h21 e22)) (Nat.le_trans hbw M30.size)⟩, (Mod.chg M78)⟩
      ·
       refine sv rfl (v := .slice vA D.length vc) (r_load (k := 0) (by kernel_rfl) Ty.ag28 h46 (by kernel_rfl)) ?_
       refine ⟨M45, ?_⟩
       obtain ⟨A49, hs49, hq49⟩ := ORow.tailW (P := Tryz.prog) (k := i18 + 1) h47 (by omega) 28 38 Ty.un28 Ty.sz38
       refine hvq (i := 15) (fuel := 5) rfl (fun _ _ _ h => h) M45 rfl (v := .slice A49 ((D.length - (i18 + 1) : Nat)) ((vc - (i18 + 1) : Nat))) (fun _ _ => hq49 _ _ _ _ _ _ _ _ _ (by kernel_rfl) (by kernel_rfl)) ?_
       refine h1 (i := 8) (fuel := 4) (by kernel_rfl) rfl (apO rfl (by kernel_rfl) (by kernel_rfl) h38 (ORow.headCut (P := Tryz.prog) (k := i18) h47 (by omega) 28 38 Ty.un28 Ty.sz38).1 Ty.un28 hiO hzO hsO hbO hcO (by decide) (Nat.le_trans (Nat.le_trans hB M30.size) (Nat.le_refl _)) M45.size (by simp; omega) ?_)
       intro b50 n51 c52 w53 e54 h55 g56 c57
       have M58 := Mod.trans' M44 c57 (fun i hi => by injection hi with hi; rw [← hi]; exact g42)
       have M59 := Mod.trans' M45 c57 (fun i hi => by injection hi with hi; rw [← hi]; exact g43)
       obtain ⟨_, _, _, cg60, hg60, _⟩ := ORow.blk h55
       refine ⟨M59, ?_⟩
       have h61 := (ORow.up hD (Mod.up M58))
       refine h1 (i := 16) (fuel := 3) (by kernel_rfl) rfl (apO rfl (by kernel_rfl) (by kernel_rfl) h55 (hs49 _ h61) Ty.un28 hiO hzO hsO hbO hcO (by decide) (Nat.le_trans (Nat.le_trans hB M30.size) (Nat.le_refl _)) M59.size (by simp; omega) ?_)
       intro b62 n63 c64 w65 e66 h67 g68 c69
       have M70 := Mod.trans' M58 c69 (fun i hi => by injection hi with hi; rw [← hi]; exact (Nat.le_trans M30.size g56))
       have M71 := Mod.trans' M59 c69 (fun i hi => by injection hi with hi; rw [← hi]; exact g56)
       obtain ⟨_, _, _, cg72, hg72, _⟩ := ORow.blk h67
       refine ⟨M71, ?_⟩
       refine hvq (i := 17) (fuel := 2) rfl (fun _ _ _ h => h) M71 rfl (v := .pointer (some ⟨mb, 0, none⟩)) (fun _ _ => r_nilCheck (by kernel_rfl)) ?_
       refine hvq (i := 18) (fuel := 1) rfl (fun _ _ _ h => h) M71 rfl (v := .pointer (some ⟨mb, 0, none⟩)) (fun _ _ => r_fieldAddr (u := .pointer (some ⟨mb, 0, none⟩)) (by kernel_rfl) (fun _ => (by kernel_rfl))) ?_
       have h73 := md_ob M70 nin0 hmb
       refine h1 (i := 19) (fuel := 0) (by kernel_rfl) rfl (ss rfl (k := 0) (v := .slice (some ⟨b62, 0, none⟩) n63 c64) (vs := [.slice (some ⟨b62, 0, none⟩) n63 c64]) (cs' := [.slice (some ⟨b62, 0, none⟩) n63 c64]) (by kernel_rfl) (by kernel_rfl) rfl Ty.sz28 h73 rfl (Nat.le_of_ble_eq_true rfl) rfl ?_)
       intro w74 h75 c76
       have M77 := md_old M70 c76
       have M78 := Mod.trans M71 (Mod.of_chg c76 (by simp))
       refine ⟨M78, ?_⟩
       refine hend (by kernel_rfl) ?_
       refine then_n (wp_seq (rg_lit ?_))
       refine wmv (v := .int .i64 ((n12 : Int))) ?_
       refine was (v := .int .i64 ((n12 : Int))) ?_
       refine was (v := .int .i64 0) ?_
       refine wnil (then_n (wp_ret ?_))
       refine bodyPost_ret (v := .tuple #[.int .i64 ((n12 : Int)), .int .i64 0]) (res2 rfl (rv_t (by kernel_rfl)) (rv_t (by kernel_rfl))) (by kernel_rfl) ?_
       have h79 := (ORow.chgn h67 c76 ⟨hBm, NotU8.of h73 (by decide)⟩ (ORow.ne_old h67 (lt_ob h31)))
       exact ⟨_, _, rfl, ansR_ok h17 h14, ⟨_, h75, ORow.base (ORow.to h79 (by rw [List.nil_append]; exact cut_rem hsD h21 e22)) (Nat.le_trans hbw M30.size)⟩, (Mod.chg M77)⟩
     ·
      have h46 := md_ob M44 nin0 hmb
      refine sv rfl (v := .slice vA D.length vc) (r_load (k := 0) (by kernel_rfl) Ty.ag28 h46 (by kernel_rfl)) ?_
      refine ⟨M45, ?_⟩
      have h47 := (ORow.up hD (Mod.up M44))
      obtain ⟨A48, hs48, hq48⟩ := ORow.tailW (P := Tryz.prog) (k := i18 + 1) h47 (by omega) 28 38 Ty.un28 Ty.sz38
      refine hvq (i := 15) (fuel := 7) rfl (fun _ _ _ h => h) M45 rfl (v := .slice A48 ((D.length - (i18 + 1) : Nat)) ((vc - (i18 + 1) : Nat))) (fun _ _ => hq48 _ _ _ _ _ _ _ _ _ (by kernel_rfl) (by kernel_rfl)) ?_
      refine h1 (i := 5) (fuel := 6) (by kernel_rfl) rfl (sv rfl (v := .slice vA D.length vc) (r_load (k := 0) (by kernel_rfl) Ty.ag28 h46 (by kernel_rfl)) ?_)
      refine ⟨M45, ?_⟩
      have hq49 := (ORow.headCut (P := Tryz.prog) (k := i18) h47 (by omega) 28 38 Ty.un28 Ty.sz38).2
      refine hvq (i := 7) (fuel := 5) rfl (fun _ _ _ h => h) M45 rfl (v := .slice vA i18 vc) (fun _ _ => hq49 _ _ _ _ _ _ _ _ _ (by kernel_rfl) (by kernel_rfl)) ?_
      refine h1 (i := 8) (fuel := 4) (by kernel_rfl) rfl (apO rfl (by kernel_rfl) (by kernel_rfl) h38 (ORow.headCut (P := Tryz.prog) (k := i18) h47 (by omega) 28 38 Ty.un28 Ty.sz38).1 Ty.un28 hiO hzO hsO hbO hcO (by decide) (Nat.le_trans (Nat.le_trans hB M30.size) (Nat.le_refl _)) M45.size (by simp; omega) ?_)
      intro b50 n51 c52 w53 e54 h55 g56 c57
      have M58 := Mod.trans' M44 c57 (fun i hi => by injection hi with hi; rw [← hi]; exact g42)
      have M59 := Mod.trans' M45 c57 (fun i hi => by injection hi with hi; rw [← hi]; exact g43)
      obtain ⟨_, _, _, cg60, hg60, _⟩ := ORow.blk h55
      refine ⟨M59, ?_⟩
      have h61 := (ORow.up hD (Mod.up M58))
      refine h1 (i := 16) (fuel := 3) (by kernel_rfl) rfl (apO rfl (by kernel_rfl) (by kernel_rfl) h55 (hs48 _ h61) Ty.un28 hiO hzO hsO hbO hcO (by decide) (Nat.le_trans (Nat.le_trans hB M30.size) (Nat.le_refl _)) M59.size (by simp; omega) ?_)
      intro b62 n63 c64 w65 e66 h67 g68 c69
      have M70 := Mod.trans' M58 c69 (fun i hi => by injection hi with hi; rw [← hi]; exact (Nat.le_trans M30.size g56))
      have M71 := Mod.trans' M59 c69 (fun i hi => by injection hi with hi; rw [← hi]; exact g56)
      obtain ⟨_, _, _, cg72, hg72, _⟩ := ORow.blk h67
      refine ⟨M71, ?_⟩
      refine hvq (i := 17) (fuel := 2) rfl (fun _ _ _ h => h) M71 rfl (v := .pointer (some ⟨mb, 0, none⟩)) (fun _ _ => r_nilCheck (by kernel_rfl)) ?_
      refine hvq (i := 18) (fuel := 1) rfl (fun _ _ _ h => h) M71 rfl (v := .pointer (some ⟨mb, 0, none⟩)) (fun _ _ => r_fieldAddr (u := .pointer (some ⟨mb, 0, none⟩)) (by kernel_rfl) (fun _ => (by kernel_rfl))) ?_
      have h73 := md_ob M70 nin0 hmb
      refine h1 (i := 19) (fuel := 0) (by kernel_rfl) rfl (ss rfl (k := 0) (v := .slice (some ⟨b62, 0, none⟩) n63 c64) (vs := [.slice (some ⟨b62, 0, none⟩) n63 c64]) (cs' := [.slice (some ⟨b62, 0, none⟩) n63 c64]) (by kernel_rfl) (by kernel_rfl) rfl Ty.sz28 h73 rfl (Nat.le_of_ble_eq_true rfl) rfl ?_)
      intro w74 h75 c76
      have M77 := md_old M70 c76
      have M78 := Mod.trans M71 (Mod.of_chg c76 (by simp))
      refine ⟨M78, ?_⟩
      refine hend (by kernel_rfl) ?_
      refine then_n (wp_seq (rg_lit ?_))
      refine wmv (v := .int .i64 ((n12 : Int))) ?_
      refine was (v := .int .i64 ((n12 : Int))) ?_
      refine was (v := .int .i64 0) ?_
      refine wnil (then_n (wp_ret ?_))
      refine bodyPost_ret (v := .tuple #[.int .i64 ((n12 : Int)), .int .i64 0]) (res2 rfl (rv_t (by kernel_rfl)) (rv_t (by kernel_rfl))) (by kernel_rfl) ?_
      have h79 := (ORow.chgn h67 c76 ⟨hBm, NotU8.of h73 (by decide)⟩ (ORow.ne_old h67 (lt_ob h31)))
      exact ⟨_, _, rfl, ansR_ok h17 h14, ⟨_, h75, ORow.base (ORow.to h79 (by rw [List.nil_append]; exact cut_rem hsD h21 e22)) (Nat.le_trans hbw M30.size)⟩, (Mod.chg M77)⟩
    ·
     refine sv rfl (v := .slice vA D.length vc) (r_load (k := 0) (by kernel_rfl) Ty.ag28 h31 (by kernel_rfl)) ?_
     refine ⟨(Mod.refl [mb] w28), ?_⟩
     have hq34 := (ORow.headCut (P := Tryz.prog) (k := i18) h33 (by omega) 28 38 Ty.un28 Ty.sz38).2
     refine hvq (i := 7) (fuel := 8) rfl (fun _ _ _ h => h) (Mod.refl [mb] w28) rfl (v := .slice vA i18 vc) (fun _ _ => hq34 _ _ _ _ _ _ _ _ _ (by kernel_rfl) (by kernel_rfl)) ?_
     refine h2 (i := 1) (j := 12) (fuel := 7) (by kernel_rfl) rfl rfl ?_ ?_
     ·
      refine litO rfl (B := B) (base := w28.heap.size) Ty.un28 Ty.sz38 (Mod.refl [mb] w28).size ?_
      intro b35 w36 e37 h38 h39 u40
      have l41 : mb < b35 := by rw [e37]; exact lt_ob h31
      have l42 : b1 < b35 := by rw [e37]; exact lt_ob h32
      have g43 : w.heap.size ≤ b35 := by rw [e37]; exact M30.size
      have g44 : w28.heap.size ≤ b35 := by rw [e37]; exact (Mod.refl [mb] w28).size
      have M45 := Mod.trans M30 (Mod.of_up u40)
      have M46 := Mod.trans (Mod.refl [mb] w28) (Mod.of_up u40)
      refine ⟨M46, ?_⟩
      refine h2 (i := 8) (j := 12) (fuel := 6) (by kernel_rfl) rfl rfl ?_ ?_
      ·
       have h47 := (ORow.up hD (Mod.up M45))
       refine apO rfl (by kernel_rfl) (by kernel_rfl) h39 (ORow.headCut (P := Tryz.prog) (k := i18) h47 (by omega) 28 38 Ty.un28 Ty.sz38).1 Ty.un28 hiO hzO hsO hbO hcO (by decide) (Nat.le_trans (Nat.le_trans hB M30.size) (Nat.le_refl _)) M46.size (by simp; omega) ?_
       intro b48 n49 c50 w51 e52 h53 g54 c55
       have M56 := Mod.trans' M45 c55 (fun i hi => by injection hi with hi; rw [← hi]; exact g43)
       have M57 := Mod.trans' M46 c55 (fun i hi => by injection hi with hi; rw [← hi]; exact g44)
       obtain ⟨_, _, _, cg58, hg58, _⟩ := ORow.blk h53
       refine ⟨M57, ?_⟩
       have h59 := md_ob M56 nin0 hmb
       refine h1 (i := 12) (fuel := 5) (by kernel_rfl) rfl (sv rfl (v := .slice vA D.length vc) (r_load (k := 0) (by kernel_rfl) Ty.ag28 h59 (by kernel_rfl)) ?_)
       refine ⟨M57, ?_⟩
       have h60 := (ORow.up hD (Mod.up M56))
       obtain ⟨A61, hs61, hq61⟩ := ORow.tailW (P := Tryz.prog) (k := i18 + 1) h60 (by omega) 28 38 Ty.un28 Ty.sz38
       refine hvq (i := 15) (fuel := 4) rfl (fun _ _ _ h => h) M57 rfl (v := .slice A61 ((D.length - (i18 + 1) : Nat)) ((vc - (i18 + 1) : Nat))) (fun _ _ => hq61 _ _ _ _ _ _ _ _ _ (by kernel_rfl) (by kernel_rfl)) ?_
       refine h1 (i := 16) (fuel := 3) (by kernel_rfl) rfl (apO rfl (by kernel_rfl) (by kernel_rfl) h53 (hs61 _ h60) Ty.un28 hiO hzO hsO hbO hcO (by decide) (Nat.le_trans (Nat.le_trans hB M30.size) (Nat.le_refl _)) M57.size (by simp; omega) ?_)
       intro b62 n63 c64 w65 e66 h67 g68 c69
       have M70 := Mod.trans' M56 c69 (fun i hi => by injection hi with hi; rw [← hi]; exact (Nat.le_trans M30.size g54))
       have M71 := Mod.trans' M57 c69 (fun i hi => by injection hi with hi; rw [← hi]; exact g54)
       obtain ⟨_, _, _, cg72, hg72, _⟩ := ORow.blk h67
       refine ⟨M71, ?_⟩
       refine hvq (i := 17) (fuel := 2) rfl (fun _ _ _ h => h) M71 rfl (v := .pointer (some ⟨mb, 0, none⟩)) (fun _ _ => r_nilCheck (by kernel_rfl)) ?_
       refine hvq (i := 18) (fuel := 1) rfl (fun _ _ _ h => h) M71 rfl (v := .pointer (some ⟨mb, 0, none⟩)) (fun _ _ => r_fieldAddr (u := .pointer (some ⟨mb, 0, none⟩)) (by kernel_rfl) (fun _ => (by kernel_rfl))) ?_
       have h73 := md_ob M70 nin0 hmb
       refine h1 (i := 19) (fuel := 0) (by kernel_rfl) rfl (ss rfl (k := 0) (v := .slice (some ⟨b62, 0, none⟩) n63 c64) (vs := [.slice (some ⟨b62, 0, none⟩) n63 c64]) (cs' := [.slice (some ⟨b62, 0, none⟩) n63 c64]) (by kernel_rfl) (by kernel_rfl) rfl Ty.sz28 h73 rfl (Nat.le_of_ble_eq_true rfl) rfl ?_)
       intro w74 h75 c76
       have M77 := md_old M70 c76
       have M78 := Mod.trans M71 (Mod.of_chg c76 (by simp))
       refine ⟨M78, ?_⟩
       refine hend (by kernel_rfl) ?_
       refine then_n (wp_seq (rg_lit ?_))
       refine wmv (v := .int .i64 ((n12 : Int))) ?_
       refine was (v := .int .i64 ((n12 : Int))) ?_
       refine was (v := .int .i64 0) ?_
       refine wnil (then_n (wp_ret ?_))
       refine bodyPost_ret (v := .tuple #[.int .i64 ((n12 : Int)), .int .i64 0]) (res2 rfl (rv_t (by kernel_rfl)) (rv_t (by kernel_rfl))) (by kernel_rfl) ?_
       have h79 := (ORow.chgn h67 c76 ⟨hBm, NotU8.of h73 (by decide)⟩ (ORow.ne_old h67 (lt_ob h31)))
       exact ⟨_, _, rfl, ansR_ok h17 h14, ⟨_, h75, ORow.base (ORow.to h79 (by rw [List.nil_append]; exact cut_rem hsD h21 e22)) (Nat.le_trans hbw M30.size)⟩, (Mod.chg M77)⟩
      ·
       have h47 := md_ob M45 nin0 hmb
       refine sv rfl (v := .slice vA D.length vc) (r_load (k := 0) (by kernel_rfl) Ty.ag28 h47 (by kernel_rfl)) ?_
       refine ⟨M46, ?_⟩
       have h48 := (ORow.up hD (Mod.up M45))
       obtain ⟨A49, hs49, hq49⟩ := ORow.tailW (P := Tryz.prog) (k := i18 + 1) h48 (by omega) 28 38 Ty.un28 Ty.sz38
       refine hvq (i := 15) (fuel := 5) rfl (fun _ _ _ h => h) M46 rfl (v := .slice A49 ((D.length - (i18 + 1) : Nat)) ((vc - (i18 + 1) : Nat))) (fun _ _ => hq49 _ _ _ _ _ _ _ _ _ (by kernel_rfl) (by kernel_rfl)) ?_
       refine h1 (i := 8) (fuel := 4) (by kernel_rfl) rfl (apO rfl (by kernel_rfl) (by kernel_rfl) h39 (ORow.headCut (P := Tryz.prog) (k := i18) h48 (by omega) 28 38 Ty.un28 Ty.sz38).1 Ty.un28 hiO hzO hsO hbO hcO (by decide) (Nat.le_trans (Nat.le_trans hB M30.size) (Nat.le_refl _)) M46.size (by simp; omega) ?_)
       intro b50 n51 c52 w53 e54 h55 g56 c57
       have M58 := Mod.trans' M45 c57 (fun i hi => by injection hi with hi; rw [← hi]; exact g43)
       have M59 := Mod.trans' M46 c57 (fun i hi => by injection hi with hi; rw [← hi]; exact g44)
       obtain ⟨_, _, _, cg60, hg60, _⟩ := ORow.blk h55
       refine ⟨M59, ?_⟩
       have h61 := (ORow.up hD (Mod.up M58))
       refine h1 (i := 16) (fuel := 3) (by kernel_rfl) rfl (apO rfl (by kernel_rfl) (by kernel_rfl) h55 (hs49 _ h61) Ty.un28 hiO hzO hsO hbO hcO (by decide) (Nat.le_trans (Nat.le_trans hB M30.size) (Nat.le_refl _)) M59.size (by simp; omega) ?_)
       intro b62 n63 c64 w65 e66 h67 g68 c69
       have M70 := Mod.trans' M58 c69 (fun i hi => by injection hi with hi; rw [← hi]; exact (Nat.le_trans M30.size g56))
       have M71 := Mod.trans' M59 c69 (fun i hi => by injection hi with hi; rw [← hi]; exact g56)
       obtain ⟨_, _, _, cg72, hg72, _⟩ := ORow.blk h67
       refine ⟨M71, ?_⟩
       refine hvq (i := 17) (fuel := 2) rfl (fun _ _ _ h => h) M71 rfl (v := .pointer (some ⟨mb, 0, none⟩)) (fun _ _ => r_nilCheck (by kernel_rfl)) ?_
       refine hvq (i := 18) (fuel := 1) rfl (fun _ _ _ h => h) M71 rfl (v := .pointer (some ⟨mb, 0, none⟩)) (fun _ _ => r_fieldAddr (u := .pointer (some ⟨mb, 0, none⟩)) (by kernel_rfl) (fun _ => (by kernel_rfl))) ?_
       have h73 := md_ob M70 nin0 hmb
       refine h1 (i := 19) (fuel := 0) (by kernel_rfl) rfl (ss rfl (k := 0) (v := .slice (some ⟨b62, 0, none⟩) n63 c64) (vs := [.slice (some ⟨b62, 0, none⟩) n63 c64]) (cs' := [.slice (some ⟨b62, 0, none⟩) n63 c64]) (by kernel_rfl) (by kernel_rfl) rfl Ty.sz28 h73 rfl (Nat.le_of_ble_eq_true rfl) rfl ?_)
       intro w74 h75 c76
       have M77 := md_old M70 c76
       have M78 := Mod.trans M71 (Mod.of_chg c76 (by simp))
       refine ⟨M78, ?_⟩
       refine hend (by kernel_rfl) ?_
       refine then_n (wp_seq (rg_lit ?_))
       refine wmv (v := .int .i64 ((n12 : Int))) ?_
       refine was (v := .int .i64 ((n12 : Int))) ?_
       refine was (v := .int .i64 0) ?_
       refine wnil (then_n (wp_ret ?_))
       refine bodyPost_ret (v := .tuple #[.int .i64 ((n12 : Int)), .int .i64 0]) (res2 rfl (rv_t (by kernel_rfl)) (rv_t (by kernel_rfl))) (by kernel_rfl) ?_
       have h79 := (ORow.chgn h67 c76 ⟨hBm, NotU8.of h73 (by decide)⟩ (ORow.ne_old h67 (lt_ob h31)))
       exact ⟨_, _, rfl, ansR_ok h17 h14, ⟨_, h75, ORow.base (ORow.to h79 (by rw [List.nil_append]; exact cut_rem hsD h21 e22)) (Nat.le_trans hbw M30.size)⟩, (Mod.chg M77)⟩
     ·
      refine sv rfl (v := .slice vA D.length vc) (r_load (k := 0) (by kernel_rfl) Ty.ag28 h31 (by kernel_rfl)) ?_
      refine ⟨(Mod.refl [mb] w28), ?_⟩
      obtain ⟨A35, hs35, hq35⟩ := ORow.tailW (P := Tryz.prog) (k := i18 + 1) h33 (by omega) 28 38 Ty.un28 Ty.sz38
      refine hvq (i := 15) (fuel := 6) rfl (fun _ _ _ h => h) (Mod.refl [mb] w28) rfl (v := .slice A35 ((D.length - (i18 + 1) : Nat)) ((vc - (i18 + 1) : Nat))) (fun _ _ => hq35 _ _ _ _ _ _ _ _ _ (by kernel_rfl) (by kernel_rfl)) ?_
      refine h1 (i := 1) (fuel := 5) (by kernel_rfl) rfl (litO rfl (B := B) (base := w28.heap.size) Ty.un28 Ty.sz38 (Mod.refl [mb] w28).size ?_)
      intro b36 w37 e38 h39 h40 u41
      have l42 : mb < b36 := by rw [e38]; exact lt_ob h31
      have l43 : b1 < b36 := by rw [e38]; exact lt_ob h32
      have g44 : w.heap.size ≤ b36 := by rw [e38]; exact M30.size
      have g45 : w28.heap.size ≤ b36 := by rw [e38]; exact (Mod.refl [mb] w28).size
      have M46 := Mod.trans M30 (Mod.of_up u41)
      have M47 := Mod.trans (Mod.refl [mb] w28) (Mod.of_up u41)
      refine ⟨M47, ?_⟩
      have h48 := (ORow.up hD (Mod.up M46))
      refine h1 (i := 8) (fuel := 4) (by kernel_rfl) rfl (apO rfl (by kernel_rfl) (by kernel_rfl) h40 (ORow.headCut (P := Tryz.prog) (k := i18) h48 (by omega) 28 38 Ty.un28 Ty.sz38).1 Ty.un28 hiO hzO hsO hbO hcO (by decide) (Nat.le_trans (Nat.le_trans hB M30.size) (Nat.le_refl _)) M47.size (by simp; omega) ?_)
      intro b49 n50 c51 w52 e53 h54 g55 c56
      have M57 := Mod.trans' M46 c56 (fun i hi => by injection hi with hi; rw [← hi]; exact g44)
      have M58 := Mod.trans' M47 c56 (fun i hi => by injection hi with hi; rw [← hi]; exact g45)
      obtain ⟨_, _, _, cg59, hg59, _⟩ := ORow.blk h54
      refine ⟨M58, ?_⟩
      have h60 := (ORow.up hD (Mod.up M57))
      refine h1 (i := 16) (fuel := 3) (by kernel_rfl) rfl (apO rfl (by kernel_rfl) (by kernel_rfl) h54 (hs35 _ h60) Ty.un28 hiO hzO hsO hbO hcO (by decide) (Nat.le_trans (Nat.le_trans hB M30.size) (Nat.le_refl _)) M58.size (by simp; omega) ?_)
      intro b61 n62 c63 w64 e65 h66 g67 c68
      have M69 := Mod.trans' M57 c68 (fun i hi => by injection hi with hi; rw [← hi]; exact (Nat.le_trans M30.size g55))
      have M70 := Mod.trans' M58 c68 (fun i hi => by injection hi with hi; rw [← hi]; exact g55)
      obtain ⟨_, _, _, cg71, hg71, _⟩ := ORow.blk h66
      refine ⟨M70, ?_⟩
      refine hvq (i := 17) (fuel := 2) rfl (fun _ _ _ h => h) M70 rfl (v := .pointer (some ⟨mb, 0, none⟩)) (fun _ _ => r_nilCheck (by kernel_rfl)) ?_
      refine hvq (i := 18) (fuel := 1) rfl (fun _ _ _ h => h) M70 rfl (v := .pointer (some ⟨mb, 0, none⟩)) (fun _ _ => r_fieldAddr (u := .pointer (some ⟨mb, 0, none⟩)) (by kernel_rfl) (fun _ => (by kernel_rfl))) ?_
      have h72 := md_ob M69 nin0 hmb
      refine h1 (i := 19) (fuel := 0) (by kernel_rfl) rfl (ss rfl (k := 0) (v := .slice (some ⟨b61, 0, none⟩) n62 c63) (vs := [.slice (some ⟨b61, 0, none⟩) n62 c63]) (cs' := [.slice (some ⟨b61, 0, none⟩) n62 c63]) (by kernel_rfl) (by kernel_rfl) rfl Ty.sz28 h72 rfl (Nat.le_of_ble_eq_true rfl) rfl ?_)
      intro w73 h74 c75
      have M76 := md_old M69 c75
      have M77 := Mod.trans M70 (Mod.of_chg c75 (by simp))
      refine ⟨M77, ?_⟩
      refine hend (by kernel_rfl) ?_
      refine then_n (wp_seq (rg_lit ?_))
      refine wmv (v := .int .i64 ((n12 : Int))) ?_
      refine was (v := .int .i64 ((n12 : Int))) ?_
      refine was (v := .int .i64 0) ?_
      refine wnil (then_n (wp_ret ?_))
      refine bodyPost_ret (v := .tuple #[.int .i64 ((n12 : Int)), .int .i64 0]) (res2 rfl (rv_t (by kernel_rfl)) (rv_t (by kernel_rfl))) (by kernel_rfl) ?_
      have h78 := (ORow.chgn h66 c75 ⟨hBm, NotU8.of h72 (by decide)⟩ (ORow.ne_old h66 (lt_ob h31)))
      exact ⟨_, _, rfl, ansR_ok h17 h14, ⟨_, h74, ORow.base (ORow.to h78 (by rw [List.nil_append]; exact cut_rem hsD h21 e22)) (Nat.le_trans hbw M30.size)⟩, (Mod.chg M76)⟩
    ·
     refine sv rfl (v := .slice vA D.length vc) (r_load (k := 0) (by kernel_rfl) Ty.ag28 h31 (by kernel_rfl)) ?_
     refine ⟨(Mod.refl [mb] w28), ?_⟩
     obtain ⟨A34, hs34, hq34⟩ := ORow.tailW (P := Tryz.prog) (k := i18 + 1) h33 (by omega) 28 38 Ty.un28 Ty.sz38
     refine hvq (i := 15) (fuel := 8) rfl (fun _ _ _ h => h) (Mod.refl [mb] w28) rfl (v := .slice A34 ((D.length - (i18 + 1) : Nat)) ((vc - (i18 + 1) : Nat))) (fun _ _ => hq34 _ _ _ _ _ _ _ _ _ (by kernel_rfl) (by kernel_rfl)) ?_
     refine h2 (i := 1) (j := 5) (fuel := 7) (by kernel_rfl) rfl rfl ?_ ?_
     ·
      refine litO rfl (B := B) (base := w28.heap.size) Ty.un28 Ty.sz38 (Mod.refl [mb] w28).size ?_
      intro b35 w36 e37 h38 h39 u40
      have l41 : mb < b35 := by rw [e37]; exact lt_ob h31
      have l42 : b1 < b35 := by rw [e37]; exact lt_ob h32
      have g43 : w.heap.size ≤ b35 := by rw [e37]; exact M30.size
      have g44 : w28.heap.size ≤ b35 := by rw [e37]; exact (Mod.refl [mb] w28).size
      have M45 := Mod.trans M30 (Mod.of_up u40)
      have M46 := Mod.trans (Mod.refl [mb] w28) (Mod.of_up u40)
      refine ⟨M46, ?_⟩
      have h47 := md_ob M45 nin0 hmb
      refine h1 (i := 5) (fuel := 6) (by kernel_rfl) rfl (sv rfl (v := .slice vA D.length vc) (r_load (k := 0) (by kernel_rfl) Ty.ag28 h47 (by kernel_rfl)) ?_)
      refine ⟨M46, ?_⟩
      have h48 := (ORow.up hD (Mod.up M45))
      have hq49 := (ORow.headCut (P := Tryz.prog) (k := i18) h48 (by omega) 28 38 Ty.un28 Ty.sz38).2
      refine hvq (i := 7) (fuel := 5) rfl (fun _ _ _ h => h) M46 rfl (v := .slice vA i18 vc) (fun _ _ => hq49 _ _ _ _ _ _ _ _ _ (by kernel_rfl) (by kernel_rfl)) ?_
      refine h1 (i := 8) (fuel := 4) (by kernel_rfl) rfl (apO rfl (by kernel_rfl) (by kernel_rfl) h39 (ORow.headCut (P := Tryz.prog) (k := i18) h48 (by omega) 28 38 Ty.un28 Ty.sz38).1 Ty.un28 hiO hzO hsO hbO hcO (by decide) (Nat.le_trans (Nat.le_trans hB M30.size) (Nat.le_refl _)) M46.size (by simp; omega) ?_)
      intro b50 n51 c52 w53 e54 h55 g56 c57
      have M58 := Mod.trans' M45 c57 (fun i hi => by injection hi with hi; rw [← hi]; exact g43)
      have M59 := Mod.trans' M46 c57 (fun i hi => by injection hi with hi; rw [← hi]; exact g44)
      obtain ⟨_, _, _, cg60, hg60, _⟩ := ORow.blk h55
      refine ⟨M59, ?_⟩
      have h61 := (ORow.up hD (Mod.up M58))
      refine h1 (i := 16) (fuel := 3) (by kernel_rfl) rfl (apO rfl (by kernel_rfl) (by kernel_rfl) h55 (hs34 _ h61) Ty.un28 hiO hzO hsO hbO hcO (by decide) (Nat.le_trans (Nat.le_trans hB M30.size) (Nat.le_refl _)) M59.size (by simp; omega) ?_)
      intro b62 n63 c64 w65 e66 h67 g68 c69
      have M70 := Mod.trans' M58 c69 (fun i hi => by injection hi with hi; rw [← hi]; exact (Nat.le_trans M30.size g56))
      have M71 := Mod.trans' M59 c69 (fun i hi => by injection hi with hi; rw [← hi]; exact g56)
      obtain ⟨_, _, _, cg72, hg72, _⟩ := ORow.blk h67
      refine ⟨M71, ?_⟩
      refine hvq (i := 17) (fuel := 2) rfl (fun _ _ _ h => h) M71 rfl (v := .pointer (some ⟨mb, 0, none⟩)) (fun _ _ => r_nilCheck (by kernel_rfl)) ?_
      refine hvq (i := 18) (fuel := 1) rfl (fun _ _ _ h => h) M71 rfl (v := .pointer (some ⟨mb, 0, none⟩)) (fun _ _ => r_fieldAddr (u := .pointer (some ⟨mb, 0, none⟩)) (by kernel_rfl) (fun _ => (by kernel_rfl))) ?_
      have h73 := md_ob M70 nin0 hmb
      refine h1 (i := 19) (fuel := 0) (by kernel_rfl) rfl (ss rfl (k := 0) (v := .slice (some ⟨b62, 0, none⟩) n63 c64) (vs := [.slice (some ⟨b62, 0, none⟩) n63 c64]) (cs' := [.slice (some ⟨b62, 0, none⟩) n63 c64]) (by kernel_rfl) (by kernel_rfl) rfl Ty.sz28 h73 rfl (Nat.le_of_ble_eq_true rfl) rfl ?_)
      intro w74 h75 c76
      have M77 := md_old M70 c76
      have M78 := Mod.trans M71 (Mod.of_chg c76 (by simp))
      refine ⟨M78, ?_⟩
      refine hend (by kernel_rfl) ?_
      refine then_n (wp_seq (rg_lit ?_))
      refine wmv (v := .int .i64 ((n12 : Int))) ?_
      refine was (v := .int .i64 ((n12 : Int))) ?_
      refine was (v := .int .i64 0) ?_
      refine wnil (then_n (wp_ret ?_))
      refine bodyPost_ret (v := .tuple #[.int .i64 ((n12 : Int)), .int .i64 0]) (res2 rfl (rv_t (by kernel_rfl)) (rv_t (by kernel_rfl))) (by kernel_rfl) ?_
      have h79 := (ORow.chgn h67 c76 ⟨hBm, NotU8.of h73 (by decide)⟩ (ORow.ne_old h67 (lt_ob h31)))
      exact ⟨_, _, rfl, ansR_ok h17 h14, ⟨_, h75, ORow.base (ORow.to h79 (by rw [List.nil_append]; exact cut_rem hsD h21 e22)) (Nat.le_trans hbw M30.size)⟩, (Mod.chg M77)⟩
     ·
      refine sv rfl (v := .slice vA D.length vc) (r_load (k := 0) (by kernel_rfl) Ty.ag28 h31 (by kernel_rfl)) ?_
      refine ⟨(Mod.refl [mb] w28), ?_⟩
      have hq35 := (ORow.headCut (P := Tryz.prog) (k := i18) h33 (by omega) 28 38 Ty.un28 Ty.sz38).2
      refine hvq (i := 7) (fuel := 6) rfl (fun _ _ _ h => h) (Mod.refl [mb] w28) rfl (v := .slice vA i18 vc) (fun _ _ => hq35 _ _ _ _ _ _ _ _ _ (by kernel_rfl) (by kernel_rfl)) ?_
      refine h1 (i := 1) (fuel := 5) (by kernel_rfl) rfl (litO rfl (B := B) (base := w28.heap.size) Ty.un28 Ty.sz38 (Mod.refl [mb] w28).size ?_)
      intro b36 w37 e38 h39 h40 u41
      have l42 : mb < b36 := by rw [e38]; exact lt_ob h31
      have l43 : b1 < b36 := by rw [e38]; exact lt_ob h32
      have g44 : w.heap.size ≤ b36 := by rw [e38]; exact M30.size
      have g45 : w28.heap.size ≤ b36 := by rw [e38]; exact (Mod.refl [mb] w28).size
      have M46 := Mod.trans M30 (Mod.of_up u41)
      have M47 := Mod.trans (Mod.refl [mb] w28) (Mod.of_up u41)
      refine ⟨M47, ?_⟩
      have h48 := (ORow.up hD (Mod.up M46))
      refine h1 (i := 8) (fuel := 4) (by kernel_rfl) rfl (apO rfl (by kernel_rfl) (by kernel_rfl) h40 (ORow.headCut (P := Tryz.prog) (k := i18) h48 (by omega) 28 38 Ty.un28 Ty.sz38).1 Ty.un28 hiO hzO hsO hbO hcO (by decide) (Nat.le_trans (Nat.le_trans hB M30.size) (Nat.le_refl _)) M47.size (by simp; omega) ?_)
      intro b49 n50 c51 w52 e53 h54 g55 c56
      have M57 := Mod.trans' M46 c56 (fun i hi => by injection hi with hi; rw [← hi]; exact g44)
      have M58 := Mod.trans' M47 c56 (fun i hi => by injection hi with hi; rw [← hi]; exact g45)
      obtain ⟨_, _, _, cg59, hg59, _⟩ := ORow.blk h54
      refine ⟨M58, ?_⟩
      have h60 := (ORow.up hD (Mod.up M57))
      refine h1 (i := 16) (fuel := 3) (by kernel_rfl) rfl (apO rfl (by kernel_rfl) (by kernel_rfl) h54 (hs34 _ h60) Ty.un28 hiO hzO hsO hbO hcO (by decide) (Nat.le_trans (Nat.le_trans hB M30.size) (Nat.le_refl _)) M58.size (by simp; omega) ?_)
      intro b61 n62 c63 w64 e65 h66 g67 c68
      have M69 := Mod.trans' M57 c68 (fun i hi => by injection hi with hi; rw [← hi]; exact (Nat.le_trans M30.size g55))
      have M70 := Mod.trans' M58 c68 (fun i hi => by injection hi with hi; rw [← hi]; exact g55)
      obtain ⟨_, _, _, cg71, hg71, _⟩ := ORow.blk h66
      refine ⟨M70, ?_⟩
      refine hvq (i := 17) (fuel := 2) rfl (fun _ _ _ h => h) M70 rfl (v := .pointer (some ⟨mb, 0, none⟩)) (fun _ _ => r_nilCheck (by kernel_rfl)) ?_
      refine hvq (i := 18) (fuel := 1) rfl (fun _ _ _ h => h) M70 rfl (v := .pointer (some ⟨mb, 0, none⟩)) (fun _ _ => r_fieldAddr (u := .pointer (some ⟨mb, 0, none⟩)) (by kernel_rfl) (fun _ => (by kernel_rfl))) ?_
      have h72 := md_ob M69 nin0 hmb
      refine h1 (i := 19) (fuel := 0) (by kernel_rfl) rfl (ss rfl (k := 0) (v := .slice (some ⟨b61, 0, none⟩) n62 c63) (vs := [.slice (some ⟨b61, 0, none⟩) n62 c63]) (cs' := [.slice (some ⟨b61, 0, none⟩) n62 c63]) (by kernel_rfl) (by kernel_rfl) rfl Ty.sz28 h72 rfl (Nat.le_of_ble_eq_true rfl) rfl ?_)
      intro w73 h74 c75
      have M76 := md_old M69 c75
      have M77 := Mod.trans M70 (Mod.of_chg c75 (by simp))
      refine ⟨M77, ?_⟩
      refine hend (by kernel_rfl) ?_
      refine then_n (wp_seq (rg_lit ?_))
      refine wmv (v := .int .i64 ((n12 : Int))) ?_
      refine was (v := .int .i64 ((n12 : Int))) ?_
      refine was (v := .int .i64 0) ?_
      refine wnil (then_n (wp_ret ?_))
      refine bodyPost_ret (v := .tuple #[.int .i64 ((n12 : Int)), .int .i64 0]) (res2 rfl (rv_t (by kernel_rfl)) (rv_t (by kernel_rfl))) (by kernel_rfl) ?_
      have h78 := (ORow.chgn h66 c75 ⟨hBm, NotU8.of h72 (by decide)⟩ (ORow.ne_old h66 (lt_ob h31)))
      exact ⟨_, _, rfl, ansR_ok h17 h14, ⟨_, h74, ORow.base (ORow.to h78 (by rw [List.nil_append]; exact cut_rem hsD h21 e22)) (Nat.le_trans hbw M30.size)⟩, (Mod.chg M76)⟩
   have p27 := of_decide_eq_true (k25.trans v26)
   omega
end Go.Proofs.YtefhfoioeoijlaaGreat

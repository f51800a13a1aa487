/- GPB: printed by gen.py -/
import Derived.Test.YtefhfoioeoijlaaGreatGPA
set_option linter.unusedVariables false
set_option linter.unusedSimpArgs false
namespace Go.Proofs.YtefhfoioeoijlaaGreat
open Go Go.RowKit Go.Sort
set_option maxRecDepth 20000 in
set_option maxHeartbeats 2000000 in
theorem rins_at {B base : Nat} {w : World} {mb vc : Nat} {vA : Option Addr} {D : List OpD} (hmb : w.heap[mb]? = some (.cells #[.slice vA D.length vc] 30 (0, 0))) (hD : ORow 38 B base w (.slice vA D.length vc) D) (hn : D.length ≤ 10000) (hBm : B ≤ mb) (hmb0 : mb < base) (hbw : base ≤ w.heap.size) (hBw : B ≤ w.heap.size) (hsD : SrtO D) (hnm : ∀ x ∈ D, x.name.size ≤ 9223372036854775807) (o : OpD) (oA : Option Addr) (on oc : Nat) (hol : o.data.length = on) (hdo : Dat B w (.slice oA on oc) o.data) (hno : o.name.size ≤ 9223372036854775807) :
    Calls Tryz.prog 9 #[trP mb, opV o (.slice oA on oc)] w fun e w' => ∃ nn kk, e = .returned (.tuple #[.int .i64 nn, .int .i64 kk]) ∧ ansI D o nn kk ∧ RLog B base w' mb (insL D o) ∧ Chg w w' mb := by
  obtain ⟨iO, zO, hiO, hzO, hsO, hbO, hcO⟩ := info_op
  have hB := hBw
  go_enter Tryz.func9, Tryz.ntmps9
  refine wp_seq (rg_lit ?_)
  refine wl (sn rfl (cs := (opC o (.slice oA on oc)).toArray) (T := 38) (V := fun b => .pointer (some ⟨b, 0, none⟩)) (r_box (v := opV o (.slice oA on oc)) (by kernel_rfl) rfl) ?_)
  intro b1 w2 e3 h4 u5
  have l6 : mb < b1 := by rw [e3]; exact lt_ob hmb
  have g7 : w.heap.size ≤ b1 := by rw [e3]; exact (Mod.refl [] w).size
  have M8 := Mod.trans (Mod.refl [] w) (Mod.of_up u5)
  refine was (v := .int .i64 0) ?_
  refine was (v := .int .i64 0) ?_
  refine wnil (then_n (wp_seq (wp_seq (rg_lit ?_))))
  refine wl (sv rfl (v := opV o (.slice oA on oc)) (r_loads (k := 0) (by kernel_rfl) Ty.ag38 Ty.sz38 h4 (by kernel_rfl)) ?_)
  refine wl (sc rfl (r_callv (caps := []) (all := [opV o (.slice oA on oc)]) En.f25 (by kernel_rfl) (by kernel_rfl)) (r15right_any o oA on oc hol hno _) ?_)
  rintro e w9 ⟨rfl, u10⟩
  refine ⟨.bool ((rightB o)), rfl, ?_⟩
  have M11 := Mod.trans M8 (Mod.of_up u10)
  refine wl (sv rfl (v := .bool (!((rightB o)))) (r_not (b := ((rightB o))) (by kernel_rfl)) ?_)
  refine wnil (then_n ?_)
  refine bcase ((rightB o)) (fun v12 => ?_) (fun v12 => ?_)
  ·
   refine wp_cond_true (ebool (b := !((rightB o))) (by kernel_rfl) (bneg v12)) ?_
   refine wp_seq (rg_lit ?_)
   refine was (v := .int .i64 0) ?_
   refine was (v := .int .i64 1) ?_
   refine wnil (then_n (wp_ret (then_x (by nofun) ?_)))
   refine bodyPost_ret (v := .tuple #[.int .i64 0, .int .i64 1]) (res2 rfl (rv_t (by kernel_rfl)) (rv_t (by kernel_rfl))) (by kernel_rfl) ?_
   have h13 := md_ob M11 nin0 hmb
   have h14 := (ORow.up hD (Mod.up M11))
   exact ⟨0, 1, rfl, ansI_bad v12, ⟨_, h13, ORow.to h14 (insL_bad v12).symm⟩, (to_chg (Mod.up M11) mb)⟩
  refine wp_cond_false (ebool (b := !((rightB o))) (by kernel_rfl) (bneg v12)) ?_
  refine wp_skip (then_n (wp_seq (rg_lit ?_)))
  refine wmv (v := .pointer (some ⟨mb, 0, none⟩)) ?_
  refine wl (sv rfl (v := .pointer (some ⟨b1, 1, none⟩)) (r_fieldAddr (u := .pointer (some ⟨b1, 0, none⟩)) (by kernel_rfl) (fun _ => (by kernel_rfl))) ?_)
  have h13 := (up_ob u10 h4)
  refine wl (sv rfl (v := .agg #[.int .i64 o.at_.t, .int .i64 o.at_.w]) (r_loads (k := 1) (by kernel_rfl) Ty.ag35 Ty.sz35 h13 (by kernel_rfl)) ?_)
  have h14 := md_ob M11 nin0 hmb
  have h15 := (ORow.up hD (Mod.up M11))
  refine wl (sc rfl (r_callv (caps := []) (all := [.pointer (some ⟨mb, 0, none⟩), .agg #[.int .i64 o.at_.t, .int .i64 o.at_.w]]) En.f24 (by kernel_rfl) (by kernel_rfl)) (behind_at h14 h15 (by omega) o.at_.t o.at_.w) ?_)
  rintro e w16 ⟨n17, p18, rfl, h19, h20, u21⟩
  rcases plp_end h20 rfl with ⟨rfl, h22⟩ | ⟨i23, x24, rfl, l25, h26, e27, h22⟩
  ·
   refine ⟨.tuple #[.int .i64 ((n17 : Int)), .int .i64 (-1)], rfl, ?_⟩
   have M28 := Mod.trans M11 (Mod.of_up u21)
   refine wmv (v := .tuple #[.int .i64 ((n17 : Int)), .int .i64 (-1)]) ?_
   refine wl (sv rfl (v := .int .i64 ((n17 : Int))) (r_extract (vs := [.int .i64 ((n17 : Int)), .int .i64 (-1)]) (by kernel_rfl) rfl) ?_)
   refine wl (sv rfl (v := .int .i64 (-1)) (r_extract (vs := [.int .i64 ((n17 : Int)), .int .i64 (-1)]) (by kernel_rfl) rfl) ?_)
   refine was (v := .int .i64 ((n17 : Int))) ?_
   refine was (v := .int .i64 (-1)) ?_
   refine wnil (then_n (wp_seq (wp_seq (rg_lit ?_))))
   refine wmv (v := .int .i64 (-1)) ?_
   refine wl (sv (w' := w16) rfl (v := .bool false) (by kernel_rfl) ?_)
   refine wnil (then_n ?_)
   refine wp_cond_false (by kernel_rfl) ?_
   refine wp_skip (then_n (wp_seq ?_))
   refine rg_held [mb] (n := 14) (by kernel_rfl) rfl ?_
   intro w29 u30
   have M31 := Mod.trans M28 (Mod.of_up u30)
   have h32 := md_ob M31 nin0 hmb
   have h33 := (up_ob u30 (up_ob u21 h13))
   have h34 := (ORow.up hD (Mod.up M31))
   have h35 := (Dat.up hdo (Mod.up M31))
   refine hvq (i := 0) (fuel := 13) rfl (fun _ _ _ h => h) (Mod.refl [mb] w29) rfl (v := .pointer (some ⟨mb, 0, none⟩)) (fun _ _ => r_move (by kernel_rfl)) ?_
   refine hvq (i := 2) (fuel := 12) rfl (fun _ _ _ h => h) (Mod.refl [mb] w29) rfl (v := .pointer (some ⟨mb, 0, none⟩)) (fun _ _ => r_move (by kernel_rfl)) ?_
   refine hvq (i := 3) (fuel := 11) rfl (fun _ _ _ h => h) (Mod.refl [mb] w29) rfl (v := .pointer (some ⟨mb, 0, none⟩)) (fun _ _ => r_nilCheck (by kernel_rfl)) ?_
   refine hvq (i := 4) (fuel := 10) rfl (fun _ _ _ h => h) (Mod.refl [mb] w29) rfl (v := .pointer (some ⟨mb, 0, none⟩)) (fun _ _ => r_fieldAddr (u := .pointer (some ⟨mb, 0, none⟩)) (by kernel_rfl) (fun _ => (by kernel_rfl))) ?_
   refine hvq (i := 7) (fuel := 9) rfl (fun _ _ _ h => h) (Mod.refl [mb] w29) rfl (v := opV o (.slice oA on oc)) (fun _ uz => r_loads (k := 0) (by kernel_rfl) Ty.ag38 Ty.sz38 (md_ob uz (nin1 (Nat.ne_of_gt l6)) h33) (by kernel_rfl)) ?_
   refine h3 (i := 1) (j := 5) (k := 8) (fuel := 8) (by kernel_rfl) rfl rfl rfl ?_ ?_ ?_
   ·
    refine litO rfl (B := B) (base := w29.heap.size) Ty.un28 Ty.sz38 (Mod.refl [mb] w29).size ?_
    intro b36 w37 e38 h39 h40 u41
    have l42 : mb < b36 := by rw [e38]; exact lt_ob h32
    have l43 : b1 < b36 := by rw [e38]; exact lt_ob h33
    have g44 : w.heap.size ≤ b36 := by rw [e38]; exact M31.size
    have g45 : w29.heap.size ≤ b36 := by rw [e38]; exact (Mod.refl [mb] w29).size
    have M46 := Mod.trans M31 (Mod.of_up u41)
    have M47 := Mod.trans (Mod.refl [mb] w29) (Mod.of_up u41)
    refine ⟨M47, ?_⟩
    refine h2 (i := 5) (j := 8) (fuel := 7) (by kernel_rfl) rfl rfl ?_ ?_
    ·
     have h48 := md_ob M46 nin0 hmb
     refine sv rfl (v := .slice vA D.length vc) (r_load (k := 0) (by kernel_rfl) Ty.ag28 h48 (by kernel_rfl)) ?_
     refine ⟨M47, ?_⟩
     refine h2 (i := 6) (j := 8) (fuel := 6) (by kernel_rfl) rfl rfl ?_ ?_
     ·
      have h49 := (ORow.up hD (Mod.up M46))
      refine apO rfl (by kernel_rfl) (by kernel_rfl) h40 (OpRow.sub (c := vc) (ORow.ops h49 hnm)) Ty.un28 hiO hzO hsO hbO hcO (by decide) (Nat.le_trans (Nat.le_trans hB M31.size) (Nat.le_refl _)) M47.size (by simp; omega) ?_
      intro b50 n51 c52 w53 e54 h55 g56 c57
      have M58 := Mod.trans' M46 c57 (fun i hi => by injection hi with hi; rw [← hi]; exact g44)
      have M59 := Mod.trans' M47 c57 (fun i hi => by injection hi with hi; rw [← hi]; exact g45)
      obtain ⟨_, _, _, cg60, hg60, _⟩ := ORow.blk h55
      refine ⟨M59, ?_⟩
      refine h1 (i := 8) (fuel := 5) (by kernel_rfl) rfl (sn rfl (cs := (opC o (.slice oA on oc)).toArray) (T := 38) (V := fun b => .slice (some ⟨b, 0, none⟩) 1 1) (r_buildSlice (n := 1) (ps := [(0, opV o (.slice oA on oc))]) Ty.un28 Ty.sz38 Ty.zv38 (by decide) (by decide) (by kernel_rfl) (by kernel_rfl)) ?_)
      intro b61 w62 e63 h64 u65
      have h66 := md_ob M58 nin0 hmb
      have l67 : mb < b61 := by rw [e63]; exact lt_ob h66
      have h68 := md_ob M59 (nin1 (Nat.ne_of_gt l6)) h33
      have l69 : b1 < b61 := by rw [e63]; exact lt_ob h68
      have l70 : b50 < b61 := by rw [e63]; exact lt_ob hg60
      have g71 : w.heap.size ≤ b61 := by rw [e63]; exact M58.size
      have g72 : w29.heap.size ≤ b61 := by rw [e63]; exact M59.size
      have M73 := Mod.trans M58 (Mod.of_up u65)
      have M74 := Mod.trans M59 (Mod.of_up u65)
      refine ⟨M74, ?_⟩
      have h75 := (ORow.up h55 u65)
      have h76 := (up_ob u65 hg60)
      have h77 := (Dat.up hdo (Mod.up M73))
      refine h1 (i := 9) (fuel := 4) (by kernel_rfl) rfl (apO rfl (by kernel_rfl) (by kernel_rfl) h75 (SubO.one (x := o) h64 h77) Ty.un28 hiO hzO hsO hbO hcO (by decide) (Nat.le_trans (Nat.le_trans hB M31.size) (Nat.le_refl _)) M74.size (by simp; omega) ?_)
      intro b78 n79 c80 w81 e82 h83 g84 c85
      have M86 := Mod.trans' M73 c85 (fun i hi => by injection hi with hi; rw [← hi]; exact (Nat.le_trans M31.size g56))
      have M87 := Mod.trans' M74 c85 (fun i hi => by injection hi with hi; rw [← hi]; exact g56)
      obtain ⟨_, _, _, cg88, hg88, _⟩ := ORow.blk h83
      refine ⟨M87, ?_⟩
      have h89 := md_ob M86 nin0 hmb
      have l96 := lt_ob h89
      refine h1 (i := 10) (fuel := 3) (by kernel_rfl) rfl (sc rfl (r_callv (caps := []) (all := [.slice (some ⟨b78, 0, none⟩) n79 c80]) En.f26 (by kernel_rfl) (by kernel_rfl)) (rsort_own h83 (names_snoc hnm hno) (Nat.le_trans hBw M86.size) (by simp; omega)) ?_)
      rintro e w90 ⟨A91, n92, c93, rfl, h94, u95⟩
      refine ⟨.slice A91 n92 c93, rfl, ?_⟩
      have M97 := Mod.trans M86 (Mod.of_up u95)
      have M98 := Mod.trans M87 (Mod.of_up u95)
      refine ⟨M98, ?_⟩
      refine hvq (i := 11) (fuel := 2) rfl (fun _ _ _ h => h) M98 rfl (v := .pointer (some ⟨mb, 0, none⟩)) (fun _ _ => r_nilCheck (by kernel_rfl)) ?_
      refine hvq (i := 12) (fuel := 1) rfl (fun _ _ _ h => h) M98 rfl (v := .pointer (some ⟨mb, 0, none⟩)) (fun _ _ => r_fieldAddr (u := .pointer (some ⟨mb, 0, none⟩)) (by kernel_rfl) (fun _ => (by kernel_rfl))) ?_
      have h99 := md_ob M97 nin0 hmb
      refine h1 (i := 13) (fuel := 0) (by kernel_rfl) rfl (ss rfl (k := 0) (v := .slice A91 n92 c93) (vs := [.slice A91 n92 c93]) (cs' := [.slice A91 n92 c93]) (by kernel_rfl) (by kernel_rfl) rfl Ty.sz28 h99 rfl (Nat.le_of_ble_eq_true rfl) rfl ?_)
      intro w100 h101 c102
      have M103 := md_old M97 c102
      have M104 := Mod.trans M98 (Mod.of_chg c102 (by simp))
      refine ⟨M104, ?_⟩
      refine hend (by kernel_rfl) ?_
      refine then_n (wp_seq (rg_lit ?_))
      refine wmv (v := .int .i64 ((n17 : Int))) ?_
      refine was (v := .int .i64 ((n17 : Int))) ?_
      refine was (v := .int .i64 0) ?_
      refine wnil (then_n (wp_ret ?_))
      refine bodyPost_ret (v := .tuple #[.int .i64 ((n17 : Int)), .int .i64 0]) (res2 rfl (rv_t (by kernel_rfl)) (rv_t (by kernel_rfl))) (by kernel_rfl) ?_
      have h105 := (ORow.chgn h94 c102 ⟨hBm, NotU8.of h99 (by decide)⟩ (ORow.ne_old h94 l96))
      exact ⟨_, _, rfl, ansI_ok v12 h22 h19, ⟨_, h101, ORow.base (ORow.to h105 (by rw [List.nil_append]; exact sortO_insL hsD v12 h22)) (Nat.le_trans hbw M86.size)⟩, (Mod.chg M103)⟩
     ·
      refine sn rfl (cs := (opC o (.slice oA on oc)).toArray) (T := 38) (V := fun b => .slice (some ⟨b, 0, none⟩) 1 1) (r_buildSlice (n := 1) (ps := [(0, opV o (.slice oA on oc))]) Ty.un28 Ty.sz38 Ty.zv38 (by decide) (by decide) (by kernel_rfl) (by kernel_rfl)) ?_
      intro b49 w50 e51 h52 u53
      have l54 : mb < b49 := by rw [e51]; exact lt_ob h48
      have h55 := md_ob M47 (nin1 (Nat.ne_of_gt l6)) h33
      have l56 : b1 < b49 := by rw [e51]; exact lt_ob h55
      have l57 : b36 < b49 := by rw [e51]; exact lt_ob h39
      have g58 : w.heap.size ≤ b49 := by rw [e51]; exact M46.size
      have g59 : w29.heap.size ≤ b49 := by rw [e51]; exact M47.size
      have M60 := Mod.trans M46 (Mod.of_up u53)
      have M61 := Mod.trans M47 (Mod.of_up u53)
      refine ⟨M61, ?_⟩
      have h62 := (ORow.up hD (Mod.up M60))
      have h63 := (ORow.up h40 u53)
      have h64 := (up_ob u53 h39)
      refine h1 (i := 6) (fuel := 5) (by kernel_rfl) rfl (apO rfl (by kernel_rfl) (by kernel_rfl) h63 (OpRow.sub (c := vc) (ORow.ops h62 hnm)) Ty.un28 hiO hzO hsO hbO hcO (by decide) (Nat.le_trans (Nat.le_trans hB M31.size) (Nat.le_refl _)) M61.size (by simp; omega) ?_)
      intro b65 n66 c67 w68 e69 h70 g71 c72
      have M73 := Mod.trans' M60 c72 (fun i hi => by injection hi with hi; rw [← hi]; exact g44)
      have M74 := Mod.trans' M61 c72 (fun i hi => by injection hi with hi; rw [← hi]; exact g45)
      obtain ⟨_, _, _, cg75, hg75, _⟩ := ORow.blk h70
      refine ⟨M74, ?_⟩
      have h76 := (chg_ob c72 (Nat.ne_of_gt l57) h52)
      have h77 := (Dat.up hdo (Mod.up M73))
      refine h1 (i := 9) (fuel := 4) (by kernel_rfl) rfl (apO rfl (by kernel_rfl) (by kernel_rfl) h70 (SubO.one (x := o) h76 h77) Ty.un28 hiO hzO hsO hbO hcO (by decide) (Nat.le_trans (Nat.le_trans hB M31.size) (Nat.le_refl _)) M74.size (by simp; omega) ?_)
      intro b78 n79 c80 w81 e82 h83 g84 c85
      have M86 := Mod.trans' M73 c85 (fun i hi => by injection hi with hi; rw [← hi]; exact (Nat.le_trans M31.size g71))
      have M87 := Mod.trans' M74 c85 (fun i hi => by injection hi with hi; rw [← hi]; exact g71)
      obtain ⟨_, _, _, cg88, hg88, _⟩ := ORow.blk h83
      refine ⟨M87, ?_⟩
      have h89 := md_ob M86 nin0 hmb
      have l96 := lt_ob h89
      refine h1 (i := 10) (fuel := 3) (by kernel_rfl) rfl (sc rfl (r_callv (caps := []) (all := [.slice (some ⟨b78, 0, none⟩) n79 c80]) En.f26 (by kernel_rfl) (by kernel_rfl)) (rsort_own h83 (names_snoc hnm hno) (Nat.le_trans hBw M86.size) (by simp; omega)) ?_)
      rintro e w90 ⟨A91, n92, c93, rfl, h94, u95⟩
      refine ⟨.slice A91 n92 c93, rfl, ?_⟩
      have M97 := Mod.trans M86 (Mod.of_up u95)
      have M98 := Mod.trans M87 (Mod.of_up u95)
      refine ⟨M98, ?_⟩
      refine hvq (i := 11) (fuel := 2) rfl (fun _ _ _ h => h) M98 rfl (v := .pointer (some ⟨mb, 0, none⟩)) (fun _ _ => r_nilCheck (by kernel_rfl)) ?_
      refine hvq (i := 12) (fuel := 1) rfl (fun _ _ _ h => h) M98 rfl (v := .pointer (some ⟨mb, 0, none⟩)) (fun _ _ => r_fieldAddr (u := .pointer (some ⟨mb, 0, none⟩)) (by kernel_rfl) (fun _ => (by kernel_rfl))) ?_
      have h99 := md_ob M97 nin0 hmb
      refine h1 (i := 13) (fuel := 0) (by kernel_rfl) rfl (ss rfl (k := 0) (v := .slice A91 n92 c93) (vs := [.slice A91 n92 c93]) (cs' := [.slice A91 n92 c93]) (by kernel_rfl) (by kernel_rfl) rfl Ty.sz28 h99 rfl (Nat.le_of_ble_eq_true rfl) rfl ?_)
      intro w100 h101 c102
      have M103 := md_old M97 c102
      have M104 := Mod.trans M98 (Mod.of_chg c102 (by simp))
      refine ⟨M104, ?_⟩
      refine hend (by kernel_rfl) ?_
      refine then_n (wp_seq (rg_lit ?_))
      refine wmv (v := .int .i64 ((n17 : Int))) ?_
      refine was (v := .int .i64 ((n17 : Int))) ?_
      refine was (v := .int .i64 0) ?_
      refine wnil (then_n (wp_ret ?_))
      refine bodyPost_ret (v := .tuple #[.int .i64 ((n17 : Int)), .int .i64 0]) (res2 rfl (rv_t (by kernel_rfl)) (rv_t (by kernel_rfl))) (by kernel_rfl) ?_
      have h105 := (ORow.chgn h94 c102 ⟨hBm, NotU8.of h99 (by decide)⟩ (ORow.ne_old h94 l96))
      exact ⟨_, _, rfl, ansI_ok v12 h22 h19, ⟨_, h101, ORow.base (ORow.to h105 (by rw [List.nil_append]; exact sortO_insL hsD v12 h22)) (Nat.le_trans hbw M86.size)⟩, (Mod.chg M103)⟩
    ·
     refine sn rfl (cs := (opC o (.slice oA on oc)).toArray) (T := 38) (V := fun b => .slice (some ⟨b, 0, none⟩) 1 1) (r_buildSlice (n := 1) (ps := [(0, opV o (.slice oA on oc))]) Ty.un28 Ty.sz38 Ty.zv38 (by decide) (by decide) (by kernel_rfl) (by kernel_rfl)) ?_
     intro b48 w49 e50 h51 u52
     have h53 := md_ob M46 nin0 hmb
     have l54 : mb < b48 := by rw [e50]; exact lt_ob h53
     have h55 := md_ob M47 (nin1 (Nat.ne_of_gt l6)) h33
     have l56 : b1 < b48 := by rw [e50]; exact lt_ob h55
     have l57 : b36 < b48 := by rw [e50]; exact lt_ob h39
     have g58 : w.heap.size ≤ b48 := by rw [e50]; exact M46.size
     have g59 : w29.heap.size ≤ b48 := by rw [e50]; exact M47.size
     have M60 := Mod.trans M46 (Mod.of_up u52)
     have M61 := Mod.trans M47 (Mod.of_up u52)
     refine ⟨M61, ?_⟩
     have h62 := md_ob M60 nin0 hmb
     refine h1 (i := 5) (fuel := 6) (by kernel_rfl) rfl (sv rfl (v := .slice vA D.length vc) (r_load (k := 0) (by kernel_rfl) Ty.ag28 h62 (by kernel_rfl)) ?_)
     refine ⟨M61, ?_⟩
     have h63 := (ORow.up hD (Mod.up M60))
     have h64 := (ORow.up h40 u52)
     have h65 := (up_ob u52 h39)
     refine h1 (i := 6) (fuel := 5) (by kernel_rfl) rfl (apO rfl (by kernel_rfl) (by kernel_rfl) h64 (OpRow.sub (c := vc) (ORow.ops h63 hnm)) Ty.un28 hiO hzO hsO hbO hcO (by decide) (Nat.le_trans (Nat.le_trans hB M31.size) (Nat.le_refl _)) M61.size (by simp; omega) ?_)
     intro b66 n67 c68 w69 e70 h71 g72 c73
     have M74 := Mod.trans' M60 c73 (fun i hi => by injection hi with hi; rw [← hi]; exact g44)
     have M75 := Mod.trans' M61 c73 (fun i hi => by injection hi with hi; rw [← hi]; exact g45)
     obtain ⟨_, _, _, cg76, hg76, _⟩ := ORow.blk h71
     refine ⟨M75, ?_⟩
     have h77 := (chg_ob c73 (Nat.ne_of_gt l57) h51)
     have h78 := (Dat.up hdo (Mod.up M74))
     refine h1 (i := 9) (fuel := 4) (by kernel_rfl) rfl (apO rfl (by kernel_rfl) (by kernel_rfl) h71 (SubO.one (x := o) h77 h78) Ty.un28 hiO hzO hsO hbO hcO (by decide) (Nat.le_trans (Nat.le_trans hB M31.size) (Nat.le_refl _)) M75.size (by simp; omega) ?_)
     intro b79 n80 c81 w82 e83 h84 g85 c86
     have M87 := Mod.trans' M74 c86 (fun i hi => by injection hi with hi; rw [← hi]; exact (Nat.le_trans M31.size g72))
     have M88 := Mod.trans' M75 c86 (fun i hi => by injection hi with hi; rw [← hi]; exact g72)
     obtain ⟨_, _, _, cg89, hg89, _⟩ := ORow.blk h84
     refine ⟨M88, ?_⟩
     have h90 := md_ob M87 nin0 hmb
     have l97 := lt_ob h90
     refine h1 (i := 10) (fuel := 3) (by kernel_rfl) rfl (sc rfl (r_callv (caps := []) (all := [.slice (some ⟨b79, 0, none⟩) n80 c81]) En.f26 (by kernel_rfl) (by kernel_rfl)) (rsort_own h84 (names_snoc hnm hno) (Nat.le_trans hBw M87.size) (by simp; omega)) ?_)
     rintro e w91 ⟨A92, n93, c94, rfl, h95, u96⟩
     refine ⟨.slice A92 n93 c94, rfl, ?_⟩
     have M98 := Mod.trans M87 (Mod.of_up u96)
     have M99 := Mod.trans M88 (Mod.of_up u96)
     refine ⟨M99, ?_⟩
     refine hvq (i := 11) (fuel := 2) rfl (fun _ _ _ h => h) M99 rfl (v := .pointer (some ⟨mb, 0, none⟩)) (fun _ _ => r_nilCheck (by kernel_rfl)) ?_
     refine hvq (i := 12) (fuel := 1) rfl (fun _ _ _ h => h) M99 rfl (v := .pointer (some ⟨mb, 0, none⟩)) (fun _ _ => r_fieldAddr (u := .pointer (some ⟨mb, 0, none⟩)) (by kernel_rfl) (fun _ => (by kernel_rfl))) ?_
     have h100 := md_ob M98 nin0 hmb
     refine h1 (i := 13) (fuel := 0) (by kernel_rfl) rfl (ss rfl (k := 0) (v := .slice A92 n93 c94) (vs := [.slice A92 n93 c94]) (cs' := [.slice A92 n93 c94]) (by kernel_rfl) (by kernel_rfl) rfl Ty.sz28 h100 rfl (Nat.le_of_ble_eq_true rfl) rfl ?_)
     intro w101 h102 c103
     have M104 := md_old M98 c103
     have M105 := Mod.trans M99 (Mod.of_chg c103 (by simp))
     refine ⟨M105, ?_⟩
     refine hend (by kernel_rfl) ?_
     refine then_n (wp_seq (rg_lit ?_))
     refine wmv (v := .int .i64 ((n17 : Int))) ?_
     refine was (v := .int .i64 ((n17 : Int))) ?_
     refine was (v := .int .i64 0) ?_
     refine wnil (then_n (wp_ret ?_))
     refine bodyPost_ret (v := .tuple #[.int .i64 ((n17 : Int)), .int .i64 0]) (res2 rfl (rv_t (by kernel_rfl)) (rv_t (by kernel_rfl))) (by kernel_rfl) ?_
     have h106 := (ORow.chgn h95 c103 ⟨hBm, NotU8.of h100 (by decide)⟩ (ORow.ne_old h95 l97))
     exact ⟨_, _, rfl, ansI_ok v12 h22 h19, ⟨_, h102, ORow.base (ORow.to h106 (by rw [List.nil_append]; exact sortO_insL hsD v12 h22)) (Nat.le_trans hbw M87.size)⟩, (Mod.chg M104)⟩
   ·
    refine sv rfl (v := .slice vA D.length vc) (r_load (k := 0) (by kernel_rfl) Ty.ag28 h32 (by kernel_rfl)) ?_
    refine ⟨(Mod.refl [mb] w29), ?_⟩
    refine h2 (i := 1) (j := 8) (fuel := 7) (by kernel_rfl) rfl rfl ?_ ?_
    ·
     refine litO rfl (B := B) (base := w29.heap.size) Ty.un28 Ty.sz38 (Mod.refl [mb] w29).size ?_
     intro b36 w37 e38 h39 h40 u41
     have l42 : mb < b36 := by rw [e38]; exact lt_ob h32
     have l43 : b1 < b36 := by rw [e38]; exact lt_ob h33
     have g44 : w.heap.size ≤ b36 := by rw [e38]; exact M31.size
     have g45 : w29.heap.size ≤ b36 := by rw [e38]; exact (Mod.refl [mb] w29).size
     have M46 := Mod.trans M31 (Mod.of_up u41)
     have M47 := Mod.trans (Mod.refl [mb] w29) (Mod.of_up u41)
     refine ⟨M47, ?_⟩
     refine h2 (i := 6) (j := 8) (fuel := 6) (by kernel_rfl) rfl rfl ?_ ?_
     ·
      have h48 := (ORow.up hD (Mod.up M46))
      refine apO rfl (by kernel_rfl) (by kernel_rfl) h40 (OpRow.sub (c := vc) (ORow.ops h48 hnm)) Ty.un28 hiO hzO hsO hbO hcO (by decide) (Nat.le_trans (Nat.le_trans hB M31.size) (Nat.le_refl _)) M47.size (by simp; omega) ?_
      intro b49 n50 c51 w52 e53 h54 g55 c56
      have M57 := Mod.trans' M46 c56 (fun i hi => by injection hi with hi; rw [← hi]; exact g44)
      have M58 := Mod.trans' M47 c56 (fun i hi => by injection hi with hi; rw [← hi]; exact g45)
      obtain ⟨_, _, _, cg59, hg59, _⟩ := ORow.blk h54
      refine ⟨M58, ?_⟩
      refine h1 (i := 8) (fuel := 5) (by kernel_rfl) rfl (sn rfl (cs := (opC o (.slice oA on oc)).toArray) (T := 38) (V := fun b => .slice (some ⟨b, 0, none⟩) 1 1) (r_buildSlice (n := 1) (ps := [(0, opV o (.slice oA on oc))]) Ty.un28 Ty.sz38 Ty.zv38 (by decide) (by decide) (by kernel_rfl) (by kernel_rfl)) ?_)
      intro b60 w61 e62 h63 u64
      have h65 := md_ob M57 nin0 hmb
      have l66 : mb < b60 := by rw [e62]; exact lt_ob h65
      have h67 := md_ob M58 (nin1 (Nat.ne_of_gt l6)) h33
      have l68 : b1 < b60 := by rw [e62]; exact lt_ob h67
      have l69 : b49 < b60 := by rw [e62]; exact lt_ob hg59
      have g70 : w.heap.size ≤ b60 := by rw [e62]; exact M57.size
      have g71 : w29.heap.size ≤ b60 := by rw [e62]; exact M58.size
      have M72 := Mod.trans M57 (Mod.of_up u64)
      have M73 := Mod.trans M58 (Mod.of_up u64)
      refine ⟨M73, ?_⟩
      have h74 := (ORow.up h54 u64)
      have h75 := (up_ob u64 hg59)
      have h76 := (Dat.up hdo (Mod.up M72))
      refine h1 (i := 9) (fuel := 4) (by kernel_rfl) rfl (apO rfl (by kernel_rfl) (by kernel_rfl) h74 (SubO.one (x := o) h63 h76) Ty.un28 hiO hzO hsO hbO hcO (by decide) (Nat.le_trans (Nat.le_trans hB M31.size) (Nat.le_refl _)) M73.size (by simp; omega) ?_)
      intro b77 n78 c79 w80 e81 h82 g83 c84
      have M85 := Mod.trans' M72 c84 (fun i hi => by injection hi with hi; rw [← hi]; exact (Nat.le_trans M31.size g55))
      have M86 := Mod.trans' M73 c84 (fun i hi => by injection hi with hi; rw [← hi]; exact g55)
      obtain ⟨_, _, _, cg87, hg87, _⟩ := ORow.blk h82
      refine ⟨M86, ?_⟩
      have h88 := md_ob M85 nin0 hmb
      have l95 := lt_ob h88
      refine h1 (i := 10) (fuel := 3) (by kernel_rfl) rfl (sc rfl (r_callv (caps := []) (all := [.slice (some ⟨b77, 0, none⟩) n78 c79]) En.f26 (by kernel_rfl) (by kernel_rfl)) (rsort_own h82 (names_snoc hnm hno) (Nat.le_trans hBw M85.size) (by simp; omega)) ?_)
      rintro e w89 ⟨A90, n91, c92, rfl, h93, u94⟩
      refine ⟨.slice A90 n91 c92, rfl, ?_⟩
      have M96 := Mod.trans M85 (Mod.of_up u94)
      have M97 := Mod.trans M86 (Mod.of_up u94)
      refine ⟨M97, ?_⟩
      refine hvq (i := 11) (fuel := 2) rfl (fun _ _ _ h => h) M97 rfl (v := .pointer (some ⟨mb, 0, none⟩)) (fun _ _ => r_nilCheck (by kernel_rfl)) ?_
      refine hvq (i := 12) (fuel := 1) rfl (fun _ _ _ h => h) M97 rfl (v := .pointer (some ⟨mb, 0, none⟩)) (fun _ _ => r_fieldAddr (u := .pointer (some ⟨mb, 0, none⟩)) (by kernel_rfl) (fun _ => (by kernel_rfl))) ?_
      have h98 := md_ob M96 nin0 hmb
      refine h1 (i := 13) (fuel := 0) (by kernel_rfl) rfl (ss rfl (k := 0) (v := .slice A90 n91 c92) (vs := [.slice A90 n91 c92]) (cs' := [.slice A90 n91 c92]) (by kernel_rfl) (by kernel_rfl) rfl Ty.sz28 h98 rfl (Nat.le_of_ble_eq_true rfl) rfl ?_)
      intro w99 h100 c101
      have M102 := md_old M96 c101
      have M103 := Mod.trans M97 (Mod.of_chg c101 (by simp))
      refine ⟨M103, ?_⟩
      refine hend (by kernel_rfl) ?_
      refine then_n (wp_seq (rg_lit ?_))
      refine wmv (v := .int .i64 ((n17 : Int))) ?_
      refine was (v := .int .i64 ((n17 : Int))) ?_
      refine was (v := .int .i64 0) ?_
      refine wnil (then_n (wp_ret ?_))
      refine bodyPost_ret (v := .tuple #[.int .i64 ((n17 : Int)), .int .i64 0]) (res2 rfl (rv_t (by kernel_rfl)) (rv_t (by kernel_rfl))) (by kernel_rfl) ?_
      have h104 := (ORow.chgn h93 c101 ⟨hBm, NotU8.of h98 (by decide)⟩ (ORow.ne_old h93 l95))
      exact ⟨_, _, rfl, ansI_ok v12 h22 h19, ⟨_, h100, ORow.base (ORow.to h104 (by rw [List.nil_append]; exact sortO_insL hsD v12 h22)) (Nat.le_trans hbw M85.size)⟩, (Mod.chg M102)⟩
     ·
      refine sn rfl (cs := (opC o (.slice oA on oc)).toArray) (T := 38) (V := fun b => .slice (some ⟨b, 0, none⟩) 1 1) (r_buildSlice (n := 1) (ps := [(0, opV o (.slice oA on oc))]) Ty.un28 Ty.sz38 Ty.zv38 (by decide) (by decide) (by kernel_rfl) (by kernel_rfl)) ?_
      intro b48 w49 e50 h51 u52
      have h53 := md_ob M46 nin0 hmb
      have l54 : mb < b48 := by rw [e50]; exact lt_ob h53
      have h55 := md_ob M47 (nin1 (Nat.ne_of_gt l6)) h33
      have l56 : b1 < b48 := by rw [e50]; exact lt_ob h55
      have l57 : b36 < b48 := by rw [e50]; exact lt_ob h39
      have g58 : w.heap.size ≤ b48 := by rw [e50]; exact M46.size
      have g59 : w29.heap.size ≤ b48 := by rw [e50]; exact M47.size
      have M60 := Mod.trans M46 (Mod.of_up u52)
      have M61 := Mod.trans M47 (Mod.of_up u52)
      refine ⟨M61, ?_⟩
      have h62 := (ORow.up hD (Mod.up M60))
      have h63 := (ORow.up h40 u52)
      have h64 := (up_ob u52 h39)
      refine h1 (i := 6) (fuel := 5) (by kernel_rfl) rfl (apO rfl (by kernel_rfl) (by kernel_rfl) h63 (OpRow.sub (c := vc) (ORow.ops h62 hnm)) Ty.un28 hiO hzO hsO hbO hcO (by decide) (Nat.le_trans (Nat.le_trans hB M31.size) (Nat.le_refl _)) M61.size (by simp; omega) ?_)
      intro b65 n66 c67 w68 e69 h70 g71 c72
      have M73 := Mod.trans' M60 c72 (fun i hi => by injection hi with hi; rw [← hi]; exact g44)
      have M74 := Mod.trans' M61 c72 (fun i hi => by injection hi with hi; rw [← hi]; exact g45)
      obtain ⟨_, _, _, cg75, hg75, _⟩ := ORow.blk h70
      refine ⟨M74, ?_⟩
      have h76 := (chg_ob c72 (Nat.ne_of_gt l57) h51)
      have h77 := (Dat.up hdo (Mod.up M73))
      refine h1 (i := 9) (fuel := 4) (by kernel_rfl) rfl (apO rfl (by kernel_rfl) (by kernel_rfl) h70 (SubO.one (x := o) h76 h77) Ty.un28 hiO hzO hsO hbO hcO (by decide) (Nat.le_trans (Nat.le_trans hB M31.size) (Nat.le_refl _)) M74.size (by simp; omega) ?_)
      intro b78 n79 c80 w81 e82 h83 g84 c85
      have M86 := Mod.trans' M73 c85 (fun i hi => by injection hi with hi; rw [← hi]; exact (Nat.le_trans M31.size g71))
      have M87 := Mod.trans' M74 c85 (fun i hi => by injection hi with hi; rw [← hi]; exact g71)
      obtain ⟨_, _, _, cg88, hg88, _⟩ := ORow.blk h83
      refine ⟨M87, ?_⟩
      have h89 := md_ob M86 nin0 hmb
      have l96 := lt_ob h89
      refine h1 (i := 10) (fuel := 3) (by kernel_rfl) rfl (sc rfl (r_callv (caps := []) (all := [.slice (some ⟨b78, 0, none⟩) n79 c80]) En.f26 (by kernel_rfl) (by kernel_rfl)) (rsort_own h83 (names_snoc hnm hno) (Nat.le_trans hBw M86.size) (by simp; omega)) ?_)
      rintro e w90 ⟨A91, n92, c93, rfl, h94, u95⟩
      refine ⟨.slice A91 n92 c93, rfl, ?_⟩
      have M97 := Mod.trans M86 (Mod.of_up u95)
      have M98 := Mod.trans M87 (Mod.of_up u95)
      refine ⟨M98, ?_⟩
      refine hvq (i := 11) (fuel := 2) rfl (fun _ _ _ h => h) M98 rfl (v := .pointer (some ⟨mb, 0, none⟩)) (fun _ _ => r_nilCheck (by kernel_rfl)) ?_
      refine hvq (i := 12) (fuel := 1) rfl (fun _ _ _ h => h) M98 rfl (v := .pointer (some ⟨mb, 0, none⟩)) (fun _ _ => r_fieldAddr (u := .pointer (some ⟨mb, 0, none⟩)) (by kernel_rfl) (fun _ => (by kernel_rfl))) ?_
      have h99 := md_ob M97 nin0 hmb
      refine h1 (i := 13) (fuel := 0) (by kernel_rfl) rfl (ss rfl (k := 0) (v := .slice A91 n92 c93) (vs := [.slice A91 n92 c93]) (cs' := [.slice A91 n92 c93]) (by kernel_rfl) (by kernel_rfl) rfl Ty.sz28 h99 rfl (Nat.le_of_ble_eq_true rfl) rfl ?_)
      intro w100 h101 c102
      have M103 := md_old M97 c102
      have M104 := Mod.trans M98 (Mod.of_chg c102 (by simp))
      refine ⟨M104, ?_⟩
      refine hend (by kernel_rfl) ?_
      refine then_n (wp_seq (rg_lit ?_))
      refine wmv (v := .int .i64 ((n17 : Int))) ?_
      refine was (v := .int .i64 ((n17 : Int))) ?_
      refine was (v := .int .i64 0) ?_
      refine wnil (then_n (wp_ret ?_))
      refine bodyPost_ret (v := .tuple #[.int .i64 ((n17 : Int)), .int .i64 0]) (res2 rfl (rv_t (by kernel_rfl)) (rv_t (by kernel_rfl))) (by kernel_rfl) ?_
      have h105 := (ORow.chgn h94 c102 ⟨hBm, NotU8.of h99 (by decide)⟩ (ORow.ne_old h94 l96))
      exact ⟨_, _, rfl, ansI_ok v12 h22 h19, ⟨_, h101, ORow.base (ORow.to h105 (by rw [List.nil_append]; exact sortO_insL hsD v12 h22)) (Nat.le_trans hbw M86.size)⟩, (Mod.chg M103)⟩
    ·
     refine sn rfl (cs := (opC o (.slice oA on oc)).toArray) (T := 38) (V := fun b => .slice (some ⟨b, 0, none⟩) 1 1) (r_buildSlice (n := 1) (ps := [(0, opV o (.slice oA on oc))]) Ty.un28 Ty.sz38 Ty.zv38 (by decide) (by decide) (by kernel_rfl) (by kernel_rfl)) ?_
     intro b36 w37 e38 h39 u40
     have l41 : mb < b36 := by rw [e38]; exact lt_ob h32
     have l42 : b1 < b36 := by rw [e38]; exact lt_ob h33
     have g43 : w.heap.size ≤ b36 := by rw [e38]; exact M31.size
     have g44 : w29.heap.size ≤ b36 := by rw [e38]; exact (Mod.refl [mb] w29).size
     have M45 := Mod.trans M31 (Mod.of_up u40)
     have M46 := Mod.trans (Mod.refl [mb] w29) (Mod.of_up u40)
     refine ⟨M46, ?_⟩
     refine h1 (i := 1) (fuel := 6) (by kernel_rfl) rfl (litO rfl (B := B) (base := w29.heap.size) Ty.un28 Ty.sz38 M46.size ?_)
     intro b47 w48 e49 h50 h51 u52
     have h53 := md_ob M45 nin0 hmb
     have l54 : mb < b47 := by rw [e49]; exact lt_ob h53
     have h55 := md_ob M46 (nin1 (Nat.ne_of_gt l6)) h33
     have l56 : b1 < b47 := by rw [e49]; exact lt_ob h55
     have l57 : b36 < b47 := by rw [e49]; exact lt_ob h39
     have g58 : w.heap.size ≤ b47 := by rw [e49]; exact M45.size
     have g59 : w29.heap.size ≤ b47 := by rw [e49]; exact M46.size
     have M60 := Mod.trans M45 (Mod.of_up u52)
     have M61 := Mod.trans M46 (Mod.of_up u52)
     refine ⟨M61, ?_⟩
     have h62 := (ORow.up hD (Mod.up M60))
     refine h1 (i := 6) (fuel := 5) (by kernel_rfl) rfl (apO rfl (by kernel_rfl) (by kernel_rfl) h51 (OpRow.sub (c := vc) (ORow.ops h62 hnm)) Ty.un28 hiO hzO hsO hbO hcO (by decide) (Nat.le_trans (Nat.le_trans hB M31.size) (Nat.le_refl _)) M61.size (by simp; omega) ?_)
     intro b63 n64 c65 w66 e67 h68 g69 c70
     have M71 := Mod.trans' M60 c70 (fun i hi => by injection hi with hi; rw [← hi]; exact g58)
     have M72 := Mod.trans' M61 c70 (fun i hi => by injection hi with hi; rw [← hi]; exact g59)
     obtain ⟨_, _, _, cg73, hg73, _⟩ := ORow.blk h68
     refine ⟨M72, ?_⟩
     have h74 := (chg_ob c70 (Nat.ne_of_lt l57) (up_ob u52 h39))
     have h75 := (Dat.up hdo (Mod.up M71))
     refine h1 (i := 9) (fuel := 4) (by kernel_rfl) rfl (apO rfl (by kernel_rfl) (by kernel_rfl) h68 (SubO.one (x := o) h74 h75) Ty.un28 hiO hzO hsO hbO hcO (by decide) (Nat.le_trans (Nat.le_trans hB M31.size) (Nat.le_refl _)) M72.size (by simp; omega) ?_)
     intro b76 n77 c78 w79 e80 h81 g82 c83
     have M84 := Mod.trans' M71 c83 (fun i hi => by injection hi with hi; rw [← hi]; exact (Nat.le_trans M31.size g69))
     have M85 := Mod.trans' M72 c83 (fun i hi => by injection hi with hi; rw [← hi]; exact g69)
     obtain ⟨_, _, _, cg86, hg86, _⟩ := ORow.blk h81
     refine ⟨M85, ?_⟩
     have h87 := md_ob M84 nin0 hmb
     have l94 := lt_ob h87
     refine h1 (i := 10) (fuel := 3) (by kernel_rfl) rfl (sc rfl (r_callv (caps := []) (all := [.slice (some ⟨b76, 0, none⟩) n77 c78]) En.f26 (by kernel_rfl) (by kernel_rfl)) (rsort_own h81 (names_snoc hnm hno) (Nat.le_trans hBw M84.size) (by simp; omega)) ?_)
     rintro e w88 ⟨A89, n90, c91, rfl, h92, u93⟩
     refine ⟨.slice A89 n90 c91, rfl, ?_⟩
     have M95 := Mod.trans M84 (Mod.of_up u93)
     have M96 := Mod.trans M85 (Mod.of_up u93)
     refine ⟨M96, ?_⟩
     refine hvq (i := 11) (fuel := 2) rfl (fun _ _ _ h => h) M96 rfl (v := .pointer (some ⟨mb, 0, none⟩)) (fun _ _ => r_nilCheck (by kernel_rfl)) ?_
     refine hvq (i := 12) (fuel := 1) rfl (fun _ _ _ h => h) M96 rfl (v := .pointer (some ⟨mb, 0, none⟩)) (fun _ _ => r_fieldAddr (u := .pointer (some ⟨mb, 0, none⟩)) (by kernel_rfl) (fun _ => (by kernel_rfl))) ?_
     have h97 := md_ob M95 nin0 hmb
     refine h1 (i := 13) (fuel := 0) (by kernel_rfl) rfl (ss rfl (k := 0) (v := .slice A89 n90 c91) (vs := [.slice A89 n90 c91]) (cs' := [.slice A89 n90 c91]) (by kernel_rfl) (by kernel_rfl) rfl Ty.sz28 h97 rfl (Nat.le_of_ble_eq_true rfl) rfl ?_)
     intro w98 h99 c100
     have M101 := md_old M95 c100
     have M102 := Mod.trans M96 (Mod.of_chg c100 (by simp))
     refine ⟨M102, ?_⟩
     refine hend (by kernel_rfl) ?_
     refine then_n (wp_seq (rg_lit ?_))
     refine wmv (v := .int .i64 ((n17 : Int))) ?_
     refine was (v := .int .i64 ((n17 : Int))) ?_
     refine was (v := .int .i64 0) ?_
     refine wnil (then_n (wp_ret ?_))
     refine bodyPost_ret (v := .tuple #[.int .i64 ((n17 : Int)), .int .i64 0]) (res2 rfl (rv_t (by kernel_rfl)) (rv_t (by kernel_rfl))) (by kernel_rfl) ?_
     have h103 := (ORow.chgn h92 c100 ⟨hBm, NotU8.of h97 (by decide)⟩ (ORow.ne_old h92 l94))
     exact ⟨_, _, rfl, ansI_ok v12 h22 h19, ⟨_, h99, ORow.base (ORow.to h103 (by rw [List.nil_append]; exact sortO_insL hsD v12 h22)) (Nat.le_trans hbw M84.size)⟩, (Mod.chg M101)⟩
   ·
    refine sn rfl (cs := (opC o (.slice oA on oc)).toArray) (T := 38) (V := fun b => .slice (some ⟨b, 0, none⟩) 1 1) (r_buildSlice (n := 1) (ps := [(0, opV o (.slice oA on oc))]) Ty.un28 Ty.sz38 Ty.zv38 (by decide) (by decide) (by kernel_rfl) (by kernel_rfl)) ?_
    intro b36 w37 e38 h39 u40
    have l41 : mb < b36 := by rw [e38]; exact lt_ob h32
    have l42 : b1 < b36 := by rw [e38]; exact lt_ob h33
    have g43 : w.heap.size ≤ b36 := by rw [e38]; exact M31.size
    have g44 : w29.heap.size ≤ b36 := by rw [e38]; exact (Mod.refl [mb] w29).size
    have M45 := Mod.trans M31 (Mod.of_up u40)
    have M46 := Mod.trans (Mod.refl [mb] w29) (Mod.of_up u40)
    refine ⟨M46, ?_⟩
    refine h2 (i := 1) (j := 5) (fuel := 7) (by kernel_rfl) rfl rfl ?_ ?_
    ·
     refine litO rfl (B := B) (base := w29.heap.size) Ty.un28 Ty.sz38 M46.size ?_
     intro b47 w48 e49 h50 h51 u52
     have h53 := md_ob M45 nin0 hmb
     have l54 : mb < b47 := by rw [e49]; exact lt_ob h53
     have h55 := md_ob M46 (nin1 (Nat.ne_of_gt l6)) h33
     have l56 : b1 < b47 := by rw [e49]; exact lt_ob h55
     have l57 : b36 < b47 := by rw [e49]; exact lt_ob h39
     have g58 : w.heap.size ≤ b47 := by rw [e49]; exact M45.size
     have g59 : w29.heap.size ≤ b47 := by rw [e49]; exact M46.size
     have M60 := Mod.trans M45 (Mod.of_up u52)
     have M61 := Mod.trans M46 (Mod.of_up u52)
     refine ⟨M61, ?_⟩
     have h62 := md_ob M60 nin0 hmb
     refine h1 (i := 5) (fuel := 6) (by kernel_rfl) rfl (sv rfl (v := .slice vA D.length vc) (r_load (k := 0) (by kernel_rfl) Ty.ag28 h62 (by kernel_rfl)) ?_)
     refine ⟨M61, ?_⟩
     have h63 := (ORow.up hD (Mod.up M60))
     refine h1 (i := 6) (fuel := 5) (by kernel_rfl) rfl (apO rfl (by kernel_rfl) (by kernel_rfl) h51 (OpRow.sub (c := vc) (ORow.ops h63 hnm)) Ty.un28 hiO hzO hsO hbO hcO (by decide) (Nat.le_trans (Nat.le_trans hB M31.size) (Nat.le_refl _)) M61.size (by simp; omega) ?_)
     intro b64 n65 c66 w67 e68 h69 g70 c71
     have M72 := Mod.trans' M60 c71 (fun i hi => by injection hi with hi; rw [← hi]; exact g58)
     have M73 := Mod.trans' M61 c71 (fun i hi => by injection hi with hi; rw [← hi]; exact g59)
     obtain ⟨_, _, _, cg74, hg74, _⟩ := ORow.blk h69
     refine ⟨M73, ?_⟩
     have h75 := (chg_ob c71 (Nat.ne_of_lt l57) (up_ob u52 h39))
     have h76 := (Dat.up hdo (Mod.up M72))
     refine h1 (i := 9) (fuel := 4) (by kernel_rfl) rfl (apO rfl (by kernel_rfl) (by kernel_rfl) h69 (SubO.one (x := o) h75 h76) Ty.un28 hiO hzO hsO hbO hcO (by decide) (Nat.le_trans (Nat.le_trans hB M31.size) (Nat.le_refl _)) M73.size (by simp; omega) ?_)
     intro b77 n78 c79 w80 e81 h82 g83 c84
     have M85 := Mod.trans' M72 c84 (fun i hi => by injection hi with hi; rw [← hi]; exact (Nat.le_trans M31.size g70))
     have M86 := Mod.trans' M73 c84 (fun i hi => by injection hi with hi; rw [← hi]; exact g70)
     obtain ⟨_, _, _, cg87, hg87, _⟩ := ORow.blk h82
     refine ⟨M86, ?_⟩
     have h88 := md_ob M85 nin0 hmb
     have l95 := lt_ob h88
     refine h1 (i := 10) (fuel := 3) (by kernel_rfl) rfl (sc rfl (r_callv (caps := []) (all := [.slice (some ⟨b77, 0, none⟩) n78 c79]) En.f26 (by kernel_rfl) (by kernel_rfl)) (rsort_own h82 (names_snoc hnm hno) (Nat.le_trans hBw M85.size) (by simp; omega)) ?_)
     rintro e w89 ⟨A90, n91, c92, rfl, h93, u94⟩
     refine ⟨.slice A90 n91 c92, rfl, ?_⟩
     have M96 := Mod.trans M85 (Mod.of_up u94)
     have M97 := Mod.trans M86 (Mod.of_up u94)
     refine ⟨M97, ?_⟩
     refine hvq (i := 11) (fuel := 2) rfl (fun _ _ _ h => h) M97 rfl (v := .pointer (some ⟨mb, 0, none⟩)) (fun _ _ => r_nilCheck (by kernel_rfl)) ?_
     refine hvq (i := 12) (fuel := 1) rfl (fun _ _ _ h => h) M97 rfl (v := .pointer (some ⟨mb, 0, none⟩)) (fun _ _ => r_fieldAddr (u := .pointer (some ⟨mb, 0, none⟩)) (by kernel_rfl) (fun _ => (by kernel_rfl))) ?_
     have h98 := md_ob M96 nin0 hmb
     refine h1 (i := 13) (fuel := 0) (by kernel_rfl) rfl (ss rfl (k := 0) (v := .slice A90 n91 c92) (vs := [.slice A90 n91 c92]) (cs' := [.slice A90 n91 c92]) (by kernel_rfl) (by kernel_rfl) rfl Ty.sz28 h98 rfl (Nat.le_of_ble_eq_true rfl) rfl ?_)
     intro w99 h100 c101
     have M102 := md_old M96 c101
     have M103 := Mod.trans M97 (Mod.of_chg c101 (by simp))
     refine ⟨M103, ?_⟩
     refine hend (by kernel_rfl) ?_
     refine then_n (wp_seq (rg_lit ?_))
     refine wmv (v := .int .i64 ((n17 : Int))) ?_
     refine was (v := .int .i64 ((n17 : Int))) ?_
     refine was (v := .int .i64 0) ?_
     refine wnil (then_n (wp_ret ?_))
     refine bodyPost_ret (v := .tuple #[.int .i64 ((n17 : Int)), .int .i64 0]) (res2 rfl (rv_t (by kernel_rfl)) (rv_t (by kernel_rfl))) (by kernel_rfl) ?_
     have h104 := (ORow.chgn h93 c101 ⟨hBm, NotU8.of h98 (by decide)⟩ (ORow.ne_old h93 l95))
     exact ⟨_, _, rfl, ansI_ok v12 h22 h19, ⟨_, h100, ORow.base (ORow.to h104 (by rw [List.nil_append]; exact sortO_insL hsD v12 h22)) (Nat.le_trans hbw M85.size)⟩, (Mod.chg M102)⟩
    ·
     have h47 := md_ob M45 nin0 hmb
     refine sv rfl (v := .slice vA D.length vc) (r_load (k := 0) (by kernel_rfl) Ty.ag28 h47 (by kernel_rfl)) ?_
     refine ⟨M46, ?_⟩
     refine h1 (i := 1) (fuel := 6) (by kernel_rfl) rfl (litO rfl (B := B) (base := w29.heap.size) Ty.un28 Ty.sz38 M46.size ?_)
     intro b48 w49 e50 h51 h52 u53
     have l54 : mb < b48 := by rw [e50]; exact lt_ob h47
     have h55 := md_ob M46 (nin1 (Nat.ne_of_gt l6)) h33
     have l56 : b1 < b48 := by rw [e50]; exact lt_ob h55
     have l57 : b36 < b48 := by rw [e50]; exact lt_ob h39
     have g58 : w.heap.size ≤ b48 := by rw [e50]; exact M45.size
     have g59 : w29.heap.size ≤ b48 := by rw [e50]; exact M46.size
     have M60 := Mod.trans M45 (Mod.of_up u53)
     have M61 := Mod.trans M46 (Mod.of_up u53)
     refine ⟨M61, ?_⟩
     have h62 := (ORow.up hD (Mod.up M60))
     refine h1 (i := 6) (fuel := 5) (by kernel_rfl) rfl (apO rfl (by kernel_rfl) (by kernel_rfl) h52 (OpRow.sub (c := vc) (ORow.ops h62 hnm)) Ty.un28 hiO hzO hsO hbO hcO (by decide) (Nat.le_trans (Nat.le_trans hB M31.size) (Nat.le_refl _)) M61.size (by simp; omega) ?_)
     intro b63 n64 c65 w66 e67 h68 g69 c70
     have M71 := Mod.trans' M60 c70 (fun i hi => by injection hi with hi; rw [← hi]; exact g58)
     have M72 := Mod.trans' M61 c70 (fun i hi => by injection hi with hi; rw [← hi]; exact g59)
     obtain ⟨_, _, _, cg73, hg73, _⟩ := ORow.blk h68
     refine ⟨M72, ?_⟩
     have h74 := (chg_ob c70 (Nat.ne_of_lt l57) (up_ob u53 h39))
     have h75 := (Dat.up hdo (Mod.up M71))
     refine h1 (i := 9) (fuel := 4) (by kernel_rfl) rfl (apO rfl (by kernel_rfl) (by kernel_rfl) h68 (SubO.one (x := o) h74 h75) Ty.un28 hiO hzO hsO hbO hcO (by decide) (Nat.le_trans (Nat.le_trans hB M31.size) (Nat.le_refl _)) M72.size (by simp; omega) ?_)
     intro b76 n77 c78 w79 e80 h81 g82 c83
     have M84 := Mod.trans' M71 c83 (fun i hi => by injection hi with hi; rw [← hi]; exact (Nat.le_trans M31.size g69))
     have M85 := Mod.trans' M72 c83 (fun i hi => by injection hi with hi; rw [← hi]; exact g69)
     obtain ⟨_, _, _, cg86, hg86, _⟩ := ORow.blk h81
     refine ⟨M85, ?_⟩
     have h87 := md_ob M84 nin0 hmb
     have l94 := lt_ob h87
     refine h1 (i := 10) (fuel := 3) (by kernel_rfl) rfl (sc rfl (r_callv (caps := []) (all := [.slice (some ⟨b76, 0, none⟩) n77 c78]) En.f26 (by kernel_rfl) (by kernel_rfl)) (rsort_own h81 (names_snoc hnm hno) (Nat.le_trans hBw M84.size) (by simp; omega)) ?_)
     rintro e w88 ⟨A89, n90, c91, rfl, h92, u93⟩
     refine ⟨.slice A89 n90 c91, rfl, ?_⟩
     have M95 := Mod.trans M84 (Mod.of_up u93)
     have M96 := Mod.trans M85 (Mod.of_up u93)
     refine ⟨M96, ?_⟩
     refine hvq (i := 11) (fuel := 2) rfl (fun _ _ _ h => h) M96 rfl (v := .pointer (some ⟨mb, 0, none⟩)) (fun _ _ => r_nilCheck (by kernel_rfl)) ?_
     refine hvq (i := 12) (fuel := 1) rfl (fun _ _ _ h => h) M96 rfl (v := .pointer (some ⟨mb, 0, none⟩)) (fun _ _ => r_fieldAddr (u := .pointer (some ⟨mb, 0, none⟩)) (by kernel_rfl) (fun _ => (by kernel_rfl))) ?_
     have h97 := md_ob M95 nin0 hmb
     refine h1 (i := 13) (fuel := 0) (by kernel_rfl) rfl (ss rfl (k := 0) (v := .slice A89 n90 c91) (vs := [.slice A89 n90 c91]) (cs' := [.slice A89 n90 c91]) (by kernel_rfl) (by kernel_rfl) rfl Ty.sz28 h97 rfl (Nat.le_of_ble_eq_true rfl) rfl ?_)
     intro w98 h99 c100
     have M101 := md_old M95 c100
     have M102 := Mod.trans M96 (Mod.of_chg c100 (by simp))
     refine ⟨M102, ?_⟩
     refine hend (by kernel_rfl) ?_
     refine then_n (wp_seq (rg_lit ?_))
     refine wmv (v := .int .i64 ((n17 : Int))) ?_
     refine was (v := .int .i64 ((n17 : Int))) ?_
     refine was (v := .int .i64 0) ?_
     refine wnil (then_n (wp_ret ?_))
     refine bodyPost_ret (v := .tuple #[.int .i64 ((n17 : Int)), .int .i64 0]) (res2 rfl (rv_t (by kernel_rfl)) (rv_t (by kernel_rfl))) (by kernel_rfl) ?_
     have h103 := (ORow.chgn h92 c100 ⟨hBm, NotU8.of h97 (by decide)⟩ (ORow.ne_old h92 l94))
     exact ⟨_, _, rfl, ansI_ok v12 h22 h19, ⟨_, h99, ORow.base (ORow.to h103 (by rw [List.nil_append]; exact sortO_insL hsD v12 h22)) (Nat.le_trans hbw M84.size)⟩, (Mod.chg M101)⟩
  ·
   refine ⟨.tuple #[.int .i64 ((n17 : Int)), .int .i64 ((i23 : Int))], rfl, ?_⟩
   have M28 := Mod.trans M11 (Mod.of_up u21)
   refine wmv (v := .tuple #[.int .i64 ((n17 : Int)), .int .i64 ((i23 : Int))]) ?_
   refine wl (sv rfl (v := .int .i64 ((n17 : Int))) (r_extract (vs := [.int .i64 ((n17 : Int)), .int .i64 ((i23 : Int))]) (by kernel_rfl) rfl) ?_)
   refine wl (sv rfl (v := .int .i64 ((i23 : Int))) (r_extract (vs := [.int .i64 ((n17 : Int)), .int .i64 ((i23 : Int))]) (by kernel_rfl) rfl) ?_)
   refine was (v := .int .i64 ((n17 : Int))) ?_
   refine was (v := .int .i64 ((i23 : Int))) ?_
   refine wnil (then_n (wp_seq (wp_seq (rg_lit ?_))))
   refine wmv (v := .int .i64 ((i23 : Int))) ?_
   refine wl (sb rfl (r_ge (k := .i64) (m := ((i23 : Int))) (n := 0) (by kernel_rfl) (by kernel_rfl)) ?_)
   intro b29 k30
   refine wnil (then_n ?_)
   refine bcase b29 (fun v31 => ?_) (fun v31 => ?_)
   ·
    have p32 := of_decide_eq_false (k30.trans v31)
    omega
   have p32 := of_decide_eq_true (k30.trans v31)
   refine wp_cond_true (ebool (b := b29) (by kernel_rfl) v31) ?_
   refine wp_seq (rg_lit ?_)
   refine was (v := .int .i64 0) ?_
   refine was (v := .int .i64 8) ?_
   refine wnil (then_n (wp_ret (then_x (by nofun) ?_)))
   refine bodyPost_ret (v := .tuple #[.int .i64 0, .int .i64 8]) (res2 rfl (rv_t (by kernel_rfl)) (rv_t (by kernel_rfl))) (by kernel_rfl) ?_
   have h33 := md_ob M28 nin0 hmb
   have h34 := (ORow.up hD (Mod.up M28))
   exact ⟨0, 8, rfl, ansI_has v12 h22, ⟨_, h33, ORow.to h34 (insL_has h22).symm⟩, (to_chg (Mod.up M28) mb)⟩
end Go.Proofs.YtefhfoioeoijlaaGreat

/- Nm5, PA, PC -/
import Derived.Test.YtefhfoioeoijlaaGreatDoorQaf
import Derived.Test.YtefhfoioeoijlaaGreatDoorQaq
import Derived.Test.YtefhfoioeoijlaaGreatDoorQas
import Derived.Test.YtefhfoioeoijlaaGreatDoorQat
set_option linter.unusedVariables false
set_option linter.unusedSimpArgs false
namespace Go.Proofs.YtefhfoioeoijlaaGreatDoor
open Go Go.RowKit Go.Sort
section
variable {d : Option Tmp} {ty : TypeId} {pos : String} {af : Array Edge} {g : Option (Nat × Bool)} {ρ : Operand → Value} {w : World}
theorem r_neS2 {x y : Operand} {yt : TypeId} {a b c e : Int} (hx : ρ x = .agg #[.int .i64 a, .int .i64 b]) (hy : ρ y = .agg #[.int .i64 c, .int .i64 e]) :
    (execOp ρ ⟨d, .binOp .neq 24 x y yt, ty, pos, af, g⟩).run Tryz.prog w = .ok (.value (.bool (decide ((⟨a, b⟩ : Stamp) ≠ ⟨c, e⟩)))) w := by
  have h := stamp_eq' a b c e w
  simp [execOp, hx, hy, eqGuard, stamp_noguard, binOp, h]
end
end Go.Proofs.YtefhfoioeoijlaaGreatDoor
set_option linter.unusedVariables false
set_option linter.unusedSimpArgs false
namespace Go.Proofs.YtefhfoioeoijlaaGreatDoor
open Go Go.RowKit Go.Sort
set_option maxRecDepth 20000 in
set_option maxHeartbeats 2000000 in
theorem of_at {B : Nat} {w : World} {tb r : Nat} {L : List Item} (h : TreeIs B w tb r L) (hB : B ≤ w.heap.size) (hF : Fit L) (htab : Tab w) (m1 m2 : Int) : Calls Tryz.prog 42 #[trP tb, .agg #[.int .i64 m1, .int .i64 m2]] w fun e w' => e = .returned (.tuple #[.string (ofB L ⟨m1, m2⟩), .int .i64 (ofK L ⟨m1, m2⟩)]) ∧ Up w w' := by
  go_enter Tryz.func42, Tryz.ntmps42
  refine wp_seq (rg_lit ?_)
  refine wl (sn rfl (cs := #[.int .i64 m1, .int .i64 m2]) (T := 24) (V := fun b => .pointer (some ⟨b, 0, none⟩)) (r_box (v := .agg #[.int .i64 m1, .int .i64 m2]) (by kernel_rfl) rfl) ?_)
  intro pb w1 e2 h3 u4
  have l5 : tb < pb := by rw [e2]; exact lt_ob h.1
  have g6 : w.heap.size ≤ pb := by rw [e2]; exact (Mod.refl [] w).size
  have M7 := Mod.trans (Mod.refl [] w) (Mod.of_up u4)
  refine was (v := .string (⟨#[]⟩)) ?_
  refine was (v := .int .i64 0) ?_
  refine wnil (then_n (wp_seq (wp_block (wp_seq (rg_lit ?_)))))
  refine wmv (v := .pointer (some ⟨tb, 0, none⟩)) ?_
  refine wl (sv (w' := w1) rfl (v := .bool false) (by kernel_rfl) ?_)
  refine was (v := .bool false) ?_
  refine wnil (then_n ?_)
  refine wp_cond_false (by kernel_rfl) ?_
  refine wp_seq (rg_lit ?_)
  refine wmv (v := .pointer (some ⟨tb, 0, none⟩)) ?_
  refine wl (sv rfl (v := .agg #[.int .i64 m1, .int .i64 m2]) (r_loads (k := 0) (by kernel_rfl) Ty.ag24 Ty.sz24 h3 (by kernel_rfl)) ?_)
  have h8 := (TreeIs.up h (Mod.up M7))
  refine wl (sc rfl (r_callv (caps := []) (all := [.pointer (some ⟨tb, 0, none⟩), .agg #[.int .i64 m1, .int .i64 m2]]) En.f39 (by kernel_rfl) (by kernel_rfl)) (hangs_at h8 m1 m2) ?_)
  rintro e w9 ⟨rfl, u10⟩
  refine ⟨.bool (hangsI L 301 ⟨m1, m2⟩), rfl, ?_⟩
  have M11 := Mod.trans M7 (Mod.of_up u10)
  refine wl (sv rfl (v := .bool (!(hangsI L 301 ⟨m1, m2⟩))) (r_not (b := (hangsI L 301 ⟨m1, m2⟩)) (by kernel_rfl)) ?_)
  refine was (v := .bool (!(hangsI L 301 ⟨m1, m2⟩))) ?_
  refine wnil (then_n ?_)
  refine bcase (hangsI L 301 ⟨m1, m2⟩) (fun v12 => ?_) (fun v12 => ?_)
  ·
   refine wp_cond_true (ebool (b := !(hangsI L 301 ⟨m1, m2⟩)) (by kernel_rfl) (bneg v12)) ?_
   refine wp_seq (rg_lit ?_)
   refine was (v := .string (⟨#[]⟩)) ?_
   refine was (v := .int .i64 12) ?_
   refine wnil (then_n (wp_ret (inb_r (then_x (by nofun) ?_))))
   refine bodyPost_ret (v := .tuple #[.string (⟨#[]⟩), .int .i64 12]) (res2 rfl (rv_t (by kernel_rfl)) (rv_t (by kernel_rfl))) (by kernel_rfl) ?_
   exact ⟨of_ret (of_no v12), (Mod.up M11)⟩
  refine wp_cond_false (ebool (b := !(hangsI L 301 ⟨m1, m2⟩)) (by kernel_rfl) (bneg v12)) ?_
  refine wp_skip (inb_n (then_n (wp_seq (rg_lit ?_))))
  refine was (v := .slice none 0 0) ?_
  refine wnil (then_n (wp_seq (wp_block ?_)))
  have h13 := md_ob M11 nin0 h.1
  have h14 := (up_ob u10 h3)
  have h15 := (TreeIs.up h (Mod.up M11))
  refine lp (fun n a r1 => ∃ (k : Nat) (s1 : Int) (s2 : Int) (acc : List ByteArray) (oA : Option Addr) (oc : Nat) (Z : Nat → Value), (n = 17 - k) ∧ (a = ⟨#[.pointer (some ⟨tb, 0, none⟩), .agg #[.int .i64 m1, .int .i64 m2], undef, .pointer (some ⟨pb, 0, none⟩), (Z 4), (Z 5), .slice oA acc.length oc, (Z 7), (Z 8), (Z 9), (Z 10), .bool false, .pointer (some ⟨tb, 0, none⟩), .bool false, .bool (!(hangsI L 301 ⟨m1, m2⟩)), .pointer (some ⟨tb, 0, none⟩), .agg #[.int .i64 m1, .int .i64 m2], .bool (hangsI L 301 ⟨m1, m2⟩), .bool (!(hangsI L 301 ⟨m1, m2⟩)), (Z 19), (Z 20), (Z 21), (Z 22), (Z 23), (Z 24), (Z 25), (Z 26), (Z 27), (Z 28), (Z 29), (Z 30), (Z 31), (Z 32), (Z 33), (Z 34), (Z 35), (Z 36), (Z 37), (Z 38), (Z 39), (Z 40), (Z 41), (Z 42), undef, undef, undef, undef, undef], []⟩) ∧ (Mod [pb] w9 r1) ∧ (r1.heap[pb]? = some (.cells #[.int .i64 s1, .int .i64 s2] 24 (0, 0))) ∧ (k ≤ 16) ∧ (acc.length = k) ∧ (ofL L (16 - k) ⟨s1, s2⟩ acc = ofL L 16 ⟨m1, m2⟩ []) ∧ (Shorts acc) ∧ (BRow w9.heap.size r1 (.slice oA acc.length oc) acc)) ⟨_, 0, m1, m2, [], none, 0, tget [undef, undef, undef, undef, .string (⟨#[]⟩), .int .i64 0, undef, undef, undef, undef, undef, undef, undef, undef, undef, undef, undef, undef, undef, undef, undef, undef, undef, undef, undef, undef, undef, undef, undef, undef, undef, undef, undef, undef, undef, undef, undef, undef, undef, undef, undef, undef, undef], rfl, (by kernel_rfl), Mod.refl _ _, h14, (Nat.zero_le _), rfl, rfl, (fun x hx => absurd hx (by simp)), (BRow.nil _ _)⟩ ?_
  rintro _ _ r1 ⟨k, s1, s2, acc, oA, oc, Z, rfl, rfl, hM1, hX1pb, hF1_0, hF1_1, hF1_2, hF1_3, hF1_4⟩
  have M16 := Mod.thin M11 hM1 (fun y hy => by simp only [List.mem_cons, List.not_mem_nil, or_false] at hy; subst hy; exact .inr g6)
  refine wp_seq (wp_seq ?_)
  refine rg_all (by kernel_rfl) (by kernel_rfl) ?_
  refine qv rfl (v := .agg #[.int .i64 s1, .int .i64 s2]) (fun _ uz => r_loads (k := 0) (by kernel_rfl) Ty.ag24 Ty.sz24 (up_ob uz hX1pb) (by kernel_rfl)) ?_
  refine qc rfl (v := .agg #[.int .i64 0, .int .i64 0]) (fun _ _ => r_callv (caps := []) (all := []) En.f99 (by kernel_rfl) (by kernel_rfl)) (fun wz uz => root_at _) ?_ ?_
  · rintro w1 e w2 hC ⟨rfl, hu⟩; exact ⟨rfl, up_step hC hu.below⟩
  refine qb rfl (fun _ _ => r_neS2 (a := s1) (b := s2) (c := 0) (e := 0) (by kernel_rfl) (by kernel_rfl)) ?_
  intro b17 k18
  refine qnil ?_
  intro w19 u20
  have M21 := Mod.trans M16 (Mod.of_up u20)
  have M22 := Mod.trans hM1 (Mod.of_up u20)
  refine then_n ?_
  refine bcase b17 (fun v23 => ?_) (fun v23 => ?_)
  ·
   have p24 := of_decide_eq_false (k18.trans v23)
   refine wp_cond_false (ebool (b := b17) (by kernel_rfl) v23) ?_
   refine wp_exit (then_x (by nofun) (then_x (by nofun) (inb_hit (then_n (wp_seq (rg_lit ?_))))))
   refine wmv (v := .slice oA acc.length oc) ?_
   have h25 := (BRow.up hF1_4 u20)
   refine wl (sc rfl (r_callv (caps := []) (all := [.slice oA acc.length oc]) En.f101 (by kernel_rfl) (by kernel_rfl)) (rev_at h25 (by omega)) ?_)
   rintro e w26 ⟨rfl, h27, u28⟩
   refine ⟨.tuple #[], rfl, ?_⟩
   have M29 := Mod.trans' M21 u28 (fun k hk => Nat.le_trans M11.size (h25.own k hk).1)
   have M30 := Mod.trans' M22 u28 (fun k hk => Nat.le_trans (Nat.le_refl _) (h25.own k hk).1)
   refine wnil (then_n (wp_seq (rg_lit ?_)))
   refine wmv (v := .slice oA acc.length oc) ?_
   have hjs := joinB_short hF1_3 (by omega)
   refine wl (sc rfl (r_callv (caps := []) (all := [.slice oA acc.length oc, .string (⟨#[47]⟩)]) En.f102 (by kernel_rfl) (by kernel_rfl)) (join_at (L := acc.reverse) h27 (by simp; omega) (by omega)) ?_)
   rintro e w31 ⟨rfl, u32⟩
   refine ⟨.string (joinB acc.reverse), rfl, ?_⟩
   have M33 := Mod.trans M29 (Mod.of_up u32)
   have M34 := Mod.trans M30 (Mod.of_up u32)
   refine wl (sv rfl (v := .string ((⟨#[47]⟩ : ByteArray) ++ (joinB acc.reverse))) (r_adds (m := (⟨#[47]⟩)) (n := (joinB acc.reverse)) (by kernel_rfl) (by kernel_rfl) (by have : (⟨#[47]⟩ : ByteArray).size = 1 := rfl; omega)) ?_)
   refine was (v := .string ((⟨#[47]⟩ : ByteArray) ++ (joinB acc.reverse))) ?_
   refine was (v := .int .i64 0) ?_
   refine wnil (then_n (wp_ret ?_))
   refine bodyPost_ret (v := .tuple #[.string ((⟨#[47]⟩ : ByteArray) ++ (joinB acc.reverse)), .int .i64 0]) (res2 rfl (rv_t (by kernel_rfl)) (rv_t (by kernel_rfl))) (by kernel_rfl) ?_
   have hz0 : ofL L 16 ⟨m1, m2⟩ [] = some acc := by rw [← hF1_2, Decidable.not_not.1 p24]; exact ofL_nil
   exact ⟨of_ret (of_yes v12 hz0), (Mod.up M33)⟩
  have p24 := of_decide_eq_true (k18.trans v23)
  refine wp_cond_true (ebool (b := b17) (by kernel_rfl) v23) ?_
  refine wp_skip (then_n (wp_block (wp_seq (wp_seq (rg_lit ?_)))))
  refine wmv (v := .slice oA acc.length oc) ?_
  refine wl (sv rfl (v := .int .i64 (acc.length : Int)) (r_len Ty.un69 (ad := oA) (n := acc.length) (c := oc) (by kernel_rfl)) ?_)
  refine wl (sb rfl (r_eq (k := .i64) (m := (acc.length : Int)) (n := 16) (by kernel_rfl) (by kernel_rfl)) ?_)
  intro b25 k26
  refine wnil (then_n ?_)
  refine bcase b25 (fun v27 => ?_) (fun v27 => ?_)
  ·
   have p28 := of_decide_eq_false (k26.trans v27)
   refine wp_cond_false (ebool (b := b25) (by kernel_rfl) v27) ?_
   refine wp_skip (then_n (wp_seq (rg_lit ?_)))
   refine wmv (v := .pointer (some ⟨tb, 0, none⟩)) ?_
   have h29 := (up_ob u20 hX1pb)
   refine wl (sv rfl (v := .agg #[.int .i64 s1, .int .i64 s2]) (r_loads (k := 0) (by kernel_rfl) Ty.ag24 Ty.sz24 h29 (by kernel_rfl)) ?_)
   have h30 := (TreeIs.up h (Mod.up M21))
   refine wl (sc rfl (r_callv (caps := []) (all := [.pointer (some ⟨tb, 0, none⟩), .agg #[.int .i64 s1, .int .i64 s2]]) En.f19 (by kernel_rfl) (by kernel_rfl)) (shown18_at h30 (Nat.le_trans hB M21.size) hF (TabIs.up htab (Mod.up M21)) s1 s2) ?_)
   rintro e w31 ⟨rfl, u32⟩
   refine ⟨.tuple #[.string (shownB L ⟨s1, s2⟩), .int .i64 (shownK L ⟨s1, s2⟩)], rfl, ?_⟩
   have M33 := Mod.trans M21 (Mod.of_up u32)
   have M34 := Mod.trans M22 (Mod.of_up u32)
   refine wmv (v := .tuple #[.string (shownB L ⟨s1, s2⟩), .int .i64 (shownK L ⟨s1, s2⟩)]) ?_
   refine wl (sv rfl (v := .string (shownB L ⟨s1, s2⟩)) (r_extract (vs := [.string (shownB L ⟨s1, s2⟩), .int .i64 (shownK L ⟨s1, s2⟩)]) (by kernel_rfl) rfl) ?_)
   refine wl (sv rfl (v := .int .i64 (shownK L ⟨s1, s2⟩)) (r_extract (vs := [.string (shownB L ⟨s1, s2⟩), .int .i64 (shownK L ⟨s1, s2⟩)]) (by kernel_rfl) rfl) ?_)
   refine was (v := .string (shownB L ⟨s1, s2⟩)) ?_
   refine was (v := .int .i64 (shownK L ⟨s1, s2⟩)) ?_
   refine wnil (then_n (wp_seq (rg_lit ?_)))
   refine wmv (v := .slice oA acc.length oc) ?_
   refine wmv (v := .string (shownB L ⟨s1, s2⟩)) ?_
   refine wl (sn rfl (cs := #[.string (shownB L ⟨s1, s2⟩)]) (T := 9) (V := fun b => .slice (some ⟨b, 0, none⟩) 1 1) (r_buildSlice (n := 1) (ps := [(0, .string (shownB L ⟨s1, s2⟩))]) Ty.un69 Ty.sz9 Ty.zv9 (by decide) (by decide) (by kernel_rfl) (by kernel_rfl)) ?_)
   intro b35 w36 e37 h38 u39
   have h40 := md_ob M33 nin0 h.1
   have l41 : tb < b35 := by rw [e37]; exact lt_ob h40
   have h42 := (up_ob u32 h29)
   have l43 : pb < b35 := by rw [e37]; exact lt_ob h42
   have g44 : w.heap.size ≤ b35 := by rw [e37]; exact M33.size
   have g45 : w9.heap.size ≤ b35 := by rw [e37]; exact M34.size
   have M46 := Mod.trans M33 (Mod.of_up u39)
   have M47 := Mod.trans M34 (Mod.of_up u39)
   have h48 := (BRow.up hF1_4 (up_up (up_up u20 u32) u39))
   refine wl (snB rfl (L := acc) (x := (shownB L ⟨s1, s2⟩)) (by kernel_rfl) (by kernel_rfl) h48 Ty.un69 h38 M47.size (by omega) ?_)
   intro A49 c50 w51 h52 u53
   have M54 := Mod.trans' M46 u53 (fun k hk => Nat.le_trans M11.size (h48.own k hk).1)
   have M55 := Mod.trans' M47 u53 (fun k hk => Nat.le_trans (Nat.le_refl _) (h48.own k hk).1)
   refine was (v := .slice A49 ((acc ++ [(shownB L ⟨s1, s2⟩)]).length) c50) ?_
   refine wnil (then_n (wp_seq (rg_lit ?_)))
   refine wmv (v := .pointer (some ⟨tb, 0, none⟩)) ?_
   have h56 := (own_ob u53 (h48.ne_old (lt_ob h14)) (up_ob u39 h42))
   refine wl (sv rfl (v := .agg #[.int .i64 s1, .int .i64 s2]) (r_loads (k := 0) (by kernel_rfl) Ty.ag24 Ty.sz24 h56 (by kernel_rfl)) ?_)
   have h57 := (TreeIs.up h (Mod.up M54))
   refine wl (sc rfl (r_callv (caps := []) (all := [.pointer (some ⟨tb, 0, none⟩), .agg #[.int .i64 s1, .int .i64 s2]]) En.f20 (by kernel_rfl) (by kernel_rfl)) (get_x h57 ⟨s1, s2⟩ (x := (gotI L ⟨s1, s2⟩)) (b := (hasI L ⟨s1, s2⟩)) rfl rfl) ?_)
   rintro e w58 ⟨A59, n60, c61, rfl, h62, u63⟩
   refine ⟨.tuple #[itV (gotI L ⟨s1, s2⟩) (.slice A59 n60 c61), .bool (hasI L ⟨s1, s2⟩)], rfl, ?_⟩
   have M64 := Mod.trans M54 (Mod.of_up u63)
   have M65 := Mod.trans M55 (Mod.of_up u63)
   refine wmv (v := .tuple #[itV (gotI L ⟨s1, s2⟩) (.slice A59 n60 c61), .bool (hasI L ⟨s1, s2⟩)]) ?_
   refine wl (sv rfl (v := itV (gotI L ⟨s1, s2⟩) (.slice A59 n60 c61)) (r_extract (vs := [itV (gotI L ⟨s1, s2⟩) (.slice A59 n60 c61), .bool (hasI L ⟨s1, s2⟩)]) (by kernel_rfl) rfl) ?_)
   refine wl (sv rfl (v := .bool (hasI L ⟨s1, s2⟩)) (r_extract (vs := [itV (gotI L ⟨s1, s2⟩) (.slice A59 n60 c61), .bool (hasI L ⟨s1, s2⟩)]) (by kernel_rfl) rfl) ?_)
   refine wl (sn rfl (cs := #[.int .i64 0, .int .i64 0, .int .i64 0, .int .i64 0, .string (⟨#[]⟩), .bool false, .bool false, .slice none 0 0, .int .i64 0, .int .i64 0]) (T := 42) (V := fun b => .pointer (some ⟨b, 0, none⟩)) (r_alloc Ty.zv42 rfl) ?_)
   intro b66 w67 e68 h69 u70
   have h71 := md_ob M64 nin0 h.1
   have l72 : tb < b66 := by rw [e68]; exact lt_ob h71
   have h73 := (up_ob u63 h56)
   have l74 : pb < b66 := by rw [e68]; exact lt_ob h73
   have g75 : w.heap.size ≤ b66 := by rw [e68]; exact M64.size
   have g76 : w9.heap.size ≤ b66 := by rw [e68]; exact M65.size
   have M77 := Mod.trans M64 (Mod.of_up u70)
   have M78 := Mod.trans M65 (Mod.of_up u70)
   refine wl (ss rfl (k := 0) (v := itV (gotI L ⟨s1, s2⟩) (.slice A59 n60 c61)) (vs := (itC (gotI L ⟨s1, s2⟩) (.slice A59 n60 c61))) (cs' := (itC (gotI L ⟨s1, s2⟩) (.slice A59 n60 c61))) (by kernel_rfl) (by kernel_rfl) rfl Ty.sz42 h69 rfl (Nat.le_of_ble_eq_true rfl) rfl ?_)
   intro w79 h80 c81
   have M82 := Mod.trans' M77 c81 (fun i hi => by injection hi with hi; rw [← hi]; exact g75)
   have M83 := Mod.trans' M78 c81 (fun i hi => by injection hi with hi; rw [← hi]; exact g76)
   refine was (v := .bool (hasI L ⟨s1, s2⟩)) ?_
   refine wnil (then_n (rg_lit ?_))
   refine wl (sv rfl (v := .pointer (some ⟨b66, 2, none⟩)) (r_fieldAddr (u := .pointer (some ⟨b66, 0, none⟩)) (by kernel_rfl) (fun _ => (by kernel_rfl))) ?_)
   refine wl (sv rfl (v := .agg #[.int .i64 ((gotI L ⟨s1, s2⟩).parent.t), .int .i64 ((gotI L ⟨s1, s2⟩).parent.w)]) (r_loads (k := 2) (by kernel_rfl) Ty.ag24 Ty.sz24 h80 (by kernel_rfl)) ?_)
   have h84 := (chg_ob c81 (Nat.ne_of_lt l74) (up_ob u70 h73))
   refine wl (ss rfl (k := 0) (v := .agg #[.int .i64 ((gotI L ⟨s1, s2⟩).parent.t), .int .i64 ((gotI L ⟨s1, s2⟩).parent.w)]) (vs := [.int .i64 ((gotI L ⟨s1, s2⟩).parent.t), .int .i64 ((gotI L ⟨s1, s2⟩).parent.w)]) (cs' := [.int .i64 ((gotI L ⟨s1, s2⟩).parent.t), .int .i64 ((gotI L ⟨s1, s2⟩).parent.w)]) (by kernel_rfl) (by kernel_rfl) rfl Ty.sz24 h84 rfl (Nat.le_of_ble_eq_true rfl) rfl ?_)
   intro w85 h86 c87
   have M88 := Mod.trans' M82 c87 (fun i hi => by injection hi with hi; rw [← hi]; exact g6)
   have M89 := Mod.trans M83 (Mod.of_chg c87 (by simp))
   refine wnil (inb_n (then_n ?_))
   have h90 := (BRow.chgm (BRow.up h52 (up_chgn (up_up u63 u70) c81 (by rw [e68]; exact u63.size))) c87 (BRow.ne_old (BRow.up h52 (up_chgn (up_up u63 u70) c81 (by rw [e68]; exact u63.size))) (lt_ob h14)))
   refine ⟨17 - (k + 1), ?_, (k + 1), (gotI L ⟨s1, s2⟩).parent.t, (gotI L ⟨s1, s2⟩).parent.w, (acc ++ [(shownB L ⟨s1, s2⟩)]), A49, c50, tget [undef, undef, undef, undef, (Z 4), (Z 5), undef, .string (shownB L ⟨s1, s2⟩), .int .i64 (shownK L ⟨s1, s2⟩), .pointer (some ⟨b66, 0, none⟩), .bool (hasI L ⟨s1, s2⟩), undef, undef, undef, undef, undef, undef, undef, undef, .agg #[.int .i64 s1, .int .i64 s2], .agg #[.int .i64 0, .int .i64 0], .bool b17, .slice oA acc.length oc, .int .i64 (acc.length : Int), .bool b25, .tuple #[.string (shownB L ⟨s1, s2⟩), .int .i64 (shownK L ⟨s1, s2⟩)], .pointer (some ⟨tb, 0, none⟩), .agg #[.int .i64 s1, .int .i64 s2], .tuple #[.string (shownB L ⟨s1, s2⟩), .int .i64 (shownK L ⟨s1, s2⟩)], .string (shownB L ⟨s1, s2⟩), .int .i64 (shownK L ⟨s1, s2⟩), .slice oA acc.length oc, .string (shownB L ⟨s1, s2⟩), .slice (some ⟨b35, 0, none⟩) 1 1, .slice A49 ((acc ++ [(shownB L ⟨s1, s2⟩)]).length) c50, .tuple #[itV (gotI L ⟨s1, s2⟩) (.slice A59 n60 c61), .bool (hasI L ⟨s1, s2⟩)], .pointer (some ⟨tb, 0, none⟩), .agg #[.int .i64 s1, .int .i64 s2], .tuple #[itV (gotI L ⟨s1, s2⟩) (.slice A59 n60 c61), .bool (hasI L ⟨s1, s2⟩)], itV (gotI L ⟨s1, s2⟩) (.slice A59 n60 c61), .bool (hasI L ⟨s1, s2⟩), .pointer (some ⟨b66, 2, none⟩), .agg #[.int .i64 ((gotI L ⟨s1, s2⟩).parent.t), .int .i64 ((gotI L ⟨s1, s2⟩).parent.w)]], rfl, (by kernel_rfl), M89, h86, (by omega), (by simp only [List.length_append, List.length_cons, List.length_nil]; omega), ((ofL_go (by omega) p24).symm.trans hF1_2), (Shorts.snoc hF1_3 (shown_short hF _)), h90⟩
   · omega
  have p28 := of_decide_eq_true (k26.trans v27)
  refine wp_cond_true (ebool (b := b25) (by kernel_rfl) v27) ?_
  refine wp_seq (rg_lit ?_)
  refine was (v := .string (⟨#[]⟩)) ?_
  refine was (v := .int .i64 3) ?_
  refine wnil (then_n (wp_ret (then_x (by nofun) (inb_r (then_x (by nofun) (inb_r (then_x (by nofun) ?_)))))))
  refine bodyPost_ret (v := .tuple #[.string (⟨#[]⟩), .int .i64 3]) (res2 rfl (rv_t (by kernel_rfl)) (rv_t (by kernel_rfl))) (by kernel_rfl) ?_
  have hz0 : ofL L 16 ⟨m1, m2⟩ [] = none := by rw [← hF1_2, show 16 - k = 0 by omega]; exact ofL_stop p24
  exact ⟨of_ret (of_deep v12 hz0), (Mod.up M21)⟩
end Go.Proofs.YtefhfoioeoijlaaGreatDoor
set_option linter.unusedVariables false
set_option linter.unusedSimpArgs false
namespace Go.Proofs.YtefhfoioeoijlaaGreatDoor
open Go Go.RowKit Go.Sort
set_option maxHeartbeats 2000000 in
theorem parse_at {w : World} (hmx : Mx w) (s : ByteArray) (hs : s.size ≤ 100000) : Calls Tryz.prog 44 #[.string s] w fun e w' => ∃ xA c, e = .returned (.tuple #[.slice xA (parseL s).length c, .int .i64 (parseK s)]) ∧ SSRow w' (.slice xA (parseL s).length c) (parseL s) ∧ NewS w.heap.size (.slice xA (parseL s).length c) ∧ Up w w' := by
  have hz1 := restB_size s
  have hzp := rest_parts hs
  go_enter Tryz.func44, Tryz.ntmps44
  refine wp_seq (rg_lit ?_)
  refine was (v := .slice none 0 0) ?_
  refine was (v := .int .i64 0) ?_
  refine wnil (then_n (wp_seq (rg_lit ?_)))
  refine wmv (v := .string s) ?_
  refine wl (sc rfl (r_callv (caps := []) (all := [.string s, .string (⟨#[47]⟩)]) En.f103 (by kernel_rfl) (by kernel_rfl)) (cutPrefix_at s _) ?_)
  rintro e w1 ⟨rfl, u2⟩
  refine ⟨.tuple #[.string (restB s), .bool (slashB s)], rfl, ?_⟩
  have M3 := Mod.trans (Mod.refl [] w) (Mod.of_up u2)
  refine wmv (v := .tuple #[.string (restB s), .bool (slashB s)]) ?_
  refine wl (sv rfl (v := .string (restB s)) (r_extract (vs := [.string (restB s), .bool (slashB s)]) (by kernel_rfl) rfl) ?_)
  refine wl (sv rfl (v := .bool (slashB s)) (r_extract (vs := [.string (restB s), .bool (slashB s)]) (by kernel_rfl) rfl) ?_)
  refine was (v := .string (restB s)) ?_
  refine was (v := .bool (slashB s)) ?_
  refine wnil (then_n (wp_seq (wp_block (wp_seq (rg_lit ?_)))))
  refine wmv (v := .bool (slashB s)) ?_
  refine wl (sv rfl (v := .bool (!(slashB s))) (r_not (b := (slashB s)) (by kernel_rfl)) ?_)
  refine was (v := .bool (!(slashB s))) ?_
  refine wnil (then_n ?_)
  refine bcase (slashB s) (fun v4 => ?_) (fun v4 => ?_)
  ·
   refine wp_cond_true (ebool (b := !(slashB s)) (by kernel_rfl) (bneg v4)) ?_
   refine wp_seq (rg_lit ?_)
   refine was (v := .slice none 0 0) ?_
   refine was (v := .int .i64 17) ?_
   refine wnil (then_n (wp_ret (inb_r (then_x (by nofun) ?_))))
   refine bodyPost_ret (v := .tuple #[.slice none 0 0, .int .i64 17]) (res2 rfl (rv_t (by kernel_rfl)) (rv_t (by kernel_rfl))) (by kernel_rfl) ?_
   exact parse_fin (l := []) (A := none) (c := 0) (parse_1 v4) (SSRow.zero _) NewS.nil (Mod.up M3)
  refine wp_cond_false (ebool (b := !(slashB s)) (by kernel_rfl) (bneg v4)) ?_
  refine wp_seq (rg_lit ?_)
  refine wmv (v := .string (restB s)) ?_
  refine wl (sb rfl (r_eqs (m := (restB s)) (n := (⟨#[]⟩)) (by kernel_rfl) (by kernel_rfl)) ?_)
  intro b5 k6
  refine was (v := .bool b5) ?_
  refine wnil (then_n ?_)
  refine bcase b5 (fun v7 => ?_) (fun v7 => ?_)
  ·
   have p8 := of_decide_eq_false (k6.trans v7)
   refine wp_cond_false (ebool (b := b5) (by kernel_rfl) v7) ?_
   refine wp_skip (inb_n (then_n (wp_seq (rg_lit ?_))))
   refine wmv (v := .string (restB s)) ?_
   refine wl (sc rfl (r_callv (caps := []) (all := [.string (restB s), .string (⟨#[47]⟩)]) En.f104 (by kernel_rfl) (by kernel_rfl)) (split_at (Mx.up hmx (Mod.up M3)) (restB s) (by omega)) ?_)
   rintro e w9 ⟨A10, rfl, h11, h12, u13⟩
   refine ⟨.slice A10 ((splB (restB s)).length) ((splB (restB s)).length), rfl, ?_⟩
   have M14 := Mod.trans M3 (Mod.of_up u13)
   refine was (v := .slice A10 ((splB (restB s)).length) ((splB (restB s)).length)) ?_
   refine wnil (then_n (wp_seq (wp_seq (rg_lit ?_))))
   refine wmv (v := .slice A10 ((splB (restB s)).length) ((splB (restB s)).length)) ?_
   refine wl (sc rfl (r_callv (caps := []) (all := [.slice A10 ((splB (restB s)).length) ((splB (restB s)).length)]) En.f46 (by kernel_rfl) (by kernel_rfl)) (showP_at (l := (splB (restB s))) h11 (Mx.up hmx (Mod.up M14)) hzp.1 hzp.2.1 hzp.2.2) ?_)
   rintro e w15 ⟨rfl, u16⟩
   refine ⟨.tuple #[.string (showB (splB (restB s))), .int .i64 (showK (splB (restB s)))], rfl, ?_⟩
   have M17 := Mod.trans M14 (Mod.of_up u16)
   refine wmv (v := .tuple #[.string (showB (splB (restB s))), .int .i64 (showK (splB (restB s)))]) ?_
   refine wl (sv rfl (v := .string (showB (splB (restB s)))) (r_extract (vs := [.string (showB (splB (restB s))), .int .i64 (showK (splB (restB s)))]) (by kernel_rfl) rfl) ?_)
   refine wl (sv rfl (v := .int .i64 (showK (splB (restB s)))) (r_extract (vs := [.string (showB (splB (restB s))), .int .i64 (showK (splB (restB s)))]) (by kernel_rfl) rfl) ?_)
   refine was (v := .string (showB (splB (restB s)))) ?_
   refine was (v := .int .i64 (showK (splB (restB s)))) ?_
   refine wnil (then_n (wp_seq (rg_lit ?_)))
   refine wmv (v := .int .i64 (showK (splB (restB s)))) ?_
   refine wl (sb rfl (r_ne (k := .i64) (m := (showK (splB (restB s)))) (n := 0) (by kernel_rfl) (by kernel_rfl)) ?_)
   intro b18 k19
   refine wnil (then_n ?_)
   refine bcase b18 (fun v20 => ?_) (fun v20 => ?_)
   ·
    have p21 := of_decide_eq_false (k19.trans v20)
    refine wp_cond_false (ebool (b := b18) (by kernel_rfl) v20) ?_
    refine wp_skip (then_n (wp_seq (rg_lit ?_)))
    refine wmv (v := .slice A10 ((splB (restB s)).length) ((splB (restB s)).length)) ?_
    refine was (v := .slice A10 ((splB (restB s)).length) ((splB (restB s)).length)) ?_
    refine was (v := .int .i64 0) ?_
    refine wnil (then_n (wp_ret ?_))
    refine bodyPost_ret (v := .tuple #[.slice A10 ((splB (restB s)).length) ((splB (restB s)).length), .int .i64 0]) (res2 rfl (rv_t (by kernel_rfl)) (rv_t (by kernel_rfl))) (by kernel_rfl) ?_
    have h22 := (SSRow.up h11 u16)
    exact parse_fin (parse_4 v4 p8 (Decidable.not_not.1 p21)) h22 (NewS.old h12 M3.size) (Mod.up M17)
   have p21 := of_decide_eq_true (k19.trans v20)
   refine wp_cond_true (ebool (b := b18) (by kernel_rfl) v20) ?_
   refine wp_seq (rg_lit ?_)
   refine wmv (v := .int .i64 (showK (splB (restB s)))) ?_
   refine was (v := .slice none 0 0) ?_
   refine was (v := .int .i64 (showK (splB (restB s)))) ?_
   refine wnil (then_n (wp_ret (then_x (by nofun) ?_)))
   refine bodyPost_ret (v := .tuple #[.slice none 0 0, .int .i64 (showK (splB (restB s)))]) (res2 rfl (rv_t (by kernel_rfl)) (rv_t (by kernel_rfl))) (by kernel_rfl) ?_
   exact parse_fin (l := []) (A := none) (c := 0) (parse_3 v4 p8 p21) (SSRow.zero _) NewS.nil (Mod.up M17)
  have p8 := of_decide_eq_true (k6.trans v7)
  refine wp_cond_true (ebool (b := b5) (by kernel_rfl) v7) ?_
  refine wp_seq (rg_lit ?_)
  refine was (v := .slice none 0 0) ?_
  refine was (v := .int .i64 0) ?_
  refine wnil (then_n (wp_ret (inb_r (then_x (by nofun) ?_))))
  refine bodyPost_ret (v := .tuple #[.slice none 0 0, .int .i64 0]) (res2 rfl (rv_t (by kernel_rfl)) (rv_t (by kernel_rfl))) (by kernel_rfl) ?_
  exact parse_fin (l := []) (A := none) (c := 0) (parse_2 v4 p8) (SSRow.zero _) NewS.nil (Mod.up M3)
set_option maxHeartbeats 2000000 in
theorem clean_at {w : World} (hmx : Mx w) (s : ByteArray) (hs : s.size ≤ 100000) : Calls Tryz.prog 50 #[.string s] w fun e w' => e = .returned (.tuple #[.string (cleanB s), .int .i64 (cleanK s)]) ∧ Up w w' := by
  have hz1 := restB_size s
  have hzp := rest_parts hs
  have hzl : (splB (restB s)).length ≤ 100001 := by have := splB_len (restB s); omega
  go_enter Tryz.func50, Tryz.ntmps50
  refine wp_seq (rg_lit ?_)
  refine was (v := .string (⟨#[]⟩)) ?_
  refine was (v := .int .i64 0) ?_
  refine wnil (then_n (wp_seq (rg_lit ?_)))
  refine wmv (v := .string s) ?_
  refine wl (sc rfl (r_callv (caps := []) (all := [.string s, .string (⟨#[47]⟩)]) En.f103 (by kernel_rfl) (by kernel_rfl)) (cutPrefix_at s _) ?_)
  rintro e w1 ⟨rfl, u2⟩
  refine ⟨.tuple #[.string (restB s), .bool (slashB s)], rfl, ?_⟩
  have M3 := Mod.trans (Mod.refl [] w) (Mod.of_up u2)
  refine wmv (v := .tuple #[.string (restB s), .bool (slashB s)]) ?_
  refine wl (sv rfl (v := .string (restB s)) (r_extract (vs := [.string (restB s), .bool (slashB s)]) (by kernel_rfl) rfl) ?_)
  refine wl (sv rfl (v := .bool (slashB s)) (r_extract (vs := [.string (restB s), .bool (slashB s)]) (by kernel_rfl) rfl) ?_)
  refine was (v := .string (restB s)) ?_
  refine was (v := .bool (slashB s)) ?_
  refine wnil (then_n (wp_seq (wp_seq (rg_lit ?_))))
  refine wmv (v := .bool (slashB s)) ?_
  refine wl (sv rfl (v := .bool (!(slashB s))) (r_not (b := (slashB s)) (by kernel_rfl)) ?_)
  refine wnil (then_n ?_)
  refine bcase (slashB s) (fun v4 => ?_) (fun v4 => ?_)
  ·
   refine wp_cond_true (ebool (b := !(slashB s)) (by kernel_rfl) (bneg v4)) ?_
   refine wp_seq (rg_lit ?_)
   refine was (v := .string (⟨#[]⟩)) ?_
   refine was (v := .int .i64 17) ?_
   refine wnil (then_n (wp_ret (then_x (by nofun) ?_)))
   refine bodyPost_ret (v := .tuple #[.string (⟨#[]⟩), .int .i64 17]) (res2 rfl (rv_t (by kernel_rfl)) (rv_t (by kernel_rfl))) (by kernel_rfl) ?_
   exact ⟨clean_ret (clean_1 v4), (Mod.up M3)⟩
  refine wp_cond_false (ebool (b := !(slashB s)) (by kernel_rfl) (bneg v4)) ?_
  refine wp_skip (then_n (wp_seq (rg_lit ?_)))
  refine was (v := .slice none 0 0) ?_
  refine wnil (then_n (wp_seq (wp_seq (rg_lit ?_))))
  refine wmv (v := .string (restB s)) ?_
  refine wl (sc rfl (r_callv (caps := []) (all := [.string (restB s), .string (⟨#[47]⟩)]) En.f104 (by kernel_rfl) (by kernel_rfl)) (split_at (Mx.up hmx (Mod.up M3)) (restB s) (by omega)) ?_)
  rintro e w5 ⟨A6, rfl, h7, h8, u9⟩
  refine ⟨.slice A6 ((splB (restB s)).length) ((splB (restB s)).length), rfl, ?_⟩
  have M10 := Mod.trans M3 (Mod.of_up u9)
  refine wl (sv rfl (v := .int .i64 (((splB (restB s)).length) : Int)) (r_len Ty.un69 (ad := A6) (n := ((splB (restB s)).length)) (c := ((splB (restB s)).length)) (by kernel_rfl)) ?_)
  refine wmv (v := .int .i64 0) ?_
  refine wnil (then_n (wp_block ?_))
  refine lp (fun n a r1 => ∃ (k : Nat) (out : List ByteArray) (oA : Option Addr) (oc : Nat) (Z : Nat → Value), (n = (splB (restB s)).length - k) ∧ (a = ⟨#[.string s, undef, .string (⟨#[]⟩), .int .i64 0, .string (restB s), .bool (slashB s), .slice oA out.length oc, undef, (Z 8), .tuple #[.string (restB s), .bool (slashB s)], .string s, .tuple #[.string (restB s), .bool (slashB s)], .string (restB s), .bool (slashB s), .bool (slashB s), .bool (!(slashB s)), .string (restB s), .slice A6 ((splB (restB s)).length) ((splB (restB s)).length), .int .i64 (((splB (restB s)).length) : Int), .int .i64 (k : Int), (Z 20), (Z 21), (Z 22), (Z 23), (Z 24), (Z 25), (Z 26), (Z 27), (Z 28), (Z 29), (Z 30), (Z 31), (Z 32), (Z 33), (Z 34), (Z 35), (Z 36), (Z 37), (Z 38), (Z 39), undef, undef, undef, undef], []⟩) ∧ (Mod [] w5 r1) ∧ (k ≤ (splB (restB s)).length) ∧ (out.length ≤ k) ∧ (((splB (restB s)).drop k).foldl cleanS out = (splB (restB s)).foldl cleanS []) ∧ (BRow w5.heap.size r1 (.slice oA out.length oc) out)) ⟨_, 0, [], none, 0, tget [undef, undef, undef, undef, undef, undef, undef, undef, undef, undef, undef, undef, undef, undef, undef, undef, undef, undef, undef, undef, undef, undef, undef, undef, undef, undef, undef, undef, undef, undef, undef, undef, undef, undef, undef, undef, undef, undef, undef, undef], rfl, (by kernel_rfl), Mod.refl _ _, (Nat.zero_le _), (Nat.zero_le _), rfl, (BRow.nil _ _)⟩ ?_
  rintro _ _ r1 ⟨k, out, oA, oc, Z, rfl, rfl, hM1, hF1_0, hF1_1, hF1_2, hF1_3⟩
  have M11 := Mod.thin M10 hM1 (by simp)
  refine wp_seq (rg_lit ?_)
  refine wl (sb rfl (r_lt (k := .i64) (m := (k : Int)) (n := (((splB (restB s)).length) : Int)) (by kernel_rfl) (by kernel_rfl)) ?_)
  intro b12 k13
  refine wnil (then_n (wp_seq ?_))
  refine bcase b12 (fun v14 => ?_) (fun v14 => ?_)
  ·
   have p15 := of_decide_eq_false (k13.trans v14)
   refine wp_cond_false (ebool (b := b12) (by kernel_rfl) v14) ?_
   refine wp_exit (then_x (by nofun) (then_x (by nofun) (inb_hit (then_n (wp_seq (rg_lit ?_))))))
   refine wmv (v := .slice oA out.length oc) ?_
   have hoe : out = cleanO s := clean_end (by omega) hF1_2
   have hzq := clean_out hs hoe
   refine wl (sc rfl (r_callv (caps := []) (all := [.slice oA out.length oc]) En.f46 (by kernel_rfl) (by kernel_rfl)) (showP_at (l := out) (BRow.ss hF1_3) (Mx.up hmx (Mod.up M11)) hzq.1 hzq.2.1 hzq.2.2) ?_)
   rintro e w16 ⟨rfl, u17⟩
   refine ⟨.tuple #[.string (showB out), .int .i64 (showK out)], rfl, ?_⟩
   have M19 := Mod.trans M11 (Mod.of_up u17)
   have M20 := Mod.trans hM1 (Mod.of_up u17)
   refine wl (sv rfl (v := .string (showB out)) (r_extract (vs := [.string (showB out), .int .i64 (showK out)]) (by kernel_rfl) rfl) ?_)
   refine wl (sv rfl (v := .int .i64 (showK out)) (r_extract (vs := [.string (showB out), .int .i64 (showK out)]) (by kernel_rfl) rfl) ?_)
   refine was (v := .string (showB out)) ?_
   refine was (v := .int .i64 (showK out)) ?_
   refine wnil (then_n (wp_ret ?_))
   refine bodyPost_ret (v := .tuple #[.string (showB out), .int .i64 (showK out)]) (res2 rfl (rv_t (by kernel_rfl)) (rv_t (by kernel_rfl))) (by kernel_rfl) ?_
   exact ⟨clean_ret (clean_show v4 hoe), (Mod.up M19)⟩
  have p15 := of_decide_eq_true (k13.trans v14)
  refine wp_cond_true (ebool (b := b12) (by kernel_rfl) v14) ?_
  refine wp_skip (then_n (wp_seq (wp_block (wp_seq (rg_lit ?_)))))
  have h16 := (SSRow.up h7 (Mod.up hM1))
  obtain ⟨y17, hy17⟩ : ∃ x, (splB (restB s))[k]? = some x := ⟨_, List.getElem?_eq_getElem (by omega)⟩
  obtain ⟨g17, f17, hA17, hl17, hc17⟩ := SSRow.get h16 hy17
  refine wl (sv rfl (v := .pointer (some ⟨g17, f17 + k, none⟩)) (r_ixaddr' (A := A6) (b := g17) (o := f17) (n := ((splB (restB s)).length)) (c := ((splB (restB s)).length)) (sz := 1) (j := (k : Int)) (by kernel_rfl) hA17 (by kernel_rfl) Ty.un69 Ty.sz9 (by omega) (by omega) (by simp)) ?_)
  refine wl (sv rfl (v := .string y17) (r_loadc (by kernel_rfl) Ty.ag9 hc17) ?_)
  refine was (v := .string y17) ?_
  refine wnil (then_n (wp_seq (rg_lit ?_)))
  refine wmv (v := .string y17) ?_
  refine wnil (then_n (wp_block (wp_seq (wp_seq (rg_lit ?_)))))
  refine wl (sb rfl (r_eqs (m := y17) (n := (⟨#[]⟩)) (by kernel_rfl) (by kernel_rfl)) ?_)
  intro b18 k19
  refine was (v := .bool b18) ?_
  refine wnil (then_n ?_)
  refine bcase b18 (fun v20 => ?_) (fun v20 => ?_)
  ·
   have p21 := of_decide_eq_false (k19.trans v20)
   refine wp_cond_false (ebool (b := b18) (by kernel_rfl) v20) ?_
   refine rg_lit ?_
   refine wl (sb rfl (r_eqs (m := y17) (n := (⟨#[46]⟩)) (by kernel_rfl) (by kernel_rfl)) ?_)
   intro b22 k23
   refine was (v := .bool b22) ?_
   refine wnil (then_n ?_)
   refine bcase b22 (fun v24 => ?_) (fun v24 => ?_)
   ·
    have p25 := of_decide_eq_false (k23.trans v24)
    refine wp_cond_false (ebool (b := b22) (by kernel_rfl) v24) ?_
    refine wp_seq (rg_lit ?_)
    refine wl (sb rfl (r_eqs (m := y17) (n := (⟨#[46, 46]⟩)) (by kernel_rfl) (by kernel_rfl)) ?_)
    intro b26 k27
    refine was (v := .bool b26) ?_
    refine wnil (then_n ?_)
    refine bcase b26 (fun v28 => ?_) (fun v28 => ?_)
    ·
     have p29 := of_decide_eq_false (k27.trans v28)
     refine wp_cond_false (ebool (b := b26) (by kernel_rfl) v28) ?_
     refine rg_lit ?_
     refine wmv (v := .slice oA out.length oc) ?_
     refine wmv (v := .string y17) ?_
     refine wl (sn rfl (cs := #[.string y17]) (T := 9) (V := fun b => .slice (some ⟨b, 0, none⟩) 1 1) (r_buildSlice (n := 1) (ps := [(0, .string y17)]) Ty.un69 Ty.sz9 Ty.zv9 (by decide) (by decide) (by kernel_rfl) (by kernel_rfl)) ?_)
     intro b30 w31 e32 h33 u34
     have g35 : w.heap.size ≤ b30 := by rw [e32]; exact M11.size
     have g36 : w5.heap.size ≤ b30 := by rw [e32]; exact hM1.size
     have M37 := Mod.trans M11 (Mod.of_up u34)
     have M38 := Mod.trans hM1 (Mod.of_up u34)
     have h39 := (BRow.up hF1_3 u34)
     refine wl (snB rfl (L := out) (x := y17) (by kernel_rfl) (by kernel_rfl) h39 Ty.un69 h33 M38.size (by omega) ?_)
     intro A40 c41 w42 h43 u44
     have M45 := Mod.trans' M37 u44 (fun k hk => Nat.le_trans M10.size (h39.own k hk).1)
     have M46 := Mod.trans' M38 u44 (fun k hk => Nat.le_trans (Nat.le_refl _) (h39.own k hk).1)
     refine was (v := .slice A40 ((out ++ [y17]).length) c41) ?_
     refine wnil (inb_n (inb_n (then_n (rg_lit ?_))))
     refine wl (sv rfl (v := .int .i64 ((k + 1 : Nat) : Int)) (r_add (k := .i64) (m := (k : Int)) (n := 1) (c := ((k + 1 : Nat) : Int)) (by kernel_rfl) (by kernel_rfl) ((IntWalk.i64_in _ (by omega)).trans (by omega))) ?_)
     refine wmv (v := .int .i64 ((k + 1 : Nat) : Int)) ?_
     refine wnil (then_n ?_)
     refine ⟨(splB (restB s)).length - (k + 1), ?_, (k + 1), (out ++ [y17]), A40, c41, tget [undef, undef, undef, undef, undef, undef, undef, undef, .string y17, undef, undef, undef, undef, undef, undef, undef, undef, undef, undef, undef, .bool b12, .pointer (some ⟨g17, f17 + k, none⟩), .string y17, .string y17, .slice oA out.length oc, .string y17, .slice (some ⟨b30, 0, none⟩) 1 1, .slice A40 ((out ++ [y17]).length) c41, .bool b22, .bool b18, .bool b22, .bool b26, .bool b26, (Z 33), (Z 34), (Z 35), (Z 36), (Z 37), (Z 38), .int .i64 ((k + 1 : Nat) : Int)], rfl, (by kernel_rfl), M46, (by omega), (by (try simp only [List.length_append, List.length_cons, List.length_nil, List.length_take]); omega), (clean_nx hy17 hF1_2 (clS_d p21 p25 p29)), h43⟩
     · omega
    have p29 := of_decide_eq_true (k27.trans v28)
    refine wp_cond_true (ebool (b := b26) (by kernel_rfl) v28) ?_
    refine rg_lit ?_
    refine wmv (v := .slice oA out.length oc) ?_
    refine wmv (v := .slice oA out.length oc) ?_
    refine wl (sv rfl (v := .int .i64 (out.length : Int)) (r_len Ty.un69 (ad := oA) (n := out.length) (c := oc) (by kernel_rfl)) ?_)
    refine wl (sv rfl (v := .int .i64 ((out.length : Int) - 1)) (r_sub (k := .i64) (m := (out.length : Int)) (n := 1) (by kernel_rfl) (by kernel_rfl) (IntWalk.i64_in _ (by omega))) ?_)
    refine wl (sv rfl (v := .int .i64 ((out.length - 1 : Nat) : Int)) (r_max0 (a := ((out.length : Int) - 1)) (b := 0) (m := (out.length - 1)) (by kernel_rfl) (by kernel_rfl) (by split <;> omega)) ?_)
    have h30 := BRow.pre (k := out.length - 1) hF1_3 (by omega)
    have z31 : (out.take (out.length - 1)).length = out.length - 1 := by rw [List.length_take]; omega
    refine wl (sv rfl (v := .slice oA ((out.take (out.length - 1)).length) oc) ((show _ = _ from by rw [z31]; exact r_slHi (w := r1) (t := 69) (k := out.length - 1) (L := out) (j := ((out.length - 1 : Nat) : Int)) (BRow.ss hF1_3) (by kernel_rfl) (by kernel_rfl) rfl Ty.un69 Ty.sz9 (by omega))) ?_)
    refine was (v := .slice oA ((out.take (out.length - 1)).length) oc) ?_
    refine wnil (inb_n (inb_n (then_n (rg_lit ?_))))
    refine wl (sv rfl (v := .int .i64 ((k + 1 : Nat) : Int)) (r_add (k := .i64) (m := (k : Int)) (n := 1) (c := ((k + 1 : Nat) : Int)) (by kernel_rfl) (by kernel_rfl) ((IntWalk.i64_in _ (by omega)).trans (by omega))) ?_)
    refine wmv (v := .int .i64 ((k + 1 : Nat) : Int)) ?_
    refine wnil (then_n ?_)
    refine ⟨(splB (restB s)).length - (k + 1), ?_, (k + 1), (out.take (out.length - 1)), oA, oc, tget [undef, undef, undef, undef, undef, undef, undef, undef, .string y17, undef, undef, undef, undef, undef, undef, undef, undef, undef, undef, undef, .bool b12, .pointer (some ⟨g17, f17 + k, none⟩), .string y17, .string y17, (Z 24), (Z 25), (Z 26), (Z 27), .bool b22, .bool b18, .bool b22, .bool b26, .bool b26, .slice oA out.length oc, .slice oA out.length oc, .int .i64 (out.length : Int), .int .i64 ((out.length : Int) - 1), .int .i64 ((out.length - 1 : Nat) : Int), .slice oA ((out.take (out.length - 1)).length) oc, .int .i64 ((k + 1 : Nat) : Int)], rfl, (by kernel_rfl), hM1, (by omega), (by (try simp only [List.length_append, List.length_cons, List.length_nil, List.length_take]); omega), (clean_nx hy17 hF1_2 (clS_c p29)), h30⟩
    · omega
   have p25 := of_decide_eq_true (k23.trans v24)
   refine wp_cond_true (ebool (b := b22) (by kernel_rfl) v24) ?_
   refine wp_skip (inb_n (inb_n (then_n (rg_lit ?_))))
   refine wl (sv rfl (v := .int .i64 ((k + 1 : Nat) : Int)) (r_add (k := .i64) (m := (k : Int)) (n := 1) (c := ((k + 1 : Nat) : Int)) (by kernel_rfl) (by kernel_rfl) ((IntWalk.i64_in _ (by omega)).trans (by omega))) ?_)
   refine wmv (v := .int .i64 ((k + 1 : Nat) : Int)) ?_
   refine wnil (then_n ?_)
   refine ⟨(splB (restB s)).length - (k + 1), ?_, (k + 1), out, oA, oc, tget [undef, undef, undef, undef, undef, undef, undef, undef, .string y17, undef, undef, undef, undef, undef, undef, undef, undef, undef, undef, undef, .bool b12, .pointer (some ⟨g17, f17 + k, none⟩), .string y17, .string y17, (Z 24), (Z 25), (Z 26), (Z 27), .bool b22, .bool b18, .bool b22, (Z 31), (Z 32), (Z 33), (Z 34), (Z 35), (Z 36), (Z 37), (Z 38), .int .i64 ((k + 1 : Nat) : Int)], rfl, (by kernel_rfl), hM1, (by omega), (by (try simp only [List.length_append, List.length_cons, List.length_nil, List.length_take]); omega), (clean_nx hy17 hF1_2 (clS_b p25)), hF1_3⟩
   · omega
  have p21 := of_decide_eq_true (k19.trans v20)
  refine wp_cond_true (ebool (b := b18) (by kernel_rfl) v20) ?_
  refine wp_skip (then_n ?_)
  refine wp_cond_true (ebool (b := b18) (by kernel_rfl) v20) ?_
  refine wp_skip (inb_n (inb_n (then_n (rg_lit ?_))))
  refine wl (sv rfl (v := .int .i64 ((k + 1 : Nat) : Int)) (r_add (k := .i64) (m := (k : Int)) (n := 1) (c := ((k + 1 : Nat) : Int)) (by kernel_rfl) (by kernel_rfl) ((IntWalk.i64_in _ (by omega)).trans (by omega))) ?_)
  refine wmv (v := .int .i64 ((k + 1 : Nat) : Int)) ?_
  refine wnil (then_n ?_)
  refine ⟨(splB (restB s)).length - (k + 1), ?_, (k + 1), out, oA, oc, tget [undef, undef, undef, undef, undef, undef, undef, undef, .string y17, undef, undef, undef, undef, undef, undef, undef, undef, undef, undef, undef, .bool b12, .pointer (some ⟨g17, f17 + k, none⟩), .string y17, .string y17, (Z 24), (Z 25), (Z 26), (Z 27), .bool b18, .bool b18, (Z 30), (Z 31), (Z 32), (Z 33), (Z 34), (Z 35), (Z 36), (Z 37), (Z 38), .int .i64 ((k + 1 : Nat) : Int)], rfl, (by kernel_rfl), hM1, (by omega), (by (try simp only [List.length_append, List.length_cons, List.length_nil, List.length_take]); omega), (clean_nx hy17 hF1_2 (clS_a p21)), hF1_3⟩
  · omega
set_option maxRecDepth 20000 in
set_option maxHeartbeats 2000000 in
theorem walk_at {B : Nat} {w : World} {tb r : Nat} {L : List Item} (h : TreeIs B w tb r L) (hB : B ≤ w.heap.size) (hF : Fit L) (htab : Tab w) (hmx : Mx w) (s : ByteArray) (hs : s.size ≤ 100000) : Calls Tryz.prog 43 #[trP tb, .string s] w fun e w' => e = .returned (.tuple #[.agg #[.int .i64 (walkS L s).t, .int .i64 (walkS L s).w], .int .i64 (walkK L s)]) ∧ Up w w' := by
  have hzp := parse_parts hs
  go_enter Tryz.func43, Tryz.ntmps43
  refine wp_seq (rg_lit ?_)
  refine wl (sn rfl (cs := #[.int .i64 0, .int .i64 0]) (T := 24) (V := fun b => .pointer (some ⟨b, 0, none⟩)) (r_alloc Ty.zv24 rfl) ?_)
  intro pb w1 e2 h3 u4
  have l5 : tb < pb := by rw [e2]; exact lt_ob h.1
  have g6 : w.heap.size ≤ pb := by rw [e2]; exact (Mod.refl [] w).size
  have M7 := Mod.trans (Mod.refl [] w) (Mod.of_up u4)
  refine was (v := .int .i64 0) ?_
  refine wnil (then_n (wp_seq (rg_lit ?_)))
  refine wmv (v := .string s) ?_
  have h14 := md_ob M7 nin0 h.1
  refine wl (sc rfl (r_callv (caps := []) (all := [.string s]) En.f44 (by kernel_rfl) (by kernel_rfl)) (parse_at (Mx.up hmx (Mod.up M7)) s (by omega)) ?_)
  rintro e w8 ⟨A9, c10, rfl, h11, h12, u13⟩
  have h15 := NewS.ne h12 (lt_ob h14)
  have h16 := NewS.ne h12 (lt_ob h3)
  refine ⟨.tuple #[.slice A9 ((parseL s).length) c10, .int .i64 (parseK s)], rfl, ?_⟩
  have M17 := Mod.trans M7 (Mod.of_up u13)
  refine wmv (v := .tuple #[.slice A9 ((parseL s).length) c10, .int .i64 (parseK s)]) ?_
  refine wl (sv rfl (v := .slice A9 ((parseL s).length) c10) (r_extract (vs := [.slice A9 ((parseL s).length) c10, .int .i64 (parseK s)]) (by kernel_rfl) rfl) ?_)
  refine wl (sv rfl (v := .int .i64 (parseK s)) (r_extract (vs := [.slice A9 ((parseL s).length) c10, .int .i64 (parseK s)]) (by kernel_rfl) rfl) ?_)
  refine was (v := .slice A9 ((parseL s).length) c10) ?_
  refine was (v := .int .i64 (parseK s)) ?_
  refine wnil (then_n (wp_seq (wp_block (wp_seq (rg_lit ?_)))))
  refine wmv (v := .int .i64 (parseK s)) ?_
  refine wl (sb rfl (r_ne (k := .i64) (m := (parseK s)) (n := 0) (by kernel_rfl) (by kernel_rfl)) ?_)
  intro b18 k19
  refine was (v := .bool b18) ?_
  refine wnil (then_n ?_)
  refine bcase b18 (fun v20 => ?_) (fun v20 => ?_)
  ·
   have p21 := of_decide_eq_false (k19.trans v20)
   refine wp_cond_false (ebool (b := b18) (by kernel_rfl) v20) ?_
   refine wp_seq (rg_lit ?_)
   refine wmv (v := .pointer (some ⟨tb, 0, none⟩)) ?_
   refine wl (sv (w' := w8) rfl (v := .bool false) (by kernel_rfl) ?_)
   refine was (v := .bool false) ?_
   refine wnil (then_n ?_)
   refine wp_cond_false (by kernel_rfl) ?_
   refine wp_skip (inb_n (then_n (wp_seq (wp_seq (rg_lit ?_)))))
   refine wmv (v := .slice A9 ((parseL s).length) c10) ?_
   refine wl (sv rfl (v := .int .i64 (((parseL s).length) : Int)) (r_len Ty.un69 (ad := A9) (n := ((parseL s).length)) (c := c10) (by kernel_rfl)) ?_)
   refine wmv (v := .int .i64 0) ?_
   refine wnil (then_n (wp_block ?_))
   have h22 := md_ob M17 nin0 h.1
   have h23 := (up_ob u13 h3)
   have h24 := (TreeIs.up h (Mod.up M17))
   refine lp (fun n a r1 => ∃ (k : Nat) (s1 : Int) (s2 : Int) (Z : Nat → Value), (n = (parseL s).length - k) ∧ (a = ⟨#[.pointer (some ⟨tb, 0, none⟩), .string s, undef, undef, .pointer (some ⟨pb, 0, none⟩), (Z 5), .slice A9 ((parseL s).length) c10, undef, (Z 8), (Z 9), (Z 10), .tuple #[.slice A9 ((parseL s).length) c10, .int .i64 (parseK s)], .string s, .tuple #[.slice A9 ((parseL s).length) c10, .int .i64 (parseK s)], .slice A9 ((parseL s).length) c10, .int .i64 (parseK s), .bool b18, .int .i64 (parseK s), .bool b18, undef, undef, .bool false, .pointer (some ⟨tb, 0, none⟩), .bool false, undef, .slice A9 ((parseL s).length) c10, .int .i64 (((parseL s).length) : Int), .int .i64 (k : Int), (Z 28), (Z 29), (Z 30), (Z 31), (Z 32), (Z 33), (Z 34), (Z 35), (Z 36), (Z 37), (Z 38), (Z 39), (Z 40), (Z 41), (Z 42), (Z 43), (Z 44), undef], []⟩) ∧ (Mod [pb] w8 r1) ∧ (r1.heap[pb]? = some (.cells #[.int .i64 s1, .int .i64 s2] 24 (0, 0))) ∧ (k ≤ (parseL s).length) ∧ (wkS L ((parseL s).drop k) ⟨s1, s2⟩ = wkS L (parseL s) ⟨0, 0⟩)) ⟨_, 0, 0, 0, tget [undef, undef, undef, undef, undef, .int .i64 (parseK s), undef, undef, undef, undef, undef, undef, undef, undef, undef, undef, undef, undef, undef, undef, undef, undef, undef, undef, undef, undef, undef, undef, undef, undef, undef, undef, undef, undef, undef, undef, undef, undef, undef, undef, undef, undef, undef, undef, undef], rfl, (by kernel_rfl), Mod.refl _ _, h23, (Nat.zero_le _), rfl⟩ ?_
   rintro _ _ r1 ⟨k, s1, s2, Z, rfl, rfl, hM1, hX1pb, hF1_0, hF1_1⟩
   have M25 := Mod.thin M17 hM1 (fun y hy => by simp only [List.mem_cons, List.not_mem_nil, or_false] at hy; subst hy; exact .inr g6)
   refine wp_seq (rg_lit ?_)
   refine wl (sb rfl (r_lt (k := .i64) (m := (k : Int)) (n := (((parseL s).length) : Int)) (by kernel_rfl) (by kernel_rfl)) ?_)
   intro b26 k27
   refine wnil (then_n (wp_seq ?_))
   refine bcase b26 (fun v28 => ?_) (fun v28 => ?_)
   ·
    have p29 := of_decide_eq_false (k27.trans v28)
    refine wp_cond_false (ebool (b := b26) (by kernel_rfl) v28) ?_
    refine wp_exit (then_x (by nofun) (then_x (by nofun) (inb_hit (then_n (wp_seq (rg_lit ?_))))))
    refine wl (sv rfl (v := .agg #[.int .i64 s1, .int .i64 s2]) (r_loads (k := 0) (by kernel_rfl) Ty.ag24 Ty.sz24 hX1pb (by kernel_rfl)) ?_)
    refine wl (ss rfl (k := 0) (v := .agg #[.int .i64 s1, .int .i64 s2]) (vs := [.int .i64 s1, .int .i64 s2]) (cs' := [.int .i64 s1, .int .i64 s2]) (by kernel_rfl) (by kernel_rfl) rfl Ty.sz24 hX1pb rfl (Nat.le_of_ble_eq_true rfl) rfl ?_)
    intro w30 h31 c32
    have M33 := Mod.trans' M25 c32 (fun i hi => by injection hi with hi; rw [← hi]; exact g6)
    have M34 := Mod.trans hM1 (Mod.of_chg c32 (by simp))
    refine was (v := .int .i64 0) ?_
    refine wnil (then_n (wp_ret ?_))
    refine bodyPost_ret (v := .tuple #[.agg #[.int .i64 s1, .int .i64 s2], .int .i64 0]) (res2 rfl (rv_c (p := ⟨pb, 0, none⟩) (by kernel_rfl) (run_loadVars (vs := [.int .i64 s1, .int .i64 s2]) Ty.ag24 Ty.sz24 h31 (by kernel_rfl))) (rv_t (by kernel_rfl))) (by kernel_rfl) ?_
    exact ⟨walk_ret (walk_is (Decidable.not_not.1 p21) (hF1_1.symm.trans (wk_end (by omega)))), (Mod.up M33)⟩
   have p29 := of_decide_eq_true (k27.trans v28)
   refine wp_cond_true (ebool (b := b26) (by kernel_rfl) v28) ?_
   refine wp_skip (then_n (wp_seq (wp_block (wp_seq (rg_lit ?_)))))
   have h30 := (SSRow.chgm h11 (Mod.chg hM1) h16)
   obtain ⟨y31, hy31⟩ : ∃ x, (parseL s)[k]? = some x := ⟨_, List.getElem?_eq_getElem (by omega)⟩
   obtain ⟨g31, f31, hA31, hl31, hc31⟩ := SSRow.get h30 hy31
   refine wl (sv rfl (v := .pointer (some ⟨g31, f31 + k, none⟩)) (r_ixaddr' (A := A9) (b := g31) (o := f31) (n := ((parseL s).length)) (c := c10) (sz := 1) (j := (k : Int)) (by kernel_rfl) hA31 (by kernel_rfl) Ty.un69 Ty.sz9 (by omega) (by omega) (by simp)) ?_)
   refine wl (sv rfl (v := .string y31) (r_loadc (by kernel_rfl) Ty.ag9 hc31) ?_)
   refine was (v := .string y31) ?_
   refine wnil (then_n (wp_seq (rg_lit ?_)))
   refine wmv (v := .pointer (some ⟨tb, 0, none⟩)) ?_
   refine wl (sv rfl (v := .agg #[.int .i64 s1, .int .i64 s2]) (r_loads (k := 0) (by kernel_rfl) Ty.ag24 Ty.sz24 hX1pb (by kernel_rfl)) ?_)
   refine wmv (v := .string y31) ?_
   have h34 := (TreeIs.up h (Mod.up M25))
   refine wl (sc rfl (r_callv (caps := []) (all := [.pointer (some ⟨tb, 0, none⟩), .agg #[.int .i64 s1, .int .i64 s2], .string y31]) En.f18 (by kernel_rfl) (by kernel_rfl)) (find18_at h34 (Nat.le_trans hB M25.size) hF (TabIs.up htab (Mod.up M25)) s1 s2 y31) ?_)
   rintro e w32 ⟨rfl, u33⟩
   refine ⟨.tuple #[.agg #[.string ((findE L ⟨s1, s2⟩ y31).name), .int .i64 ((findE L ⟨s1, s2⟩ y31).node.t), .int .i64 ((findE L ⟨s1, s2⟩ y31).node.w), .bool ((findE L ⟨s1, s2⟩ y31).dir), .int .i64 ((findE L ⟨s1, s2⟩ y31).size)], .int .i64 (findK L ⟨s1, s2⟩ y31)], rfl, ?_⟩
   have M35 := Mod.trans M25 (Mod.of_up u33)
   have M36 := Mod.trans hM1 (Mod.of_up u33)
   refine wmv (v := .tuple #[.agg #[.string ((findE L ⟨s1, s2⟩ y31).name), .int .i64 ((findE L ⟨s1, s2⟩ y31).node.t), .int .i64 ((findE L ⟨s1, s2⟩ y31).node.w), .bool ((findE L ⟨s1, s2⟩ y31).dir), .int .i64 ((findE L ⟨s1, s2⟩ y31).size)], .int .i64 (findK L ⟨s1, s2⟩ y31)]) ?_
   refine wl (sv rfl (v := .agg #[.string ((findE L ⟨s1, s2⟩ y31).name), .int .i64 ((findE L ⟨s1, s2⟩ y31).node.t), .int .i64 ((findE L ⟨s1, s2⟩ y31).node.w), .bool ((findE L ⟨s1, s2⟩ y31).dir), .int .i64 ((findE L ⟨s1, s2⟩ y31).size)]) (r_extract (vs := [.agg #[.string ((findE L ⟨s1, s2⟩ y31).name), .int .i64 ((findE L ⟨s1, s2⟩ y31).node.t), .int .i64 ((findE L ⟨s1, s2⟩ y31).node.w), .bool ((findE L ⟨s1, s2⟩ y31).dir), .int .i64 ((findE L ⟨s1, s2⟩ y31).size)], .int .i64 (findK L ⟨s1, s2⟩ y31)]) (by kernel_rfl) rfl) ?_)
   refine wl (sv rfl (v := .int .i64 (findK L ⟨s1, s2⟩ y31)) (r_extract (vs := [.agg #[.string ((findE L ⟨s1, s2⟩ y31).name), .int .i64 ((findE L ⟨s1, s2⟩ y31).node.t), .int .i64 ((findE L ⟨s1, s2⟩ y31).node.w), .bool ((findE L ⟨s1, s2⟩ y31).dir), .int .i64 ((findE L ⟨s1, s2⟩ y31).size)], .int .i64 (findK L ⟨s1, s2⟩ y31)]) (by kernel_rfl) rfl) ?_)
   refine wl (sn rfl (cs := #[.string (⟨#[]⟩), .int .i64 0, .int .i64 0, .bool false, .int .i64 0]) (T := 35) (V := fun b => .pointer (some ⟨b, 0, none⟩)) (r_alloc Ty.zv35 rfl) ?_)
   intro b37 w38 e39 h40 u41
   have h42 := md_ob M35 nin0 h.1
   have l43 : tb < b37 := by rw [e39]; exact lt_ob h42
   have h44 := (up_ob u33 hX1pb)
   have l45 : pb < b37 := by rw [e39]; exact lt_ob h44
   have g46 : w.heap.size ≤ b37 := by rw [e39]; exact M35.size
   have g47 : w8.heap.size ≤ b37 := by rw [e39]; exact M36.size
   have M48 := Mod.trans M35 (Mod.of_up u41)
   have M49 := Mod.trans M36 (Mod.of_up u41)
   refine wl (ss rfl (k := 0) (v := .agg #[.string ((findE L ⟨s1, s2⟩ y31).name), .int .i64 ((findE L ⟨s1, s2⟩ y31).node.t), .int .i64 ((findE L ⟨s1, s2⟩ y31).node.w), .bool ((findE L ⟨s1, s2⟩ y31).dir), .int .i64 ((findE L ⟨s1, s2⟩ y31).size)]) (vs := [.string ((findE L ⟨s1, s2⟩ y31).name), .int .i64 ((findE L ⟨s1, s2⟩ y31).node.t), .int .i64 ((findE L ⟨s1, s2⟩ y31).node.w), .bool ((findE L ⟨s1, s2⟩ y31).dir), .int .i64 ((findE L ⟨s1, s2⟩ y31).size)]) (cs' := [.string ((findE L ⟨s1, s2⟩ y31).name), .int .i64 ((findE L ⟨s1, s2⟩ y31).node.t), .int .i64 ((findE L ⟨s1, s2⟩ y31).node.w), .bool ((findE L ⟨s1, s2⟩ y31).dir), .int .i64 ((findE L ⟨s1, s2⟩ y31).size)]) (by kernel_rfl) (by kernel_rfl) rfl Ty.sz35 h40 rfl (Nat.le_of_ble_eq_true rfl) rfl ?_)
   intro w50 h51 c52
   have M53 := Mod.trans' M48 c52 (fun i hi => by injection hi with hi; rw [← hi]; exact g46)
   have M54 := Mod.trans' M49 c52 (fun i hi => by injection hi with hi; rw [← hi]; exact g47)
   refine was (v := .int .i64 (findK L ⟨s1, s2⟩ y31)) ?_
   refine wnil (then_n (wp_seq (wp_seq (rg_lit ?_))))
   refine wmv (v := .int .i64 (findK L ⟨s1, s2⟩ y31)) ?_
   refine wl (sb rfl (r_ne (k := .i64) (m := (findK L ⟨s1, s2⟩ y31)) (n := 0) (by kernel_rfl) (by kernel_rfl)) ?_)
   intro b55 k56
   refine wnil (then_n ?_)
   refine bcase b55 (fun v57 => ?_) (fun v57 => ?_)
   ·
    have p58 := of_decide_eq_false (k56.trans v57)
    refine wp_cond_false (ebool (b := b55) (by kernel_rfl) v57) ?_
    refine wp_skip (then_n (rg_lit ?_))
    refine wl (sv rfl (v := .pointer (some ⟨b37, 1, none⟩)) (r_fieldAddr (u := .pointer (some ⟨b37, 0, none⟩)) (by kernel_rfl) (fun _ => (by kernel_rfl))) ?_)
    refine wl (sv rfl (v := .agg #[.int .i64 ((findE L ⟨s1, s2⟩ y31).node.t), .int .i64 ((findE L ⟨s1, s2⟩ y31).node.w)]) (r_loads (k := 1) (by kernel_rfl) Ty.ag24 Ty.sz24 h51 (by kernel_rfl)) ?_)
    have h59 := (chg_ob c52 (Nat.ne_of_lt l45) (up_ob u41 h44))
    refine wl (ss rfl (k := 0) (v := .agg #[.int .i64 ((findE L ⟨s1, s2⟩ y31).node.t), .int .i64 ((findE L ⟨s1, s2⟩ y31).node.w)]) (vs := [.int .i64 ((findE L ⟨s1, s2⟩ y31).node.t), .int .i64 ((findE L ⟨s1, s2⟩ y31).node.w)]) (cs' := [.int .i64 ((findE L ⟨s1, s2⟩ y31).node.t), .int .i64 ((findE L ⟨s1, s2⟩ y31).node.w)]) (by kernel_rfl) (by kernel_rfl) rfl Ty.sz24 h59 rfl (Nat.le_of_ble_eq_true rfl) rfl ?_)
    intro w60 h61 c62
    have M63 := Mod.trans' M53 c62 (fun i hi => by injection hi with hi; rw [← hi]; exact g6)
    have M64 := Mod.trans M54 (Mod.of_chg c62 (by simp))
    refine wnil (inb_n (then_n (rg_lit ?_)))
    refine wl (sv rfl (v := .int .i64 ((k + 1 : Nat) : Int)) (r_add (k := .i64) (m := (k : Int)) (n := 1) (c := ((k + 1 : Nat) : Int)) (by kernel_rfl) (by kernel_rfl) ((IntWalk.i64_in _ (by omega)).trans (by omega))) ?_)
    refine wmv (v := .int .i64 ((k + 1 : Nat) : Int)) ?_
    refine wnil (then_n ?_)
    refine ⟨(parseL s).length - (k + 1), ?_, (k + 1), (findE L ⟨s1, s2⟩ y31).node.t, (findE L ⟨s1, s2⟩ y31).node.w, tget [undef, undef, undef, undef, undef, (Z 5), undef, undef, .string y31, .pointer (some ⟨b37, 0, none⟩), .int .i64 (findK L ⟨s1, s2⟩ y31), undef, undef, undef, undef, undef, undef, undef, undef, undef, undef, undef, undef, undef, undef, undef, undef, undef, .bool b26, .pointer (some ⟨g31, f31 + k, none⟩), .string y31, .tuple #[.agg #[.string ((findE L ⟨s1, s2⟩ y31).name), .int .i64 ((findE L ⟨s1, s2⟩ y31).node.t), .int .i64 ((findE L ⟨s1, s2⟩ y31).node.w), .bool ((findE L ⟨s1, s2⟩ y31).dir), .int .i64 ((findE L ⟨s1, s2⟩ y31).size)], .int .i64 (findK L ⟨s1, s2⟩ y31)], .pointer (some ⟨tb, 0, none⟩), .agg #[.int .i64 s1, .int .i64 s2], .string y31, .tuple #[.agg #[.string ((findE L ⟨s1, s2⟩ y31).name), .int .i64 ((findE L ⟨s1, s2⟩ y31).node.t), .int .i64 ((findE L ⟨s1, s2⟩ y31).node.w), .bool ((findE L ⟨s1, s2⟩ y31).dir), .int .i64 ((findE L ⟨s1, s2⟩ y31).size)], .int .i64 (findK L ⟨s1, s2⟩ y31)], .agg #[.string ((findE L ⟨s1, s2⟩ y31).name), .int .i64 ((findE L ⟨s1, s2⟩ y31).node.t), .int .i64 ((findE L ⟨s1, s2⟩ y31).node.w), .bool ((findE L ⟨s1, s2⟩ y31).dir), .int .i64 ((findE L ⟨s1, s2⟩ y31).size)], .int .i64 (findK L ⟨s1, s2⟩ y31), .int .i64 (findK L ⟨s1, s2⟩ y31), .bool b55, (Z 40), (Z 41), .pointer (some ⟨b37, 1, none⟩), .agg #[.int .i64 ((findE L ⟨s1, s2⟩ y31).node.t), .int .i64 ((findE L ⟨s1, s2⟩ y31).node.w)], .int .i64 ((k + 1 : Nat) : Int)], rfl, (by kernel_rfl), M64, h61, (by omega), ((wk_go hy31 (Decidable.not_not.1 p58)).symm.trans hF1_1)⟩
    · omega
   have p58 := of_decide_eq_true (k56.trans v57)
   refine wp_cond_true (ebool (b := b55) (by kernel_rfl) v57) ?_
   refine wp_seq (rg_lit ?_)
   refine wl (sv rfl (v := .agg #[.int .i64 0, .int .i64 0]) (r_build (ps := []) (cs := [.int .i64 0, .int .i64 0]) Ty.un24 Ty.zv24 Ty.pl24 (by kernel_rfl) (by kernel_rfl)) ?_)
   refine wmv (v := .int .i64 (findK L ⟨s1, s2⟩ y31)) ?_
   have h59 := (chg_ob c52 (Nat.ne_of_lt l45) (up_ob u41 h44))
   refine wl (ss rfl (k := 0) (v := .agg #[.int .i64 0, .int .i64 0]) (vs := [.int .i64 0, .int .i64 0]) (cs' := [.int .i64 0, .int .i64 0]) (by kernel_rfl) (by kernel_rfl) rfl Ty.sz24 h59 rfl (Nat.le_of_ble_eq_true rfl) rfl ?_)
   intro w60 h61 c62
   have M63 := Mod.trans' M53 c62 (fun i hi => by injection hi with hi; rw [← hi]; exact g6)
   have M64 := Mod.trans M54 (Mod.of_chg c62 (by simp))
   refine was (v := .int .i64 (findK L ⟨s1, s2⟩ y31)) ?_
   refine wnil (then_n (wp_ret (then_x (by nofun) (inb_r (then_x (by nofun) (then_x (by nofun) (inb_r (then_x (by nofun) ?_))))))))
   refine bodyPost_ret (v := .tuple #[.agg #[.int .i64 0, .int .i64 0], .int .i64 (findK L ⟨s1, s2⟩ y31)]) (res2 rfl (rv_c (p := ⟨pb, 0, none⟩) (by kernel_rfl) (run_loadVars (vs := [.int .i64 0, .int .i64 0]) Ty.ag24 Ty.sz24 h61 (by kernel_rfl))) (rv_t (by kernel_rfl))) (by kernel_rfl) ?_
   exact ⟨walk_ret (walk_is (Decidable.not_not.1 p21) (hF1_1.symm.trans (wk_no hy31 p58))), (Mod.up M63)⟩
  have p21 := of_decide_eq_true (k19.trans v20)
  refine wp_cond_true (ebool (b := b18) (by kernel_rfl) v20) ?_
  refine wp_seq (rg_lit ?_)
  have h22 := (up_ob u13 h3)
  refine wl (sv rfl (v := .agg #[.int .i64 0, .int .i64 0]) (r_loads (k := 0) (by kernel_rfl) Ty.ag24 Ty.sz24 h22 (by kernel_rfl)) ?_)
  refine wmv (v := .int .i64 (parseK s)) ?_
  refine wl (ss rfl (k := 0) (v := .agg #[.int .i64 0, .int .i64 0]) (vs := [.int .i64 0, .int .i64 0]) (cs' := [.int .i64 0, .int .i64 0]) (by kernel_rfl) (by kernel_rfl) rfl Ty.sz24 h22 rfl (Nat.le_of_ble_eq_true rfl) rfl ?_)
  intro w23 h24 c25
  have M26 := Mod.trans' M17 c25 (fun i hi => by injection hi with hi; rw [← hi]; exact g6)
  refine was (v := .int .i64 (parseK s)) ?_
  refine wnil (then_n (wp_ret (inb_r (then_x (by nofun) ?_))))
  refine bodyPost_ret (v := .tuple #[.agg #[.int .i64 0, .int .i64 0], .int .i64 (parseK s)]) (res2 rfl (rv_c (p := ⟨pb, 0, none⟩) (by kernel_rfl) (run_loadVars (vs := [.int .i64 0, .int .i64 0]) Ty.ag24 Ty.sz24 h24 (by kernel_rfl))) (rv_t (by kernel_rfl))) (by kernel_rfl) ?_
  exact ⟨walk_ret (walk_bad p21), (Mod.up M26)⟩
end Go.Proofs.YtefhfoioeoijlaaGreatDoor

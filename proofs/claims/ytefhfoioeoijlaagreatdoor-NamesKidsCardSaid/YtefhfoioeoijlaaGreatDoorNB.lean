/- NB: printed by gen.py -/
import Derived.Test.YtefhfoioeoijlaaGreatDoorNA
set_option linter.unusedVariables false
set_option linter.unusedSimpArgs false
namespace Go.Proofs.YtefhfoioeoijlaaGreatDoor
open Go Go.RowKit Go.Sort
set_option maxHeartbeats 2000000 in
theorem list_at {B : Nat} {w : World} {tb r : Nat} {L : List Item} (h : TreeIs B w tb r L) (hB : B ≤ w.heap.size) (hF : Fit L) (htab : Tab w) (n1 n2 : Int) : Calls Tryz.prog 16 #[trP tb, .agg #[.int .i64 n1, .int .i64 n2]] w fun e w' => ∃ v D, e = .returned (.tuple #[v, .int .i64 (kidK L ⟨n1, n2⟩)]) ∧ ERow 35 B w.heap.size w' v D ∧ (kidK L ⟨n1, n2⟩ = 0 → Listed (entsI (kidsI ⟨n1, n2⟩ L)) D) ∧ (kidK L ⟨n1, n2⟩ ≠ 0 → D = []) ∧ Up w w' := by
  go_enter Tryz.func16, Tryz.ntmps16
  refine wp_seq (rg_lit ?_)
  refine wl (sn rfl (cs := #[.int .i64 n1, .int .i64 n2]) (T := 24) (V := fun b => .pointer (some ⟨b, 0, none⟩)) (r_box (v := .agg #[.int .i64 n1, .int .i64 n2]) (by kernel_rfl) rfl) ?_)
  intro b1 w2 e3 h4 u5
  have l6 : tb < b1 := by rw [e3]; exact lt_ob h.1
  have g7 : w.heap.size ≤ b1 := by rw [e3]; exact (Mod.refl [] w).size
  have M8 := Mod.trans (Mod.refl [] w) (Mod.of_up u5)
  refine was (v := .slice none 0 0) ?_
  refine was (v := .int .i64 0) ?_
  refine wnil (then_n (wp_seq (rg_lit ?_)))
  refine wmv (v := .pointer (some ⟨tb, 0, none⟩)) ?_
  refine wl (sv rfl (v := .agg #[.int .i64 n1, .int .i64 n2]) (r_loads (k := 0) (by kernel_rfl) Ty.ag24 Ty.sz24 h4 (by kernel_rfl)) ?_)
  have h16 := (TreeIs.up h (Mod.up M8))
  refine wl (sc rfl (r_callv (caps := []) (all := [.pointer (some ⟨tb, 0, none⟩), .agg #[.int .i64 n1, .int .i64 n2]]) En.f57 (by kernel_rfl) (by kernel_rfl)) (kids18_at h16 (Nat.le_trans hB M8.size) n1 n2) ?_)
  rintro e w9 ⟨v10, rfl, h13, u14⟩
  obtain ⟨A11, c12, rfl⟩ := IRow.form h13
  have h15 := IRow.base h13 M8.size
  refine ⟨.tuple #[.slice A11 ((kidsO L ⟨n1, n2⟩).length) c12, .int .i64 ((kidK L ⟨n1, n2⟩))], rfl, ?_⟩
  have M17 := Mod.trans M8 (Mod.of_up u14)
  refine wmv (v := .tuple #[.slice A11 ((kidsO L ⟨n1, n2⟩).length) c12, .int .i64 ((kidK L ⟨n1, n2⟩))]) ?_
  refine wl (sv rfl (v := .slice A11 ((kidsO L ⟨n1, n2⟩).length) c12) (r_extract (vs := [.slice A11 ((kidsO L ⟨n1, n2⟩).length) c12, .int .i64 ((kidK L ⟨n1, n2⟩))]) (by kernel_rfl) rfl) ?_)
  refine wl (sv rfl (v := .int .i64 ((kidK L ⟨n1, n2⟩))) (r_extract (vs := [.slice A11 ((kidsO L ⟨n1, n2⟩).length) c12, .int .i64 ((kidK L ⟨n1, n2⟩))]) (by kernel_rfl) rfl) ?_)
  refine was (v := .slice A11 ((kidsO L ⟨n1, n2⟩).length) c12) ?_
  refine was (v := .int .i64 ((kidK L ⟨n1, n2⟩))) ?_
  refine wnil (then_n (wp_seq (wp_seq (rg_lit ?_))))
  refine wmv (v := .int .i64 ((kidK L ⟨n1, n2⟩))) ?_
  refine wl (sb rfl (r_ne (k := .i64) (m := ((kidK L ⟨n1, n2⟩))) (n := 0) (by kernel_rfl) (by kernel_rfl)) ?_)
  intro b18 k19
  refine wnil (then_n ?_)
  refine bcase b18 (fun v20 => ?_) (fun v20 => ?_)
  ·
   have p21 := of_decide_eq_false (k19.trans v20)
   refine wp_cond_false (ebool (b := b18) (by kernel_rfl) v20) ?_
   refine wp_skip (then_n (wp_seq (rg_lit ?_)))
   refine wmv (v := .slice A11 ((kidsO L ⟨n1, n2⟩).length) c12) ?_
   refine wl (sc rfl (r_callv (caps := []) (all := [.slice A11 ((kidsO L ⟨n1, n2⟩).length) c12]) En.f58 (by kernel_rfl) (by kernel_rfl)) (ents_at h15 (Nat.le_trans hB M17.size) (TabIs.up htab (Mod.up M17)) (kidsO_ok hF _) (kidsO_300 hF _)) ?_)
   rintro e w22 ⟨v23, rfl, h26, u27⟩
   obtain ⟨A24, c25, rfl⟩ := ERow.form h26
   have h28 := ERow.base h26 M17.size
   have z29 := ERow.le h26
   refine ⟨.slice A24 ((entsI (kidsO L ⟨n1, n2⟩)).length) c25, rfl, ?_⟩
   have M30 := Mod.trans M17 (Mod.of_up u27)
   refine was (v := .slice A24 ((entsI (kidsO L ⟨n1, n2⟩)).length) c25) ?_
   refine wnil (then_n (wp_seq (rg_lit ?_)))
   refine wmv (v := .slice A24 ((entsI (kidsO L ⟨n1, n2⟩)).length) c25) ?_
   have hsz := kidsO_300 hF ⟨n1, n2⟩
   refine wl (sc rfl (r_callv (caps := []) (all := [.slice A24 ((entsI (kidsO L ⟨n1, n2⟩)).length) c25, .func (.func 60) #[] #[]]) En.f59 (by kernel_rfl) (by kernel_rfl)) (sortE_at h28 hB (by rw [entsI_len]; omega) (ents_short (kidsO_ok hF _)) (kidsO_apart hF _)) ?_)
   rintro e w31 ⟨D32, rfl, h33, h34, u35⟩
   refine ⟨.tuple #[], rfl, ?_⟩
   have M36 := Mod.trans' M30 u35 (fun k hk => Nat.le_trans (Nat.le_refl _) (h28.own k hk).1)
   refine wnil (then_n (wp_seq (rg_lit ?_)))
   refine wmv (v := .slice A24 ((entsI (kidsO L ⟨n1, n2⟩)).length) c25) ?_
   refine was (v := .slice A24 ((entsI (kidsO L ⟨n1, n2⟩)).length) c25) ?_
   refine was (v := .int .i64 0) ?_
   refine wnil (then_n (wp_ret ?_))
   refine bodyPost_ret (v := .tuple #[.slice A24 ((entsI (kidsO L ⟨n1, n2⟩)).length) c25, .int .i64 0]) (res2 rfl (rv_t (by kernel_rfl)) (rv_t (by kernel_rfl))) (by kernel_rfl) ?_
   have hk0 : kidK L ⟨n1, n2⟩ = 0 := Decidable.not_not.1 p21
   exact ⟨_, D32, by rw [hk0], h33, fun _ => (by rw [← kidsO_yes hk0]; exact h34), fun h0 => absurd hk0 h0, (Mod.up M36)⟩
  have p21 := of_decide_eq_true (k19.trans v20)
  refine wp_cond_true (ebool (b := b18) (by kernel_rfl) v20) ?_
  refine wp_seq (rg_lit ?_)
  refine wmv (v := .int .i64 ((kidK L ⟨n1, n2⟩))) ?_
  refine was (v := .slice none 0 0) ?_
  refine was (v := .int .i64 ((kidK L ⟨n1, n2⟩))) ?_
  refine wnil (then_n (wp_ret (then_x (by nofun) ?_)))
  refine bodyPost_ret (v := .tuple #[.slice none 0 0, .int .i64 ((kidK L ⟨n1, n2⟩))]) (res2 rfl (rv_t (by kernel_rfl)) (rv_t (by kernel_rfl))) (by kernel_rfl) ?_
  exact ⟨.slice none 0 0, [], rfl, ERow.nil _ _ _ _, fun h0 => absurd h0 p21, fun _ => rfl, (Mod.up M17)⟩
set_option maxHeartbeats 2000000 in
theorem find18_at {B : Nat} {w : World} {tb r : Nat} {L : List Item} (h : TreeIs B w tb r L) (hB : B ≤ w.heap.size) (hF : Fit L) (htab : Tab w) (n1 n2 : Int) (nm : ByteArray) : Calls Tryz.prog 18 #[trP tb, .agg #[.int .i64 n1, .int .i64 n2], .string nm] w fun e w' => e = .returned (.tuple #[enV (findE L ⟨n1, n2⟩ nm), .int .i64 (findK L ⟨n1, n2⟩ nm)]) ∧ Up w w' := by
  go_enter Tryz.func18, Tryz.ntmps18
  refine wp_seq (rg_lit ?_)
  refine wl (sn rfl (cs := #[.int .i64 n1, .int .i64 n2]) (T := 24) (V := fun b => .pointer (some ⟨b, 0, none⟩)) (r_box (v := .agg #[.int .i64 n1, .int .i64 n2]) (by kernel_rfl) rfl) ?_)
  intro b1 w2 e3 h4 u5
  have l6 : tb < b1 := by rw [e3]; exact lt_ob h.1
  have g7 : w.heap.size ≤ b1 := by rw [e3]; exact (Mod.refl [] w).size
  have M8 := Mod.trans (Mod.refl [] w) (Mod.of_up u5)
  refine wl (sn rfl (cs := #[.string (⟨#[]⟩), .int .i64 0, .int .i64 0, .bool false, .int .i64 0]) (T := 35) (V := fun b => .pointer (some ⟨b, 0, none⟩)) (r_alloc Ty.zv35 rfl) ?_)
  intro b9 w10 e11 h12 u13
  have h14 := md_ob M8 nin0 h.1
  have l15 : tb < b9 := by rw [e11]; exact lt_ob h14
  have l16 : b1 < b9 := by rw [e11]; exact lt_ob h4
  have g17 : w.heap.size ≤ b9 := by rw [e11]; exact M8.size
  have M18 := Mod.trans M8 (Mod.of_up u13)
  refine was (v := .int .i64 0) ?_
  refine wnil (then_n (wp_seq (rg_lit ?_)))
  refine wmv (v := .pointer (some ⟨tb, 0, none⟩)) ?_
  have h19 := (up_ob u13 h4)
  refine wl (sv rfl (v := .agg #[.int .i64 n1, .int .i64 n2]) (r_loads (k := 0) (by kernel_rfl) Ty.ag24 Ty.sz24 h19 (by kernel_rfl)) ?_)
  have h30 := (TreeIs.up h (Mod.up M18))
  refine wl (sc rfl (r_callv (caps := []) (all := [.pointer (some ⟨tb, 0, none⟩), .agg #[.int .i64 n1, .int .i64 n2]]) En.f16 (by kernel_rfl) (by kernel_rfl)) (list_at h30 (Nat.le_trans hB M18.size) hF (TabIs.up htab (Mod.up M18)) n1 n2) ?_)
  rintro e w20 ⟨v21, DD, rfl, h25, h26, h27, u28⟩
  obtain ⟨A23, c24, rfl⟩ := ERow.form h25
  have h29 := ERow.base h25 M18.size
  have z31 := ERow.le h25
  refine ⟨.tuple #[.slice A23 DD.length c24, .int .i64 ((kidK L ⟨n1, n2⟩))], rfl, ?_⟩
  have M32 := Mod.trans M18 (Mod.of_up u28)
  refine wmv (v := .tuple #[.slice A23 DD.length c24, .int .i64 ((kidK L ⟨n1, n2⟩))]) ?_
  refine wl (sv rfl (v := .slice A23 DD.length c24) (r_extract (vs := [.slice A23 DD.length c24, .int .i64 ((kidK L ⟨n1, n2⟩))]) (by kernel_rfl) rfl) ?_)
  refine wl (sv rfl (v := .int .i64 ((kidK L ⟨n1, n2⟩))) (r_extract (vs := [.slice A23 DD.length c24, .int .i64 ((kidK L ⟨n1, n2⟩))]) (by kernel_rfl) rfl) ?_)
  refine was (v := .slice A23 DD.length c24) ?_
  refine was (v := .int .i64 ((kidK L ⟨n1, n2⟩))) ?_
  refine wnil (then_n (wp_seq (wp_seq (rg_lit ?_))))
  refine wmv (v := .int .i64 ((kidK L ⟨n1, n2⟩))) ?_
  refine wl (sb rfl (r_ne (k := .i64) (m := ((kidK L ⟨n1, n2⟩))) (n := 0) (by kernel_rfl) (by kernel_rfl)) ?_)
  intro b33 k34
  refine wnil (then_n ?_)
  refine bcase b33 (fun v35 => ?_) (fun v35 => ?_)
  ·
   have p36 := of_decide_eq_false (k34.trans v35)
   refine wp_cond_false (ebool (b := b33) (by kernel_rfl) v35) ?_
   refine wp_skip (then_n (wp_seq (wp_seq (rg_lit ?_))))
   refine wmv (v := .slice A23 DD.length c24) ?_
   refine wl (sv rfl (v := .int .i64 ((DD.length : Int))) (r_len Ty.un29 (ad := A23) (n := DD.length) (c := c24) (by kernel_rfl)) ?_)
   refine wmv (v := .int .i64 0) ?_
   refine wnil (then_n (wp_block ?_))
   have h37 := md_ob M32 nin0 h.1
   have h38 := (up_ob u28 h19)
   have h39 := (up_ob u28 h12)
   have h40 := (TreeIs.up h (Mod.up M32))
   refine lp (fun n a r1 => ∃ (k : Nat) (z7 z11 z12 z26 z27 z28 z29 z30 z31 z32 z33 z34 z35 : Value), (n = DD.length - k) ∧ (a = ⟨#[.pointer (some ⟨tb, 0, none⟩), .agg #[.int .i64 n1, .int .i64 n2], .string nm, undef, .pointer (some ⟨b1, 0, none⟩), undef, .pointer (some ⟨b9, 0, none⟩), z7, .slice A23 DD.length c24, .int .i64 ((kidK L ⟨n1, n2⟩)), undef, z11, z12, .tuple #[.slice A23 DD.length c24, .int .i64 ((kidK L ⟨n1, n2⟩))], .pointer (some ⟨tb, 0, none⟩), .agg #[.int .i64 n1, .int .i64 n2], .tuple #[.slice A23 DD.length c24, .int .i64 ((kidK L ⟨n1, n2⟩))], .slice A23 DD.length c24, .int .i64 ((kidK L ⟨n1, n2⟩)), .int .i64 ((kidK L ⟨n1, n2⟩)), .bool b33, undef, undef, .slice A23 DD.length c24, .int .i64 ((DD.length : Int)), .int .i64 ((k : Int)), z26, z27, z28, z29, z30, z31, z32, z33, z34, z35, undef], []⟩) ∧ (Mod [] w20 r1) ∧ (k ≤ DD.length) ∧ (Hid (∀ (j : Nat) (y : EntD), j < k → DD[j]? = some y → ¬ y.name = nm))) ⟨_, 0, .int .i64 0, undef, undef, undef, undef, undef, undef, undef, undef, undef, undef, undef, undef, rfl, (by kernel_rfl), Mod.refl _ _, (Nat.zero_le _), (fun j y hj => absurd hj (Nat.not_lt_zero _))⟩ ?_
   rintro _ _ r1 ⟨k, z7, z11, z12, z26, z27, z28, z29, z30, z31, z32, z33, z34, z35, rfl, rfl, hM1, hF1_0, hF1_1⟩
   have M41 := Mod.thin M32 hM1 (by simp)
   refine wp_seq (rg_lit ?_)
   refine wl (sb rfl (r_lt (k := .i64) (m := ((k : Int))) (n := ((DD.length : Int))) (by kernel_rfl) (by kernel_rfl)) ?_)
   intro b42 k43
   refine wnil (then_n (wp_seq ?_))
   refine bcase b42 (fun v44 => ?_) (fun v44 => ?_)
   ·
    have p45 := of_decide_eq_false (k43.trans v44)
    refine wp_cond_false (ebool (b := b42) (by kernel_rfl) v44) ?_
    refine wp_exit (then_x (by nofun) (then_x (by nofun) (inb_hit (then_n (wp_seq (rg_lit ?_))))))
    refine wl (sv rfl (v := .agg #[.string (⟨#[]⟩), .int .i64 0, .int .i64 0, .bool false, .int .i64 0]) (r_build (ps := []) (cs := [.string (⟨#[]⟩), .int .i64 0, .int .i64 0, .bool false, .int .i64 0]) Ty.un35 Ty.zv35 Ty.pl35 (by kernel_rfl) (by kernel_rfl)) ?_)
    have h46 := md_ob hM1 nin0 h39
    refine wl (ss rfl (k := 0) (v := .agg #[.string (⟨#[]⟩), .int .i64 0, .int .i64 0, .bool false, .int .i64 0]) (vs := [.string (⟨#[]⟩), .int .i64 0, .int .i64 0, .bool false, .int .i64 0]) (cs' := [.string (⟨#[]⟩), .int .i64 0, .int .i64 0, .bool false, .int .i64 0]) (by kernel_rfl) (by kernel_rfl) rfl Ty.sz35 h46 rfl (Nat.le_of_ble_eq_true rfl) rfl ?_)
    intro w47 h48 c49
    have M50 := Mod.trans' M41 c49 (fun i hi => by injection hi with hi; rw [← hi]; exact g17)
    have M51 := md_old hM1 c49
    refine was (v := .int .i64 12) ?_
    refine wnil (then_n (wp_ret ?_))
    refine bodyPost_ret (v := .tuple #[.agg #[.string (⟨#[]⟩), .int .i64 0, .int .i64 0, .bool false, .int .i64 0], .int .i64 12]) (res2 rfl (rv_c (p := ⟨b9, 0, none⟩) (by kernel_rfl) (run_loadVars (vs := [.string (⟨#[]⟩), .int .i64 0, .int .i64 0, .bool false, .int .i64 0]) Ty.ag35 Ty.sz35 h48 (by kernel_rfl))) (rv_t (by kernel_rfl))) (by kernel_rfl) ?_
    exact ⟨find_ret (y := zeroE) (find_miss (Decidable.not_not.1 p36) (h26 (Decidable.not_not.1 p36)) (none_end hF1_1 (by omega))), (Mod.up M50)⟩
   have p45 := of_decide_eq_true (k43.trans v44)
   have q46 : k < DD.length := by omega
   have q47 : k < DD.length := by omega
   refine wp_cond_true (ebool (b := b42) (by kernel_rfl) v44) ?_
   refine wp_skip (then_n (wp_seq (wp_block (wp_seq (rg_lit ?_)))))
   have h48 := (ERow.up h29 (Mod.up hM1))
   obtain ⟨y49, hy49⟩ : ∃ x, DD[k]? = some x := ⟨_, List.getElem?_eq_getElem (by omega)⟩
   obtain ⟨g49, cp49, cu49, hA49, hg49, hb49, he49⟩ := ERow.get h48 hy49
   injection hA49 with hA49 _ _
   replace he49 : (cu49.toList.drop (0 + k * 5)).take 5 = enC y49 := by rw [Nat.zero_add]; exact he49
   refine wl (sv rfl (v := .pointer (some ⟨g49, 0 + k * 5, none⟩)) (r_ixaddr' (A := A23) (b := g49) (o := 0) (n := DD.length) (c := c24) (sz := 5) (j := ((k : Int))) (by kernel_rfl) hA49 (by kernel_rfl) Ty.un29 Ty.sz35 (by omega) (by omega) (by simp)) ?_)
   refine wl (sv rfl (v := .agg #[.string y49.name, .int .i64 y49.node.t, .int .i64 y49.node.w, .bool y49.dir, .int .i64 y49.size]) (r_loads (k := 0 + k * 5) (by kernel_rfl) Ty.ag35 Ty.sz35 hb49 (el_sub0 he49 rfl)) ?_)
   refine wl (sn rfl (cs := #[.string (⟨#[]⟩), .int .i64 0, .int .i64 0, .bool false, .int .i64 0]) (T := 35) (V := fun b => .pointer (some ⟨b, 0, none⟩)) (r_alloc Ty.zv35 rfl) ?_)
   intro b50 w51 e52 h53 u54
   have h55 := md_ob M41 nin0 h.1
   have l56 : tb < b50 := by rw [e52]; exact lt_ob h55
   have h57 := md_ob hM1 nin0 h38
   have l58 : b1 < b50 := by rw [e52]; exact lt_ob h57
   have h59 := md_ob hM1 nin0 h39
   have l60 : b9 < b50 := by rw [e52]; exact lt_ob h59
   have l61 : g49 < b50 := by rw [e52]; exact lt_ob hb49
   have g62 : w.heap.size ≤ b50 := by rw [e52]; exact M41.size
   have g63 : w20.heap.size ≤ b50 := by rw [e52]; exact hM1.size
   have M64 := Mod.trans M41 (Mod.of_up u54)
   have M65 := Mod.trans hM1 (Mod.of_up u54)
   refine wl (ss rfl (k := 0) (v := .agg #[.string y49.name, .int .i64 y49.node.t, .int .i64 y49.node.w, .bool y49.dir, .int .i64 y49.size]) (vs := [.string y49.name, .int .i64 y49.node.t, .int .i64 y49.node.w, .bool y49.dir, .int .i64 y49.size]) (cs' := [.string y49.name, .int .i64 y49.node.t, .int .i64 y49.node.w, .bool y49.dir, .int .i64 y49.size]) (by kernel_rfl) (by kernel_rfl) rfl Ty.sz35 h53 rfl (Nat.le_of_ble_eq_true rfl) rfl ?_)
   intro w66 h67 c68
   have M69 := Mod.trans' M64 c68 (fun i hi => by injection hi with hi; rw [← hi]; exact g62)
   have M70 := Mod.trans' M65 c68 (fun i hi => by injection hi with hi; rw [← hi]; exact g63)
   refine wnil (then_n (wp_seq (rg_lit ?_)))
   refine wl (sv rfl (v := .agg #[.string y49.name, .int .i64 y49.node.t, .int .i64 y49.node.w, .bool y49.dir, .int .i64 y49.size]) (r_loads (k := 0) (by kernel_rfl) Ty.ag35 Ty.sz35 h67 (by kernel_rfl)) ?_)
   refine wl (sv rfl (v := .func (.func 64) #[.agg #[.string y49.name, .int .i64 y49.node.t, .int .i64 y49.node.w, .bool y49.dir, .int .i64 y49.size]] #[]) (r_makeFunc (us := [.agg #[.string y49.name, .int .i64 y49.node.t, .int .i64 y49.node.w, .bool y49.dir, .int .i64 y49.size]]) (vs := []) (by kernel_rfl) rfl) ?_)
   refine was (v := .func (.func 64) #[.agg #[.string y49.name, .int .i64 y49.node.t, .int .i64 y49.node.w, .bool y49.dir, .int .i64 y49.size]] #[]) ?_
   refine wnil (then_n (wp_seq (rg_lit ?_)))
   refine wmv (v := .func (.func 64) #[.agg #[.string y49.name, .int .i64 y49.node.t, .int .i64 y49.node.w, .bool y49.dir, .int .i64 y49.size]] #[]) ?_
   refine wmv (v := .string nm) ?_
   refine wl (sc rfl (r_callb (us := [.agg #[.string y49.name, .int .i64 y49.node.t, .int .i64 y49.node.w, .bool y49.dir, .int .i64 y49.size]]) (all := [.agg #[.string y49.name, .int .i64 y49.node.t, .int .i64 y49.node.w, .bool y49.dir, .int .i64 y49.size], .string nm]) En.f64 (by kernel_rfl) (by kernel_rfl)) (shownE_at y49 nm) ?_)
   rintro e w71 ⟨rfl, u72⟩
   refine ⟨.bool ((decide (y49.name = nm))), rfl, ?_⟩
   have M73 := Mod.trans M69 (Mod.of_up u72)
   have M74 := Mod.trans M70 (Mod.of_up u72)
   refine wnil (then_n ?_)
   refine bcase ((decide (y49.name = nm))) (fun v75 => ?_) (fun v75 => ?_)
   ·
    refine wp_cond_false (ebool (b := (decide (y49.name = nm))) (by kernel_rfl) v75) ?_
    refine wp_skip (inb_n (then_n (rg_lit ?_)))
    refine wl (sv rfl (v := .int .i64 (((k : Int)) + 1)) (r_add (k := .i64) (m := ((k : Int))) (n := 1) (by kernel_rfl) (by kernel_rfl) (IntWalk.i64_in _ (by omega))) ?_)
    refine wmv (v := .int .i64 (((k : Int)) + 1)) ?_
    refine wnil (then_n ?_)
    refine ⟨DD.length - (k + 1), ?_, (k + 1), z7, .pointer (some ⟨b50, 0, none⟩), .func (.func 64) #[.agg #[.string y49.name, .int .i64 y49.node.t, .int .i64 y49.node.w, .bool y49.dir, .int .i64 y49.size]] #[], .bool b42, .pointer (some ⟨g49, 0 + k * 5, none⟩), .agg #[.string y49.name, .int .i64 y49.node.t, .int .i64 y49.node.w, .bool y49.dir, .int .i64 y49.size], .agg #[.string y49.name, .int .i64 y49.node.t, .int .i64 y49.node.w, .bool y49.dir, .int .i64 y49.size], .func (.func 64) #[.agg #[.string y49.name, .int .i64 y49.node.t, .int .i64 y49.node.w, .bool y49.dir, .int .i64 y49.size]] #[], .func (.func 64) #[.agg #[.string y49.name, .int .i64 y49.node.t, .int .i64 y49.node.w, .bool y49.dir, .int .i64 y49.size]] #[], .string nm, .bool ((decide (y49.name = nm))), z34, .int .i64 (((k : Int)) + 1), rfl, (by kernel_rfl), M74, (by omega), (none_next hF1_1 hy49 (of_decide_eq_false v75))⟩
    · omega
   refine wp_cond_true (ebool (b := (decide (y49.name = nm))) (by kernel_rfl) v75) ?_
   refine wp_seq (rg_lit ?_)
   have h76 := (up_ob u72 h67)
   refine wl (sv rfl (v := .agg #[.string y49.name, .int .i64 y49.node.t, .int .i64 y49.node.w, .bool y49.dir, .int .i64 y49.size]) (r_loads (k := 0) (by kernel_rfl) Ty.ag35 Ty.sz35 h76 (by kernel_rfl)) ?_)
   have h77 := md_ob M74 nin0 h39
   refine wl (ss rfl (k := 0) (v := .agg #[.string y49.name, .int .i64 y49.node.t, .int .i64 y49.node.w, .bool y49.dir, .int .i64 y49.size]) (vs := [.string y49.name, .int .i64 y49.node.t, .int .i64 y49.node.w, .bool y49.dir, .int .i64 y49.size]) (cs' := [.string y49.name, .int .i64 y49.node.t, .int .i64 y49.node.w, .bool y49.dir, .int .i64 y49.size]) (by kernel_rfl) (by kernel_rfl) rfl Ty.sz35 h77 rfl (Nat.le_of_ble_eq_true rfl) rfl ?_)
   intro w78 h79 c80
   have M81 := Mod.trans' M73 c80 (fun i hi => by injection hi with hi; rw [← hi]; exact g17)
   have M82 := md_old M74 c80
   refine was (v := .int .i64 0) ?_
   refine wnil (then_n (wp_ret (inb_r (then_x (by nofun) (then_x (by nofun) (inb_r (then_x (by nofun) ?_)))))))
   refine bodyPost_ret (v := .tuple #[.agg #[.string y49.name, .int .i64 y49.node.t, .int .i64 y49.node.w, .bool y49.dir, .int .i64 y49.size], .int .i64 0]) (res2 rfl (rv_c (p := ⟨b9, 0, none⟩) (by kernel_rfl) (run_loadVars (vs := [.string y49.name, .int .i64 y49.node.t, .int .i64 y49.node.w, .bool y49.dir, .int .i64 y49.size]) Ty.ag35 Ty.sz35 h79 (by kernel_rfl))) (rv_t (by kernel_rfl))) (by kernel_rfl) ?_
   exact ⟨find_ret (y := y49) (find_hit hF (Decidable.not_not.1 p36) (h26 (Decidable.not_not.1 p36)) hy49 (of_decide_eq_true v75)), (Mod.up M81)⟩
  have p36 := of_decide_eq_true (k34.trans v35)
  refine wp_cond_true (ebool (b := b33) (by kernel_rfl) v35) ?_
  refine wp_seq (rg_lit ?_)
  refine wl (sv rfl (v := .agg #[.string (⟨#[]⟩), .int .i64 0, .int .i64 0, .bool false, .int .i64 0]) (r_build (ps := []) (cs := [.string (⟨#[]⟩), .int .i64 0, .int .i64 0, .bool false, .int .i64 0]) Ty.un35 Ty.zv35 Ty.pl35 (by kernel_rfl) (by kernel_rfl)) ?_)
  refine wmv (v := .int .i64 ((kidK L ⟨n1, n2⟩))) ?_
  have h37 := (up_ob u28 h12)
  refine wl (ss rfl (k := 0) (v := .agg #[.string (⟨#[]⟩), .int .i64 0, .int .i64 0, .bool false, .int .i64 0]) (vs := [.string (⟨#[]⟩), .int .i64 0, .int .i64 0, .bool false, .int .i64 0]) (cs' := [.string (⟨#[]⟩), .int .i64 0, .int .i64 0, .bool false, .int .i64 0]) (by kernel_rfl) (by kernel_rfl) rfl Ty.sz35 h37 rfl (Nat.le_of_ble_eq_true rfl) rfl ?_)
  intro w38 h39 c40
  have M41 := Mod.trans' M32 c40 (fun i hi => by injection hi with hi; rw [← hi]; exact g17)
  refine was (v := .int .i64 ((kidK L ⟨n1, n2⟩))) ?_
  refine wnil (then_n (wp_ret (then_x (by nofun) ?_)))
  refine bodyPost_ret (v := .tuple #[.agg #[.string (⟨#[]⟩), .int .i64 0, .int .i64 0, .bool false, .int .i64 0], .int .i64 ((kidK L ⟨n1, n2⟩))]) (res2 rfl (rv_c (p := ⟨b9, 0, none⟩) (by kernel_rfl) (run_loadVars (vs := [.string (⟨#[]⟩), .int .i64 0, .int .i64 0, .bool false, .int .i64 0]) Ty.ag35 Ty.sz35 h39 (by kernel_rfl))) (rv_t (by kernel_rfl))) (by kernel_rfl) ?_
  exact ⟨find_ret (y := zeroE) (find_bad p36), (Mod.up M41)⟩
set_option maxHeartbeats 2000000 in
theorem shown18_at {B : Nat} {w : World} {tb r : Nat} {L : List Item} (h : TreeIs B w tb r L) (hB : B ≤ w.heap.size) (hF : Fit L) (htab : Tab w) (m1 m2 : Int) : Calls Tryz.prog 19 #[trP tb, .agg #[.int .i64 m1, .int .i64 m2]] w fun e w' => e = .returned (.tuple #[.string (shownB L ⟨m1, m2⟩), .int .i64 (shownK L ⟨m1, m2⟩)]) ∧ Up w w' := by
  go_enter Tryz.func19, Tryz.ntmps19
  refine wp_seq (rg_lit ?_)
  refine wl (sn rfl (cs := #[.int .i64 m1, .int .i64 m2]) (T := 24) (V := fun b => .pointer (some ⟨b, 0, none⟩)) (r_box (v := .agg #[.int .i64 m1, .int .i64 m2]) (by kernel_rfl) rfl) ?_)
  intro b1 w2 e3 h4 u5
  have l6 : tb < b1 := by rw [e3]; exact lt_ob h.1
  have g7 : w.heap.size ≤ b1 := by rw [e3]; exact (Mod.refl [] w).size
  have M8 := Mod.trans (Mod.refl [] w) (Mod.of_up u5)
  refine was (v := .string (⟨#[]⟩)) ?_
  refine was (v := .int .i64 0) ?_
  refine wnil (then_n (wp_seq (wp_seq (rg_lit ?_))))
  refine wmv (v := .pointer (some ⟨tb, 0, none⟩)) ?_
  refine wl (sv (w' := w2) rfl (v := .bool false) (by kernel_rfl) ?_)
  refine wnil (then_n ?_)
  refine wp_cond_false (by kernel_rfl) ?_
  refine wp_skip (then_n (wp_seq (rg_lit ?_)))
  refine wmv (v := .pointer (some ⟨tb, 0, none⟩)) ?_
  refine wl (sv rfl (v := .agg #[.int .i64 m1, .int .i64 m2]) (r_loads (k := 0) (by kernel_rfl) Ty.ag24 Ty.sz24 h4 (by kernel_rfl)) ?_)
  have h9 := (TreeIs.up h (Mod.up M8))
  refine wl (sc rfl (r_callv (caps := []) (all := [.pointer (some ⟨tb, 0, none⟩), .agg #[.int .i64 m1, .int .i64 m2]]) En.f20 (by kernel_rfl) (by kernel_rfl)) (get_x h9 ⟨m1, m2⟩ (x := (gotI L ⟨m1, m2⟩)) (b := (hasI L ⟨m1, m2⟩)) rfl rfl) ?_)
  rintro e w10 ⟨A11, n12, c13, rfl, h14, u15⟩
  refine ⟨.tuple #[itV (gotI L ⟨m1, m2⟩) (.slice A11 n12 c13), .bool ((hasI L ⟨m1, m2⟩))], rfl, ?_⟩
  have M16 := Mod.trans M8 (Mod.of_up u15)
  refine wmv (v := .tuple #[itV (gotI L ⟨m1, m2⟩) (.slice A11 n12 c13), .bool ((hasI L ⟨m1, m2⟩))]) ?_
  refine wl (sv rfl (v := itV (gotI L ⟨m1, m2⟩) (.slice A11 n12 c13)) (r_extract (vs := [itV (gotI L ⟨m1, m2⟩) (.slice A11 n12 c13), .bool ((hasI L ⟨m1, m2⟩))]) (by kernel_rfl) rfl) ?_)
  refine wl (sv rfl (v := .bool ((hasI L ⟨m1, m2⟩))) (r_extract (vs := [itV (gotI L ⟨m1, m2⟩) (.slice A11 n12 c13), .bool ((hasI L ⟨m1, m2⟩))]) (by kernel_rfl) rfl) ?_)
  refine wl (sn rfl (cs := #[.int .i64 0, .int .i64 0, .int .i64 0, .int .i64 0, .string (⟨#[]⟩), .bool false, .bool false, .slice none 0 0, .int .i64 0, .int .i64 0]) (T := 42) (V := fun b => .pointer (some ⟨b, 0, none⟩)) (r_alloc Ty.zv42 rfl) ?_)
  intro b17 w18 e19 h20 u21
  have h22 := md_ob M16 nin0 h.1
  have l23 : tb < b17 := by rw [e19]; exact lt_ob h22
  have h24 := (up_ob u15 h4)
  have l25 : b1 < b17 := by rw [e19]; exact lt_ob h24
  have g26 : w.heap.size ≤ b17 := by rw [e19]; exact M16.size
  have M27 := Mod.trans M16 (Mod.of_up u21)
  refine wl (ss rfl (k := 0) (v := itV (gotI L ⟨m1, m2⟩) (.slice A11 n12 c13)) (vs := (itC (gotI L ⟨m1, m2⟩) (.slice A11 n12 c13))) (cs' := (itC (gotI L ⟨m1, m2⟩) (.slice A11 n12 c13))) (by kernel_rfl) (by kernel_rfl) rfl Ty.sz42 h20 rfl (Nat.le_of_ble_eq_true rfl) rfl ?_)
  intro w28 h29 c30
  have M31 := Mod.trans' M27 c30 (fun i hi => by injection hi with hi; rw [← hi]; exact g26)
  refine was (v := .bool ((hasI L ⟨m1, m2⟩))) ?_
  refine wnil (then_n (wp_seq (wp_seq (rg_lit ?_))))
  refine wmv (v := .bool ((hasI L ⟨m1, m2⟩))) ?_
  refine wl (sv rfl (v := .bool (!((hasI L ⟨m1, m2⟩)))) (r_not (b := ((hasI L ⟨m1, m2⟩))) (by kernel_rfl)) ?_)
  refine wmv (v := .bool (!((hasI L ⟨m1, m2⟩)))) ?_
  refine bcase ((hasI L ⟨m1, m2⟩)) (fun v32 => ?_) (fun v32 => ?_)
  ·
   refine wl (sp (wf (b := !((hasI L ⟨m1, m2⟩))) rfl (by kernel_rfl) (bneg v32)) ?_)
   refine wl (sp (wf (b := !((hasI L ⟨m1, m2⟩))) rfl (by kernel_rfl) (bneg v32)) ?_)
   refine wl (sp (wf (b := !((hasI L ⟨m1, m2⟩))) rfl (by kernel_rfl) (bneg v32)) ?_)
   refine wl (sp (wf (b := !((hasI L ⟨m1, m2⟩))) rfl (by kernel_rfl) (bneg v32)) ?_)
   refine wl (sv rfl (v := .bool true) (r_pkT (ebool (b := !((hasI L ⟨m1, m2⟩))) (by kernel_rfl) (bneg v32)) (by kernel_rfl)) ?_)
   refine wnil (then_n ?_)
   refine wp_cond_true (by kernel_rfl) ?_
   refine wp_seq (rg_lit ?_)
   refine was (v := .string (⟨#[]⟩)) ?_
   refine was (v := .int .i64 12) ?_
   refine wnil (then_n (wp_ret (then_x (by nofun) ?_)))
   refine bodyPost_ret (v := .tuple #[.string (⟨#[]⟩), .int .i64 12]) (res2 rfl (rv_t (by kernel_rfl)) (rv_t (by kernel_rfl))) (by kernel_rfl) ?_
   exact ⟨shown_ret (shown_no1 v32), (Mod.up M31)⟩
  refine wl (sv (wt (b := !((hasI L ⟨m1, m2⟩))) rfl (by kernel_rfl) (bneg v32)) (v := .pointer (some ⟨tb, 0, none⟩)) (r_move (by kernel_rfl)) ?_)
  have h33 := (chg_ob c30 (Nat.ne_of_lt l25) (up_ob u21 h24))
  refine wl (sv (wt (b := !((hasI L ⟨m1, m2⟩))) rfl (by kernel_rfl) (bneg v32)) (v := .agg #[.int .i64 m1, .int .i64 m2]) (r_loads (k := 0) (by kernel_rfl) Ty.ag24 Ty.sz24 h33 (by kernel_rfl)) ?_)
  have h34 := (TreeIs.up h (Mod.up M31))
  refine wl (sc (wt (b := !((hasI L ⟨m1, m2⟩))) rfl (by kernel_rfl) (bneg v32)) (r_callv (caps := []) (all := [.pointer (some ⟨tb, 0, none⟩), .agg #[.int .i64 m1, .int .i64 m2]]) En.f39 (by kernel_rfl) (by kernel_rfl)) (hangs_at h34 m1 m2) ?_)
  rintro e w35 ⟨rfl, u36⟩
  refine ⟨.bool ((hangsI L 301 ⟨m1, m2⟩)), rfl, ?_⟩
  have M37 := Mod.trans M31 (Mod.of_up u36)
  refine wl (sv (wt (b := !((hasI L ⟨m1, m2⟩))) rfl (by kernel_rfl) (bneg v32)) (v := .bool (!((hangsI L 301 ⟨m1, m2⟩)))) (r_not (b := ((hangsI L 301 ⟨m1, m2⟩))) (by kernel_rfl)) ?_)
  refine wl (sv rfl (v := .bool (!((hangsI L 301 ⟨m1, m2⟩)))) (r_pkF (ebool (b := !((hasI L ⟨m1, m2⟩))) (by kernel_rfl) (bneg v32)) (by kernel_rfl)) ?_)
  refine wnil (then_n ?_)
  refine bcase ((hangsI L 301 ⟨m1, m2⟩)) (fun v38 => ?_) (fun v38 => ?_)
  ·
   refine wp_cond_true (ebool (b := !((hangsI L 301 ⟨m1, m2⟩))) (by kernel_rfl) (bneg v38)) ?_
   refine wp_seq (rg_lit ?_)
   refine was (v := .string (⟨#[]⟩)) ?_
   refine was (v := .int .i64 12) ?_
   refine wnil (then_n (wp_ret (then_x (by nofun) ?_)))
   refine bodyPost_ret (v := .tuple #[.string (⟨#[]⟩), .int .i64 12]) (res2 rfl (rv_t (by kernel_rfl)) (rv_t (by kernel_rfl))) (by kernel_rfl) ?_
   exact ⟨shown_ret (shown_no2 v38), (Mod.up M37)⟩
  refine wp_cond_false (ebool (b := !((hangsI L 301 ⟨m1, m2⟩))) (by kernel_rfl) (bneg v38)) ?_
  refine wp_skip (then_n (wp_seq (wp_seq (rg_lit ?_))))
  refine wmv (v := .pointer (some ⟨tb, 0, none⟩)) ?_
  refine wl (sv rfl (v := .pointer (some ⟨b17, 2, none⟩)) (r_fieldAddr (u := .pointer (some ⟨b17, 0, none⟩)) (by kernel_rfl) (fun _ => (by kernel_rfl))) ?_)
  have h39 := (up_ob u36 h29)
  refine wl (sv rfl (v := .agg #[.int .i64 ((gotI L ⟨m1, m2⟩).parent.t), .int .i64 ((gotI L ⟨m1, m2⟩).parent.w)]) (r_loads (k := 2) (by kernel_rfl) Ty.ag24 Ty.sz24 h39 (by kernel_rfl)) ?_)
  have h46 := (TreeIs.up h (Mod.up M37))
  refine wl (sc rfl (r_callv (caps := []) (all := [.pointer (some ⟨tb, 0, none⟩), .agg #[.int .i64 ((gotI L ⟨m1, m2⟩).parent.t), .int .i64 ((gotI L ⟨m1, m2⟩).parent.w)]]) En.f38 (by kernel_rfl) (by kernel_rfl)) (row_sl (kids_at h46 (Nat.le_trans hB M37.size) ((gotI L ⟨m1, m2⟩).parent.t) ((gotI L ⟨m1, m2⟩).parent.w))) ?_)
  rintro e w40 ⟨A41, c42, rfl, h43, u44⟩
  have h45 := IRow.base h43 M37.size
  refine ⟨.slice A41 (((kidsI ⟨(gotI L ⟨m1, m2⟩).parent.t, (gotI L ⟨m1, m2⟩).parent.w⟩ L)).length) c42, rfl, ?_⟩
  have M47 := Mod.trans M37 (Mod.of_up u44)
  refine wl (sc rfl (r_callv (caps := []) (all := [.slice A41 (((kidsI ⟨(gotI L ⟨m1, m2⟩).parent.t, (gotI L ⟨m1, m2⟩).parent.w⟩ L)).length) c42]) En.f58 (by kernel_rfl) (by kernel_rfl)) (ents_at h45 (Nat.le_trans hB M47.size) (TabIs.up htab (Mod.up M47)) (Fit.kids hF _).1 (kids_300 hF _)) ?_)
  rintro e w48 ⟨v49, rfl, h52, u53⟩
  obtain ⟨A50, c51, rfl⟩ := ERow.form h52
  have h54 := ERow.base h52 M47.size
  have z55 := ERow.le h52
  refine ⟨.slice A50 ((entsI (kidsI ⟨(gotI L ⟨m1, m2⟩).parent.t, (gotI L ⟨m1, m2⟩).parent.w⟩ L)).length) c51, rfl, ?_⟩
  have M56 := Mod.trans M47 (Mod.of_up u53)
  refine wl (sv rfl (v := .int .i64 ((((entsI (kidsI ⟨(gotI L ⟨m1, m2⟩).parent.t, (gotI L ⟨m1, m2⟩).parent.w⟩ L)).length) : Int))) (r_len Ty.un29 (ad := A50) (n := ((entsI (kidsI ⟨(gotI L ⟨m1, m2⟩).parent.t, (gotI L ⟨m1, m2⟩).parent.w⟩ L)).length)) (c := c51) (by kernel_rfl)) ?_)
  refine wmv (v := .int .i64 0) ?_
  refine wnil (then_n (wp_block ?_))
  have h57 := md_ob M56 nin0 h.1
  have h58 := (up_ob u53 (up_ob u44 (up_ob u36 h33)))
  have h59 := (up_ob u53 (up_ob u44 h39))
  have h60 := (TreeIs.up h (Mod.up M56))
  have h61 := (Dat.up h14 (up_up (up_up (up_up (up_chgn u21 c30 (by rw [e19]; exact Nat.le_refl _)) u36) u44) u53))
  have h62 := (IRow.up h45 u53)
  refine lp (fun n a r1 => ∃ (k : Nat) (z4 z5 z9 z33 z34 z35 z36 z37 z38 z39 z40 z41 z42 : Value), (n = (entsI (kidsI ⟨(gotI L ⟨m1, m2⟩).parent.t, (gotI L ⟨m1, m2⟩).parent.w⟩ L)).length - k) ∧ (a = ⟨#[.pointer (some ⟨tb, 0, none⟩), .agg #[.int .i64 m1, .int .i64 m2], undef, .pointer (some ⟨b1, 0, none⟩), z4, z5, .pointer (some ⟨b17, 0, none⟩), .bool ((hasI L ⟨m1, m2⟩)), undef, z9, .pointer (some ⟨tb, 0, none⟩), .bool false, .tuple #[itV (gotI L ⟨m1, m2⟩) (.slice A11 n12 c13), .bool ((hasI L ⟨m1, m2⟩))], .pointer (some ⟨tb, 0, none⟩), .agg #[.int .i64 m1, .int .i64 m2], .tuple #[itV (gotI L ⟨m1, m2⟩) (.slice A11 n12 c13), .bool ((hasI L ⟨m1, m2⟩))], itV (gotI L ⟨m1, m2⟩) (.slice A11 n12 c13), .bool ((hasI L ⟨m1, m2⟩)), .bool ((hasI L ⟨m1, m2⟩)), .bool (!((hasI L ⟨m1, m2⟩))), .bool (!((hasI L ⟨m1, m2⟩))), .pointer (some ⟨tb, 0, none⟩), .agg #[.int .i64 m1, .int .i64 m2], .bool ((hangsI L 301 ⟨m1, m2⟩)), .bool (!((hangsI L 301 ⟨m1, m2⟩))), .bool (!((hangsI L 301 ⟨m1, m2⟩))), .pointer (some ⟨tb, 0, none⟩), .pointer (some ⟨b17, 2, none⟩), .agg #[.int .i64 ((gotI L ⟨m1, m2⟩).parent.t), .int .i64 ((gotI L ⟨m1, m2⟩).parent.w)], .slice A41 (((kidsI ⟨(gotI L ⟨m1, m2⟩).parent.t, (gotI L ⟨m1, m2⟩).parent.w⟩ L)).length) c42, .slice A50 ((entsI (kidsI ⟨(gotI L ⟨m1, m2⟩).parent.t, (gotI L ⟨m1, m2⟩).parent.w⟩ L)).length) c51, .int .i64 ((((entsI (kidsI ⟨(gotI L ⟨m1, m2⟩).parent.t, (gotI L ⟨m1, m2⟩).parent.w⟩ L)).length) : Int)), .int .i64 ((k : Int)), z33, z34, z35, z36, z37, z38, z39, z40, z41, z42], []⟩) ∧ (Mod [] w48 r1) ∧ (k ≤ (entsI (kidsI ⟨(gotI L ⟨m1, m2⟩).parent.t, (gotI L ⟨m1, m2⟩).parent.w⟩ L)).length) ∧ (Hid (∀ (j : Nat) (y : EntD), j < k → (entsI (kidsI ⟨(gotI L ⟨m1, m2⟩).parent.t, (gotI L ⟨m1, m2⟩).parent.w⟩ L))[j]? = some y → ¬ y.node = ⟨m1, m2⟩))) ⟨_, 0, .string (⟨#[]⟩), .int .i64 0, undef, undef, undef, undef, undef, undef, undef, undef, undef, undef, undef, rfl, (by kernel_rfl), Mod.refl _ _, (Nat.zero_le _), (fun j y hj => absurd hj (Nat.not_lt_zero _))⟩ ?_
  rintro _ _ r1 ⟨k, z4, z5, z9, z33, z34, z35, z36, z37, z38, z39, z40, z41, z42, rfl, rfl, hM1, hF1_0, hF1_1⟩
  have M63 := Mod.thin M56 hM1 (by simp)
  refine wp_seq (rg_lit ?_)
  refine wl (sb rfl (r_lt (k := .i64) (m := ((k : Int))) (n := ((((entsI (kidsI ⟨(gotI L ⟨m1, m2⟩).parent.t, (gotI L ⟨m1, m2⟩).parent.w⟩ L)).length) : Int))) (by kernel_rfl) (by kernel_rfl)) ?_)
  intro b64 k65
  refine wnil (then_n (wp_seq ?_))
  refine bcase b64 (fun v66 => ?_) (fun v66 => ?_)
  ·
   have p67 := of_decide_eq_false (k65.trans v66)
   refine wp_cond_false (ebool (b := b64) (by kernel_rfl) v66) ?_
   refine wp_exit (then_x (by nofun) (then_x (by nofun) (inb_hit (then_n (wp_seq (rg_lit ?_))))))
   refine was (v := .string (⟨#[]⟩)) ?_
   refine was (v := .int .i64 12) ?_
   refine wnil (then_n (wp_ret ?_))
   refine bodyPost_ret (v := .tuple #[.string (⟨#[]⟩), .int .i64 12]) (res2 rfl (rv_t (by kernel_rfl)) (rv_t (by kernel_rfl))) (by kernel_rfl) ?_
   exact ⟨shown_ret (shown_miss (none_end (D := (entsI (kidsI ⟨(gotI L ⟨m1, m2⟩).parent.t, (gotI L ⟨m1, m2⟩).parent.w⟩ L))) hF1_1 (by omega))), (Mod.up M63)⟩
  have p67 := of_decide_eq_true (k65.trans v66)
  refine wp_cond_true (ebool (b := b64) (by kernel_rfl) v66) ?_
  refine wp_skip (then_n (wp_seq (wp_block (wp_seq (rg_lit ?_)))))
  have h68 := (ERow.up h54 (Mod.up hM1))
  obtain ⟨y69, hy69⟩ : ∃ x, ((entsI (kidsI ⟨(gotI L ⟨m1, m2⟩).parent.t, (gotI L ⟨m1, m2⟩).parent.w⟩ L)))[k]? = some x := ⟨_, List.getElem?_eq_getElem (by omega)⟩
  obtain ⟨g69, cp69, cu69, hA69, hg69, hb69, he69⟩ := ERow.get h68 hy69
  injection hA69 with hA69 _ _
  replace he69 : (cu69.toList.drop (0 + k * 5)).take 5 = enC y69 := by rw [Nat.zero_add]; exact he69
  refine wl (sv rfl (v := .pointer (some ⟨g69, 0 + k * 5, none⟩)) (r_ixaddr' (A := A50) (b := g69) (o := 0) (n := ((entsI (kidsI ⟨(gotI L ⟨m1, m2⟩).parent.t, (gotI L ⟨m1, m2⟩).parent.w⟩ L)).length)) (c := c51) (sz := 5) (j := ((k : Int))) (by kernel_rfl) hA69 (by kernel_rfl) Ty.un29 Ty.sz35 (by omega) (by omega) (by simp)) ?_)
  refine wl (sv rfl (v := .agg #[.string y69.name, .int .i64 y69.node.t, .int .i64 y69.node.w, .bool y69.dir, .int .i64 y69.size]) (r_loads (k := 0 + k * 5) (by kernel_rfl) Ty.ag35 Ty.sz35 hb69 (el_sub0 he69 rfl)) ?_)
  refine wl (sn rfl (cs := #[.string (⟨#[]⟩), .int .i64 0, .int .i64 0, .bool false, .int .i64 0]) (T := 35) (V := fun b => .pointer (some ⟨b, 0, none⟩)) (r_alloc Ty.zv35 rfl) ?_)
  intro b70 w71 e72 h73 u74
  have h75 := md_ob M63 nin0 h.1
  have l76 : tb < b70 := by rw [e72]; exact lt_ob h75
  have h77 := md_ob hM1 nin0 h58
  have l78 : b1 < b70 := by rw [e72]; exact lt_ob h77
  have h79 := md_ob hM1 nin0 h59
  have l80 : b17 < b70 := by rw [e72]; exact lt_ob h79
  have l81 : g69 < b70 := by rw [e72]; exact lt_ob hb69
  have g82 : w.heap.size ≤ b70 := by rw [e72]; exact M63.size
  have g83 : w48.heap.size ≤ b70 := by rw [e72]; exact hM1.size
  have M84 := Mod.trans M63 (Mod.of_up u74)
  have M85 := Mod.trans hM1 (Mod.of_up u74)
  refine wl (ss rfl (k := 0) (v := .agg #[.string y69.name, .int .i64 y69.node.t, .int .i64 y69.node.w, .bool y69.dir, .int .i64 y69.size]) (vs := [.string y69.name, .int .i64 y69.node.t, .int .i64 y69.node.w, .bool y69.dir, .int .i64 y69.size]) (cs' := [.string y69.name, .int .i64 y69.node.t, .int .i64 y69.node.w, .bool y69.dir, .int .i64 y69.size]) (by kernel_rfl) (by kernel_rfl) rfl Ty.sz35 h73 rfl (Nat.le_of_ble_eq_true rfl) rfl ?_)
  intro w86 h87 c88
  have M89 := Mod.trans' M84 c88 (fun i hi => by injection hi with hi; rw [← hi]; exact g82)
  have M90 := Mod.trans' M85 c88 (fun i hi => by injection hi with hi; rw [← hi]; exact g83)
  refine wnil (then_n (wp_seq (rg_lit ?_)))
  refine wl (sv rfl (v := .pointer (some ⟨b70, 1, none⟩)) (r_fieldAddr (u := .pointer (some ⟨b70, 0, none⟩)) (by kernel_rfl) (fun _ => (by kernel_rfl))) ?_)
  refine wl (sv rfl (v := .agg #[.int .i64 y69.node.t, .int .i64 y69.node.w]) (r_loads (k := 1) (by kernel_rfl) Ty.ag24 Ty.sz24 h87 (by kernel_rfl)) ?_)
  have h91 := md_ob M90 nin0 h58
  refine wl (sv rfl (v := .agg #[.int .i64 m1, .int .i64 m2]) (r_loads (k := 0) (by kernel_rfl) Ty.ag24 Ty.sz24 h91 (by kernel_rfl)) ?_)
  refine wl (sb rfl (r_eqS (a := y69.node.t) (b := y69.node.w) (c := m1) (e := m2) (by kernel_rfl) (by kernel_rfl)) ?_)
  intro b92 k93
  refine wnil (then_n ?_)
  refine bcase b92 (fun v94 => ?_) (fun v94 => ?_)
  ·
   have p95 := of_decide_eq_false (k93.trans v94)
   refine wp_cond_false (ebool (b := b92) (by kernel_rfl) v94) ?_
   refine wp_skip (inb_n (then_n (rg_lit ?_)))
   refine wl (sv rfl (v := .int .i64 (((k : Int)) + 1)) (r_add (k := .i64) (m := ((k : Int))) (n := 1) (by kernel_rfl) (by kernel_rfl) (IntWalk.i64_in _ (by omega))) ?_)
   refine wmv (v := .int .i64 (((k : Int)) + 1)) ?_
   refine wnil (then_n ?_)
   refine ⟨(entsI (kidsI ⟨(gotI L ⟨m1, m2⟩).parent.t, (gotI L ⟨m1, m2⟩).parent.w⟩ L)).length - (k + 1), ?_, (k + 1), z4, z5, .pointer (some ⟨b70, 0, none⟩), .bool b64, .pointer (some ⟨g69, 0 + k * 5, none⟩), .agg #[.string y69.name, .int .i64 y69.node.t, .int .i64 y69.node.w, .bool y69.dir, .int .i64 y69.size], .pointer (some ⟨b70, 1, none⟩), .agg #[.int .i64 y69.node.t, .int .i64 y69.node.w], .agg #[.int .i64 m1, .int .i64 m2], .bool b92, z40, z41, .int .i64 (((k : Int)) + 1), rfl, (by kernel_rfl), M90, (by omega), (none_next (p := fun y : EntD => y.node = ⟨m1, m2⟩) hF1_1 hy69 p95)⟩
   · omega
  have p95 := of_decide_eq_true (k93.trans v94)
  refine wp_cond_true (ebool (b := b92) (by kernel_rfl) v94) ?_
  refine wp_seq (rg_lit ?_)
  refine wl (sv rfl (v := .pointer (some ⟨b70, 0, none⟩)) (r_fieldAddr (u := .pointer (some ⟨b70, 0, none⟩)) (by kernel_rfl) (fun _ => (by kernel_rfl))) ?_)
  refine wl (sv rfl (v := .string y69.name) (r_load (k := 0) (by kernel_rfl) Ty.ag9 h87 (by kernel_rfl)) ?_)
  refine was (v := .string y69.name) ?_
  refine was (v := .int .i64 0) ?_
  refine wnil (then_n (wp_ret (inb_r (then_x (by nofun) (then_x (by nofun) (inb_r (then_x (by nofun) ?_)))))))
  refine bodyPost_ret (v := .tuple #[.string y69.name, .int .i64 0]) (res2 rfl (rv_t (by kernel_rfl)) (rv_t (by kernel_rfl))) (by kernel_rfl) ?_
  exact ⟨shown_ret (shown_hit hF v32 v38 hy69 p95), (Mod.up M89)⟩
set_option maxHeartbeats 2000000 in
theorem count_at {B : Nat} {w : World} {l : List Item} {xA : Option Addr} {xc : Nat} {base0 : Nat} (hl : IRow 42 B base0 w (.slice xA l.length xc) l) (hB : B ≤ w.heap.size) (hlen : l.length ≤ 300) :
    Calls Tryz.prog 63 #[.slice xA l.length xc] w fun e w' => ∃ mp, e = .returned (.map (some mp)) ∧ SMap w' mp (cntF l) ∧ Up w w' := by
  obtain ⟨ii_p, iz_p, hi_p, hz_p, hs_p, hb_p, hc_p⟩ := info_item
  go_enter Tryz.func63, Tryz.ntmps63
  refine wp_seq (rg_lit ?_)
  refine was (v := .map none) ?_
  refine wnil (then_n (wp_seq (rg_lit ?_)))
  refine wl (snm rfl (V := fun b => .map (some b)) r_makeMap ?_)
  intro mp w1 e2 h3 u4
  have g5 : w.heap.size ≤ mp := by rw [e2]; exact (Mod.refl [] w).size
  have M6 := Mod.trans (Mod.refl [] w) (Mod.of_up u4)
  refine was (v := .map (some mp)) ?_
  refine wnil (then_n (wp_seq (wp_seq (rg_lit ?_))))
  refine wmv (v := .slice xA l.length xc) ?_
  refine wl (sv rfl (v := .int .i64 ((l.length : Int))) (r_len Ty.un74 (ad := xA) (n := l.length) (c := xc) (by kernel_rfl)) ?_)
  refine wmv (v := .int .i64 0) ?_
  refine wnil (then_n (wp_block ?_))
  have h7 := (IRow.up hl (Mod.up M6))
  refine lp (fun n a r1 => ∃ (k : Nat) (z5 z10 z11 z12 z13 z14 z15 z16 z17 z18 : Value), (n = l.length - k) ∧ (a = ⟨#[.slice xA l.length xc, undef, .map none, .map (some mp), undef, z5, .map (some mp), .slice xA l.length xc, .int .i64 ((l.length : Int)), .int .i64 ((k : Int)), z10, z11, z12, z13, z14, z15, z16, z17, z18, undef], []⟩) ∧ (Mod [mp] w1 r1) ∧ (k ≤ l.length) ∧ (SMap r1 mp (cntF (l.take k)))) ⟨_, 0, undef, undef, undef, undef, undef, undef, undef, undef, undef, undef, rfl, (by kernel_rfl), Mod.refl _ _, (Nat.zero_le _), (SMap.to (SMap.new h3) (cntF_nil l))⟩ ?_
  rintro _ _ r1 ⟨k, z5, z10, z11, z12, z13, z14, z15, z16, z17, z18, rfl, rfl, hM1, hF1_0, hF1_1⟩
  have M8 := Mod.thin M6 hM1 (fun y hy => by simp only [List.mem_cons, List.not_mem_nil, or_false] at hy; subst hy; exact .inr g5)
  obtain ⟨ech9, cch9, h9⟩ := SMap.ob hF1_1
  refine wp_seq (rg_lit ?_)
  refine wl (sb rfl (r_lt (k := .i64) (m := ((k : Int))) (n := ((l.length : Int))) (by kernel_rfl) (by kernel_rfl)) ?_)
  intro b10 k11
  refine wnil (then_n (wp_seq ?_))
  refine bcase b10 (fun v12 => ?_) (fun v12 => ?_)
  ·
   have p13 := of_decide_eq_false (k11.trans v12)
   refine wp_cond_false (ebool (b := b10) (by kernel_rfl) v12) ?_
   refine wp_exit (then_x (by nofun) (then_x (by nofun) (inb_hit (then_n (wp_seq (rg_lit ?_))))))
   refine wmv (v := .map (some mp)) ?_
   refine was (v := .map (some mp)) ?_
   refine wnil (then_n (wp_ret ?_))
   refine bodyPost_ret (v := .map (some mp)) (res1 rfl (rv_t (by kernel_rfl))) (by kernel_rfl) ?_
   exact ⟨mp, rfl, SMap.to hF1_1 (cntF_all (by omega)), (Mod.up M8)⟩
  have p13 := of_decide_eq_true (k11.trans v12)
  have q14 : k < l.length := by omega
  have q15 : k < l.length := by omega
  refine wp_cond_true (ebool (b := b10) (by kernel_rfl) v12) ?_
  refine wp_skip (then_n (wp_seq (wp_block (wp_seq (rg_lit ?_)))))
  have h16 := (IRow.up hl (Mod.up M8))
  obtain ⟨y17, hy17⟩ : ∃ x, l[k]? = some x := ⟨_, List.getElem?_eq_getElem q15⟩
  obtain ⟨g17, cp17, cu17, dA17, dn17, dc17, hA17, hg17, hb17, he17, hD17⟩ := h16.get hy17
  injection hA17 with hA17 _ _
  replace he17 : (cu17.toList.drop (0 + k * 10)).take 10 = (itC y17 (.slice dA17 dn17 dc17)) := by rw [Nat.zero_add]; exact he17
  refine wl (sv rfl (v := .pointer (some ⟨g17, 0 + k * 10, none⟩)) (r_ixaddr' (A := xA) (b := g17) (o := 0) (n := l.length) (c := xc) (sz := 10) (j := (k : Int)) (by kernel_rfl) hA17 (by kernel_rfl) Ty.un74 Ty.sz42 (by omega) (by omega) (by simp)) ?_)
  refine wl (sv rfl (v := itV y17 (.slice dA17 dn17 dc17)) (r_loads (k := 0 + k * 10) (by kernel_rfl) Ty.ag42 Ty.sz42 hb17 (el_sub0 he17 rfl)) ?_)
  refine wl (sn rfl (cs := #[.int .i64 0, .int .i64 0, .int .i64 0, .int .i64 0, .string (⟨#[]⟩), .bool false, .bool false, .slice none 0 0, .int .i64 0, .int .i64 0]) (T := 42) (V := fun b => .pointer (some ⟨b, 0, none⟩)) (r_alloc Ty.zv42 rfl) ?_)
  intro b18 w19 e20 h21 u22
  have l23 : mp < b18 := by rw [e20]; exact lt_ob h9
  have l24 : g17 < b18 := by rw [e20]; exact lt_ob hb17
  have g25 : w.heap.size ≤ b18 := by rw [e20]; exact M8.size
  have g26 : w1.heap.size ≤ b18 := by rw [e20]; exact hM1.size
  have M27 := Mod.trans M8 (Mod.of_up u22)
  have M28 := Mod.trans hM1 (Mod.of_up u22)
  refine wl (ss rfl (k := 0) (v := itV y17 (.slice dA17 dn17 dc17)) (vs := (itC y17 (.slice dA17 dn17 dc17))) (cs' := (itC y17 (.slice dA17 dn17 dc17))) (by kernel_rfl) (by kernel_rfl) rfl Ty.sz42 h21 rfl (Nat.le_of_ble_eq_true rfl) rfl ?_)
  intro w29 h30 c31
  have M32 := Mod.trans' M27 c31 (fun i hi => by injection hi with hi; rw [← hi]; exact g25)
  have M33 := Mod.trans' M28 c31 (fun i hi => by injection hi with hi; rw [← hi]; exact g26)
  refine wnil (then_n (rg_lit ?_))
  refine wmv (v := .map (some mp)) ?_
  refine wl (sv rfl (v := .pointer (some ⟨b18, 4, none⟩)) (r_fieldAddr (u := .pointer (some ⟨b18, 0, none⟩)) (by kernel_rfl) (fun _ => (by kernel_rfl))) ?_)
  refine wl (sv rfl (v := .string y17.name) (r_load (k := 4) (by kernel_rfl) Ty.ag9 h30 (by kernel_rfl)) ?_)
  have h34 := (SMap.up hF1_1 (up_chgn u22 c31 (by rw [e20]; exact Nat.le_refl _)))
  have hcl := cnt_le l k y17.name
  refine wl (sv rfl (v := .int .i64 (((cntI (l.take k) y17.name : Nat) : Int))) (r_lookS (r := mp) (s := y17.name) (v := .int .i64 (((cntI (l.take k) y17.name : Nat) : Int))) (by kernel_rfl) (by kernel_rfl) h34 Ty.un104 Ty.un9 (fun _ => by kernel_rfl) (cntF_get _ _)) ?_)
  refine wl (sv rfl (v := .int .i64 ((((cntI (l.take k) y17.name : Nat) : Int)) + 1)) (r_add (k := .i64) (m := (((cntI (l.take k) y17.name : Nat) : Int))) (n := 1) (by kernel_rfl) (by kernel_rfl) (IntWalk.i64_in _ (by omega))) ?_)
  have h35 := (chg_ob c31 (Nat.ne_of_lt l23) (up_ob u22 h9))
  obtain ⟨w36, hr36, hc36, hm36⟩ := SMap.store (P := Tryz.prog) h34 Ty.un104 Ty.un9 y17.name (.int .i64 ((((cntI (l.take k) y17.name : Nat) : Int)) + 1))
  refine wl (sk rfl (r_mapUpdate (mv := .map (some mp)) (kv := .string y17.name) (vv := .int .i64 ((((cntI (l.take k) y17.name : Nat) : Int)) + 1)) (by kernel_rfl) (by kernel_rfl) (by kernel_rfl) hr36) ?_)
  have M37 := Mod.trans' M32 hc36 (fun i hi => by injection hi with hi; rw [← hi]; exact g5)
  have M38 := Mod.trans M33 (Mod.of_chg hc36 (by simp))
  obtain ⟨ech39, cch39, h39⟩ := SMap.ob hm36
  refine wnil (inb_n (then_n (rg_lit ?_)))
  refine wl (sv rfl (v := .int .i64 (((k : Int)) + 1)) (r_add (k := .i64) (m := ((k : Int))) (n := 1) (by kernel_rfl) (by kernel_rfl) (IntWalk.i64_in _ (by omega))) ?_)
  refine wmv (v := .int .i64 (((k : Int)) + 1)) ?_
  refine wnil (then_n ?_)
  refine ⟨l.length - (k + 1), ?_, (k + 1), .pointer (some ⟨b18, 0, none⟩), .bool b10, .pointer (some ⟨g17, 0 + k * 10, none⟩), itV y17 (.slice dA17 dn17 dc17), .map (some mp), .pointer (some ⟨b18, 4, none⟩), .string y17.name, .int .i64 (((cntI (l.take k) y17.name : Nat) : Int)), .int .i64 ((((cntI (l.take k) y17.name : Nat) : Int)) + 1), .int .i64 (((k : Int)) + 1), rfl, (by kernel_rfl), M38, (by omega), (SMap.to hm36 (cntF_next hy17))⟩
  · omega
set_option maxHeartbeats 2000000 in
theorem free18_at {B : Nat} {w : World} {tb r : Nat} {L : List Item} (h : TreeIs B w tb r L) (hB : B ≤ w.heap.size) (hF : Fit L) (n1 n2 : Int) (nm : ByteArray) (hnm : nm.size ≤ 9223372036854775807) : Calls Tryz.prog 17 #[trP tb, .agg #[.int .i64 n1, .int .i64 n2], .string nm] w fun e w' => e = .returned (.bool (freeI L ⟨n1, n2⟩ nm)) ∧ Up w w' := by
  go_enter Tryz.func17, Tryz.ntmps17
  refine wp_seq (rg_lit ?_)
  refine wl (sn rfl (cs := #[.int .i64 n1, .int .i64 n2]) (T := 24) (V := fun b => .pointer (some ⟨b, 0, none⟩)) (r_box (v := .agg #[.int .i64 n1, .int .i64 n2]) (by kernel_rfl) rfl) ?_)
  intro b1 w2 e3 h4 u5
  have l6 : tb < b1 := by rw [e3]; exact lt_ob h.1
  have g7 : w.heap.size ≤ b1 := by rw [e3]; exact (Mod.refl [] w).size
  have M8 := Mod.trans (Mod.refl [] w) (Mod.of_up u5)
  refine was (v := .bool false) ?_
  refine wnil (then_n (wp_seq (rg_lit ?_)))
  refine wmv (v := .pointer (some ⟨tb, 0, none⟩)) ?_
  refine wl (sv rfl (v := .agg #[.int .i64 n1, .int .i64 n2]) (r_loads (k := 0) (by kernel_rfl) Ty.ag24 Ty.sz24 h4 (by kernel_rfl)) ?_)
  have h16 := (TreeIs.up h (Mod.up M8))
  refine wl (sc rfl (r_callv (caps := []) (all := [.pointer (some ⟨tb, 0, none⟩), .agg #[.int .i64 n1, .int .i64 n2]]) En.f57 (by kernel_rfl) (by kernel_rfl)) (kids18_at h16 (Nat.le_trans hB M8.size) n1 n2) ?_)
  rintro e w9 ⟨v10, rfl, h13, u14⟩
  obtain ⟨A11, c12, rfl⟩ := IRow.form h13
  have h15 := IRow.base h13 M8.size
  refine ⟨.tuple #[.slice A11 ((kidsO L ⟨n1, n2⟩).length) c12, .int .i64 ((kidK L ⟨n1, n2⟩))], rfl, ?_⟩
  have M17 := Mod.trans M8 (Mod.of_up u14)
  refine wmv (v := .tuple #[.slice A11 ((kidsO L ⟨n1, n2⟩).length) c12, .int .i64 ((kidK L ⟨n1, n2⟩))]) ?_
  refine wl (sv rfl (v := .slice A11 ((kidsO L ⟨n1, n2⟩).length) c12) (r_extract (vs := [.slice A11 ((kidsO L ⟨n1, n2⟩).length) c12, .int .i64 ((kidK L ⟨n1, n2⟩))]) (by kernel_rfl) rfl) ?_)
  refine wl (sv rfl (v := .int .i64 ((kidK L ⟨n1, n2⟩))) (r_extract (vs := [.slice A11 ((kidsO L ⟨n1, n2⟩).length) c12, .int .i64 ((kidK L ⟨n1, n2⟩))]) (by kernel_rfl) rfl) ?_)
  refine was (v := .slice A11 ((kidsO L ⟨n1, n2⟩).length) c12) ?_
  refine was (v := .int .i64 ((kidK L ⟨n1, n2⟩))) ?_
  refine wnil (then_n (wp_seq (rg_lit ?_)))
  refine wmv (v := .int .i64 ((kidK L ⟨n1, n2⟩))) ?_
  refine wl (sb rfl (r_eq (k := .i64) (m := ((kidK L ⟨n1, n2⟩))) (n := 0) (by kernel_rfl) (by kernel_rfl)) ?_)
  intro b18 k19
  refine wmv (v := .bool b18) ?_
  refine bcase b18 (fun v20 => ?_) (fun v20 => ?_)
  ·
   have p21 := of_decide_eq_false (k19.trans v20)
   refine wl (sp (wf (b := b18) rfl (by kernel_rfl) v20) ?_)
   refine wl (sp (wf (b := b18) rfl (by kernel_rfl) v20) ?_)
   refine wl (sv rfl (v := .bool false) (r_pkF (ebool (b := b18) (by kernel_rfl) v20) (by kernel_rfl)) ?_)
   refine wmv (v := .bool false) ?_
   refine wsp ?_
   refine wsp ?_
   refine wsp ?_
   refine wsp ?_
   refine wsp ?_
   refine wl (sv rfl (v := .bool false) (r_pkF (by kernel_rfl) (by kernel_rfl)) ?_)
   refine was (v := .bool false) ?_
   refine wnil (then_n (wp_ret ?_))
   refine bodyPost_ret (v := .bool false) (res1 rfl (rv_t (by kernel_rfl))) (by kernel_rfl) ?_
   exact ⟨by rw [free_k p21], (Mod.up M17)⟩
  have p21 := of_decide_eq_true (k19.trans v20)
  refine wl (sv (wt (b := b18) rfl (by kernel_rfl) v20) (v := .string nm) (r_move (by kernel_rfl)) ?_)
  refine wl (sc (wt (b := b18) rfl (by kernel_rfl) v20) (r_callv (caps := []) (all := [.string nm]) En.f62 (by kernel_rfl) (by kernel_rfl)) (opname_any nm _ hnm) ?_)
  rintro e w22 ⟨rfl, u23⟩
  refine ⟨.bool ((nameB nm)), rfl, ?_⟩
  have M24 := Mod.trans M17 (Mod.of_up u23)
  refine wl (sv rfl (v := .bool ((nameB nm))) (r_pkT (ebool (b := b18) (by kernel_rfl) v20) (by kernel_rfl)) ?_)
  refine wmv (v := .bool ((nameB nm))) ?_
  refine bcase ((nameB nm)) (fun v25 => ?_) (fun v25 => ?_)
  ·
   refine wl (sp (wf (b := (nameB nm)) rfl (by kernel_rfl) v25) ?_)
   refine wl (sp (wf (b := (nameB nm)) rfl (by kernel_rfl) v25) ?_)
   refine wl (sp (wf (b := (nameB nm)) rfl (by kernel_rfl) v25) ?_)
   refine wl (sp (wf (b := (nameB nm)) rfl (by kernel_rfl) v25) ?_)
   refine wl (sp (wf (b := (nameB nm)) rfl (by kernel_rfl) v25) ?_)
   refine wl (sv rfl (v := .bool false) (r_pkF (ebool (b := (nameB nm)) (by kernel_rfl) v25) (by kernel_rfl)) ?_)
   refine was (v := .bool false) ?_
   refine wnil (then_n (wp_ret ?_))
   refine bodyPost_ret (v := .bool false) (res1 rfl (rv_t (by kernel_rfl))) (by kernel_rfl) ?_
   exact ⟨by rw [free_n v25], (Mod.up M24)⟩
  refine wl (sv (wt (b := (nameB nm)) rfl (by kernel_rfl) v25) (v := .slice A11 ((kidsO L ⟨n1, n2⟩).length) c12) (r_move (by kernel_rfl)) ?_)
  have h26 := (IRow.up h15 u23)
  refine wl (sc (wt (b := (nameB nm)) rfl (by kernel_rfl) v25) (r_callv (caps := []) (all := [.slice A11 ((kidsO L ⟨n1, n2⟩).length) c12]) En.f63 (by kernel_rfl) (by kernel_rfl)) (count_at h26 (Nat.le_trans hB M24.size) (kidsO_300 hF _)) ?_)
  rintro e w27 ⟨mp, rfl, h28, u29⟩
  refine ⟨.map (some mp), rfl, ?_⟩
  have M30 := Mod.trans M24 (Mod.of_up u29)
  refine wl (sv (wt (b := (nameB nm)) rfl (by kernel_rfl) v25) (v := .string nm) (r_move (by kernel_rfl)) ?_)
  refine wl (sv (wt (b := (nameB nm)) rfl (by kernel_rfl) v25) (v := .int .i64 (((cntI (kidsO L ⟨n1, n2⟩) nm : Nat) : Int))) (r_lookS (r := mp) (s := nm) (v := .int .i64 (((cntI (kidsO L ⟨n1, n2⟩) nm : Nat) : Int))) (by kernel_rfl) (by kernel_rfl) h28 Ty.un104 Ty.un9 (fun _ => by kernel_rfl) (cntF_get _ _)) ?_)
  refine wl (sb (wt (b := (nameB nm)) rfl (by kernel_rfl) v25) (r_eq (k := .i64) (m := (((cntI (kidsO L ⟨n1, n2⟩) nm : Nat) : Int))) (n := 0) (by kernel_rfl) (by kernel_rfl)) ?_)
  intro b31 k32
  refine wl (sv rfl (v := .bool b31) (r_pkT (ebool (b := (nameB nm)) (by kernel_rfl) v25) (by kernel_rfl)) ?_)
  refine was (v := .bool b31) ?_
  refine wnil (then_n (wp_ret ?_))
  refine bodyPost_ret (v := .bool b31) (res1 rfl (rv_t (by kernel_rfl))) (by kernel_rfl) ?_
  exact ⟨by rw [free_is p21 v25 k32], (Mod.up M30)⟩
end Go.Proofs.YtefhfoioeoijlaaGreatDoor

/- NB, Lib3, BRow -/
import Derived.Shelf.Slices.In.SortNone
import Derived.Shelf.Sort.Plain
import Derived.Shelf.Strings.Builder1
import Derived.Shelf.Strings.Builder2
import Derived.Shelf.Strings.Explode
import Derived.Shelf.Strings.OnBuilder
import Derived.Shelf.Strings.RuneCount
import Derived.Shelf.Strings.Split
import Derived.Shelf.Strings.SplitShaped
import Derived.Shelf.Strings.Trim
import Derived.Shelf.Unicode.Decode
import Derived.Shelf.Utf8.RuneCount
import Derived.Test.YtefhfoioeoijlaaGreatDoorQaa
import Derived.Test.YtefhfoioeoijlaaGreatDoorQaq
import Derived.Test.YtefhfoioeoijlaaGreatDoorQar
set_option linter.unusedVariables false
set_option linter.unusedSimpArgs false
namespace Go.Proofs.YtefhfoioeoijlaaGreatDoor
open Go Go.RowKit Go.Sort
set_option maxHeartbeats 2000000 in
theorem list_at {B : Nat} {w : World} {tb r : Nat} {L : List Item} (h : TreeIs B w tb r L) (hB : B ≤ w.heap.size) (hF : Fit L) (htab : Tab w) (n1 n2 : Int) : Calls Tryz.prog 16 #[trP tb, .agg #[.int .i64 n1, .int .i64 n2]] w fun e w' => ∃ v D, e = .returned (.tuple #[v, .int .i64 (kidK L ⟨n1, n2⟩)]) ∧ ERow 35 B w.heap.size w' v D ∧ (kidK L ⟨n1, n2⟩ = 0 → Listed (entsI (kidsI ⟨n1, n2⟩ L)) D) ∧ (kidK L ⟨n1, n2⟩ ≠ 0 → D = []) ∧ Up w w' := by
  go_enter Tryz.func16, Tryz.ntmps16
  refine wp_seq (rg_lit ?_)
  refine wl (sn rfl (cs := #[.int .i64 n1, .int .i64 n2]) (T := 24) (V := fun b => .pointer (some ⟨b, 0, none⟩)) (r_box (v := .agg #[.int .i64 n1, .int .i64 n2]) (by kernel_rfl) rfl) ?_)
  intro b1 w2 e3 h4 u5
  have l6 : tb < b1 := by rw [e3]; exact lt_ob h.1
  have g7 : w.heap.size ≤ b1 := by rw [e3]; exact (Mod.refl [] w).size
  have M8 := Mod.trans (Mod.refl [] w) (Mod.of_up u5)
  refine was (v := .slice none 0 0) ?_
  refine was (v := .int .i64 0) ?_
  refine wnil (then_n (wp_seq (rg_lit ?_)))
  refine wmv (v := .pointer (some ⟨tb, 0, none⟩)) ?_
  refine wl (sv rfl (v := .agg #[.int .i64 n1, .int .i64 n2]) (r_loads (k := 0) (by kernel_rfl) Ty.ag24 Ty.sz24 h4 (by kernel_rfl)) ?_)
  have h16 := (TreeIs.up h (Mod.up M8))
  refine wl (sc rfl (r_callv (caps := []) (all := [.pointer (some ⟨tb, 0, none⟩), .agg #[.int .i64 n1, .int .i64 n2]]) En.f57 (by kernel_rfl) (by kernel_rfl)) (kids18_at h16 (Nat.le_trans hB M8.size) n1 n2) ?_)
  rintro e w9 ⟨v10, rfl, h13, u14⟩
  obtain ⟨A11, c12, rfl⟩ := IRow.form h13
  have h15 := IRow.base h13 M8.size
  refine ⟨.tuple #[.slice A11 ((kidsO L ⟨n1, n2⟩).length) c12, .int .i64 (kidK L ⟨n1, n2⟩)], rfl, ?_⟩
  have M17 := Mod.trans M8 (Mod.of_up u14)
  refine wmv (v := .tuple #[.slice A11 ((kidsO L ⟨n1, n2⟩).length) c12, .int .i64 (kidK L ⟨n1, n2⟩)]) ?_
  refine wl (sv rfl (v := .slice A11 ((kidsO L ⟨n1, n2⟩).length) c12) (r_extract (vs := [.slice A11 ((kidsO L ⟨n1, n2⟩).length) c12, .int .i64 (kidK L ⟨n1, n2⟩)]) (by kernel_rfl) rfl) ?_)
  refine wl (sv rfl (v := .int .i64 (kidK L ⟨n1, n2⟩)) (r_extract (vs := [.slice A11 ((kidsO L ⟨n1, n2⟩).length) c12, .int .i64 (kidK L ⟨n1, n2⟩)]) (by kernel_rfl) rfl) ?_)
  refine was (v := .slice A11 ((kidsO L ⟨n1, n2⟩).length) c12) ?_
  refine was (v := .int .i64 (kidK L ⟨n1, n2⟩)) ?_
  refine wnil (then_n (wp_seq (wp_seq (rg_lit ?_))))
  refine wmv (v := .int .i64 (kidK L ⟨n1, n2⟩)) ?_
  refine wl (sb rfl (r_ne (k := .i64) (m := (kidK L ⟨n1, n2⟩)) (n := 0) (by kernel_rfl) (by kernel_rfl)) ?_)
  intro b18 k19
  refine wnil (then_n ?_)
  refine bcase b18 (fun v20 => ?_) (fun v20 => ?_)
  ·
   have p21 := of_decide_eq_false (k19.trans v20)
   refine wp_cond_false (ebool (b := b18) (by kernel_rfl) v20) ?_
   refine wp_skip (then_n (wp_seq (rg_lit ?_)))
   refine wmv (v := .slice A11 ((kidsO L ⟨n1, n2⟩).length) c12) ?_
   refine wl (sc rfl (r_callv (caps := []) (all := [.slice A11 ((kidsO L ⟨n1, n2⟩).length) c12]) En.f58 (by kernel_rfl) (by kernel_rfl)) (ents_at h15 (Nat.le_trans hB M17.size) (TabIs.up htab (Mod.up M17)) (kidsO_ok hF _) (kidsO_300 hF _)) ?_)
   rintro e w22 ⟨v23, rfl, h26, u27⟩
   obtain ⟨A24, c25, rfl⟩ := ERow.form h26
   have h28 := ERow.base h26 M17.size
   have z29 := ERow.le h26
   refine ⟨.slice A24 ((entsI (kidsO L ⟨n1, n2⟩)).length) c25, rfl, ?_⟩
   have M30 := Mod.trans M17 (Mod.of_up u27)
   refine was (v := .slice A24 ((entsI (kidsO L ⟨n1, n2⟩)).length) c25) ?_
   refine wnil (then_n (wp_seq (rg_lit ?_)))
   refine wmv (v := .slice A24 ((entsI (kidsO L ⟨n1, n2⟩)).length) c25) ?_
   have hsz := kidsO_300 hF ⟨n1, n2⟩
   refine wl (sc rfl (r_callv (caps := []) (all := [.slice A24 ((entsI (kidsO L ⟨n1, n2⟩)).length) c25, .func (.func 60) #[] #[]]) En.f59 (by kernel_rfl) (by kernel_rfl)) (sortE_at h28 hB (by rw [entsI_len]; omega) (ents_short (kidsO_ok hF _)) (kidsO_apart hF _)) ?_)
   rintro e w31 ⟨D32, rfl, h33, h34, u35⟩
   refine ⟨.tuple #[], rfl, ?_⟩
   have M36 := Mod.trans' M30 u35 (fun k hk => Nat.le_trans (Nat.le_refl _) (h28.own k hk).1)
   refine wnil (then_n (wp_seq (rg_lit ?_)))
   refine wmv (v := .slice A24 ((entsI (kidsO L ⟨n1, n2⟩)).length) c25) ?_
   refine was (v := .slice A24 ((entsI (kidsO L ⟨n1, n2⟩)).length) c25) ?_
   refine was (v := .int .i64 0) ?_
   refine wnil (then_n (wp_ret ?_))
   refine bodyPost_ret (v := .tuple #[.slice A24 ((entsI (kidsO L ⟨n1, n2⟩)).length) c25, .int .i64 0]) (res2 rfl (rv_t (by kernel_rfl)) (rv_t (by kernel_rfl))) (by kernel_rfl) ?_
   have hk0 : kidK L ⟨n1, n2⟩ = 0 := Decidable.not_not.1 p21
   exact ⟨_, D32, by rw [hk0], h33, fun _ => (by rw [← kidsO_yes hk0]; exact h34), fun h0 => absurd hk0 h0, (Mod.up M36)⟩
  have p21 := of_decide_eq_true (k19.trans v20)
  refine wp_cond_true (ebool (b := b18) (by kernel_rfl) v20) ?_
  refine wp_seq (rg_lit ?_)
  refine wmv (v := .int .i64 (kidK L ⟨n1, n2⟩)) ?_
  refine was (v := .slice none 0 0) ?_
  refine was (v := .int .i64 (kidK L ⟨n1, n2⟩)) ?_
  refine wnil (then_n (wp_ret (then_x (by nofun) ?_)))
  refine bodyPost_ret (v := .tuple #[.slice none 0 0, .int .i64 (kidK L ⟨n1, n2⟩)]) (res2 rfl (rv_t (by kernel_rfl)) (rv_t (by kernel_rfl))) (by kernel_rfl) ?_
  exact ⟨.slice none 0 0, [], rfl, ERow.nil _ _ _ _, fun h0 => absurd h0 p21, fun _ => rfl, (Mod.up M17)⟩
set_option maxHeartbeats 2000000 in
theorem find18_at {B : Nat} {w : World} {tb r : Nat} {L : List Item} (h : TreeIs B w tb r L) (hB : B ≤ w.heap.size) (hF : Fit L) (htab : Tab w) (n1 n2 : Int) (nm : ByteArray) : Calls Tryz.prog 18 #[trP tb, .agg #[.int .i64 n1, .int .i64 n2], .string nm] w fun e w' => e = .returned (.tuple #[enV (findE L ⟨n1, n2⟩ nm), .int .i64 (findK L ⟨n1, n2⟩ nm)]) ∧ Up w w' := by
  go_enter Tryz.func18, Tryz.ntmps18
  refine wp_seq (rg_lit ?_)
  refine wl (sn rfl (cs := #[.int .i64 n1, .int .i64 n2]) (T := 24) (V := fun b => .pointer (some ⟨b, 0, none⟩)) (r_box (v := .agg #[.int .i64 n1, .int .i64 n2]) (by kernel_rfl) rfl) ?_)
  intro b1 w2 e3 h4 u5
  have l6 : tb < b1 := by rw [e3]; exact lt_ob h.1
  have g7 : w.heap.size ≤ b1 := by rw [e3]; exact (Mod.refl [] w).size
  have M8 := Mod.trans (Mod.refl [] w) (Mod.of_up u5)
  refine wl (sn rfl (cs := #[.string (⟨#[]⟩), .int .i64 0, .int .i64 0, .bool false, .int .i64 0]) (T := 35) (V := fun b => .pointer (some ⟨b, 0, none⟩)) (r_alloc Ty.zv35 rfl) ?_)
  intro b9 w10 e11 h12 u13
  have h14 := md_ob M8 nin0 h.1
  have l15 : tb < b9 := by rw [e11]; exact lt_ob h14
  have l16 : b1 < b9 := by rw [e11]; exact lt_ob h4
  have g17 : w.heap.size ≤ b9 := by rw [e11]; exact M8.size
  have M18 := Mod.trans M8 (Mod.of_up u13)
  refine was (v := .int .i64 0) ?_
  refine wnil (then_n (wp_seq (rg_lit ?_)))
  refine wmv (v := .pointer (some ⟨tb, 0, none⟩)) ?_
  have h19 := (up_ob u13 h4)
  refine wl (sv rfl (v := .agg #[.int .i64 n1, .int .i64 n2]) (r_loads (k := 0) (by kernel_rfl) Ty.ag24 Ty.sz24 h19 (by kernel_rfl)) ?_)
  have h30 := (TreeIs.up h (Mod.up M18))
  refine wl (sc rfl (r_callv (caps := []) (all := [.pointer (some ⟨tb, 0, none⟩), .agg #[.int .i64 n1, .int .i64 n2]]) En.f16 (by kernel_rfl) (by kernel_rfl)) (list_at h30 (Nat.le_trans hB M18.size) hF (TabIs.up htab (Mod.up M18)) n1 n2) ?_)
  rintro e w20 ⟨v21, DD, rfl, h25, h26, h27, u28⟩
  obtain ⟨A23, c24, rfl⟩ := ERow.form h25
  have h29 := ERow.base h25 M18.size
  have z31 := ERow.le h25
  refine ⟨.tuple #[.slice A23 DD.length c24, .int .i64 (kidK L ⟨n1, n2⟩)], rfl, ?_⟩
  have M32 := Mod.trans M18 (Mod.of_up u28)
  refine wmv (v := .tuple #[.slice A23 DD.length c24, .int .i64 (kidK L ⟨n1, n2⟩)]) ?_
  refine wl (sv rfl (v := .slice A23 DD.length c24) (r_extract (vs := [.slice A23 DD.length c24, .int .i64 (kidK L ⟨n1, n2⟩)]) (by kernel_rfl) rfl) ?_)
  refine wl (sv rfl (v := .int .i64 (kidK L ⟨n1, n2⟩)) (r_extract (vs := [.slice A23 DD.length c24, .int .i64 (kidK L ⟨n1, n2⟩)]) (by kernel_rfl) rfl) ?_)
  refine was (v := .slice A23 DD.length c24) ?_
  refine was (v := .int .i64 (kidK L ⟨n1, n2⟩)) ?_
  refine wnil (then_n (wp_seq (wp_seq (rg_lit ?_))))
  refine wmv (v := .int .i64 (kidK L ⟨n1, n2⟩)) ?_
  refine wl (sb rfl (r_ne (k := .i64) (m := (kidK L ⟨n1, n2⟩)) (n := 0) (by kernel_rfl) (by kernel_rfl)) ?_)
  intro b33 k34
  refine wnil (then_n ?_)
  refine bcase b33 (fun v35 => ?_) (fun v35 => ?_)
  ·
   have p36 := of_decide_eq_false (k34.trans v35)
   refine wp_cond_false (ebool (b := b33) (by kernel_rfl) v35) ?_
   refine wp_skip (then_n (wp_seq (wp_seq (rg_lit ?_))))
   refine wmv (v := .slice A23 DD.length c24) ?_
   refine wl (sv rfl (v := .int .i64 (DD.length : Int)) (r_len Ty.un29 (ad := A23) (n := DD.length) (c := c24) (by kernel_rfl)) ?_)
   refine wmv (v := .int .i64 0) ?_
   refine wnil (then_n (wp_block ?_))
   have h37 := md_ob M32 nin0 h.1
   have h38 := (up_ob u28 h19)
   have h39 := (up_ob u28 h12)
   have h40 := (TreeIs.up h (Mod.up M32))
   refine lp (fun n a r1 => ∃ (k : Nat) (z7 z11 z12 z26 z27 z28 z29 z30 z31 z32 z33 z34 z35 : Value), (n = DD.length - k) ∧ (a = ⟨#[.pointer (some ⟨tb, 0, none⟩), .agg #[.int .i64 n1, .int .i64 n2], .string nm, undef, .pointer (some ⟨b1, 0, none⟩), undef, .pointer (some ⟨b9, 0, none⟩), z7, .slice A23 DD.length c24, .int .i64 (kidK L ⟨n1, n2⟩), undef, z11, z12, .tuple #[.slice A23 DD.length c24, .int .i64 (kidK L ⟨n1, n2⟩)], .pointer (some ⟨tb, 0, none⟩), .agg #[.int .i64 n1, .int .i64 n2], .tuple #[.slice A23 DD.length c24, .int .i64 (kidK L ⟨n1, n2⟩)], .slice A23 DD.length c24, .int .i64 (kidK L ⟨n1, n2⟩), .int .i64 (kidK L ⟨n1, n2⟩), .bool b33, undef, undef, .slice A23 DD.length c24, .int .i64 (DD.length : Int), .int .i64 (k : Int), z26, z27, z28, z29, z30, z31, z32, z33, z34, z35, undef], []⟩) ∧ (Mod [] w20 r1) ∧ (k ≤ DD.length) ∧ (Hid (∀ (j : Nat) (y : EntD), j < k → DD[j]? = some y → ¬ y.name = nm))) ⟨_, 0, .int .i64 0, undef, undef, undef, undef, undef, undef, undef, undef, undef, undef, undef, undef, rfl, (by kernel_rfl), Mod.refl _ _, (Nat.zero_le _), (fun j y hj => absurd hj (Nat.not_lt_zero _))⟩ ?_
   rintro _ _ r1 ⟨k, z7, z11, z12, z26, z27, z28, z29, z30, z31, z32, z33, z34, z35, rfl, rfl, hM1, hF1_0, hF1_1⟩
   have M41 := Mod.thin M32 hM1 (by simp)
   refine wp_seq (rg_lit ?_)
   refine wl (sb rfl (r_lt (k := .i64) (m := (k : Int)) (n := (DD.length : Int)) (by kernel_rfl) (by kernel_rfl)) ?_)
   intro b42 k43
   refine wnil (then_n (wp_seq ?_))
   refine bcase b42 (fun v44 => ?_) (fun v44 => ?_)
   ·
    have p45 := of_decide_eq_false (k43.trans v44)
    refine wp_cond_false (ebool (b := b42) (by kernel_rfl) v44) ?_
    refine wp_exit (then_x (by nofun) (then_x (by nofun) (inb_hit (then_n (wp_seq (rg_lit ?_))))))
    refine wl (sv rfl (v := .agg #[.string (⟨#[]⟩), .int .i64 0, .int .i64 0, .bool false, .int .i64 0]) (r_build (ps := []) (cs := [.string (⟨#[]⟩), .int .i64 0, .int .i64 0, .bool false, .int .i64 0]) Ty.un35 Ty.zv35 Ty.pl35 (by kernel_rfl) (by kernel_rfl)) ?_)
    have h46 := md_ob hM1 nin0 h39
    refine wl (ss rfl (k := 0) (v := .agg #[.string (⟨#[]⟩), .int .i64 0, .int .i64 0, .bool false, .int .i64 0]) (vs := [.string (⟨#[]⟩), .int .i64 0, .int .i64 0, .bool false, .int .i64 0]) (cs' := [.string (⟨#[]⟩), .int .i64 0, .int .i64 0, .bool false, .int .i64 0]) (by kernel_rfl) (by kernel_rfl) rfl Ty.sz35 h46 rfl (Nat.le_of_ble_eq_true rfl) rfl ?_)
    intro w47 h48 c49
    have M50 := Mod.trans' M41 c49 (fun i hi => by injection hi with hi; rw [← hi]; exact g17)
    have M51 := md_old hM1 c49
    refine was (v := .int .i64 12) ?_
    refine wnil (then_n (wp_ret ?_))
    refine bodyPost_ret (v := .tuple #[.agg #[.string (⟨#[]⟩), .int .i64 0, .int .i64 0, .bool false, .int .i64 0], .int .i64 12]) (res2 rfl (rv_c (p := ⟨b9, 0, none⟩) (by kernel_rfl) (run_loadVars (vs := [.string (⟨#[]⟩), .int .i64 0, .int .i64 0, .bool false, .int .i64 0]) Ty.ag35 Ty.sz35 h48 (by kernel_rfl))) (rv_t (by kernel_rfl))) (by kernel_rfl) ?_
    exact ⟨find_ret (y := zeroE) (find_miss (Decidable.not_not.1 p36) (h26 (Decidable.not_not.1 p36)) (none_end hF1_1 (by omega))), (Mod.up M50)⟩
   have p45 := of_decide_eq_true (k43.trans v44)
   have q46 : k < DD.length := by omega
   have q47 : k < DD.length := by omega
   refine wp_cond_true (ebool (b := b42) (by kernel_rfl) v44) ?_
   refine wp_skip (then_n (wp_seq (wp_block (wp_seq (rg_lit ?_)))))
   have h48 := (ERow.up h29 (Mod.up hM1))
   obtain ⟨y49, hy49⟩ : ∃ x, DD[k]? = some x := ⟨_, List.getElem?_eq_getElem (by omega)⟩
   obtain ⟨g49, cp49, cu49, hA49, hg49, hb49, he49⟩ := ERow.get h48 hy49
   injection hA49 with hA49 _ _
   replace he49 : (cu49.toList.drop (0 + k * 5)).take 5 = enC y49 := by rw [Nat.zero_add]; exact he49
   refine wl (sv rfl (v := .pointer (some ⟨g49, 0 + k * 5, none⟩)) (r_ixaddr' (A := A23) (b := g49) (o := 0) (n := DD.length) (c := c24) (sz := 5) (j := (k : Int)) (by kernel_rfl) hA49 (by kernel_rfl) Ty.un29 Ty.sz35 (by omega) (by omega) (by simp)) ?_)
   refine wl (sv rfl (v := .agg #[.string y49.name, .int .i64 y49.node.t, .int .i64 y49.node.w, .bool y49.dir, .int .i64 y49.size]) (r_loads (k := 0 + k * 5) (by kernel_rfl) Ty.ag35 Ty.sz35 hb49 (el_sub0 he49 rfl)) ?_)
   refine wl (sn rfl (cs := #[.string (⟨#[]⟩), .int .i64 0, .int .i64 0, .bool false, .int .i64 0]) (T := 35) (V := fun b => .pointer (some ⟨b, 0, none⟩)) (r_alloc Ty.zv35 rfl) ?_)
   intro b50 w51 e52 h53 u54
   have h55 := md_ob M41 nin0 h.1
   have l56 : tb < b50 := by rw [e52]; exact lt_ob h55
   have h57 := md_ob hM1 nin0 h38
   have l58 : b1 < b50 := by rw [e52]; exact lt_ob h57
   have h59 := md_ob hM1 nin0 h39
   have l60 : b9 < b50 := by rw [e52]; exact lt_ob h59
   have l61 : g49 < b50 := by rw [e52]; exact lt_ob hb49
   have g62 : w.heap.size ≤ b50 := by rw [e52]; exact M41.size
   have g63 : w20.heap.size ≤ b50 := by rw [e52]; exact hM1.size
   have M64 := Mod.trans M41 (Mod.of_up u54)
   have M65 := Mod.trans hM1 (Mod.of_up u54)
   refine wl (ss rfl (k := 0) (v := .agg #[.string y49.name, .int .i64 y49.node.t, .int .i64 y49.node.w, .bool y49.dir, .int .i64 y49.size]) (vs := [.string y49.name, .int .i64 y49.node.t, .int .i64 y49.node.w, .bool y49.dir, .int .i64 y49.size]) (cs' := [.string y49.name, .int .i64 y49.node.t, .int .i64 y49.node.w, .bool y49.dir, .int .i64 y49.size]) (by kernel_rfl) (by kernel_rfl) rfl Ty.sz35 h53 rfl (Nat.le_of_ble_eq_true rfl) rfl ?_)
   intro w66 h67 c68
   have M69 := Mod.trans' M64 c68 (fun i hi => by injection hi with hi; rw [← hi]; exact g62)
   have M70 := Mod.trans' M65 c68 (fun i hi => by injection hi with hi; rw [← hi]; exact g63)
   refine wnil (then_n (wp_seq (rg_lit ?_)))
   refine wl (sv rfl (v := .agg #[.string y49.name, .int .i64 y49.node.t, .int .i64 y49.node.w, .bool y49.dir, .int .i64 y49.size]) (r_loads (k := 0) (by kernel_rfl) Ty.ag35 Ty.sz35 h67 (by kernel_rfl)) ?_)
   refine wl (sv rfl (v := .func (.func 64) #[.agg #[.string y49.name, .int .i64 y49.node.t, .int .i64 y49.node.w, .bool y49.dir, .int .i64 y49.size]] #[]) (r_makeFunc (us := [.agg #[.string y49.name, .int .i64 y49.node.t, .int .i64 y49.node.w, .bool y49.dir, .int .i64 y49.size]]) (vs := []) (by kernel_rfl) rfl) ?_)
   refine was (v := .func (.func 64) #[.agg #[.string y49.name, .int .i64 y49.node.t, .int .i64 y49.node.w, .bool y49.dir, .int .i64 y49.size]] #[]) ?_
   refine wnil (then_n (wp_seq (rg_lit ?_)))
   refine wmv (v := .func (.func 64) #[.agg #[.string y49.name, .int .i64 y49.node.t, .int .i64 y49.node.w, .bool y49.dir, .int .i64 y49.size]] #[]) ?_
   refine wmv (v := .string nm) ?_
   refine wl (sc rfl (r_callb (us := [.agg #[.string y49.name, .int .i64 y49.node.t, .int .i64 y49.node.w, .bool y49.dir, .int .i64 y49.size]]) (all := [.agg #[.string y49.name, .int .i64 y49.node.t, .int .i64 y49.node.w, .bool y49.dir, .int .i64 y49.size], .string nm]) En.f64 (by kernel_rfl) (by kernel_rfl)) (shownE_at y49 nm) ?_)
   rintro e w71 ⟨rfl, u72⟩
   refine ⟨.bool (decide (y49.name = nm)), rfl, ?_⟩
   have M73 := Mod.trans M69 (Mod.of_up u72)
   have M74 := Mod.trans M70 (Mod.of_up u72)
   refine wnil (then_n ?_)
   refine bcase (decide (y49.name = nm)) (fun v75 => ?_) (fun v75 => ?_)
   ·
    refine wp_cond_false (ebool (b := (decide (y49.name = nm))) (by kernel_rfl) v75) ?_
    refine wp_skip (inb_n (then_n (rg_lit ?_)))
    refine wl (sv rfl (v := .int .i64 ((k : Int) + 1)) (r_add (k := .i64) (m := (k : Int)) (n := 1) (by kernel_rfl) (by kernel_rfl) (IntWalk.i64_in _ (by omega))) ?_)
    refine wmv (v := .int .i64 ((k : Int) + 1)) ?_
    refine wnil (then_n ?_)
    refine ⟨DD.length - (k + 1), ?_, (k + 1), z7, .pointer (some ⟨b50, 0, none⟩), .func (.func 64) #[.agg #[.string y49.name, .int .i64 y49.node.t, .int .i64 y49.node.w, .bool y49.dir, .int .i64 y49.size]] #[], .bool b42, .pointer (some ⟨g49, 0 + k * 5, none⟩), .agg #[.string y49.name, .int .i64 y49.node.t, .int .i64 y49.node.w, .bool y49.dir, .int .i64 y49.size], .agg #[.string y49.name, .int .i64 y49.node.t, .int .i64 y49.node.w, .bool y49.dir, .int .i64 y49.size], .func (.func 64) #[.agg #[.string y49.name, .int .i64 y49.node.t, .int .i64 y49.node.w, .bool y49.dir, .int .i64 y49.size]] #[], .func (.func 64) #[.agg #[.string y49.name, .int .i64 y49.node.t, .int .i64 y49.node.w, .bool y49.dir, .int .i64 y49.size]] #[], .string nm, .bool (decide (y49.name = nm)), z34, .int .i64 ((k : Int) + 1), rfl, (by kernel_rfl), M74, (by omega), (none_next hF1_1 hy49 (of_decide_eq_false v75))⟩
    · omega
   refine wp_cond_true (ebool (b := (decide (y49.name = nm))) (by kernel_rfl) v75) ?_
   refine wp_seq (rg_lit ?_)
   have h76 := (up_ob u72 h67)
   refine wl (sv rfl (v := .agg #[.string y49.name, .int .i64 y49.node.t, .int .i64 y49.node.w, .bool y49.dir, .int .i64 y49.size]) (r_loads (k := 0) (by kernel_rfl) Ty.ag35 Ty.sz35 h76 (by kernel_rfl)) ?_)
   have h77 := md_ob M74 nin0 h39
   refine wl (ss rfl (k := 0) (v := .agg #[.string y49.name, .int .i64 y49.node.t, .int .i64 y49.node.w, .bool y49.dir, .int .i64 y49.size]) (vs := [.string y49.name, .int .i64 y49.node.t, .int .i64 y49.node.w, .bool y49.dir, .int .i64 y49.size]) (cs' := [.string y49.name, .int .i64 y49.node.t, .int .i64 y49.node.w, .bool y49.dir, .int .i64 y49.size]) (by kernel_rfl) (by kernel_rfl) rfl Ty.sz35 h77 rfl (Nat.le_of_ble_eq_true rfl) rfl ?_)
   intro w78 h79 c80
   have M81 := Mod.trans' M73 c80 (fun i hi => by injection hi with hi; rw [← hi]; exact g17)
   have M82 := md_old M74 c80
   refine was (v := .int .i64 0) ?_
   refine wnil (then_n (wp_ret (inb_r (then_x (by nofun) (then_x (by nofun) (inb_r (then_x (by nofun) ?_)))))))
   refine bodyPost_ret (v := .tuple #[.agg #[.string y49.name, .int .i64 y49.node.t, .int .i64 y49.node.w, .bool y49.dir, .int .i64 y49.size], .int .i64 0]) (res2 rfl (rv_c (p := ⟨b9, 0, none⟩) (by kernel_rfl) (run_loadVars (vs := [.string y49.name, .int .i64 y49.node.t, .int .i64 y49.node.w, .bool y49.dir, .int .i64 y49.size]) Ty.ag35 Ty.sz35 h79 (by kernel_rfl))) (rv_t (by kernel_rfl))) (by kernel_rfl) ?_
   exact ⟨find_ret (y := y49) (find_hit hF (Decidable.not_not.1 p36) (h26 (Decidable.not_not.1 p36)) hy49 (of_decide_eq_true v75)), (Mod.up M81)⟩
  have p36 := of_decide_eq_true (k34.trans v35)
  refine wp_cond_true (ebool (b := b33) (by kernel_rfl) v35) ?_
  refine wp_seq (rg_lit ?_)
  refine wl (sv rfl (v := .agg #[.string (⟨#[]⟩), .int .i64 0, .int .i64 0, .bool false, .int .i64 0]) (r_build (ps := []) (cs := [.string (⟨#[]⟩), .int .i64 0, .int .i64 0, .bool false, .int .i64 0]) Ty.un35 Ty.zv35 Ty.pl35 (by kernel_rfl) (by kernel_rfl)) ?_)
  refine wmv (v := .int .i64 (kidK L ⟨n1, n2⟩)) ?_
  have h37 := (up_ob u28 h12)
  refine wl (ss rfl (k := 0) (v := .agg #[.string (⟨#[]⟩), .int .i64 0, .int .i64 0, .bool false, .int .i64 0]) (vs := [.string (⟨#[]⟩), .int .i64 0, .int .i64 0, .bool false, .int .i64 0]) (cs' := [.string (⟨#[]⟩), .int .i64 0, .int .i64 0, .bool false, .int .i64 0]) (by kernel_rfl) (by kernel_rfl) rfl Ty.sz35 h37 rfl (Nat.le_of_ble_eq_true rfl) rfl ?_)
  intro w38 h39 c40
  have M41 := Mod.trans' M32 c40 (fun i hi => by injection hi with hi; rw [← hi]; exact g17)
  refine was (v := .int .i64 (kidK L ⟨n1, n2⟩)) ?_
  refine wnil (then_n (wp_ret (then_x (by nofun) ?_)))
  refine bodyPost_ret (v := .tuple #[.agg #[.string (⟨#[]⟩), .int .i64 0, .int .i64 0, .bool false, .int .i64 0], .int .i64 (kidK L ⟨n1, n2⟩)]) (res2 rfl (rv_c (p := ⟨b9, 0, none⟩) (by kernel_rfl) (run_loadVars (vs := [.string (⟨#[]⟩), .int .i64 0, .int .i64 0, .bool false, .int .i64 0]) Ty.ag35 Ty.sz35 h39 (by kernel_rfl))) (rv_t (by kernel_rfl))) (by kernel_rfl) ?_
  exact ⟨find_ret (y := zeroE) (find_bad p36), (Mod.up M41)⟩
set_option maxHeartbeats 2000000 in
theorem shown18_at {B : Nat} {w : World} {tb r : Nat} {L : List Item} (h : TreeIs B w tb r L) (hB : B ≤ w.heap.size) (hF : Fit L) (htab : Tab w) (m1 m2 : Int) : Calls Tryz.prog 19 #[trP tb, .agg #[.int .i64 m1, .int .i64 m2]] w fun e w' => e = .returned (.tuple #[.string (shownB L ⟨m1, m2⟩), .int .i64 (shownK L ⟨m1, m2⟩)]) ∧ Up w w' := by
  go_enter Tryz.func19, Tryz.ntmps19
  refine wp_seq (rg_lit ?_)
  refine wl (sn rfl (cs := #[.int .i64 m1, .int .i64 m2]) (T := 24) (V := fun b => .pointer (some ⟨b, 0, none⟩)) (r_box (v := .agg #[.int .i64 m1, .int .i64 m2]) (by kernel_rfl) rfl) ?_)
  intro b1 w2 e3 h4 u5
  have l6 : tb < b1 := by rw [e3]; exact lt_ob h.1
  have g7 : w.heap.size ≤ b1 := by rw [e3]; exact (Mod.refl [] w).size
  have M8 := Mod.trans (Mod.refl [] w) (Mod.of_up u5)
  refine was (v := .string (⟨#[]⟩)) ?_
  refine was (v := .int .i64 0) ?_
  refine wnil (then_n (wp_seq (wp_seq (rg_lit ?_))))
  refine wmv (v := .pointer (some ⟨tb, 0, none⟩)) ?_
  refine wl (sv (w' := w2) rfl (v := .bool false) (by kernel_rfl) ?_)
  refine wnil (then_n ?_)
  refine wp_cond_false (by kernel_rfl) ?_
  refine wp_skip (then_n (wp_seq (rg_lit ?_)))
  refine wmv (v := .pointer (some ⟨tb, 0, none⟩)) ?_
  refine wl (sv rfl (v := .agg #[.int .i64 m1, .int .i64 m2]) (r_loads (k := 0) (by kernel_rfl) Ty.ag24 Ty.sz24 h4 (by kernel_rfl)) ?_)
  have h9 := (TreeIs.up h (Mod.up M8))
  refine wl (sc rfl (r_callv (caps := []) (all := [.pointer (some ⟨tb, 0, none⟩), .agg #[.int .i64 m1, .int .i64 m2]]) En.f20 (by kernel_rfl) (by kernel_rfl)) (get_x h9 ⟨m1, m2⟩ (x := (gotI L ⟨m1, m2⟩)) (b := (hasI L ⟨m1, m2⟩)) rfl rfl) ?_)
  rintro e w10 ⟨A11, n12, c13, rfl, h14, u15⟩
  refine ⟨.tuple #[itV (gotI L ⟨m1, m2⟩) (.slice A11 n12 c13), .bool (hasI L ⟨m1, m2⟩)], rfl, ?_⟩
  have M16 := Mod.trans M8 (Mod.of_up u15)
  refine wmv (v := .tuple #[itV (gotI L ⟨m1, m2⟩) (.slice A11 n12 c13), .bool (hasI L ⟨m1, m2⟩)]) ?_
  refine wl (sv rfl (v := itV (gotI L ⟨m1, m2⟩) (.slice A11 n12 c13)) (r_extract (vs := [itV (gotI L ⟨m1, m2⟩) (.slice A11 n12 c13), .bool (hasI L ⟨m1, m2⟩)]) (by kernel_rfl) rfl) ?_)
  refine wl (sv rfl (v := .bool (hasI L ⟨m1, m2⟩)) (r_extract (vs := [itV (gotI L ⟨m1, m2⟩) (.slice A11 n12 c13), .bool (hasI L ⟨m1, m2⟩)]) (by kernel_rfl) rfl) ?_)
  refine wl (sn rfl (cs := #[.int .i64 0, .int .i64 0, .int .i64 0, .int .i64 0, .string (⟨#[]⟩), .bool false, .bool false, .slice none 0 0, .int .i64 0, .int .i64 0]) (T := 42) (V := fun b => .pointer (some ⟨b, 0, none⟩)) (r_alloc Ty.zv42 rfl) ?_)
  intro b17 w18 e19 h20 u21
  have h22 := md_ob M16 nin0 h.1
  have l23 : tb < b17 := by rw [e19]; exact lt_ob h22
  have h24 := (up_ob u15 h4)
  have l25 : b1 < b17 := by rw [e19]; exact lt_ob h24
  have g26 : w.heap.size ≤ b17 := by rw [e19]; exact M16.size
  have M27 := Mod.trans M16 (Mod.of_up u21)
  refine wl (ss rfl (k := 0) (v := itV (gotI L ⟨m1, m2⟩) (.slice A11 n12 c13)) (vs := (itC (gotI L ⟨m1, m2⟩) (.slice A11 n12 c13))) (cs' := (itC (gotI L ⟨m1, m2⟩) (.slice A11 n12 c13))) (by kernel_rfl) (by kernel_rfl) rfl Ty.sz42 h20 rfl (Nat.le_of_ble_eq_true rfl) rfl ?_)
  intro w28 h29 c30
  have M31 := Mod.trans' M27 c30 (fun i hi => by injection hi with hi; rw [← hi]; exact g26)
  refine was (v := .bool (hasI L ⟨m1, m2⟩)) ?_
  refine wnil (then_n (wp_seq (wp_seq (rg_lit ?_))))
  refine wmv (v := .bool (hasI L ⟨m1, m2⟩)) ?_
  refine wl (sv rfl (v := .bool (!(hasI L ⟨m1, m2⟩))) (r_not (b := (hasI L ⟨m1, m2⟩)) (by kernel_rfl)) ?_)
  refine wmv (v := .bool (!(hasI L ⟨m1, m2⟩))) ?_
  refine bcase (hasI L ⟨m1, m2⟩) (fun v32 => ?_) (fun v32 => ?_)
  ·
   refine wl (sp (wf (b := !(hasI L ⟨m1, m2⟩)) rfl (by kernel_rfl) (bneg v32)) ?_)
   refine wl (sp (wf (b := !(hasI L ⟨m1, m2⟩)) rfl (by kernel_rfl) (bneg v32)) ?_)
   refine wl (sp (wf (b := !(hasI L ⟨m1, m2⟩)) rfl (by kernel_rfl) (bneg v32)) ?_)
   refine wl (sp (wf (b := !(hasI L ⟨m1, m2⟩)) rfl (by kernel_rfl) (bneg v32)) ?_)
   refine wl (sv rfl (v := .bool true) (r_pkT (ebool (b := !(hasI L ⟨m1, m2⟩)) (by kernel_rfl) (bneg v32)) (by kernel_rfl)) ?_)
   refine wnil (then_n ?_)
   refine wp_cond_true (by kernel_rfl) ?_
   refine wp_seq (rg_lit ?_)
   refine was (v := .string (⟨#[]⟩)) ?_
   refine was (v := .int .i64 12) ?_
   refine wnil (then_n (wp_ret (then_x (by nofun) ?_)))
   refine bodyPost_ret (v := .tuple #[.string (⟨#[]⟩), .int .i64 12]) (res2 rfl (rv_t (by kernel_rfl)) (rv_t (by kernel_rfl))) (by kernel_rfl) ?_
   exact ⟨shown_ret (shown_no1 v32), (Mod.up M31)⟩
  refine wl (sv (wt (b := !(hasI L ⟨m1, m2⟩)) rfl (by kernel_rfl) (bneg v32)) (v := .pointer (some ⟨tb, 0, none⟩)) (r_move (by kernel_rfl)) ?_)
  have h33 := (chg_ob c30 (Nat.ne_of_lt l25) (up_ob u21 h24))
  refine wl (sv (wt (b := !(hasI L ⟨m1, m2⟩)) rfl (by kernel_rfl) (bneg v32)) (v := .agg #[.int .i64 m1, .int .i64 m2]) (r_loads (k := 0) (by kernel_rfl) Ty.ag24 Ty.sz24 h33 (by kernel_rfl)) ?_)
  have h34 := (TreeIs.up h (Mod.up M31))
  refine wl (sc (wt (b := !(hasI L ⟨m1, m2⟩)) rfl (by kernel_rfl) (bneg v32)) (r_callv (caps := []) (all := [.pointer (some ⟨tb, 0, none⟩), .agg #[.int .i64 m1, .int .i64 m2]]) En.f39 (by kernel_rfl) (by kernel_rfl)) (hangs_at h34 m1 m2) ?_)
  rintro e w35 ⟨rfl, u36⟩
  refine ⟨.bool (hangsI L 301 ⟨m1, m2⟩), rfl, ?_⟩
  have M37 := Mod.trans M31 (Mod.of_up u36)
  refine wl (sv (wt (b := !(hasI L ⟨m1, m2⟩)) rfl (by kernel_rfl) (bneg v32)) (v := .bool (!(hangsI L 301 ⟨m1, m2⟩))) (r_not (b := (hangsI L 301 ⟨m1, m2⟩)) (by kernel_rfl)) ?_)
  refine wl (sv rfl (v := .bool (!(hangsI L 301 ⟨m1, m2⟩))) (r_pkF (ebool (b := !(hasI L ⟨m1, m2⟩)) (by kernel_rfl) (bneg v32)) (by kernel_rfl)) ?_)
  refine wnil (then_n ?_)
  refine bcase (hangsI L 301 ⟨m1, m2⟩) (fun v38 => ?_) (fun v38 => ?_)
  ·
   refine wp_cond_true (ebool (b := !(hangsI L 301 ⟨m1, m2⟩)) (by kernel_rfl) (bneg v38)) ?_
   refine wp_seq (rg_lit ?_)
   refine was (v := .string (⟨#[]⟩)) ?_
   refine was (v := .int .i64 12) ?_
   refine wnil (then_n (wp_ret (then_x (by nofun) ?_)))
   refine bodyPost_ret (v := .tuple #[.string (⟨#[]⟩), .int .i64 12]) (res2 rfl (rv_t (by kernel_rfl)) (rv_t (by kernel_rfl))) (by kernel_rfl) ?_
   exact ⟨shown_ret (shown_no2 v38), (Mod.up M37)⟩
  refine wp_cond_false (ebool (b := !(hangsI L 301 ⟨m1, m2⟩)) (by kernel_rfl) (bneg v38)) ?_
  refine wp_skip (then_n (wp_seq (wp_seq (rg_lit ?_))))
  refine wmv (v := .pointer (some ⟨tb, 0, none⟩)) ?_
  refine wl (sv rfl (v := .pointer (some ⟨b17, 2, none⟩)) (r_fieldAddr (u := .pointer (some ⟨b17, 0, none⟩)) (by kernel_rfl) (fun _ => (by kernel_rfl))) ?_)
  have h39 := (up_ob u36 h29)
  refine wl (sv rfl (v := .agg #[.int .i64 ((gotI L ⟨m1, m2⟩).parent.t), .int .i64 ((gotI L ⟨m1, m2⟩).parent.w)]) (r_loads (k := 2) (by kernel_rfl) Ty.ag24 Ty.sz24 h39 (by kernel_rfl)) ?_)
  have h46 := (TreeIs.up h (Mod.up M37))
  refine wl (sc rfl (r_callv (caps := []) (all := [.pointer (some ⟨tb, 0, none⟩), .agg #[.int .i64 ((gotI L ⟨m1, m2⟩).parent.t), .int .i64 ((gotI L ⟨m1, m2⟩).parent.w)]]) En.f38 (by kernel_rfl) (by kernel_rfl)) (row_sl (kids_at h46 (Nat.le_trans hB M37.size) ((gotI L ⟨m1, m2⟩).parent.t) ((gotI L ⟨m1, m2⟩).parent.w))) ?_)
  rintro e w40 ⟨A41, c42, rfl, h43, u44⟩
  have h45 := IRow.base h43 M37.size
  refine ⟨.slice A41 ((kidsI ⟨(gotI L ⟨m1, m2⟩).parent.t, (gotI L ⟨m1, m2⟩).parent.w⟩ L).length) c42, rfl, ?_⟩
  have M47 := Mod.trans M37 (Mod.of_up u44)
  refine wl (sc rfl (r_callv (caps := []) (all := [.slice A41 ((kidsI ⟨(gotI L ⟨m1, m2⟩).parent.t, (gotI L ⟨m1, m2⟩).parent.w⟩ L).length) c42]) En.f58 (by kernel_rfl) (by kernel_rfl)) (ents_at h45 (Nat.le_trans hB M47.size) (TabIs.up htab (Mod.up M47)) (Fit.kids hF _).1 (kids_300 hF _)) ?_)
  rintro e w48 ⟨v49, rfl, h52, u53⟩
  obtain ⟨A50, c51, rfl⟩ := ERow.form h52
  have h54 := ERow.base h52 M47.size
  have z55 := ERow.le h52
  refine ⟨.slice A50 ((entsI (kidsI ⟨(gotI L ⟨m1, m2⟩).parent.t, (gotI L ⟨m1, m2⟩).parent.w⟩ L)).length) c51, rfl, ?_⟩
  have M56 := Mod.trans M47 (Mod.of_up u53)
  refine wl (sv rfl (v := .int .i64 (((entsI (kidsI ⟨(gotI L ⟨m1, m2⟩).parent.t, (gotI L ⟨m1, m2⟩).parent.w⟩ L)).length) : Int)) (r_len Ty.un29 (ad := A50) (n := ((entsI (kidsI ⟨(gotI L ⟨m1, m2⟩).parent.t, (gotI L ⟨m1, m2⟩).parent.w⟩ L)).length)) (c := c51) (by kernel_rfl)) ?_)
  refine wmv (v := .int .i64 0) ?_
  refine wnil (then_n (wp_block ?_))
  have h57 := md_ob M56 nin0 h.1
  have h58 := (up_ob u53 (up_ob u44 (up_ob u36 h33)))
  have h59 := (up_ob u53 (up_ob u44 h39))
  have h60 := (TreeIs.up h (Mod.up M56))
  have h61 := (Dat.up h14 (up_up (up_up (up_up (up_chgn u21 c30 (by rw [e19]; exact Nat.le_refl _)) u36) u44) u53))
  have h62 := (IRow.up h45 u53)
  refine lp (fun n a r1 => ∃ (k : Nat) (z4 z5 z9 z33 z34 z35 z36 z37 z38 z39 z40 z41 z42 : Value), (n = (entsI (kidsI ⟨(gotI L ⟨m1, m2⟩).parent.t, (gotI L ⟨m1, m2⟩).parent.w⟩ L)).length - k) ∧ (a = ⟨#[.pointer (some ⟨tb, 0, none⟩), .agg #[.int .i64 m1, .int .i64 m2], undef, .pointer (some ⟨b1, 0, none⟩), z4, z5, .pointer (some ⟨b17, 0, none⟩), .bool (hasI L ⟨m1, m2⟩), undef, z9, .pointer (some ⟨tb, 0, none⟩), .bool false, .tuple #[itV (gotI L ⟨m1, m2⟩) (.slice A11 n12 c13), .bool (hasI L ⟨m1, m2⟩)], .pointer (some ⟨tb, 0, none⟩), .agg #[.int .i64 m1, .int .i64 m2], .tuple #[itV (gotI L ⟨m1, m2⟩) (.slice A11 n12 c13), .bool (hasI L ⟨m1, m2⟩)], itV (gotI L ⟨m1, m2⟩) (.slice A11 n12 c13), .bool (hasI L ⟨m1, m2⟩), .bool (hasI L ⟨m1, m2⟩), .bool (!(hasI L ⟨m1, m2⟩)), .bool (!(hasI L ⟨m1, m2⟩)), .pointer (some ⟨tb, 0, none⟩), .agg #[.int .i64 m1, .int .i64 m2], .bool (hangsI L 301 ⟨m1, m2⟩), .bool (!(hangsI L 301 ⟨m1, m2⟩)), .bool (!(hangsI L 301 ⟨m1, m2⟩)), .pointer (some ⟨tb, 0, none⟩), .pointer (some ⟨b17, 2, none⟩), .agg #[.int .i64 ((gotI L ⟨m1, m2⟩).parent.t), .int .i64 ((gotI L ⟨m1, m2⟩).parent.w)], .slice A41 ((kidsI ⟨(gotI L ⟨m1, m2⟩).parent.t, (gotI L ⟨m1, m2⟩).parent.w⟩ L).length) c42, .slice A50 ((entsI (kidsI ⟨(gotI L ⟨m1, m2⟩).parent.t, (gotI L ⟨m1, m2⟩).parent.w⟩ L)).length) c51, .int .i64 (((entsI (kidsI ⟨(gotI L ⟨m1, m2⟩).parent.t, (gotI L ⟨m1, m2⟩).parent.w⟩ L)).length) : Int), .int .i64 (k : Int), z33, z34, z35, z36, z37, z38, z39, z40, z41, z42], []⟩) ∧ (Mod [] w48 r1) ∧ (k ≤ (entsI (kidsI ⟨(gotI L ⟨m1, m2⟩).parent.t, (gotI L ⟨m1, m2⟩).parent.w⟩ L)).length) ∧ (Hid (∀ (j : Nat) (y : EntD), j < k → (entsI (kidsI ⟨(gotI L ⟨m1, m2⟩).parent.t, (gotI L ⟨m1, m2⟩).parent.w⟩ L))[j]? = some y → ¬ y.node = ⟨m1, m2⟩))) ⟨_, 0, .string (⟨#[]⟩), .int .i64 0, undef, undef, undef, undef, undef, undef, undef, undef, undef, undef, undef, rfl, (by kernel_rfl), Mod.refl _ _, (Nat.zero_le _), (fun j y hj => absurd hj (Nat.not_lt_zero _))⟩ ?_
  rintro _ _ r1 ⟨k, z4, z5, z9, z33, z34, z35, z36, z37, z38, z39, z40, z41, z42, rfl, rfl, hM1, hF1_0, hF1_1⟩
  have M63 := Mod.thin M56 hM1 (by simp)
  refine wp_seq (rg_lit ?_)
  refine wl (sb rfl (r_lt (k := .i64) (m := (k : Int)) (n := (((entsI (kidsI ⟨(gotI L ⟨m1, m2⟩).parent.t, (gotI L ⟨m1, m2⟩).parent.w⟩ L)).length) : Int)) (by kernel_rfl) (by kernel_rfl)) ?_)
  intro b64 k65
  refine wnil (then_n (wp_seq ?_))
  refine bcase b64 (fun v66 => ?_) (fun v66 => ?_)
  ·
   have p67 := of_decide_eq_false (k65.trans v66)
   refine wp_cond_false (ebool (b := b64) (by kernel_rfl) v66) ?_
   refine wp_exit (then_x (by nofun) (then_x (by nofun) (inb_hit (then_n (wp_seq (rg_lit ?_))))))
   refine was (v := .string (⟨#[]⟩)) ?_
   refine was (v := .int .i64 12) ?_
   refine wnil (then_n (wp_ret ?_))
   refine bodyPost_ret (v := .tuple #[.string (⟨#[]⟩), .int .i64 12]) (res2 rfl (rv_t (by kernel_rfl)) (rv_t (by kernel_rfl))) (by kernel_rfl) ?_
   exact ⟨shown_ret (shown_miss (none_end (D := (entsI (kidsI ⟨(gotI L ⟨m1, m2⟩).parent.t, (gotI L ⟨m1, m2⟩).parent.w⟩ L))) hF1_1 (by omega))), (Mod.up M63)⟩
  have p67 := of_decide_eq_true (k65.trans v66)
  refine wp_cond_true (ebool (b := b64) (by kernel_rfl) v66) ?_
  refine wp_skip (then_n (wp_seq (wp_block (wp_seq (rg_lit ?_)))))
  have h68 := (ERow.up h54 (Mod.up hM1))
  obtain ⟨y69, hy69⟩ : ∃ x, (entsI (kidsI ⟨(gotI L ⟨m1, m2⟩).parent.t, (gotI L ⟨m1, m2⟩).parent.w⟩ L))[k]? = some x := ⟨_, List.getElem?_eq_getElem (by omega)⟩
  obtain ⟨g69, cp69, cu69, hA69, hg69, hb69, he69⟩ := ERow.get h68 hy69
  injection hA69 with hA69 _ _
  replace he69 : (cu69.toList.drop (0 + k * 5)).take 5 = enC y69 := by rw [Nat.zero_add]; exact he69
  refine wl (sv rfl (v := .pointer (some ⟨g69, 0 + k * 5, none⟩)) (r_ixaddr' (A := A50) (b := g69) (o := 0) (n := ((entsI (kidsI ⟨(gotI L ⟨m1, m2⟩).parent.t, (gotI L ⟨m1, m2⟩).parent.w⟩ L)).length)) (c := c51) (sz := 5) (j := (k : Int)) (by kernel_rfl) hA69 (by kernel_rfl) Ty.un29 Ty.sz35 (by omega) (by omega) (by simp)) ?_)
  refine wl (sv rfl (v := .agg #[.string y69.name, .int .i64 y69.node.t, .int .i64 y69.node.w, .bool y69.dir, .int .i64 y69.size]) (r_loads (k := 0 + k * 5) (by kernel_rfl) Ty.ag35 Ty.sz35 hb69 (el_sub0 he69 rfl)) ?_)
  refine wl (sn rfl (cs := #[.string (⟨#[]⟩), .int .i64 0, .int .i64 0, .bool false, .int .i64 0]) (T := 35) (V := fun b => .pointer (some ⟨b, 0, none⟩)) (r_alloc Ty.zv35 rfl) ?_)
  intro b70 w71 e72 h73 u74
  have h75 := md_ob M63 nin0 h.1
  have l76 : tb < b70 := by rw [e72]; exact lt_ob h75
  have h77 := md_ob hM1 nin0 h58
  have l78 : b1 < b70 := by rw [e72]; exact lt_ob h77
  have h79 := md_ob hM1 nin0 h59
  have l80 : b17 < b70 := by rw [e72]; exact lt_ob h79
  have l81 : g69 < b70 := by rw [e72]; exact lt_ob hb69
  have g82 : w.heap.size ≤ b70 := by rw [e72]; exact M63.size
  have g83 : w48.heap.size ≤ b70 := by rw [e72]; exact hM1.size
  have M84 := Mod.trans M63 (Mod.of_up u74)
  have M85 := Mod.trans hM1 (Mod.of_up u74)
  refine wl (ss rfl (k := 0) (v := .agg #[.string y69.name, .int .i64 y69.node.t, .int .i64 y69.node.w, .bool y69.dir, .int .i64 y69.size]) (vs := [.string y69.name, .int .i64 y69.node.t, .int .i64 y69.node.w, .bool y69.dir, .int .i64 y69.size]) (cs' := [.string y69.name, .int .i64 y69.node.t, .int .i64 y69.node.w, .bool y69.dir, .int .i64 y69.size]) (by kernel_rfl) (by kernel_rfl) rfl Ty.sz35 h73 rfl (Nat.le_of_ble_eq_true rfl) rfl ?_)
  intro w86 h87 c88
  have M89 := Mod.trans' M84 c88 (fun i hi => by injection hi with hi; rw [← hi]; exact g82)
  have M90 := Mod.trans' M85 c88 (fun i hi => by injection hi with hi; rw [← hi]; exact g83)
  refine wnil (then_n (wp_seq (rg_lit ?_)))
  refine wl (sv rfl (v := .pointer (some ⟨b70, 1, none⟩)) (r_fieldAddr (u := .pointer (some ⟨b70, 0, none⟩)) (by kernel_rfl) (fun _ => (by kernel_rfl))) ?_)
  refine wl (sv rfl (v := .agg #[.int .i64 y69.node.t, .int .i64 y69.node.w]) (r_loads (k := 1) (by kernel_rfl) Ty.ag24 Ty.sz24 h87 (by kernel_rfl)) ?_)
  have h91 := md_ob M90 nin0 h58
  refine wl (sv rfl (v := .agg #[.int .i64 m1, .int .i64 m2]) (r_loads (k := 0) (by kernel_rfl) Ty.ag24 Ty.sz24 h91 (by kernel_rfl)) ?_)
  refine wl (sb rfl (r_eqS (a := y69.node.t) (b := y69.node.w) (c := m1) (e := m2) (by kernel_rfl) (by kernel_rfl)) ?_)
  intro b92 k93
  refine wnil (then_n ?_)
  refine bcase b92 (fun v94 => ?_) (fun v94 => ?_)
  ·
   have p95 := of_decide_eq_false (k93.trans v94)
   refine wp_cond_false (ebool (b := b92) (by kernel_rfl) v94) ?_
   refine wp_skip (inb_n (then_n (rg_lit ?_)))
   refine wl (sv rfl (v := .int .i64 ((k : Int) + 1)) (r_add (k := .i64) (m := (k : Int)) (n := 1) (by kernel_rfl) (by kernel_rfl) (IntWalk.i64_in _ (by omega))) ?_)
   refine wmv (v := .int .i64 ((k : Int) + 1)) ?_
   refine wnil (then_n ?_)
   refine ⟨(entsI (kidsI ⟨(gotI L ⟨m1, m2⟩).parent.t, (gotI L ⟨m1, m2⟩).parent.w⟩ L)).length - (k + 1), ?_, (k + 1), z4, z5, .pointer (some ⟨b70, 0, none⟩), .bool b64, .pointer (some ⟨g69, 0 + k * 5, none⟩), .agg #[.string y69.name, .int .i64 y69.node.t, .int .i64 y69.node.w, .bool y69.dir, .int .i64 y69.size], .pointer (some ⟨b70, 1, none⟩), .agg #[.int .i64 y69.node.t, .int .i64 y69.node.w], .agg #[.int .i64 m1, .int .i64 m2], .bool b92, z40, z41, .int .i64 ((k : Int) + 1), rfl, (by kernel_rfl), M90, (by omega), (none_next (p := fun y : EntD => y.node = ⟨m1, m2⟩) hF1_1 hy69 p95)⟩
   · omega
  have p95 := of_decide_eq_true (k93.trans v94)
  refine wp_cond_true (ebool (b := b92) (by kernel_rfl) v94) ?_
  refine wp_seq (rg_lit ?_)
  refine wl (sv rfl (v := .pointer (some ⟨b70, 0, none⟩)) (r_fieldAddr (u := .pointer (some ⟨b70, 0, none⟩)) (by kernel_rfl) (fun _ => (by kernel_rfl))) ?_)
  refine wl (sv rfl (v := .string y69.name) (r_load (k := 0) (by kernel_rfl) Ty.ag9 h87 (by kernel_rfl)) ?_)
  refine was (v := .string y69.name) ?_
  refine was (v := .int .i64 0) ?_
  refine wnil (then_n (wp_ret (inb_r (then_x (by nofun) (then_x (by nofun) (inb_r (then_x (by nofun) ?_)))))))
  refine bodyPost_ret (v := .tuple #[.string y69.name, .int .i64 0]) (res2 rfl (rv_t (by kernel_rfl)) (rv_t (by kernel_rfl))) (by kernel_rfl) ?_
  exact ⟨shown_ret (shown_hit hF v32 v38 hy69 p95), (Mod.up M89)⟩
end Go.Proofs.YtefhfoioeoijlaaGreatDoor
namespace Go.Proofs
open Go.Shelf
def Tryz.lays156_ren : Go.Shelf.Ren := ⟨fun | 156 => 102 | 165 => 150 | 166 => 151 | 169 => 152 | 240 => 181 | 241 => 182 | 276 => 212 | 277 => 213 | n => n, fun | 31 => 69 | 9 => 9 | 3 => 3 | 4 => 4 | 0 => 0 | 20 => 20 | 72 => 189 | 76 => 193 | 70 => 187 | 37 => 40 | 75 => 192 | 127 => 223 | 164 => 247 | 5 => 5 | 80 => 195 | n => n, fun | n => n⟩
theorem Tryz.lays156 : Go.Proofs.Lays.n156 Tryz.prog Tryz.lays156_ren := {
  mixed := by kernel_rfl
  f156 := Tryz.func102.trans (congrArg some (by kernel_rfl))
  f165 := Tryz.func150.trans (congrArg some (by kernel_rfl))
  f166 := Tryz.func151.trans (congrArg some (by kernel_rfl))
  f169 := Tryz.func152.trans (congrArg some (by kernel_rfl))
  f240 := Tryz.func181.trans (congrArg some (by kernel_rfl))
  f241 := Tryz.func182.trans (congrArg some (by kernel_rfl))
  f276 := Tryz.func212.trans (congrArg some (by kernel_rfl))
  f277 := Tryz.func213.trans (congrArg some (by kernel_rfl))
  t0 := Tryz.underlying0
  a0 := Tryz.isAgg0
  z0 := Tryz.sizeOf0
  v0 := Tryz.zeroValue0
  t3 := Tryz.underlying3
  a3 := Tryz.isAgg3
  z3 := Tryz.sizeOf3
  v3 := Tryz.zeroValue3
  t4 := Tryz.underlying4
  a4 := Tryz.isAgg4
  z4 := Tryz.sizeOf4
  v4 := Tryz.zeroValue4
  t9 := Tryz.underlying9
  a9 := Tryz.isAgg9
  z9 := Tryz.sizeOf9
  v9 := Tryz.zeroValue9
  t20 := Tryz.underlying20
  a20 := Tryz.isAgg20
  z20 := Tryz.sizeOf20
  v20 := Tryz.zeroValue20
  t31 := Tryz.underlying69
  a31 := Tryz.isAgg69
  z31 := Tryz.sizeOf69
  v31 := Tryz.zeroValue69
  t37 := Tryz.underlying40
  a37 := Tryz.isAgg40
  z37 := Tryz.sizeOf40
  v37 := Tryz.zeroValue40
  t70 := Tryz.underlying187
  a70 := Tryz.isAgg187
  z70 := Tryz.sizeOf187
  v70 := Tryz.zeroValue187
  t72 := Tryz.underlying189
  a72 := Tryz.isAgg189
  z72 := Tryz.sizeOf189
  v72 := Tryz.zeroValue189
  t75 := Tryz.underlying192
  a75 := Tryz.isAgg192
  z75 := Tryz.sizeOf192
  v75 := Tryz.zeroValue192
  t76 := Tryz.underlying193
  a76 := Tryz.isAgg193
  z76 := Tryz.sizeOf193
  v76 := Tryz.zeroValue193
  t127 := Tryz.underlying223
  a127 := Tryz.isAgg223
  z127 := Tryz.sizeOf223
  v127 := Tryz.zeroValue223
  t164 := Tryz.underlying247
  a164 := Tryz.isAgg247
  z164 := Tryz.sizeOf247
  v164 := Tryz.zeroValue247 }
theorem Tryz.Builder_Extra_156 : Builder.Extra Tryz.prog Tryz.lays156_ren := {
  sizeBuilder := by kernel_rfl
  liesBuilder := by kernel_rfl
  t5 := Tryz.underlying5
  a5 := Tryz.isAgg5
  z5 := Tryz.sizeOf5
  v5 := Tryz.zeroValue5
  infoByte := by kernel_rfl
  cellsByte := by kernel_rfl
  sizeByte := by kernel_rfl
  neB5 := by decide }
open Go.RowKit in
theorem Tryz.strings_Join_none (a : Option Addr) (c : Nat) (sep : ByteArray) (w : World) :
    Calls Tryz.prog 102 #[.slice a 0 c, .string sep] w fun e w' => e = .returned (.string ⟨#[]⟩) ∧ w' = w := Any.strings_Join_none Tryz.lays156 Tryz.Builder_Extra_156 a c sep w
open Go.RowKit in
theorem Tryz.strings_Join (bk o c : Nat) (xs : List ByteArray) (sep : ByteArray) (w : World) (hcells : ∀ (j : Nat) x, xs[j]? = some x → w.cell? ⟨bk, o + j, none⟩ = some (.string x)) (hbk : bk < w.heap.size) (hN : xs.length ≤ 140737488355328) (hcap : xs.length ≤ c) (hlen : (Lib.join (xs.map (·.data.toList)) sep.data.toList).length ≤ 140737488355328) :
    Calls Tryz.prog 102 #[.slice (some ⟨bk, o, none⟩) xs.length c, .string sep] w fun e w' => e = .returned (.string ⟨(Lib.join (xs.map (·.data.toList)) sep.data.toList).toArray⟩) ∧ Below w.heap.size w w' := Any.strings_Join Tryz.lays156 Tryz.Builder_Extra_156 bk o c xs sep w hcells hbk hN hcap hlen
def Tryz.lays160_ren : Go.Shelf.Ren := ⟨fun | 160 => 188 | 232 => 219 | 231 => 218 | 227 => 220 | 234 => 222 | 233 => 221 | 236 => 224 | 235 => 223 | 228 => 247 | 271 => 249 | 151 => 248 | 197 => 215 | 120 => 258 | 152 => 257 | 260 => 242 | 137 => 260 | 119 => 261 | 224 => 245 | 225 => 244 | 217 => 243 | 266 => 255 | n => n, fun | 9 => 9 | 4 => 4 | 3 => 3 | 5 => 5 | 117 => 257 | 116 => 256 | 0 => 0 | 124 => 260 | 21 => 21 | 105 => 251 | 46 => 204 | 119 => 281 | 139 => 284 | 138 => 283 | n => n, fun | 3 => 4 | 4 => 5 | n => n⟩
theorem Tryz.lays160 : Go.Proofs.Lays.n160 Tryz.prog Tryz.lays160_ren := {
  mixed := by kernel_rfl
  f119 := Tryz.func261.trans (congrArg some (by kernel_rfl))
  f120 := Tryz.func258.trans (congrArg some (by kernel_rfl))
  f137 := Tryz.func260.trans (congrArg some (by kernel_rfl))
  f151 := Tryz.func248.trans (congrArg some (by kernel_rfl))
  f152 := Tryz.func257.trans (congrArg some (by kernel_rfl))
  f160 := Tryz.func188.trans (congrArg some (by kernel_rfl))
  f197 := Tryz.func215.trans (congrArg some (by kernel_rfl))
  f217 := Tryz.func243.trans (congrArg some (by kernel_rfl))
  f224 := Tryz.func245.trans (congrArg some (by kernel_rfl))
  f225 := Tryz.func244.trans (congrArg some (by kernel_rfl))
  f227 := Tryz.func220.trans (congrArg some (by kernel_rfl))
  f228 := Tryz.func247.trans (congrArg some (by kernel_rfl))
  f231 := Tryz.func218.trans (congrArg some (by kernel_rfl))
  f232 := Tryz.func219.trans (congrArg some (by kernel_rfl))
  f233 := Tryz.func221.trans (congrArg some (by kernel_rfl))
  f234 := Tryz.func222.trans (congrArg some (by kernel_rfl))
  f235 := Tryz.func223.trans (congrArg some (by kernel_rfl))
  f236 := Tryz.func224.trans (congrArg some (by kernel_rfl))
  f260 := Tryz.func242.trans (congrArg some (by kernel_rfl))
  f266 := Tryz.func255.trans (congrArg some (by kernel_rfl))
  f271 := Tryz.func249.trans (congrArg some (by kernel_rfl))
  t0 := Tryz.underlying0
  a0 := Tryz.isAgg0
  z0 := Tryz.sizeOf0
  v0 := Tryz.zeroValue0
  t3 := Tryz.underlying3
  a3 := Tryz.isAgg3
  z3 := Tryz.sizeOf3
  v3 := Tryz.zeroValue3
  t4 := Tryz.underlying4
  a4 := Tryz.isAgg4
  z4 := Tryz.sizeOf4
  v4 := Tryz.zeroValue4
  t5 := Tryz.underlying5
  a5 := Tryz.isAgg5
  z5 := Tryz.sizeOf5
  v5 := Tryz.zeroValue5
  t9 := Tryz.underlying9
  a9 := Tryz.isAgg9
  z9 := Tryz.sizeOf9
  v9 := Tryz.zeroValue9
  t21 := Tryz.underlying21
  a21 := Tryz.isAgg21
  z21 := Tryz.sizeOf21
  v21 := Tryz.zeroValue21
  t46 := Tryz.underlying204
  a46 := Tryz.isAgg204
  z46 := Tryz.sizeOf204
  v46 := Tryz.zeroValue204
  t105 := Tryz.underlying251
  a105 := Tryz.isAgg251
  z105 := Tryz.sizeOf251
  v105 := Tryz.zeroValue251
  t116 := Tryz.underlying256
  a116 := Tryz.isAgg256
  z116 := Tryz.sizeOf256
  t117 := Tryz.underlying257
  a117 := Tryz.isAgg257
  z117 := Tryz.sizeOf257
  v117 := Tryz.zeroValue257
  t119 := Tryz.underlying281
  a119 := Tryz.isAgg281
  z119 := Tryz.sizeOf281
  t124 := Tryz.underlying260
  a124 := Tryz.isAgg260
  z124 := Tryz.sizeOf260
  v124 := Tryz.zeroValue260
  t138 := Tryz.underlying283
  a138 := Tryz.isAgg283
  z138 := Tryz.sizeOf283
  v138 := Tryz.zeroValue283
  t139 := Tryz.underlying284
  a139 := Tryz.isAgg284
  z139 := Tryz.sizeOf284
  v139 := Tryz.zeroValue284
  g3 := by kernel_rfl
  g4 := by kernel_rfl }
def Tryz.lays221_ren : Go.Shelf.Ren := ⟨fun | 221 => 154 | 268 => 184 | 138 => 185 | 143 => 186 | 195 => 214 | 197 => 215 | 218 => 216 | 219 => 217 | 260 => 242 | 217 => 243 | 225 => 244 | 224 => 245 | 267 => 246 | 266 => 255 | 314 => 256 | n => n, fun | 9 => 9 | 3 => 3 | 31 => 69 | 4 => 4 | 0 => 0 | 105 => 251 | 21 => 21 | 5 => 5 | 46 => 204 | 119 => 281 | 139 => 284 | 138 => 283 | 146 => 285 | 51 => 235 | n => n, fun | 1 => 1 | 3 => 4 | 4 => 5 | n => n⟩
def Tryz.lays146_ren : Go.Shelf.Ren := ⟨fun | 146 => 104 | 221 => 154 | 268 => 184 | 138 => 185 | 143 => 186 | 195 => 214 | 197 => 215 | 218 => 216 | 219 => 217 | 260 => 242 | 217 => 243 | 225 => 244 | 224 => 245 | 267 => 246 | 266 => 255 | 314 => 256 | n => n, fun | 9 => 9 | 31 => 69 | 3 => 3 | 4 => 4 | 0 => 0 | 105 => 251 | 21 => 21 | 5 => 5 | 46 => 204 | 119 => 281 | 139 => 284 | 138 => 283 | 146 => 285 | 51 => 235 | n => n, fun | 1 => 1 | 3 => 4 | 4 => 5 | n => n⟩
theorem Tryz.lays146 : Go.Proofs.Lays.n146 Tryz.prog Tryz.lays146_ren := {
  mixed := by kernel_rfl
  f138 := Tryz.func185.trans (congrArg some (by kernel_rfl))
  f143 := Tryz.func186.trans (congrArg some (by kernel_rfl))
  f146 := Tryz.func104.trans (congrArg some (by kernel_rfl))
  f195 := Tryz.func214.trans (congrArg some (by kernel_rfl))
  f197 := Tryz.func215.trans (congrArg some (by kernel_rfl))
  f217 := Tryz.func243.trans (congrArg some (by kernel_rfl))
  f218 := Tryz.func216.trans (congrArg some (by kernel_rfl))
  f219 := Tryz.func217.trans (congrArg some (by kernel_rfl))
  f221 := Tryz.func154.trans (congrArg some (by kernel_rfl))
  f224 := Tryz.func245.trans (congrArg some (by kernel_rfl))
  f225 := Tryz.func244.trans (congrArg some (by kernel_rfl))
  f260 := Tryz.func242.trans (congrArg some (by kernel_rfl))
  f266 := Tryz.func255.trans (congrArg some (by kernel_rfl))
  f267 := Tryz.func246.trans (congrArg some (by kernel_rfl))
  f268 := Tryz.func184.trans (congrArg some (by kernel_rfl))
  f314 := Tryz.func256.trans (congrArg some (by kernel_rfl))
  t0 := Tryz.underlying0
  a0 := Tryz.isAgg0
  z0 := Tryz.sizeOf0
  v0 := Tryz.zeroValue0
  t3 := Tryz.underlying3
  a3 := Tryz.isAgg3
  z3 := Tryz.sizeOf3
  v3 := Tryz.zeroValue3
  t4 := Tryz.underlying4
  a4 := Tryz.isAgg4
  z4 := Tryz.sizeOf4
  v4 := Tryz.zeroValue4
  t5 := Tryz.underlying5
  a5 := Tryz.isAgg5
  z5 := Tryz.sizeOf5
  v5 := Tryz.zeroValue5
  t9 := Tryz.underlying9
  a9 := Tryz.isAgg9
  z9 := Tryz.sizeOf9
  v9 := Tryz.zeroValue9
  t21 := Tryz.underlying21
  a21 := Tryz.isAgg21
  z21 := Tryz.sizeOf21
  v21 := Tryz.zeroValue21
  t31 := Tryz.underlying69
  a31 := Tryz.isAgg69
  z31 := Tryz.sizeOf69
  v31 := Tryz.zeroValue69
  t46 := Tryz.underlying204
  a46 := Tryz.isAgg204
  z46 := Tryz.sizeOf204
  v46 := Tryz.zeroValue204
  t51 := Tryz.underlying235
  a51 := Tryz.isAgg235
  z51 := Tryz.sizeOf235
  v51 := Tryz.zeroValue235
  t105 := Tryz.underlying251
  a105 := Tryz.isAgg251
  z105 := Tryz.sizeOf251
  v105 := Tryz.zeroValue251
  t119 := Tryz.underlying281
  a119 := Tryz.isAgg281
  z119 := Tryz.sizeOf281
  t138 := Tryz.underlying283
  a138 := Tryz.isAgg283
  z138 := Tryz.sizeOf283
  v138 := Tryz.zeroValue283
  t139 := Tryz.underlying284
  a139 := Tryz.isAgg284
  z139 := Tryz.sizeOf284
  v139 := Tryz.zeroValue284
  t146 := Tryz.underlying285
  a146 := Tryz.isAgg285
  z146 := Tryz.sizeOf285
  v146 := Tryz.zeroValue285
  g1 := by kernel_rfl
  g3 := by kernel_rfl
  g4 := by kernel_rfl }
open Go.RowKit Go.Lib in
theorem Tryz.strings_Split (s sep : ByteArray) (m : Int) (w : World) (hs : s.size < 4294967281) (hm : w.cell? ⟨1, 0, none⟩ = some (.int .i64 m)) (h1 : 1 ≤ sep.size) :
    Calls Tryz.prog 104 #[.string s, .string sep] w fun e w' =>
      e = .returned (.slice (some ⟨w.heap.size, 0, none⟩) (Lib.countB s sep + 1) (Lib.countB s sep + 1)) ∧ w' = w.alloc (.cells ((Lib.splitB sep 0 (Lib.countB s sep) s).map Value.string).toArray 9) := Any.strings_Split Tryz.lays146 (by kernel_rfl) s sep m w hs hm h1
end Go.Proofs
set_option linter.unusedVariables false
set_option linter.unusedSimpArgs false
namespace Go.Proofs.YtefhfoioeoijlaaGreatDoor
open Go Go.RowKit Go.Sort
def BRow (base : Nat) (w : World) (v : Value) (L : List ByteArray) : Prop := w.ownsRow base 9 1 v L.length (L.map Value.string)
theorem BRow.nil (base : Nat) (w : World) : BRow base w (.slice none 0 0) [] := World.ownsRow_nil w base _ 1
theorem BRow.keep {base : Nat} {w w' : World} {v : Value} {L : List ByteArray} (h : BRow base w v L) {q : Option Nat} (hg : w.grownBy w' q) (hv : v.ownBlock = none ∨ v.ownBlock ≠ q) : BRow base w' v L := World.ownsRow.kept h hg hv
theorem BRow.up {base : Nat} {w w' : World} {v : Value} {L : List ByteArray} (h : BRow base w v L) (hb : Up w w') : BRow base w' v L :=
  h.keep (q := none) ⟨hb.os, hb.tape, hb.output, hb.size, fun k hk _ => hb.block k hk⟩ (by cases hv : v.ownBlock <;> simp)
theorem BRow.chgm {base b : Nat} {w w' : World} {v : Value} {L : List ByteArray} (h : BRow base w v L) (c : Chg w w' b) (hn : v.ownBlock ≠ some b) : BRow base w' v L := World.ownsRow.kept h c (.inr hn)
theorem BRow.form {base : Nat} {w : World} {v : Value} {L : List ByteArray} (h : BRow base w v L) : ∃ A c, v = .slice A L.length c := by
  obtain ⟨_, ⟨rfl, h0⟩ | ⟨g, cap, cur, rfl, _⟩⟩ := h
  · exact ⟨none, 0, by rw [h0]⟩
  · exact ⟨_, cap, rfl⟩
theorem BRow.own {base : Nat} {w : World} {v : Value} {L : List ByteArray} (h : BRow base w v L) : ∀ k, v.ownBlock = some k → base ≤ k ∧ k < w.heap.size := World.ownsRow.lt h
theorem BRow.ne_old {base b : Nat} {w : World} {v : Value} {L : List ByteArray} (h : BRow base w v L) (e : b < base) : v.ownBlock ≠ some b := fun hh => by have := (h.own _ hh).1; omega
theorem info_str : ∃ i z, Tryz.prog.info? 9 = some i ∧ i.zero = some z ∧ i.size = 1 ∧ i.bytes = 16 ∧ z.cells.size = 1 := by
  have h : (Tryz.prog.info? 9).map (fun i => (i.zero.map (·.cells.size), i.size, i.bytes)) = some (some 1, 1, 16) := by kernel_rfl
  cases hi : Tryz.prog.info? 9 with
  | none => rw [hi] at h; cases h
  | some i =>
    rw [hi] at h; simp at h
    obtain ⟨⟨z, hz, h1⟩, h2, h3⟩ := h
    exact ⟨i, z, rfl, hz, h2, h3, h1⟩
theorem BRow.snoc {base : Nat} {w : World} {v : Value} {L : List ByteArray} (h : BRow base w v L) {t ty : TypeId} (ht : Tryz.prog.underlying t = some (.slice 9)) {b : Nat} {x : ByteArray} (hb : w.heap[b]? = some (.cells #[.string x] 9 (0, 0))) (hbase : base ≤ w.heap.size) (hlen : L.length ≤ 100000) :
    ∃ v' w', (Builtin.append_ #[t, t] ty #[v, .slice (some ⟨b, 0, none⟩) 1 1]).run Tryz.prog w = .ok v' w' ∧ BRow base w' v' (L ++ [x]) ∧ w.grownBy w' v.ownBlock := by
  obtain ⟨i, z, hi, hz, hsize, hby, hzs⟩ := info_str
  obtain ⟨v', w', h1, h2, h3, h4⟩ := run_append_own (P := Tryz.prog) w base t ty 9 i z 1 16 ht hi hz hsize hby hzs (by decide) v L.length (L.map Value.string) h ⟨b, 0, none⟩ 1 1 [.string x] (by simp)
    (fun j u hj => by
      rw [add_at, Nat.zero_add]
      have : (#[.string x] : Array Value)[j]? = some u := by simpa using hj
      simp only [World.cell?, hb]; simpa using this) (by intro u hu; simp at hu; subst hu; rfl) (by unfold maxLen; omega) (by omega) hbase
  refine ⟨v', w', h1, ?_, h3⟩
  unfold BRow
  rw [List.map_append]
  simpa using h2
theorem snB {ops : Array Oper} {Q : Exit → Act → World → Prop} {a : Act} {w : World} {J : Act → World → Prop} {d : Option Tmp} {ty : TypeId} {pos : String} {af : Array Edge} {g : Option (Nat × Bool)}
    {base : Nat} {v : Value} {L : List ByteArray} {t : TypeId} {s y : Operand} {b : Nat} {x : ByteArray}
    (hw : Region.wanted (⟨d, .call ⟨.builtin .append, #[s, y], #[t, t]⟩, ty, pos, af, g⟩ : Oper) (yielded ops a.tmps) = true) (hs : a.eval s = v) (hy : a.eval y = .slice (some ⟨b, 0, none⟩) 1 1)
    (h : BRow base w v L) (ht : Tryz.prog.underlying t = some (.slice 9)) (hb : w.heap[b]? = some (.cells #[.string x] 9 (0, 0))) (hbase : base ≤ w.heap.size) (hlen : L.length ≤ 100000)
    (k : ∀ A c w', BRow base w' (.slice A (L ++ [x]).length c) (L ++ [x]) → w.grownBy w' v.ownBlock → J (a.put d (.slice A (L ++ [x]).length c)) w') : St1 Tryz.prog ops Q ⟨d, .call ⟨.builtin .append, #[s, y], #[t, t]⟩, ty, pos, af, g⟩ J a w := by
  obtain ⟨v', w', h1, h2, h3⟩ := h.snoc (ty := ty) ht hb hbase hlen
  obtain ⟨A, c, rfl⟩ := h2.form
  refine sv hw ?_ (k A c w' h2 h3)
  simp [execOp, resolve, invoke, builtin, hs, hy, h1]
def SSRow (w : World) (v : Value) (L : List ByteArray) : Prop :=
  ∃ A c, v = .slice A L.length c ∧ L.length ≤ c ∧ (L = [] ∨ ∃ g f, A = some ⟨g, f, none⟩ ∧ g < w.heap.size ∧ ∀ (j : Nat) (x : ByteArray), L[j]? = some x → w.cell? ⟨g, f + j, none⟩ = some (.string x))
def joinB (L : List ByteArray) : ByteArray := ⟨(Lib.join (L.map (·.data.toList)) [47]).toArray⟩
theorem encStr_is (x : ByteArray) : encStr x.data.toList = .string x := by cases x; simp [encStr]
theorem rev_at {base : Nat} {w : World} {v : Value} {L : List ByteArray} (h : BRow base w v L) (hlen : L.length ≤ 100000) :
    Calls Tryz.prog 101 #[v] w fun e w' => e = .returned (.tuple #[]) ∧ SSRow w' v L.reverse ∧ w.grownBy w' v.ownBlock := by
  obtain ⟨hl, ⟨rfl, h0⟩ | ⟨g, cap, cur, rfl, hb, hg, hc, hm, hcs, htk⟩⟩ := h
  · have hL : L = [] := List.length_eq_zero_iff.1 h0
    subst hL
    refine (Tryz.slices_Reverse_string_empty none 0 w).mono ?_
    rintro e w' ⟨rfl, rfl⟩
    exact ⟨rfl, ⟨none, 0, rfl, Nat.le_refl _, .inl rfl⟩, rfl, rfl, rfl, Nat.le_refl _, fun k hk _ => rfl⟩
  · have hcell : ∀ (j : Nat) (x : ByteArray), L[j]? = some x → w.cell? ⟨g, 0 + j, none⟩ = some (.string x) := fun j x hx => by
      have hj := (List.getElem?_eq_some_iff.1 hx).1
      have h1 : (L.map Value.string)[j]? = some (.string x) := by rw [List.getElem?_map, hx]; rfl
      rw [← htk, List.getElem?_take, if_pos (by omega), Array.getElem?_toList] at h1
      simp only [World.cell?, hg, Nat.zero_add]
      exact h1
    have hH : Holds encStr w g 0 (L.map (·.data.toList)).toArray := by
      intro j hj
      simp only [List.size_toArray, List.length_map] at hj
      refine ⟨?_, by simp [World.frozen?, hg]⟩
      rw [hcell j _ (List.getElem?_eq_getElem hj)]
      congr 1
      rw [← encStr_is]
      congr 1
      simp [getElem!_pos, hj]
    have key := Tryz.slices_Reverse_string g 0 cap (L.map (·.data.toList)) w hH (by simp; omega)
    rw [List.length_map] at key
    refine key.mono ?_
    rintro e w' ⟨rfl, q, rfl⟩
    have hH' : Holds encStr (putRow encStr (Sort.ahead w q) g 0 (L.map (·.data.toList)).reverse.toArray) g 0 (L.map (·.data.toList)).reverse.toArray := holds_putRow encStr (Sort.ahead w q) g 0 (L.map (·.data.toList)).toArray _ (show Holds encStr (Sort.ahead w q) g 0 (L.map (·.data.toList)).toArray from fun j hj => hH j hj) (by simp)
    have hglt : g < w.heap.size := lt_ob hg
    refine ⟨rfl, ⟨some ⟨g, 0, none⟩, cap, by rw [List.length_reverse], by rw [List.length_reverse]; exact hc, .inr ⟨g, 0, rfl, by rw [size_putRow]; exact hglt, fun j x hx => ?_⟩⟩, ?_⟩
    · have hj := (List.getElem?_eq_some_iff.1 hx).1
      have := (hH' j (by simpa using hj)).1
      rw [this]
      congr 1
      rw [← encStr_is]
      congr 1
      have hx2 : (L.map (·.data.toList)).reverse[j]? = some x.data.toList := by rw [← List.map_reverse, List.getElem?_map, hx]; rfl
      obtain ⟨h3, h4⟩ := List.getElem?_eq_some_iff.1 hx2
      rw [getElem!_pos _ _ (by simpa using h3)]
      simpa using h4
    · refine ⟨rfl, rfl, rfl, by rw [size_putRow]; exact Nat.le_refl _, fun k hk hne => ?_⟩
      unfold putRow mapBlock
      simp only [Array.getElem?_modify]
      rw [if_neg (by intro e; exact hne (by rw [e]; rfl))]
      rfl
theorem join_at {w : World} {v : Value} {L : List ByteArray} (h : SSRow w v L) (hl : L.length ≤ 1000) (hlen : (joinB L).size ≤ 1000000) :
    Calls Tryz.prog 102 #[v, .string ⟨#[47]⟩] w fun e w' => e = .returned (.string (joinB L)) ∧ Up w w' := by
  have hlen' : (Lib.join (L.map (·.data.toList)) [47]).length ≤ 1000000 := by simpa [joinB, ByteArray.size] using hlen
  obtain ⟨A, c, rfl, hc, h0 | ⟨g, f, rfl, hg, hcell⟩⟩ := h
  · subst h0
    refine (Tryz.strings_Join_none A c ⟨#[47]⟩ w).mono ?_
    rintro e w' ⟨rfl, rfl⟩
    exact ⟨rfl, Below.refl _ _⟩
  · exact Tryz.strings_Join g f c L ⟨#[47]⟩ w hcell hg (by omega) hc (by show (Lib.join (L.map (·.data.toList)) [47]).length ≤ _; omega)
end Go.Proofs.YtefhfoioeoijlaaGreatDoor

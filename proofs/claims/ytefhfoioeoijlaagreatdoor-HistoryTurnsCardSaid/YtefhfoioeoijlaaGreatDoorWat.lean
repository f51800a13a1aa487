/- HD -/
import Derived.Test.YtefhfoioeoijlaaGreatDoorWas
set_option linter.unusedVariables false
set_option linter.unusedSimpArgs false
namespace Go.Proofs.YtefhfoioeoijlaaGreatDoor
open Go Go.RowKit Go.Sort
set_option maxHeartbeats 2000000 in
theorem changes_at {B : Nat} {w : World} {p q : Option Addr} {La Lb : List Item} (ha : OT B w p La) (hb : OT B w q Lb) (hB : B ≤ w.heap.size) (hFa : Fit La) (hFb : Fit Lb) (htab : Tab w) :
    Calls Tryz.prog 26 #[.pointer p, .pointer q] w fun e w' => ∃ A c D, e = .returned (.slice A (chgs La Lb D).length c) ∧ CRow 61 w.heap.size w' (.slice A (chgs La Lb D).length c) (chgs La Lb D) ∧ Thn (nodesI (La ++ Lb)) D ∧ Up w w' := by
  obtain ⟨LL, hLL⟩ : ∃ LL, LL = La ++ Lb := ⟨_, rfl⟩
  have hl6 : LL.length ≤ 600 := by have h1 := hFa.len; have h2 := hFb.len; rw [hLL, List.length_append]; omega
  go_enter Tryz.func26, Tryz.ntmps26
  refine wp_seq (rg_lit ?_)
  refine was (v := .slice none 0 0) ?_
  refine wnil (then_n (wp_seq (rg_lit ?_)))
  refine was (v := .slice none 0 0) ?_
  refine wnil (then_n (wp_seq (wp_seq (rg_lit ?_))))
  refine wmv (v := .pointer p) ?_
  refine wl (sc rfl (r_callv (caps := []) (all := [.pointer p]) En.f41 (by kernel_rfl) (by kernel_rfl)) (allO_at ha (Nat.le_trans hB (Mod.refl [] w).size)) ?_)
  rintro e w1 ⟨A2, c3, rfl, h4, u5⟩
  have h6 := IRow.base h4 (Mod.refl [] w).size
  refine ⟨.slice A2 La.length c3, rfl, ?_⟩
  have M7 := Mod.trans (Mod.refl [] w) (Mod.of_up u5)
  refine wmv (v := .pointer q) ?_
  have h14 := (OT.up hb (Mod.up M7))
  refine wl (sc rfl (r_callv (caps := []) (all := [.pointer q]) En.f41 (by kernel_rfl) (by kernel_rfl)) (allO_at h14 (Nat.le_trans hB M7.size)) ?_)
  rintro e w8 ⟨A9, c10, rfl, h11, u12⟩
  have h13 := IRow.base h11 M7.size
  refine ⟨.slice A9 Lb.length c10, rfl, ?_⟩
  have M15 := Mod.trans M7 (Mod.of_up u12)
  refine wl (sn rfl (cs := #[.slice A2 La.length c3, .slice A9 Lb.length c10]) (T := 74) (V := fun b => .slice (some ⟨b, 0, none⟩) 2 2) (r_buildSlice (n := 2) (ps := [(0, .slice A2 La.length c3), (1, .slice A9 Lb.length c10)]) Ty.un177 Ty.sz74 Ty.zv74 (by decide) (by decide) (by kernel_rfl) (by kernel_rfl)) ?_)
  intro b16 w17 e18 h19 u20
  have g21 : w.heap.size ≤ b16 := by rw [e18]; exact M15.size
  have M22 := Mod.trans M15 (Mod.of_up u20)
  have h28 := (IRow.up h6 (up_up u12 u20))
  have h29 := (IRow.up h13 u20)
  refine wl (sc rfl (r_callv (caps := []) (all := [.slice (some ⟨b16, 0, none⟩) 2 2]) En.f73 (by kernel_rfl) (by kernel_rfl)) (concat2_at (Nat.le_trans hB M22.size) h19 h28 h29 hFa.len hFb.len hLL) ?_)
  rintro e w23 ⟨A24, c25, rfl, h26, u27⟩
  refine ⟨.slice A24 LL.length c25, rfl, ?_⟩
  have M30 := Mod.trans M22 (Mod.of_up u27)
  refine wl (sv rfl (v := .int .i64 (LL.length : Int)) (r_len Ty.un74 (ad := A24) (n := LL.length) (c := c25) (by kernel_rfl)) ?_)
  refine wmv (v := .int .i64 0) ?_
  refine wnil (then_n (wp_block ?_))
  have h31 := (OT.up ha (Mod.up M30))
  have h32 := (OT.up hb (Mod.up M30))
  refine lp (fun n a r1 => ∃ (k : Nat) (ns : List Stamp) (nA : Option Addr) (nc : Nat) (z7 z23 z24 z25 z26 z27 z28 z29 z30 z31 : Value), (n = LL.length - k) ∧ (a = ⟨#[.pointer p, .pointer q, undef, undef, .slice none 0 0, .slice nA ns.length nc, undef, z7, undef, undef, undef, undef, undef, undef, undef, .pointer p, .slice A2 La.length c3, .pointer q, .slice A9 Lb.length c10, .slice (some ⟨b16, 0, none⟩) 2 2, .slice A24 LL.length c25, .int .i64 (LL.length : Int), .int .i64 (k : Int), z23, z24, z25, z26, z27, z28, z29, z30, z31, undef, undef, undef, undef, undef, undef, undef, undef, undef, undef, undef, undef, undef, undef, undef, undef, undef, undef, undef, undef, undef, undef, undef, undef, undef, undef, undef, undef, undef, undef, undef, undef, undef, undef], []⟩) ∧ (Mod [] w23 r1) ∧ (k ≤ LL.length) ∧ (ns = nodesI (LL.take k)) ∧ (MRow w23.heap.size r1 (.slice nA ns.length nc) ns)) ⟨_, 0, [], none, 0, undef, undef, undef, undef, undef, undef, undef, undef, undef, undef, rfl, (by kernel_rfl), Mod.refl _ _, (Nat.zero_le _), rfl, (MRow.nil _ _)⟩ ?_
  rintro _ _ r1 ⟨k, ns, nA, nc, z7, z23, z24, z25, z26, z27, z28, z29, z30, z31, rfl, rfl, hM1, hF1_0, hF1_1, hF1_2⟩
  have M33 := Mod.thin M30 hM1 (by simp)
  have hns := hF1_1
  have hnl : ns.length ≤ 600 := by rw [hns]; simp only [nodesI, List.length_map, List.length_take]; omega
  refine wp_seq (rg_lit ?_)
  refine wl (sb rfl (r_lt (k := .i64) (m := (k : Int)) (n := (LL.length : Int)) (by kernel_rfl) (by kernel_rfl)) ?_)
  intro b34 k35
  refine wnil (then_n (wp_seq ?_))
  refine bcase b34 (fun v36 => ?_) (fun v36 => ?_)
  ·
   have p37 := of_decide_eq_false (k35.trans v36)
   refine wp_cond_false (ebool (b := b34) (by kernel_rfl) v36) ?_
   refine wp_exit (then_x (by nofun) (then_x (by nofun) (inb_hit (then_n (wp_seq (rg_lit ?_))))))
   refine wmv (v := .pointer p) ?_
   refine wl (sc rfl (r_callv (caps := []) (all := [.pointer p]) En.f74 (by kernel_rfl) (by kernel_rfl)) (lookS_at p) ?_)
   rintro e w38 ⟨ka1, ka2, ka3, rfl, h39, u40⟩
   refine ⟨.func (.func 133) #[] #[.pointer (some ⟨ka1, 0, none⟩), .pointer (some ⟨ka2, 0, none⟩), .pointer (some ⟨ka3, 0, none⟩)], rfl, ?_⟩
   have M41 := Mod.trans M33 (Mod.of_up u40)
   have M42 := Mod.trans hM1 (Mod.of_up u40)
   refine wmv (v := .pointer q) ?_
   refine wl (sc rfl (r_callv (caps := []) (all := [.pointer q]) En.f74 (by kernel_rfl) (by kernel_rfl)) (lookS_at q) ?_)
   rintro e w43 ⟨kb1, kb2, kb3, rfl, h44, u45⟩
   refine ⟨.func (.func 133) #[] #[.pointer (some ⟨kb1, 0, none⟩), .pointer (some ⟨kb2, 0, none⟩), .pointer (some ⟨kb3, 0, none⟩)], rfl, ?_⟩
   have M46 := Mod.trans M41 (Mod.of_up u45)
   have M47 := Mod.trans M42 (Mod.of_up u45)
   refine was (v := .func (.func 133) #[] #[.pointer (some ⟨ka1, 0, none⟩), .pointer (some ⟨ka2, 0, none⟩), .pointer (some ⟨ka3, 0, none⟩)]) ?_
   refine was (v := .func (.func 133) #[] #[.pointer (some ⟨kb1, 0, none⟩), .pointer (some ⟨kb2, 0, none⟩), .pointer (some ⟨kb3, 0, none⟩)]) ?_
   refine wnil (then_n (wp_seq (wp_seq (rg_lit ?_))))
   refine wmv (v := .slice nA ns.length nc) ?_
   have hsn : ns.length = LL.length := by rw [hns, List.take_of_length_le (by omega)]; simp [nodesI]
   have h54 := (MRow.up hF1_2 (up_up u40 u45))
   refine wl (sc rfl (r_callv (caps := []) (all := [.slice nA ns.length nc]) En.f75 (by kernel_rfl) (by kernel_rfl)) (stampSortD_at h54 (by rfl) (by omega)) ?_)
   rintro e w48 ⟨A49, c50, D, rfl, h51, h52, u53⟩
   have hTh : Thn (nodesI (La ++ Lb)) D := by rw [← hLL, ← List.take_of_length_le (l := LL) (i := k) (by omega), ← hns]; exact h52
   have hDl := h52.len
   refine ⟨.slice A49 D.length c50, rfl, ?_⟩
   have M55 := Mod.trans M46 (Mod.of_up u53)
   have M56 := Mod.trans M47 (Mod.of_up u53)
   refine wl (sv rfl (v := .int .i64 (D.length : Int)) (r_len Ty.un95 (ad := A49) (n := D.length) (c := c50) (by kernel_rfl)) ?_)
   refine wmv (v := .int .i64 0) ?_
   refine wnil (then_n (wp_block ?_))
   have h57 := (OT.up ha (Mod.up M55))
   have h58 := (OT.up hb (Mod.up M55))
   have h59 := (IRow.up h26 (Mod.up M56))
   have h60 := (Looks.up h39 (up_up u45 u53))
   have h61 := (Looks.up h44 u53)
   refine lp (fun n a r2 => ∃ (j : Nat) (out : List ChgD) (oA : Option Addr) (oc : Nat) (Zj : Nat → Value), (n = D.length - j) ∧ (a = ⟨#[.pointer p, .pointer q, undef, undef, .slice oA out.length oc, .slice nA ns.length nc, undef, z7, .func (.func 133) #[] #[.pointer (some ⟨ka1, 0, none⟩), .pointer (some ⟨ka2, 0, none⟩), .pointer (some ⟨ka3, 0, none⟩)], .func (.func 133) #[] #[.pointer (some ⟨kb1, 0, none⟩), .pointer (some ⟨kb2, 0, none⟩), .pointer (some ⟨kb3, 0, none⟩)], undef, (Zj 11), (Zj 12), (Zj 13), (Zj 14), .pointer p, .slice A2 La.length c3, .pointer q, .slice A9 Lb.length c10, .slice (some ⟨b16, 0, none⟩) 2 2, .slice A24 LL.length c25, .int .i64 (LL.length : Int), .int .i64 (k : Int), .bool b34, z24, z25, z26, z27, z28, z29, z30, z31, .pointer p, .func (.func 133) #[] #[.pointer (some ⟨ka1, 0, none⟩), .pointer (some ⟨ka2, 0, none⟩), .pointer (some ⟨ka3, 0, none⟩)], .pointer q, .func (.func 133) #[] #[.pointer (some ⟨kb1, 0, none⟩), .pointer (some ⟨kb2, 0, none⟩), .pointer (some ⟨kb3, 0, none⟩)], .slice nA ns.length nc, .slice A49 D.length c50, .int .i64 (D.length : Int), .int .i64 (j : Int), (Zj 40), (Zj 41), (Zj 42), (Zj 43), (Zj 44), (Zj 45), (Zj 46), (Zj 47), (Zj 48), (Zj 49), (Zj 50), (Zj 51), (Zj 52), (Zj 53), (Zj 54), (Zj 55), (Zj 56), (Zj 57), (Zj 58), (Zj 59), (Zj 60), (Zj 61), (Zj 62), (Zj 63), (Zj 64), undef], []⟩) ∧ (Mod [] w48 r2) ∧ (j ≤ D.length) ∧ (out = chgs La Lb (D.take j)) ∧ (CRow 61 w48.heap.size r2 (.slice oA out.length oc) out)) ⟨_, 0, [], none, 0, tget [undef, undef, undef, undef, undef, undef, undef, undef, undef, undef, undef, undef, undef, undef, undef, undef, undef, undef, undef, undef, undef, undef, undef, undef, undef, undef, undef, undef, undef, undef, undef, undef, undef, undef, undef, undef, undef, undef, undef, undef, undef, undef, undef, undef, undef, undef, undef, undef, undef, undef, undef, undef, undef, undef, undef, undef, undef, undef, undef, undef, undef, undef, undef, undef, undef], rfl, (by kernel_rfl), Mod.refl _ _, (Nat.zero_le _), rfl, (CRow.nil _ _ _)⟩ ?_
   rintro _ _ r2 ⟨j, out, oA, oc, Zj, rfl, rfl, hM2, hF2_0, hF2_1, hF2_2⟩
   have M62 := Mod.thin M55 hM2 (by simp)
   have M63 := Mod.thin M56 hM2 (by simp)
   have ho1 := hF2_1
   have ho2 : out.length ≤ 600 := by have h9 := chgs_len La Lb (D.take j); rw [← ho1, List.length_take] at h9; omega
   refine wp_seq (rg_lit ?_)
   refine wl (sb rfl (r_lt (k := .i64) (m := (j : Int)) (n := (D.length : Int)) (by kernel_rfl) (by kernel_rfl)) ?_)
   intro b64 k65
   refine wnil (then_n (wp_seq ?_))
   refine bcase b64 (fun v66 => ?_) (fun v66 => ?_)
   ·
    have p67 := of_decide_eq_false (k65.trans v66)
    refine wp_cond_false (ebool (b := b64) (by kernel_rfl) v66) ?_
    refine wp_exit (then_x (by nofun) (then_x (by nofun) (inb_hit (then_n (wp_seq (rg_lit ?_))))))
    refine wmv (v := .slice oA out.length oc) ?_
    refine was (v := .slice oA out.length oc) ?_
    refine wnil (then_n (wp_ret ?_))
    refine bodyPost_ret (v := .slice oA out.length oc) (res1 rfl (rv_t (by kernel_rfl))) (by kernel_rfl) ?_
    have hoe : out = chgs La Lb D := by rw [ho1, List.take_of_length_le (by omega)]
    exact ⟨oA, oc, D, by rw [← hoe], (by rw [← hoe]; exact CRow.base hF2_2 M55.size), hTh, (Mod.up M62)⟩
   have p67 := of_decide_eq_true (k65.trans v66)
   have q68 : j < D.length := by omega
   have q69 : j < D.length := by omega
   refine wp_cond_true (ebool (b := b64) (by kernel_rfl) v66) ?_
   refine wp_skip (then_n (wp_seq (wp_block (wp_seq (rg_lit ?_)))))
   have h70 := (MRow.up h51 (Mod.up hM2))
   obtain ⟨y71, hy71⟩ : ∃ x, D[j]? = some x := ⟨_, List.getElem?_eq_getElem (by omega)⟩
   obtain ⟨g71, hA71, hl71, hc71, hd71⟩ := MRow.get h70 hy71
   refine wl (sv rfl (v := .pointer (some ⟨g71, j * 2, none⟩)) (r_ixaddr' (A := A49) (b := g71) (o := 0) (n := D.length) (c := c50) (sz := 2) (j := (j : Int)) (m := j * 2) (by kernel_rfl) hA71 (by kernel_rfl) Ty.un95 Ty.sz24 (by omega) (by omega) (by simp)) ?_)
   refine wl (sv rfl (v := .agg #[.int .i64 y71.t, .int .i64 y71.w]) (r_loadc2 (by kernel_rfl) Ty.ag24 Ty.sz24 hc71 hd71) ?_)
   refine wl (sn rfl (cs := #[.int .i64 0, .int .i64 0]) (T := 24) (V := fun b => .pointer (some ⟨b, 0, none⟩)) (r_alloc Ty.zv24 rfl) ?_)
   intro b72 w73 e74 h75 u76
   have g77 : w.heap.size ≤ b72 := by rw [e74]; exact M62.size
   have g78 : w23.heap.size ≤ b72 := by rw [e74]; exact M63.size
   have g79 : w48.heap.size ≤ b72 := by rw [e74]; exact hM2.size
   have M80 := Mod.trans M62 (Mod.of_up u76)
   have M81 := Mod.trans M63 (Mod.of_up u76)
   have M82 := Mod.trans hM2 (Mod.of_up u76)
   refine wl (ss rfl (k := 0) (v := .agg #[.int .i64 y71.t, .int .i64 y71.w]) (vs := [.int .i64 y71.t, .int .i64 y71.w]) (cs' := [.int .i64 y71.t, .int .i64 y71.w]) (by kernel_rfl) (by kernel_rfl) rfl Ty.sz24 h75 rfl (Nat.le_of_ble_eq_true rfl) rfl ?_)
   intro w83 h84 c85
   have M86 := Mod.trans' M80 c85 (fun i hi => by injection hi with hi; rw [← hi]; exact g77)
   have M87 := Mod.trans' M81 c85 (fun i hi => by injection hi with hi; rw [← hi]; exact g78)
   have M88 := Mod.trans' M82 c85 (fun i hi => by injection hi with hi; rw [← hi]; exact g79)
   refine wnil (then_n (wp_seq ?_))
   have hmz := thn_nonil hFa hFb hTh hy71
   obtain ⟨sda, hsa⟩ : ∃ s, sideP La ⟨y71.t, y71.w⟩ = s := ⟨_, rfl⟩
   obtain ⟨sdb, hsb⟩ : ∃ s, sideP Lb ⟨y71.t, y71.w⟩ = s := ⟨_, rfl⟩
   have h89 := (OT.up ha (Mod.up M86))
   have h90 := (OT.up hb (Mod.up M86))
   have h91 := (IRow.up h26 (Mod.up M87))
   have h92 := (Looks.up h60 (Mod.up M88))
   have h93 := (Looks.up h61 (Mod.up M88))
   have h94 := (MRow.up h51 (Mod.up M88))
   have h95 := (CRow.up hF2_2 (up_chgn u76 c85 (by rw [e74]; exact Nat.le_refl _)))
   refine wp_cutA (R := fun a wq => ∃ (ba : Nat) (bb : Nat) (yA1 : Option Addr) (yn1 : Nat) (yc1 : Nat) (yA2 : Option Addr) (yn2 : Nat) (yc2 : Nat) (y43 y44 y45 y46 y47 y48 : Value), (a = ⟨#[.pointer p, .pointer q, undef, undef, .slice oA out.length oc, .slice nA ns.length nc, undef, z7, .func (.func 133) #[] #[.pointer (some ⟨ka1, 0, none⟩), .pointer (some ⟨ka2, 0, none⟩), .pointer (some ⟨ka3, 0, none⟩)], .func (.func 133) #[] #[.pointer (some ⟨kb1, 0, none⟩), .pointer (some ⟨kb2, 0, none⟩), .pointer (some ⟨kb3, 0, none⟩)], undef, .pointer (some ⟨b72, 0, none⟩), .pointer (some ⟨ba, 0, none⟩), .pointer (some ⟨bb, 0, none⟩), (Zj 14), .pointer p, .slice A2 La.length c3, .pointer q, .slice A9 Lb.length c10, .slice (some ⟨b16, 0, none⟩) 2 2, .slice A24 LL.length c25, .int .i64 (LL.length : Int), .int .i64 (k : Int), .bool b34, z24, z25, z26, z27, z28, z29, z30, z31, .pointer p, .func (.func 133) #[] #[.pointer (some ⟨ka1, 0, none⟩), .pointer (some ⟨ka2, 0, none⟩), .pointer (some ⟨ka3, 0, none⟩)], .pointer q, .func (.func 133) #[] #[.pointer (some ⟨kb1, 0, none⟩), .pointer (some ⟨kb2, 0, none⟩), .pointer (some ⟨kb3, 0, none⟩)], .slice nA ns.length nc, .slice A49 D.length c50, .int .i64 (D.length : Int), .int .i64 (j : Int), .bool b64, .pointer (some ⟨g71, j * 2, none⟩), .agg #[.int .i64 y71.t, .int .i64 y71.w], y43, y44, y45, y46, y47, y48, (Zj 49), (Zj 50), (Zj 51), (Zj 52), (Zj 53), (Zj 54), (Zj 55), (Zj 56), (Zj 57), (Zj 58), (Zj 59), (Zj 60), (Zj 61), (Zj 62), (Zj 63), (Zj 64), undef], []⟩) ∧ (Mod [] w83 wq) ∧ (wq.heap[ba]? = some (.cells #[.int .i64 sda.x.node.t, .int .i64 sda.x.node.w, .int .i64 sda.x.parent.t, .int .i64 sda.x.parent.w, .string sda.x.name, .bool sda.x.dir, .bool sda.x.gone, .slice yA1 yn1 yc1, .int .i64 sda.x.by_.t, .int .i64 sda.x.by_.w, .bool sda.hangs, .string sda.path] 123 (0, 0))) ∧ (wq.heap[bb]? = some (.cells #[.int .i64 sdb.x.node.t, .int .i64 sdb.x.node.w, .int .i64 sdb.x.parent.t, .int .i64 sdb.x.parent.w, .string sdb.x.name, .bool sdb.x.dir, .bool sdb.x.gone, .slice yA2 yn2 yc2, .int .i64 sdb.x.by_.t, .int .i64 sdb.x.by_.w, .bool sdb.hangs, .string sdb.path] 123 (0, 0))) ∧ (Dat B wq (.slice yA1 yn1 yc1) sda.x.data) ∧ (Dat B wq (.slice yA2 yn2 yc2) sdb.x.data)) ?_ ?_
   ·
    refine rg_held [] (n := 10) (by kernel_rfl) rfl ?_
    intro w96 u97
    have M98 := Mod.trans M86 (Mod.of_up u97)
    have M99 := Mod.trans M87 (Mod.of_up u97)
    have M100 := Mod.trans M88 (Mod.of_up u97)
    have M101 := Mod.trans (Mod.refl [] w83) (Mod.of_up u97)
    refine hvq (i := 0) (fuel := 9) rfl (fun _ _ _ h => h) (Mod.refl _ _) rfl (v := .func (.func 133) #[] #[.pointer (some ⟨ka1, 0, none⟩), .pointer (some ⟨ka2, 0, none⟩), .pointer (some ⟨ka3, 0, none⟩)]) (fun _ _ => r_move (by kernel_rfl)) ?_
    have h102 := md_ob M101 nin0 h84
    refine hvq (i := 1) (fuel := 8) rfl (fun _ _ _ h => h) (Mod.refl _ _) rfl (v := .agg #[.int .i64 y71.t, .int .i64 y71.w]) (fun _ uz => r_loads (k := 0) (by kernel_rfl) Ty.ag24 Ty.sz24 (md_ob uz nin0 h102) (by kernel_rfl)) ?_
    refine hvq (i := 3) (fuel := 7) rfl (fun _ _ _ h => h) (Mod.refl _ _) rfl (v := .func (.func 133) #[] #[.pointer (some ⟨kb1, 0, none⟩), .pointer (some ⟨kb2, 0, none⟩), .pointer (some ⟨kb3, 0, none⟩)]) (fun _ _ => r_move (by kernel_rfl)) ?_
    refine hvq (i := 4) (fuel := 6) rfl (fun _ _ _ h => h) (Mod.refl _ _) rfl (v := .agg #[.int .i64 y71.t, .int .i64 y71.w]) (fun _ uz => r_loads (k := 0) (by kernel_rfl) Ty.ag24 Ty.sz24 (md_ob uz nin0 h102) (by kernel_rfl)) ?_
    refine h3 (i := 2) (j := 6) (k := 7) (fuel := 5) (by kernel_rfl) rfl rfl rfl ?_ ?_ ?_
    ·
     have h109 := (Looks.up h60 (Mod.up M100))
     have h110 := (OT.up ha (Mod.up M98))
     refine sc rfl (r_callv (caps := [.pointer (some ⟨ka1, 0, none⟩), .pointer (some ⟨ka2, 0, none⟩), .pointer (some ⟨ka3, 0, none⟩)]) (all := [.agg #[.int .i64 y71.t, .int .i64 y71.w], .pointer (some ⟨ka1, 0, none⟩), .pointer (some ⟨ka2, 0, none⟩), .pointer (some ⟨ka3, 0, none⟩)]) En.f133 (by kernel_rfl) (by kernel_rfl)) (look1_at h109 h110 (Nat.le_trans hB M98.size) hFa (TabIs.up htab (Mod.up M98)) y71.t y71.w hmz hsa) ?_
     rintro e w103 ⟨A104, n105, c106, rfl, h107, u108⟩
     refine ⟨.agg #[.int .i64 sda.x.node.t, .int .i64 sda.x.node.w, .int .i64 sda.x.parent.t, .int .i64 sda.x.parent.w, .string sda.x.name, .bool sda.x.dir, .bool sda.x.gone, .slice A104 n105 c106, .int .i64 sda.x.by_.t, .int .i64 sda.x.by_.w, .bool sda.hangs, .string sda.path], rfl, ?_⟩
     have M111 := Mod.trans M98 (Mod.of_up u108)
     have M112 := Mod.trans M99 (Mod.of_up u108)
     have M113 := Mod.trans M100 (Mod.of_up u108)
     have M114 := Mod.trans M101 (Mod.of_up u108)
     refine hx (Y := []) (Mod.of_up u108) (fun y hy => .inl hy) ?_
     refine h3 (i := 5) (j := 6) (k := 7) (fuel := 4) (by kernel_rfl) rfl rfl rfl ?_ ?_ ?_
     ·
      have h121 := (Looks.up h61 (Mod.up M113))
      have h122 := (OT.up hb (Mod.up M111))
      refine sc rfl (r_callv (caps := [.pointer (some ⟨kb1, 0, none⟩), .pointer (some ⟨kb2, 0, none⟩), .pointer (some ⟨kb3, 0, none⟩)]) (all := [.agg #[.int .i64 y71.t, .int .i64 y71.w], .pointer (some ⟨kb1, 0, none⟩), .pointer (some ⟨kb2, 0, none⟩), .pointer (some ⟨kb3, 0, none⟩)]) En.f133 (by kernel_rfl) (by kernel_rfl)) (look1_at h121 h122 (Nat.le_trans hB M111.size) hFb (TabIs.up htab (Mod.up M111)) y71.t y71.w hmz hsb) ?_
      rintro e w115 ⟨A116, n117, c118, rfl, h119, u120⟩
      refine ⟨.agg #[.int .i64 sdb.x.node.t, .int .i64 sdb.x.node.w, .int .i64 sdb.x.parent.t, .int .i64 sdb.x.parent.w, .string sdb.x.name, .bool sdb.x.dir, .bool sdb.x.gone, .slice A116 n117 c118, .int .i64 sdb.x.by_.t, .int .i64 sdb.x.by_.w, .bool sdb.hangs, .string sdb.path], rfl, ?_⟩
      have M123 := Mod.trans M111 (Mod.of_up u120)
      have M124 := Mod.trans M112 (Mod.of_up u120)
      have M125 := Mod.trans M113 (Mod.of_up u120)
      have M126 := Mod.trans M114 (Mod.of_up u120)
      refine hx (Y := []) (Mod.of_up u120) (fun y hy => .inl hy) ?_
      refine h2 (i := 6) (j := 7) (fuel := 3) (by kernel_rfl) rfl rfl ?_ ?_
      ·
       refine sn rfl (cs := #[.int .i64 0, .int .i64 0, .int .i64 0, .int .i64 0, .string (⟨#[]⟩), .bool false, .bool false, .slice none 0 0, .int .i64 0, .int .i64 0, .bool false, .string (⟨#[]⟩)]) (T := 123) (V := fun b => .pointer (some ⟨b, 0, none⟩)) (r_alloc Ty.zv123 rfl) ?_
       intro b127 w128 e129 h130 u131
       have h132 := md_ob M126 nin0 h84
       have l133 : b72 < b127 := by rw [e129]; exact lt_ob h132
       have g134 : w.heap.size ≤ b127 := by rw [e129]; exact M123.size
       have g135 : w23.heap.size ≤ b127 := by rw [e129]; exact M124.size
       have g136 : w48.heap.size ≤ b127 := by rw [e129]; exact M125.size
       have g137 : w83.heap.size ≤ b127 := by rw [e129]; exact M126.size
       have M138 := Mod.trans M123 (Mod.of_up u131)
       have M139 := Mod.trans M124 (Mod.of_up u131)
       have M140 := Mod.trans M125 (Mod.of_up u131)
       have M141 := Mod.trans M126 (Mod.of_up u131)
       refine hx (Y := [b127]) (Mod.of_up u131) (ynew e129) ?_
       refine h1 (i := 7) (fuel := 2) (by kernel_rfl) rfl (sn rfl (cs := #[.int .i64 0, .int .i64 0, .int .i64 0, .int .i64 0, .string (⟨#[]⟩), .bool false, .bool false, .slice none 0 0, .int .i64 0, .int .i64 0, .bool false, .string (⟨#[]⟩)]) (T := 123) (V := fun b => .pointer (some ⟨b, 0, none⟩)) (r_alloc Ty.zv123 rfl) ?_)
       intro b142 w143 e144 h145 u146
       have h147 := md_ob M141 nin0 h84
       have l148 : b72 < b142 := by rw [e144]; exact lt_ob h147
       have l149 : b127 < b142 := by rw [e144]; exact lt_ob h130
       have g150 : w.heap.size ≤ b142 := by rw [e144]; exact M138.size
       have g151 : w23.heap.size ≤ b142 := by rw [e144]; exact M139.size
       have g152 : w48.heap.size ≤ b142 := by rw [e144]; exact M140.size
       have g153 : w83.heap.size ≤ b142 := by rw [e144]; exact M141.size
       have M154 := Mod.trans M138 (Mod.of_up u146)
       have M155 := Mod.trans M139 (Mod.of_up u146)
       have M156 := Mod.trans M140 (Mod.of_up u146)
       have M157 := Mod.trans M141 (Mod.of_up u146)
       refine hx (Y := [b142, b127]) (Mod.of_up u146) (ynew e144) ?_
       have h158 := (up_ob u146 h130)
       refine h1 (i := 8) (fuel := 1) (by kernel_rfl) rfl (ss rfl (k := 0) (v := .agg #[.int .i64 sda.x.node.t, .int .i64 sda.x.node.w, .int .i64 sda.x.parent.t, .int .i64 sda.x.parent.w, .string sda.x.name, .bool sda.x.dir, .bool sda.x.gone, .slice A104 n105 c106, .int .i64 sda.x.by_.t, .int .i64 sda.x.by_.w, .bool sda.hangs, .string sda.path]) (vs := [.int .i64 sda.x.node.t, .int .i64 sda.x.node.w, .int .i64 sda.x.parent.t, .int .i64 sda.x.parent.w, .string sda.x.name, .bool sda.x.dir, .bool sda.x.gone, .slice A104 n105 c106, .int .i64 sda.x.by_.t, .int .i64 sda.x.by_.w, .bool sda.hangs, .string sda.path]) (cs' := [.int .i64 sda.x.node.t, .int .i64 sda.x.node.w, .int .i64 sda.x.parent.t, .int .i64 sda.x.parent.w, .string sda.x.name, .bool sda.x.dir, .bool sda.x.gone, .slice A104 n105 c106, .int .i64 sda.x.by_.t, .int .i64 sda.x.by_.w, .bool sda.hangs, .string sda.path]) (by kernel_rfl) (by kernel_rfl) rfl Ty.sz123 h158 rfl (Nat.le_of_ble_eq_true rfl) rfl ?_)
       intro w159 h160 c161
       have M162 := Mod.trans' M154 c161 (fun i hi => by injection hi with hi; rw [← hi]; exact g134)
       have M163 := Mod.trans' M155 c161 (fun i hi => by injection hi with hi; rw [← hi]; exact g135)
       have M164 := Mod.trans' M156 c161 (fun i hi => by injection hi with hi; rw [← hi]; exact g136)
       have M165 := Mod.trans' M157 c161 (fun i hi => by injection hi with hi; rw [← hi]; exact g137)
       refine hx (Y := [b142, b127]) (Mod.of_chg c161 (by simp)) (fun y hy => .inl hy) ?_
       have h166 := (chg_ob c161 (Nat.ne_of_gt l149) h145)
       refine h1 (i := 9) (fuel := 0) (by kernel_rfl) rfl (ss rfl (k := 0) (v := .agg #[.int .i64 sdb.x.node.t, .int .i64 sdb.x.node.w, .int .i64 sdb.x.parent.t, .int .i64 sdb.x.parent.w, .string sdb.x.name, .bool sdb.x.dir, .bool sdb.x.gone, .slice A116 n117 c118, .int .i64 sdb.x.by_.t, .int .i64 sdb.x.by_.w, .bool sdb.hangs, .string sdb.path]) (vs := [.int .i64 sdb.x.node.t, .int .i64 sdb.x.node.w, .int .i64 sdb.x.parent.t, .int .i64 sdb.x.parent.w, .string sdb.x.name, .bool sdb.x.dir, .bool sdb.x.gone, .slice A116 n117 c118, .int .i64 sdb.x.by_.t, .int .i64 sdb.x.by_.w, .bool sdb.hangs, .string sdb.path]) (cs' := [.int .i64 sdb.x.node.t, .int .i64 sdb.x.node.w, .int .i64 sdb.x.parent.t, .int .i64 sdb.x.parent.w, .string sdb.x.name, .bool sdb.x.dir, .bool sdb.x.gone, .slice A116 n117 c118, .int .i64 sdb.x.by_.t, .int .i64 sdb.x.by_.w, .bool sdb.hangs, .string sdb.path]) (by kernel_rfl) (by kernel_rfl) rfl Ty.sz123 h166 rfl (Nat.le_of_ble_eq_true rfl) rfl ?_)
       intro w167 h168 c169
       have M170 := Mod.trans' M162 c169 (fun i hi => by injection hi with hi; rw [← hi]; exact g150)
       have M171 := Mod.trans' M163 c169 (fun i hi => by injection hi with hi; rw [← hi]; exact g151)
       have M172 := Mod.trans' M164 c169 (fun i hi => by injection hi with hi; rw [← hi]; exact g152)
       have M173 := Mod.trans' M165 c169 (fun i hi => by injection hi with hi; rw [← hi]; exact g153)
       refine hx (Y := [b142, b127]) (Mod.of_chg c169 (by simp)) (fun y hy => .inl hy) ?_
       refine hend (by kernel_rfl) ?_
       refine then_n ?_
       have h174 := (chg_ob c169 (Nat.ne_of_lt l149) h160)
       have h175 := (Dat.up h107 (up_chgn (up_chgn (up_up (up_up u120 u131) u146) c161 (by rw [e129]; exact u120.size)) c169 (by rw [e144]; exact (up_up u120 u131).size)))
       have h176 := (Dat.up h119 (up_chgn (up_chgn (up_up u131 u146) c161 (by rw [e129]; exact Nat.le_refl _)) c169 (by rw [e144]; exact u131.size)))
       exact ⟨b127, b142, A104, n105, c106, A116, n117, c118, .func (.func 133) #[] #[.pointer (some ⟨ka1, 0, none⟩), .pointer (some ⟨ka2, 0, none⟩), .pointer (some ⟨ka3, 0, none⟩)], .agg #[.int .i64 y71.t, .int .i64 y71.w], .agg #[.int .i64 sda.x.node.t, .int .i64 sda.x.node.w, .int .i64 sda.x.parent.t, .int .i64 sda.x.parent.w, .string sda.x.name, .bool sda.x.dir, .bool sda.x.gone, .slice A104 n105 c106, .int .i64 sda.x.by_.t, .int .i64 sda.x.by_.w, .bool sda.hangs, .string sda.path], .func (.func 133) #[] #[.pointer (some ⟨kb1, 0, none⟩), .pointer (some ⟨kb2, 0, none⟩), .pointer (some ⟨kb3, 0, none⟩)], .agg #[.int .i64 y71.t, .int .i64 y71.w], .agg #[.int .i64 sdb.x.node.t, .int .i64 sdb.x.node.w, .int .i64 sdb.x.parent.t, .int .i64 sdb.x.parent.w, .string sdb.x.name, .bool sdb.x.dir, .bool sdb.x.gone, .slice A116 n117 c118, .int .i64 sdb.x.by_.t, .int .i64 sdb.x.by_.w, .bool sdb.hangs, .string sdb.path], (by kernel_rfl), M173, h174, h168, h175, h176⟩
      ·
       refine sn rfl (cs := #[.int .i64 0, .int .i64 0, .int .i64 0, .int .i64 0, .string (⟨#[]⟩), .bool false, .bool false, .slice none 0 0, .int .i64 0, .int .i64 0, .bool false, .string (⟨#[]⟩)]) (T := 123) (V := fun b => .pointer (some ⟨b, 0, none⟩)) (r_alloc Ty.zv123 rfl) ?_
       intro b127 w128 e129 h130 u131
       have h132 := md_ob M126 nin0 h84
       have l133 : b72 < b127 := by rw [e129]; exact lt_ob h132
       have g134 : w.heap.size ≤ b127 := by rw [e129]; exact M123.size
       have g135 : w23.heap.size ≤ b127 := by rw [e129]; exact M124.size
       have g136 : w48.heap.size ≤ b127 := by rw [e129]; exact M125.size
       have g137 : w83.heap.size ≤ b127 := by rw [e129]; exact M126.size
       have M138 := Mod.trans M123 (Mod.of_up u131)
       have M139 := Mod.trans M124 (Mod.of_up u131)
       have M140 := Mod.trans M125 (Mod.of_up u131)
       have M141 := Mod.trans M126 (Mod.of_up u131)
       refine hx (Y := [b127]) (Mod.of_up u131) (ynew e129) ?_
       refine h1 (i := 6) (fuel := 2) (by kernel_rfl) rfl (sn rfl (cs := #[.int .i64 0, .int .i64 0, .int .i64 0, .int .i64 0, .string (⟨#[]⟩), .bool false, .bool false, .slice none 0 0, .int .i64 0, .int .i64 0, .bool false, .string (⟨#[]⟩)]) (T := 123) (V := fun b => .pointer (some ⟨b, 0, none⟩)) (r_alloc Ty.zv123 rfl) ?_)
       intro b142 w143 e144 h145 u146
       have h147 := md_ob M141 nin0 h84
       have l148 : b72 < b142 := by rw [e144]; exact lt_ob h147
       have l149 : b127 < b142 := by rw [e144]; exact lt_ob h130
       have g150 : w.heap.size ≤ b142 := by rw [e144]; exact M138.size
       have g151 : w23.heap.size ≤ b142 := by rw [e144]; exact M139.size
       have g152 : w48.heap.size ≤ b142 := by rw [e144]; exact M140.size
       have g153 : w83.heap.size ≤ b142 := by rw [e144]; exact M141.size
       have M154 := Mod.trans M138 (Mod.of_up u146)
       have M155 := Mod.trans M139 (Mod.of_up u146)
       have M156 := Mod.trans M140 (Mod.of_up u146)
       have M157 := Mod.trans M141 (Mod.of_up u146)
       refine hx (Y := [b142, b127]) (Mod.of_up u146) (ynew e144) ?_
       refine h1 (i := 8) (fuel := 1) (by kernel_rfl) rfl (ss rfl (k := 0) (v := .agg #[.int .i64 sda.x.node.t, .int .i64 sda.x.node.w, .int .i64 sda.x.parent.t, .int .i64 sda.x.parent.w, .string sda.x.name, .bool sda.x.dir, .bool sda.x.gone, .slice A104 n105 c106, .int .i64 sda.x.by_.t, .int .i64 sda.x.by_.w, .bool sda.hangs, .string sda.path]) (vs := [.int .i64 sda.x.node.t, .int .i64 sda.x.node.w, .int .i64 sda.x.parent.t, .int .i64 sda.x.parent.w, .string sda.x.name, .bool sda.x.dir, .bool sda.x.gone, .slice A104 n105 c106, .int .i64 sda.x.by_.t, .int .i64 sda.x.by_.w, .bool sda.hangs, .string sda.path]) (cs' := [.int .i64 sda.x.node.t, .int .i64 sda.x.node.w, .int .i64 sda.x.parent.t, .int .i64 sda.x.parent.w, .string sda.x.name, .bool sda.x.dir, .bool sda.x.gone, .slice A104 n105 c106, .int .i64 sda.x.by_.t, .int .i64 sda.x.by_.w, .bool sda.hangs, .string sda.path]) (by kernel_rfl) (by kernel_rfl) rfl Ty.sz123 h145 rfl (Nat.le_of_ble_eq_true rfl) rfl ?_)
       intro w158 h159 c160
       have M161 := Mod.trans' M154 c160 (fun i hi => by injection hi with hi; rw [← hi]; exact g150)
       have M162 := Mod.trans' M155 c160 (fun i hi => by injection hi with hi; rw [← hi]; exact g151)
       have M163 := Mod.trans' M156 c160 (fun i hi => by injection hi with hi; rw [← hi]; exact g152)
       have M164 := Mod.trans' M157 c160 (fun i hi => by injection hi with hi; rw [← hi]; exact g153)
       refine hx (Y := [b142, b127]) (Mod.of_chg c160 (by simp)) (fun y hy => .inl hy) ?_
       have h165 := (chg_ob c160 (Nat.ne_of_lt l149) (up_ob u146 h130))
       refine h1 (i := 9) (fuel := 0) (by kernel_rfl) rfl (ss rfl (k := 0) (v := .agg #[.int .i64 sdb.x.node.t, .int .i64 sdb.x.node.w, .int .i64 sdb.x.parent.t, .int .i64 sdb.x.parent.w, .string sdb.x.name, .bool sdb.x.dir, .bool sdb.x.gone, .slice A116 n117 c118, .int .i64 sdb.x.by_.t, .int .i64 sdb.x.by_.w, .bool sdb.hangs, .string sdb.path]) (vs := [.int .i64 sdb.x.node.t, .int .i64 sdb.x.node.w, .int .i64 sdb.x.parent.t, .int .i64 sdb.x.parent.w, .string sdb.x.name, .bool sdb.x.dir, .bool sdb.x.gone, .slice A116 n117 c118, .int .i64 sdb.x.by_.t, .int .i64 sdb.x.by_.w, .bool sdb.hangs, .string sdb.path]) (cs' := [.int .i64 sdb.x.node.t, .int .i64 sdb.x.node.w, .int .i64 sdb.x.parent.t, .int .i64 sdb.x.parent.w, .string sdb.x.name, .bool sdb.x.dir, .bool sdb.x.gone, .slice A116 n117 c118, .int .i64 sdb.x.by_.t, .int .i64 sdb.x.by_.w, .bool sdb.hangs, .string sdb.path]) (by kernel_rfl) (by kernel_rfl) rfl Ty.sz123 h165 rfl (Nat.le_of_ble_eq_true rfl) rfl ?_)
       intro w166 h167 c168
       have M169 := Mod.trans' M161 c168 (fun i hi => by injection hi with hi; rw [← hi]; exact g134)
       have M170 := Mod.trans' M162 c168 (fun i hi => by injection hi with hi; rw [← hi]; exact g135)
       have M171 := Mod.trans' M163 c168 (fun i hi => by injection hi with hi; rw [← hi]; exact g136)
       have M172 := Mod.trans' M164 c168 (fun i hi => by injection hi with hi; rw [← hi]; exact g137)
       refine hx (Y := [b142, b127]) (Mod.of_chg c168 (by simp)) (fun y hy => .inl hy) ?_
       refine hend (by kernel_rfl) ?_
       refine then_n ?_
       have h173 := (chg_ob c168 (Nat.ne_of_gt l149) h159)
       have h174 := (Dat.up h107 (up_chgn (up_chgn (up_up (up_up u120 u131) u146) c160 (by rw [e144]; exact (up_up u120 u131).size)) c168 (by rw [e129]; exact u120.size)))
       have h175 := (Dat.up h119 (up_chgn (up_chgn (up_up u131 u146) c160 (by rw [e144]; exact u131.size)) c168 (by rw [e129]; exact Nat.le_refl _)))
       exact ⟨b142, b127, A104, n105, c106, A116, n117, c118, .func (.func 133) #[] #[.pointer (some ⟨ka1, 0, none⟩), .pointer (some ⟨ka2, 0, none⟩), .pointer (some ⟨ka3, 0, none⟩)], .agg #[.int .i64 y71.t, .int .i64 y71.w], .agg #[.int .i64 sda.x.node.t, .int .i64 sda.x.node.w, .int .i64 sda.x.parent.t, .int .i64 sda.x.parent.w, .string sda.x.name, .bool sda.x.dir, .bool sda.x.gone, .slice A104 n105 c106, .int .i64 sda.x.by_.t, .int .i64 sda.x.by_.w, .bool sda.hangs, .string sda.path], .func (.func 133) #[] #[.pointer (some ⟨kb1, 0, none⟩), .pointer (some ⟨kb2, 0, none⟩), .pointer (some ⟨kb3, 0, none⟩)], .agg #[.int .i64 y71.t, .int .i64 y71.w], .agg #[.int .i64 sdb.x.node.t, .int .i64 sdb.x.node.w, .int .i64 sdb.x.parent.t, .int .i64 sdb.x.parent.w, .string sdb.x.name, .bool sdb.x.dir, .bool sdb.x.gone, .slice A116 n117 c118, .int .i64 sdb.x.by_.t, .int .i64 sdb.x.by_.w, .bool sdb.hangs, .string sdb.path], (by kernel_rfl), M172, h173, h167, h174, h175⟩
     ·
      refine sn rfl (cs := #[.int .i64 0, .int .i64 0, .int .i64 0, .int .i64 0, .string (⟨#[]⟩), .bool false, .bool false, .slice none 0 0, .int .i64 0, .int .i64 0, .bool false, .string (⟨#[]⟩)]) (T := 123) (V := fun b => .pointer (some ⟨b, 0, none⟩)) (r_alloc Ty.zv123 rfl) ?_
      intro b115 w116 e117 h118 u119
      have h120 := md_ob M114 nin0 h84
      have l121 : b72 < b115 := by rw [e117]; exact lt_ob h120
      have g122 : w.heap.size ≤ b115 := by rw [e117]; exact M111.size
      have g123 : w23.heap.size ≤ b115 := by rw [e117]; exact M112.size
      have g124 : w48.heap.size ≤ b115 := by rw [e117]; exact M113.size
      have g125 : w83.heap.size ≤ b115 := by rw [e117]; exact M114.size
      have M126 := Mod.trans M111 (Mod.of_up u119)
      have M127 := Mod.trans M112 (Mod.of_up u119)
      have M128 := Mod.trans M113 (Mod.of_up u119)
      have M129 := Mod.trans M114 (Mod.of_up u119)
      refine hx (Y := [b115]) (Mod.of_up u119) (ynew e117) ?_
      refine h2 (i := 5) (j := 7) (fuel := 3) (by kernel_rfl) rfl rfl ?_ ?_
      ·
       have h136 := (Looks.up h61 (Mod.up M128))
       have h137 := (OT.up hb (Mod.up M126))
       refine sc rfl (r_callv (caps := [.pointer (some ⟨kb1, 0, none⟩), .pointer (some ⟨kb2, 0, none⟩), .pointer (some ⟨kb3, 0, none⟩)]) (all := [.agg #[.int .i64 y71.t, .int .i64 y71.w], .pointer (some ⟨kb1, 0, none⟩), .pointer (some ⟨kb2, 0, none⟩), .pointer (some ⟨kb3, 0, none⟩)]) En.f133 (by kernel_rfl) (by kernel_rfl)) (look1_at h136 h137 (Nat.le_trans hB M126.size) hFb (TabIs.up htab (Mod.up M126)) y71.t y71.w hmz hsb) ?_
       rintro e w130 ⟨A131, n132, c133, rfl, h134, u135⟩
       refine ⟨.agg #[.int .i64 sdb.x.node.t, .int .i64 sdb.x.node.w, .int .i64 sdb.x.parent.t, .int .i64 sdb.x.parent.w, .string sdb.x.name, .bool sdb.x.dir, .bool sdb.x.gone, .slice A131 n132 c133, .int .i64 sdb.x.by_.t, .int .i64 sdb.x.by_.w, .bool sdb.hangs, .string sdb.path], rfl, ?_⟩
       have M138 := Mod.trans M126 (Mod.of_up u135)
       have M139 := Mod.trans M127 (Mod.of_up u135)
       have M140 := Mod.trans M128 (Mod.of_up u135)
       have M141 := Mod.trans M129 (Mod.of_up u135)
       refine hx (Y := [b115]) (Mod.of_up u135) (fun y hy => .inl hy) ?_
       refine h1 (i := 7) (fuel := 2) (by kernel_rfl) rfl (sn rfl (cs := #[.int .i64 0, .int .i64 0, .int .i64 0, .int .i64 0, .string (⟨#[]⟩), .bool false, .bool false, .slice none 0 0, .int .i64 0, .int .i64 0, .bool false, .string (⟨#[]⟩)]) (T := 123) (V := fun b => .pointer (some ⟨b, 0, none⟩)) (r_alloc Ty.zv123 rfl) ?_)
       intro b142 w143 e144 h145 u146
       have h147 := md_ob M141 nin0 h84
       have l148 : b72 < b142 := by rw [e144]; exact lt_ob h147
       have h149 := (up_ob u135 h118)
       have l150 : b115 < b142 := by rw [e144]; exact lt_ob h149
       have g151 : w.heap.size ≤ b142 := by rw [e144]; exact M138.size
       have g152 : w23.heap.size ≤ b142 := by rw [e144]; exact M139.size
       have g153 : w48.heap.size ≤ b142 := by rw [e144]; exact M140.size
       have g154 : w83.heap.size ≤ b142 := by rw [e144]; exact M141.size
       have M155 := Mod.trans M138 (Mod.of_up u146)
       have M156 := Mod.trans M139 (Mod.of_up u146)
       have M157 := Mod.trans M140 (Mod.of_up u146)
       have M158 := Mod.trans M141 (Mod.of_up u146)
       refine hx (Y := [b142, b115]) (Mod.of_up u146) (ynew e144) ?_
       have h159 := (up_ob u146 h149)
       refine h1 (i := 8) (fuel := 1) (by kernel_rfl) rfl (ss rfl (k := 0) (v := .agg #[.int .i64 sda.x.node.t, .int .i64 sda.x.node.w, .int .i64 sda.x.parent.t, .int .i64 sda.x.parent.w, .string sda.x.name, .bool sda.x.dir, .bool sda.x.gone, .slice A104 n105 c106, .int .i64 sda.x.by_.t, .int .i64 sda.x.by_.w, .bool sda.hangs, .string sda.path]) (vs := [.int .i64 sda.x.node.t, .int .i64 sda.x.node.w, .int .i64 sda.x.parent.t, .int .i64 sda.x.parent.w, .string sda.x.name, .bool sda.x.dir, .bool sda.x.gone, .slice A104 n105 c106, .int .i64 sda.x.by_.t, .int .i64 sda.x.by_.w, .bool sda.hangs, .string sda.path]) (cs' := [.int .i64 sda.x.node.t, .int .i64 sda.x.node.w, .int .i64 sda.x.parent.t, .int .i64 sda.x.parent.w, .string sda.x.name, .bool sda.x.dir, .bool sda.x.gone, .slice A104 n105 c106, .int .i64 sda.x.by_.t, .int .i64 sda.x.by_.w, .bool sda.hangs, .string sda.path]) (by kernel_rfl) (by kernel_rfl) rfl Ty.sz123 h159 rfl (Nat.le_of_ble_eq_true rfl) rfl ?_)
       intro w160 h161 c162
       have M163 := Mod.trans' M155 c162 (fun i hi => by injection hi with hi; rw [← hi]; exact g122)
       have M164 := Mod.trans' M156 c162 (fun i hi => by injection hi with hi; rw [← hi]; exact g123)
       have M165 := Mod.trans' M157 c162 (fun i hi => by injection hi with hi; rw [← hi]; exact g124)
       have M166 := Mod.trans' M158 c162 (fun i hi => by injection hi with hi; rw [← hi]; exact g125)
       refine hx (Y := [b142, b115]) (Mod.of_chg c162 (by simp)) (fun y hy => .inl hy) ?_
       have h167 := (chg_ob c162 (Nat.ne_of_gt l150) h145)
       refine h1 (i := 9) (fuel := 0) (by kernel_rfl) rfl (ss rfl (k := 0) (v := .agg #[.int .i64 sdb.x.node.t, .int .i64 sdb.x.node.w, .int .i64 sdb.x.parent.t, .int .i64 sdb.x.parent.w, .string sdb.x.name, .bool sdb.x.dir, .bool sdb.x.gone, .slice A131 n132 c133, .int .i64 sdb.x.by_.t, .int .i64 sdb.x.by_.w, .bool sdb.hangs, .string sdb.path]) (vs := [.int .i64 sdb.x.node.t, .int .i64 sdb.x.node.w, .int .i64 sdb.x.parent.t, .int .i64 sdb.x.parent.w, .string sdb.x.name, .bool sdb.x.dir, .bool sdb.x.gone, .slice A131 n132 c133, .int .i64 sdb.x.by_.t, .int .i64 sdb.x.by_.w, .bool sdb.hangs, .string sdb.path]) (cs' := [.int .i64 sdb.x.node.t, .int .i64 sdb.x.node.w, .int .i64 sdb.x.parent.t, .int .i64 sdb.x.parent.w, .string sdb.x.name, .bool sdb.x.dir, .bool sdb.x.gone, .slice A131 n132 c133, .int .i64 sdb.x.by_.t, .int .i64 sdb.x.by_.w, .bool sdb.hangs, .string sdb.path]) (by kernel_rfl) (by kernel_rfl) rfl Ty.sz123 h167 rfl (Nat.le_of_ble_eq_true rfl) rfl ?_)
       intro w168 h169 c170
       have M171 := Mod.trans' M163 c170 (fun i hi => by injection hi with hi; rw [← hi]; exact g151)
       have M172 := Mod.trans' M164 c170 (fun i hi => by injection hi with hi; rw [← hi]; exact g152)
       have M173 := Mod.trans' M165 c170 (fun i hi => by injection hi with hi; rw [← hi]; exact g153)
       have M174 := Mod.trans' M166 c170 (fun i hi => by injection hi with hi; rw [← hi]; exact g154)
       refine hx (Y := [b142, b115]) (Mod.of_chg c170 (by simp)) (fun y hy => .inl hy) ?_
       refine hend (by kernel_rfl) ?_
       refine then_n ?_
       have h175 := (chg_ob c170 (Nat.ne_of_lt l150) h161)
       have h176 := (Dat.up h107 (up_chgn (up_chgn (up_up (up_up u119 u135) u146) c162 (by rw [e117]; exact Nat.le_refl _)) c170 (by rw [e144]; exact (up_up u119 u135).size)))
       have h177 := (Dat.chg (Dat.chg (Dat.up h134 u146) c162 ⟨(Nat.le_trans hB g122), NotU8.of h159 (by decide)⟩) c170 ⟨(Nat.le_trans hB g151), NotU8.of h167 (by decide)⟩)
       exact ⟨b115, b142, A104, n105, c106, A131, n132, c133, .func (.func 133) #[] #[.pointer (some ⟨ka1, 0, none⟩), .pointer (some ⟨ka2, 0, none⟩), .pointer (some ⟨ka3, 0, none⟩)], .agg #[.int .i64 y71.t, .int .i64 y71.w], .agg #[.int .i64 sda.x.node.t, .int .i64 sda.x.node.w, .int .i64 sda.x.parent.t, .int .i64 sda.x.parent.w, .string sda.x.name, .bool sda.x.dir, .bool sda.x.gone, .slice A104 n105 c106, .int .i64 sda.x.by_.t, .int .i64 sda.x.by_.w, .bool sda.hangs, .string sda.path], .func (.func 133) #[] #[.pointer (some ⟨kb1, 0, none⟩), .pointer (some ⟨kb2, 0, none⟩), .pointer (some ⟨kb3, 0, none⟩)], .agg #[.int .i64 y71.t, .int .i64 y71.w], .agg #[.int .i64 sdb.x.node.t, .int .i64 sdb.x.node.w, .int .i64 sdb.x.parent.t, .int .i64 sdb.x.parent.w, .string sdb.x.name, .bool sdb.x.dir, .bool sdb.x.gone, .slice A131 n132 c133, .int .i64 sdb.x.by_.t, .int .i64 sdb.x.by_.w, .bool sdb.hangs, .string sdb.path], (by kernel_rfl), M174, h175, h169, h176, h177⟩
      ·
       refine sn rfl (cs := #[.int .i64 0, .int .i64 0, .int .i64 0, .int .i64 0, .string (⟨#[]⟩), .bool false, .bool false, .slice none 0 0, .int .i64 0, .int .i64 0, .bool false, .string (⟨#[]⟩)]) (T := 123) (V := fun b => .pointer (some ⟨b, 0, none⟩)) (r_alloc Ty.zv123 rfl) ?_
       intro b130 w131 e132 h133 u134
       have h135 := md_ob M129 nin0 h84
       have l136 : b72 < b130 := by rw [e132]; exact lt_ob h135
       have l137 : b115 < b130 := by rw [e132]; exact lt_ob h118
       have g138 : w.heap.size ≤ b130 := by rw [e132]; exact M126.size
       have g139 : w23.heap.size ≤ b130 := by rw [e132]; exact M127.size
       have g140 : w48.heap.size ≤ b130 := by rw [e132]; exact M128.size
       have g141 : w83.heap.size ≤ b130 := by rw [e132]; exact M129.size
       have M142 := Mod.trans M126 (Mod.of_up u134)
       have M143 := Mod.trans M127 (Mod.of_up u134)
       have M144 := Mod.trans M128 (Mod.of_up u134)
       have M145 := Mod.trans M129 (Mod.of_up u134)
       refine hx (Y := [b130, b115]) (Mod.of_up u134) (ynew e132) ?_
       have h152 := (Looks.up h61 (Mod.up M144))
       have h153 := (OT.up hb (Mod.up M142))
       refine h1 (i := 5) (fuel := 2) (by kernel_rfl) rfl (sc rfl (r_callv (caps := [.pointer (some ⟨kb1, 0, none⟩), .pointer (some ⟨kb2, 0, none⟩), .pointer (some ⟨kb3, 0, none⟩)]) (all := [.agg #[.int .i64 y71.t, .int .i64 y71.w], .pointer (some ⟨kb1, 0, none⟩), .pointer (some ⟨kb2, 0, none⟩), .pointer (some ⟨kb3, 0, none⟩)]) En.f133 (by kernel_rfl) (by kernel_rfl)) (look1_at h152 h153 (Nat.le_trans hB M142.size) hFb (TabIs.up htab (Mod.up M142)) y71.t y71.w hmz hsb) ?_)
       rintro e w146 ⟨A147, n148, c149, rfl, h150, u151⟩
       refine ⟨.agg #[.int .i64 sdb.x.node.t, .int .i64 sdb.x.node.w, .int .i64 sdb.x.parent.t, .int .i64 sdb.x.parent.w, .string sdb.x.name, .bool sdb.x.dir, .bool sdb.x.gone, .slice A147 n148 c149, .int .i64 sdb.x.by_.t, .int .i64 sdb.x.by_.w, .bool sdb.hangs, .string sdb.path], rfl, ?_⟩
       have M154 := Mod.trans M142 (Mod.of_up u151)
       have M155 := Mod.trans M143 (Mod.of_up u151)
       have M156 := Mod.trans M144 (Mod.of_up u151)
       have M157 := Mod.trans M145 (Mod.of_up u151)
       refine hx (Y := [b130, b115]) (Mod.of_up u151) (fun y hy => .inl hy) ?_
       have h158 := (up_ob u151 (up_ob u134 h118))
       refine h1 (i := 8) (fuel := 1) (by kernel_rfl) rfl (ss rfl (k := 0) (v := .agg #[.int .i64 sda.x.node.t, .int .i64 sda.x.node.w, .int .i64 sda.x.parent.t, .int .i64 sda.x.parent.w, .string sda.x.name, .bool sda.x.dir, .bool sda.x.gone, .slice A104 n105 c106, .int .i64 sda.x.by_.t, .int .i64 sda.x.by_.w, .bool sda.hangs, .string sda.path]) (vs := [.int .i64 sda.x.node.t, .int .i64 sda.x.node.w, .int .i64 sda.x.parent.t, .int .i64 sda.x.parent.w, .string sda.x.name, .bool sda.x.dir, .bool sda.x.gone, .slice A104 n105 c106, .int .i64 sda.x.by_.t, .int .i64 sda.x.by_.w, .bool sda.hangs, .string sda.path]) (cs' := [.int .i64 sda.x.node.t, .int .i64 sda.x.node.w, .int .i64 sda.x.parent.t, .int .i64 sda.x.parent.w, .string sda.x.name, .bool sda.x.dir, .bool sda.x.gone, .slice A104 n105 c106, .int .i64 sda.x.by_.t, .int .i64 sda.x.by_.w, .bool sda.hangs, .string sda.path]) (by kernel_rfl) (by kernel_rfl) rfl Ty.sz123 h158 rfl (Nat.le_of_ble_eq_true rfl) rfl ?_)
       intro w159 h160 c161
       have M162 := Mod.trans' M154 c161 (fun i hi => by injection hi with hi; rw [← hi]; exact g122)
       have M163 := Mod.trans' M155 c161 (fun i hi => by injection hi with hi; rw [← hi]; exact g123)
       have M164 := Mod.trans' M156 c161 (fun i hi => by injection hi with hi; rw [← hi]; exact g124)
       have M165 := Mod.trans' M157 c161 (fun i hi => by injection hi with hi; rw [← hi]; exact g125)
       refine hx (Y := [b130, b115]) (Mod.of_chg c161 (by simp)) (fun y hy => .inl hy) ?_
       have h166 := (chg_ob c161 (Nat.ne_of_gt l137) (up_ob u151 h133))
       refine h1 (i := 9) (fuel := 0) (by kernel_rfl) rfl (ss rfl (k := 0) (v := .agg #[.int .i64 sdb.x.node.t, .int .i64 sdb.x.node.w, .int .i64 sdb.x.parent.t, .int .i64 sdb.x.parent.w, .string sdb.x.name, .bool sdb.x.dir, .bool sdb.x.gone, .slice A147 n148 c149, .int .i64 sdb.x.by_.t, .int .i64 sdb.x.by_.w, .bool sdb.hangs, .string sdb.path]) (vs := [.int .i64 sdb.x.node.t, .int .i64 sdb.x.node.w, .int .i64 sdb.x.parent.t, .int .i64 sdb.x.parent.w, .string sdb.x.name, .bool sdb.x.dir, .bool sdb.x.gone, .slice A147 n148 c149, .int .i64 sdb.x.by_.t, .int .i64 sdb.x.by_.w, .bool sdb.hangs, .string sdb.path]) (cs' := [.int .i64 sdb.x.node.t, .int .i64 sdb.x.node.w, .int .i64 sdb.x.parent.t, .int .i64 sdb.x.parent.w, .string sdb.x.name, .bool sdb.x.dir, .bool sdb.x.gone, .slice A147 n148 c149, .int .i64 sdb.x.by_.t, .int .i64 sdb.x.by_.w, .bool sdb.hangs, .string sdb.path]) (by kernel_rfl) (by kernel_rfl) rfl Ty.sz123 h166 rfl (Nat.le_of_ble_eq_true rfl) rfl ?_)
       intro w167 h168 c169
       have M170 := Mod.trans' M162 c169 (fun i hi => by injection hi with hi; rw [← hi]; exact g138)
       have M171 := Mod.trans' M163 c169 (fun i hi => by injection hi with hi; rw [← hi]; exact g139)
       have M172 := Mod.trans' M164 c169 (fun i hi => by injection hi with hi; rw [← hi]; exact g140)
       have M173 := Mod.trans' M165 c169 (fun i hi => by injection hi with hi; rw [← hi]; exact g141)
       refine hx (Y := [b130, b115]) (Mod.of_chg c169 (by simp)) (fun y hy => .inl hy) ?_
       refine hend (by kernel_rfl) ?_
       refine then_n ?_
       have h174 := (chg_ob c169 (Nat.ne_of_lt l137) h160)
       have h175 := (Dat.up h107 (up_chgn (up_chgn (up_up (up_up u119 u134) u151) c161 (by rw [e117]; exact Nat.le_refl _)) c169 (by rw [e132]; exact u119.size)))
       have h176 := (Dat.chg (Dat.chg h150 c161 ⟨(Nat.le_trans hB g122), NotU8.of h158 (by decide)⟩) c169 ⟨(Nat.le_trans hB g138), NotU8.of h166 (by decide)⟩)
       exact ⟨b115, b130, A104, n105, c106, A147, n148, c149, .func (.func 133) #[] #[.pointer (some ⟨ka1, 0, none⟩), .pointer (some ⟨ka2, 0, none⟩), .pointer (some ⟨ka3, 0, none⟩)], .agg #[.int .i64 y71.t, .int .i64 y71.w], .agg #[.int .i64 sda.x.node.t, .int .i64 sda.x.node.w, .int .i64 sda.x.parent.t, .int .i64 sda.x.parent.w, .string sda.x.name, .bool sda.x.dir, .bool sda.x.gone, .slice A104 n105 c106, .int .i64 sda.x.by_.t, .int .i64 sda.x.by_.w, .bool sda.hangs, .string sda.path], .func (.func 133) #[] #[.pointer (some ⟨kb1, 0, none⟩), .pointer (some ⟨kb2, 0, none⟩), .pointer (some ⟨kb3, 0, none⟩)], .agg #[.int .i64 y71.t, .int .i64 y71.w], .agg #[.int .i64 sdb.x.node.t, .int .i64 sdb.x.node.w, .int .i64 sdb.x.parent.t, .int .i64 sdb.x.parent.w, .string sdb.x.name, .bool sdb.x.dir, .bool sdb.x.gone, .slice A147 n148 c149, .int .i64 sdb.x.by_.t, .int .i64 sdb.x.by_.w, .bool sdb.hangs, .string sdb.path], (by kernel_rfl), M173, h174, h168, h175, h176⟩
     ·
      refine sn rfl (cs := #[.int .i64 0, .int .i64 0, .int .i64 0, .int .i64 0, .string (⟨#[]⟩), .bool false, .bool false, .slice none 0 0, .int .i64 0, .int .i64 0, .bool false, .string (⟨#[]⟩)]) (T := 123) (V := fun b => .pointer (some ⟨b, 0, none⟩)) (r_alloc Ty.zv123 rfl) ?_
      intro b115 w116 e117 h118 u119
      have h120 := md_ob M114 nin0 h84
      have l121 : b72 < b115 := by rw [e117]; exact lt_ob h120
      have g122 : w.heap.size ≤ b115 := by rw [e117]; exact M111.size
      have g123 : w23.heap.size ≤ b115 := by rw [e117]; exact M112.size
      have g124 : w48.heap.size ≤ b115 := by rw [e117]; exact M113.size
      have g125 : w83.heap.size ≤ b115 := by rw [e117]; exact M114.size
      have M126 := Mod.trans M111 (Mod.of_up u119)
      have M127 := Mod.trans M112 (Mod.of_up u119)
      have M128 := Mod.trans M113 (Mod.of_up u119)
      have M129 := Mod.trans M114 (Mod.of_up u119)
      refine hx (Y := [b115]) (Mod.of_up u119) (ynew e117) ?_
      refine h2 (i := 5) (j := 6) (fuel := 3) (by kernel_rfl) rfl rfl ?_ ?_
      ·
       have h136 := (Looks.up h61 (Mod.up M128))
       have h137 := (OT.up hb (Mod.up M126))
       refine sc rfl (r_callv (caps := [.pointer (some ⟨kb1, 0, none⟩), .pointer (some ⟨kb2, 0, none⟩), .pointer (some ⟨kb3, 0, none⟩)]) (all := [.agg #[.int .i64 y71.t, .int .i64 y71.w], .pointer (some ⟨kb1, 0, none⟩), .pointer (some ⟨kb2, 0, none⟩), .pointer (some ⟨kb3, 0, none⟩)]) En.f133 (by kernel_rfl) (by kernel_rfl)) (look1_at h136 h137 (Nat.le_trans hB M126.size) hFb (TabIs.up htab (Mod.up M126)) y71.t y71.w hmz hsb) ?_
       rintro e w130 ⟨A131, n132, c133, rfl, h134, u135⟩
       refine ⟨.agg #[.int .i64 sdb.x.node.t, .int .i64 sdb.x.node.w, .int .i64 sdb.x.parent.t, .int .i64 sdb.x.parent.w, .string sdb.x.name, .bool sdb.x.dir, .bool sdb.x.gone, .slice A131 n132 c133, .int .i64 sdb.x.by_.t, .int .i64 sdb.x.by_.w, .bool sdb.hangs, .string sdb.path], rfl, ?_⟩
       have M138 := Mod.trans M126 (Mod.of_up u135)
       have M139 := Mod.trans M127 (Mod.of_up u135)
       have M140 := Mod.trans M128 (Mod.of_up u135)
       have M141 := Mod.trans M129 (Mod.of_up u135)
       refine hx (Y := [b115]) (Mod.of_up u135) (fun y hy => .inl hy) ?_
       refine h1 (i := 6) (fuel := 2) (by kernel_rfl) rfl (sn rfl (cs := #[.int .i64 0, .int .i64 0, .int .i64 0, .int .i64 0, .string (⟨#[]⟩), .bool false, .bool false, .slice none 0 0, .int .i64 0, .int .i64 0, .bool false, .string (⟨#[]⟩)]) (T := 123) (V := fun b => .pointer (some ⟨b, 0, none⟩)) (r_alloc Ty.zv123 rfl) ?_)
       intro b142 w143 e144 h145 u146
       have h147 := md_ob M141 nin0 h84
       have l148 : b72 < b142 := by rw [e144]; exact lt_ob h147
       have h149 := (up_ob u135 h118)
       have l150 : b115 < b142 := by rw [e144]; exact lt_ob h149
       have g151 : w.heap.size ≤ b142 := by rw [e144]; exact M138.size
       have g152 : w23.heap.size ≤ b142 := by rw [e144]; exact M139.size
       have g153 : w48.heap.size ≤ b142 := by rw [e144]; exact M140.size
       have g154 : w83.heap.size ≤ b142 := by rw [e144]; exact M141.size
       have M155 := Mod.trans M138 (Mod.of_up u146)
       have M156 := Mod.trans M139 (Mod.of_up u146)
       have M157 := Mod.trans M140 (Mod.of_up u146)
       have M158 := Mod.trans M141 (Mod.of_up u146)
       refine hx (Y := [b142, b115]) (Mod.of_up u146) (ynew e144) ?_
       refine h1 (i := 8) (fuel := 1) (by kernel_rfl) rfl (ss rfl (k := 0) (v := .agg #[.int .i64 sda.x.node.t, .int .i64 sda.x.node.w, .int .i64 sda.x.parent.t, .int .i64 sda.x.parent.w, .string sda.x.name, .bool sda.x.dir, .bool sda.x.gone, .slice A104 n105 c106, .int .i64 sda.x.by_.t, .int .i64 sda.x.by_.w, .bool sda.hangs, .string sda.path]) (vs := [.int .i64 sda.x.node.t, .int .i64 sda.x.node.w, .int .i64 sda.x.parent.t, .int .i64 sda.x.parent.w, .string sda.x.name, .bool sda.x.dir, .bool sda.x.gone, .slice A104 n105 c106, .int .i64 sda.x.by_.t, .int .i64 sda.x.by_.w, .bool sda.hangs, .string sda.path]) (cs' := [.int .i64 sda.x.node.t, .int .i64 sda.x.node.w, .int .i64 sda.x.parent.t, .int .i64 sda.x.parent.w, .string sda.x.name, .bool sda.x.dir, .bool sda.x.gone, .slice A104 n105 c106, .int .i64 sda.x.by_.t, .int .i64 sda.x.by_.w, .bool sda.hangs, .string sda.path]) (by kernel_rfl) (by kernel_rfl) rfl Ty.sz123 h145 rfl (Nat.le_of_ble_eq_true rfl) rfl ?_)
       intro w159 h160 c161
       have M162 := Mod.trans' M155 c161 (fun i hi => by injection hi with hi; rw [← hi]; exact g151)
       have M163 := Mod.trans' M156 c161 (fun i hi => by injection hi with hi; rw [← hi]; exact g152)
       have M164 := Mod.trans' M157 c161 (fun i hi => by injection hi with hi; rw [← hi]; exact g153)
       have M165 := Mod.trans' M158 c161 (fun i hi => by injection hi with hi; rw [← hi]; exact g154)
       refine hx (Y := [b142, b115]) (Mod.of_chg c161 (by simp)) (fun y hy => .inl hy) ?_
       have h166 := (chg_ob c161 (Nat.ne_of_lt l150) (up_ob u146 h149))
       refine h1 (i := 9) (fuel := 0) (by kernel_rfl) rfl (ss rfl (k := 0) (v := .agg #[.int .i64 sdb.x.node.t, .int .i64 sdb.x.node.w, .int .i64 sdb.x.parent.t, .int .i64 sdb.x.parent.w, .string sdb.x.name, .bool sdb.x.dir, .bool sdb.x.gone, .slice A131 n132 c133, .int .i64 sdb.x.by_.t, .int .i64 sdb.x.by_.w, .bool sdb.hangs, .string sdb.path]) (vs := [.int .i64 sdb.x.node.t, .int .i64 sdb.x.node.w, .int .i64 sdb.x.parent.t, .int .i64 sdb.x.parent.w, .string sdb.x.name, .bool sdb.x.dir, .bool sdb.x.gone, .slice A131 n132 c133, .int .i64 sdb.x.by_.t, .int .i64 sdb.x.by_.w, .bool sdb.hangs, .string sdb.path]) (cs' := [.int .i64 sdb.x.node.t, .int .i64 sdb.x.node.w, .int .i64 sdb.x.parent.t, .int .i64 sdb.x.parent.w, .string sdb.x.name, .bool sdb.x.dir, .bool sdb.x.gone, .slice A131 n132 c133, .int .i64 sdb.x.by_.t, .int .i64 sdb.x.by_.w, .bool sdb.hangs, .string sdb.path]) (by kernel_rfl) (by kernel_rfl) rfl Ty.sz123 h166 rfl (Nat.le_of_ble_eq_true rfl) rfl ?_)
       intro w167 h168 c169
       have M170 := Mod.trans' M162 c169 (fun i hi => by injection hi with hi; rw [← hi]; exact g122)
       have M171 := Mod.trans' M163 c169 (fun i hi => by injection hi with hi; rw [← hi]; exact g123)
       have M172 := Mod.trans' M164 c169 (fun i hi => by injection hi with hi; rw [← hi]; exact g124)
       have M173 := Mod.trans' M165 c169 (fun i hi => by injection hi with hi; rw [← hi]; exact g125)
       refine hx (Y := [b142, b115]) (Mod.of_chg c169 (by simp)) (fun y hy => .inl hy) ?_
       refine hend (by kernel_rfl) ?_
       refine then_n ?_
       have h174 := (chg_ob c169 (Nat.ne_of_gt l150) h160)
       have h175 := (Dat.up h107 (up_chgn (up_chgn (up_up (up_up u119 u135) u146) c161 (by rw [e144]; exact (up_up u119 u135).size)) c169 (by rw [e117]; exact Nat.le_refl _)))
       have h176 := (Dat.chg (Dat.up h134 (up_chgn u146 c161 (by rw [e144]; exact Nat.le_refl _))) c169 ⟨(Nat.le_trans hB g122), NotU8.of h166 (by decide)⟩)
       exact ⟨b142, b115, A104, n105, c106, A131, n132, c133, .func (.func 133) #[] #[.pointer (some ⟨ka1, 0, none⟩), .pointer (some ⟨ka2, 0, none⟩), .pointer (some ⟨ka3, 0, none⟩)], .agg #[.int .i64 y71.t, .int .i64 y71.w], .agg #[.int .i64 sda.x.node.t, .int .i64 sda.x.node.w, .int .i64 sda.x.parent.t, .int .i64 sda.x.parent.w, .string sda.x.name, .bool sda.x.dir, .bool sda.x.gone, .slice A104 n105 c106, .int .i64 sda.x.by_.t, .int .i64 sda.x.by_.w, .bool sda.hangs, .string sda.path], .func (.func 133) #[] #[.pointer (some ⟨kb1, 0, none⟩), .pointer (some ⟨kb2, 0, none⟩), .pointer (some ⟨kb3, 0, none⟩)], .agg #[.int .i64 y71.t, .int .i64 y71.w], .agg #[.int .i64 sdb.x.node.t, .int .i64 sdb.x.node.w, .int .i64 sdb.x.parent.t, .int .i64 sdb.x.parent.w, .string sdb.x.name, .bool sdb.x.dir, .bool sdb.x.gone, .slice A131 n132 c133, .int .i64 sdb.x.by_.t, .int .i64 sdb.x.by_.w, .bool sdb.hangs, .string sdb.path], (by kernel_rfl), M173, h174, h168, h175, h176⟩
      ·
       refine sn rfl (cs := #[.int .i64 0, .int .i64 0, .int .i64 0, .int .i64 0, .string (⟨#[]⟩), .bool false, .bool false, .slice none 0 0, .int .i64 0, .int .i64 0, .bool false, .string (⟨#[]⟩)]) (T := 123) (V := fun b => .pointer (some ⟨b, 0, none⟩)) (r_alloc Ty.zv123 rfl) ?_
       intro b130 w131 e132 h133 u134
       have h135 := md_ob M129 nin0 h84
       have l136 : b72 < b130 := by rw [e132]; exact lt_ob h135
       have l137 : b115 < b130 := by rw [e132]; exact lt_ob h118
       have g138 : w.heap.size ≤ b130 := by rw [e132]; exact M126.size
       have g139 : w23.heap.size ≤ b130 := by rw [e132]; exact M127.size
       have g140 : w48.heap.size ≤ b130 := by rw [e132]; exact M128.size
       have g141 : w83.heap.size ≤ b130 := by rw [e132]; exact M129.size
       have M142 := Mod.trans M126 (Mod.of_up u134)
       have M143 := Mod.trans M127 (Mod.of_up u134)
       have M144 := Mod.trans M128 (Mod.of_up u134)
       have M145 := Mod.trans M129 (Mod.of_up u134)
       refine hx (Y := [b130, b115]) (Mod.of_up u134) (ynew e132) ?_
       have h152 := (Looks.up h61 (Mod.up M144))
       have h153 := (OT.up hb (Mod.up M142))
       refine h1 (i := 5) (fuel := 2) (by kernel_rfl) rfl (sc rfl (r_callv (caps := [.pointer (some ⟨kb1, 0, none⟩), .pointer (some ⟨kb2, 0, none⟩), .pointer (some ⟨kb3, 0, none⟩)]) (all := [.agg #[.int .i64 y71.t, .int .i64 y71.w], .pointer (some ⟨kb1, 0, none⟩), .pointer (some ⟨kb2, 0, none⟩), .pointer (some ⟨kb3, 0, none⟩)]) En.f133 (by kernel_rfl) (by kernel_rfl)) (look1_at h152 h153 (Nat.le_trans hB M142.size) hFb (TabIs.up htab (Mod.up M142)) y71.t y71.w hmz hsb) ?_)
       rintro e w146 ⟨A147, n148, c149, rfl, h150, u151⟩
       refine ⟨.agg #[.int .i64 sdb.x.node.t, .int .i64 sdb.x.node.w, .int .i64 sdb.x.parent.t, .int .i64 sdb.x.parent.w, .string sdb.x.name, .bool sdb.x.dir, .bool sdb.x.gone, .slice A147 n148 c149, .int .i64 sdb.x.by_.t, .int .i64 sdb.x.by_.w, .bool sdb.hangs, .string sdb.path], rfl, ?_⟩
       have M154 := Mod.trans M142 (Mod.of_up u151)
       have M155 := Mod.trans M143 (Mod.of_up u151)
       have M156 := Mod.trans M144 (Mod.of_up u151)
       have M157 := Mod.trans M145 (Mod.of_up u151)
       refine hx (Y := [b130, b115]) (Mod.of_up u151) (fun y hy => .inl hy) ?_
       have h158 := (up_ob u151 h133)
       refine h1 (i := 8) (fuel := 1) (by kernel_rfl) rfl (ss rfl (k := 0) (v := .agg #[.int .i64 sda.x.node.t, .int .i64 sda.x.node.w, .int .i64 sda.x.parent.t, .int .i64 sda.x.parent.w, .string sda.x.name, .bool sda.x.dir, .bool sda.x.gone, .slice A104 n105 c106, .int .i64 sda.x.by_.t, .int .i64 sda.x.by_.w, .bool sda.hangs, .string sda.path]) (vs := [.int .i64 sda.x.node.t, .int .i64 sda.x.node.w, .int .i64 sda.x.parent.t, .int .i64 sda.x.parent.w, .string sda.x.name, .bool sda.x.dir, .bool sda.x.gone, .slice A104 n105 c106, .int .i64 sda.x.by_.t, .int .i64 sda.x.by_.w, .bool sda.hangs, .string sda.path]) (cs' := [.int .i64 sda.x.node.t, .int .i64 sda.x.node.w, .int .i64 sda.x.parent.t, .int .i64 sda.x.parent.w, .string sda.x.name, .bool sda.x.dir, .bool sda.x.gone, .slice A104 n105 c106, .int .i64 sda.x.by_.t, .int .i64 sda.x.by_.w, .bool sda.hangs, .string sda.path]) (by kernel_rfl) (by kernel_rfl) rfl Ty.sz123 h158 rfl (Nat.le_of_ble_eq_true rfl) rfl ?_)
       intro w159 h160 c161
       have M162 := Mod.trans' M154 c161 (fun i hi => by injection hi with hi; rw [← hi]; exact g138)
       have M163 := Mod.trans' M155 c161 (fun i hi => by injection hi with hi; rw [← hi]; exact g139)
       have M164 := Mod.trans' M156 c161 (fun i hi => by injection hi with hi; rw [← hi]; exact g140)
       have M165 := Mod.trans' M157 c161 (fun i hi => by injection hi with hi; rw [← hi]; exact g141)
       refine hx (Y := [b130, b115]) (Mod.of_chg c161 (by simp)) (fun y hy => .inl hy) ?_
       have h166 := (chg_ob c161 (Nat.ne_of_lt l137) (up_ob u151 (up_ob u134 h118)))
       refine h1 (i := 9) (fuel := 0) (by kernel_rfl) rfl (ss rfl (k := 0) (v := .agg #[.int .i64 sdb.x.node.t, .int .i64 sdb.x.node.w, .int .i64 sdb.x.parent.t, .int .i64 sdb.x.parent.w, .string sdb.x.name, .bool sdb.x.dir, .bool sdb.x.gone, .slice A147 n148 c149, .int .i64 sdb.x.by_.t, .int .i64 sdb.x.by_.w, .bool sdb.hangs, .string sdb.path]) (vs := [.int .i64 sdb.x.node.t, .int .i64 sdb.x.node.w, .int .i64 sdb.x.parent.t, .int .i64 sdb.x.parent.w, .string sdb.x.name, .bool sdb.x.dir, .bool sdb.x.gone, .slice A147 n148 c149, .int .i64 sdb.x.by_.t, .int .i64 sdb.x.by_.w, .bool sdb.hangs, .string sdb.path]) (cs' := [.int .i64 sdb.x.node.t, .int .i64 sdb.x.node.w, .int .i64 sdb.x.parent.t, .int .i64 sdb.x.parent.w, .string sdb.x.name, .bool sdb.x.dir, .bool sdb.x.gone, .slice A147 n148 c149, .int .i64 sdb.x.by_.t, .int .i64 sdb.x.by_.w, .bool sdb.hangs, .string sdb.path]) (by kernel_rfl) (by kernel_rfl) rfl Ty.sz123 h166 rfl (Nat.le_of_ble_eq_true rfl) rfl ?_)
       intro w167 h168 c169
       have M170 := Mod.trans' M162 c169 (fun i hi => by injection hi with hi; rw [← hi]; exact g122)
       have M171 := Mod.trans' M163 c169 (fun i hi => by injection hi with hi; rw [← hi]; exact g123)
       have M172 := Mod.trans' M164 c169 (fun i hi => by injection hi with hi; rw [← hi]; exact g124)
       have M173 := Mod.trans' M165 c169 (fun i hi => by injection hi with hi; rw [← hi]; exact g125)
       refine hx (Y := [b130, b115]) (Mod.of_chg c169 (by simp)) (fun y hy => .inl hy) ?_
       refine hend (by kernel_rfl) ?_
       refine then_n ?_
       have h174 := (chg_ob c169 (Nat.ne_of_gt l137) h160)
       have h175 := (Dat.up h107 (up_chgn (up_chgn (up_up (up_up u119 u134) u151) c161 (by rw [e132]; exact u119.size)) c169 (by rw [e117]; exact Nat.le_refl _)))
       have h176 := (Dat.chg (Dat.chg h150 c161 ⟨(Nat.le_trans hB g138), NotU8.of h158 (by decide)⟩) c169 ⟨(Nat.le_trans hB g122), NotU8.of h166 (by decide)⟩)
       exact ⟨b130, b115, A104, n105, c106, A147, n148, c149, .func (.func 133) #[] #[.pointer (some ⟨ka1, 0, none⟩), .pointer (some ⟨ka2, 0, none⟩), .pointer (some ⟨ka3, 0, none⟩)], .agg #[.int .i64 y71.t, .int .i64 y71.w], .agg #[.int .i64 sda.x.node.t, .int .i64 sda.x.node.w, .int .i64 sda.x.parent.t, .int .i64 sda.x.parent.w, .string sda.x.name, .bool sda.x.dir, .bool sda.x.gone, .slice A104 n105 c106, .int .i64 sda.x.by_.t, .int .i64 sda.x.by_.w, .bool sda.hangs, .string sda.path], .func (.func 133) #[] #[.pointer (some ⟨kb1, 0, none⟩), .pointer (some ⟨kb2, 0, none⟩), .pointer (some ⟨kb3, 0, none⟩)], .agg #[.int .i64 y71.t, .int .i64 y71.w], .agg #[.int .i64 sdb.x.node.t, .int .i64 sdb.x.node.w, .int .i64 sdb.x.parent.t, .int .i64 sdb.x.parent.w, .string sdb.x.name, .bool sdb.x.dir, .bool sdb.x.gone, .slice A147 n148 c149, .int .i64 sdb.x.by_.t, .int .i64 sdb.x.by_.w, .bool sdb.hangs, .string sdb.path], (by kernel_rfl), M173, h174, h168, h175, h176⟩
    ·
     refine sn rfl (cs := #[.int .i64 0, .int .i64 0, .int .i64 0, .int .i64 0, .string (⟨#[]⟩), .bool false, .bool false, .slice none 0 0, .int .i64 0, .int .i64 0, .bool false, .string (⟨#[]⟩)]) (T := 123) (V := fun b => .pointer (some ⟨b, 0, none⟩)) (r_alloc Ty.zv123 rfl) ?_
     intro b103 w104 e105 h106 u107
     have l108 : b72 < b103 := by rw [e105]; exact lt_ob h102
     have g109 : w.heap.size ≤ b103 := by rw [e105]; exact M98.size
     have g110 : w23.heap.size ≤ b103 := by rw [e105]; exact M99.size
     have g111 : w48.heap.size ≤ b103 := by rw [e105]; exact M100.size
     have g112 : w83.heap.size ≤ b103 := by rw [e105]; exact M101.size
     have M113 := Mod.trans M98 (Mod.of_up u107)
     have M114 := Mod.trans M99 (Mod.of_up u107)
     have M115 := Mod.trans M100 (Mod.of_up u107)
     have M116 := Mod.trans M101 (Mod.of_up u107)
     refine hx (Y := [b103]) (Mod.of_up u107) (ynew e105) ?_
     refine h2 (i := 2) (j := 7) (fuel := 4) (by kernel_rfl) rfl rfl ?_ ?_
     ·
      have h123 := (Looks.up h60 (Mod.up M115))
      have h124 := (OT.up ha (Mod.up M113))
      refine sc rfl (r_callv (caps := [.pointer (some ⟨ka1, 0, none⟩), .pointer (some ⟨ka2, 0, none⟩), .pointer (some ⟨ka3, 0, none⟩)]) (all := [.agg #[.int .i64 y71.t, .int .i64 y71.w], .pointer (some ⟨ka1, 0, none⟩), .pointer (some ⟨ka2, 0, none⟩), .pointer (some ⟨ka3, 0, none⟩)]) En.f133 (by kernel_rfl) (by kernel_rfl)) (look1_at h123 h124 (Nat.le_trans hB M113.size) hFa (TabIs.up htab (Mod.up M113)) y71.t y71.w hmz hsa) ?_
      rintro e w117 ⟨A118, n119, c120, rfl, h121, u122⟩
      refine ⟨.agg #[.int .i64 sda.x.node.t, .int .i64 sda.x.node.w, .int .i64 sda.x.parent.t, .int .i64 sda.x.parent.w, .string sda.x.name, .bool sda.x.dir, .bool sda.x.gone, .slice A118 n119 c120, .int .i64 sda.x.by_.t, .int .i64 sda.x.by_.w, .bool sda.hangs, .string sda.path], rfl, ?_⟩
      have M125 := Mod.trans M113 (Mod.of_up u122)
      have M126 := Mod.trans M114 (Mod.of_up u122)
      have M127 := Mod.trans M115 (Mod.of_up u122)
      have M128 := Mod.trans M116 (Mod.of_up u122)
      refine hx (Y := [b103]) (Mod.of_up u122) (fun y hy => .inl hy) ?_
      refine h2 (i := 5) (j := 7) (fuel := 3) (by kernel_rfl) rfl rfl ?_ ?_
      ·
       have h135 := (Looks.up h61 (Mod.up M127))
       have h136 := (OT.up hb (Mod.up M125))
       refine sc rfl (r_callv (caps := [.pointer (some ⟨kb1, 0, none⟩), .pointer (some ⟨kb2, 0, none⟩), .pointer (some ⟨kb3, 0, none⟩)]) (all := [.agg #[.int .i64 y71.t, .int .i64 y71.w], .pointer (some ⟨kb1, 0, none⟩), .pointer (some ⟨kb2, 0, none⟩), .pointer (some ⟨kb3, 0, none⟩)]) En.f133 (by kernel_rfl) (by kernel_rfl)) (look1_at h135 h136 (Nat.le_trans hB M125.size) hFb (TabIs.up htab (Mod.up M125)) y71.t y71.w hmz hsb) ?_
       rintro e w129 ⟨A130, n131, c132, rfl, h133, u134⟩
       refine ⟨.agg #[.int .i64 sdb.x.node.t, .int .i64 sdb.x.node.w, .int .i64 sdb.x.parent.t, .int .i64 sdb.x.parent.w, .string sdb.x.name, .bool sdb.x.dir, .bool sdb.x.gone, .slice A130 n131 c132, .int .i64 sdb.x.by_.t, .int .i64 sdb.x.by_.w, .bool sdb.hangs, .string sdb.path], rfl, ?_⟩
       have M137 := Mod.trans M125 (Mod.of_up u134)
       have M138 := Mod.trans M126 (Mod.of_up u134)
       have M139 := Mod.trans M127 (Mod.of_up u134)
       have M140 := Mod.trans M128 (Mod.of_up u134)
       refine hx (Y := [b103]) (Mod.of_up u134) (fun y hy => .inl hy) ?_
       refine h1 (i := 7) (fuel := 2) (by kernel_rfl) rfl (sn rfl (cs := #[.int .i64 0, .int .i64 0, .int .i64 0, .int .i64 0, .string (⟨#[]⟩), .bool false, .bool false, .slice none 0 0, .int .i64 0, .int .i64 0, .bool false, .string (⟨#[]⟩)]) (T := 123) (V := fun b => .pointer (some ⟨b, 0, none⟩)) (r_alloc Ty.zv123 rfl) ?_)
       intro b141 w142 e143 h144 u145
       have h146 := md_ob M140 nin0 h84
       have l147 : b72 < b141 := by rw [e143]; exact lt_ob h146
       have h148 := (up_ob u134 (up_ob u122 h106))
       have l149 : b103 < b141 := by rw [e143]; exact lt_ob h148
       have g150 : w.heap.size ≤ b141 := by rw [e143]; exact M137.size
       have g151 : w23.heap.size ≤ b141 := by rw [e143]; exact M138.size
       have g152 : w48.heap.size ≤ b141 := by rw [e143]; exact M139.size
       have g153 : w83.heap.size ≤ b141 := by rw [e143]; exact M140.size
       have M154 := Mod.trans M137 (Mod.of_up u145)
       have M155 := Mod.trans M138 (Mod.of_up u145)
       have M156 := Mod.trans M139 (Mod.of_up u145)
       have M157 := Mod.trans M140 (Mod.of_up u145)
       refine hx (Y := [b141, b103]) (Mod.of_up u145) (ynew e143) ?_
       have h158 := (up_ob u145 h148)
       refine h1 (i := 8) (fuel := 1) (by kernel_rfl) rfl (ss rfl (k := 0) (v := .agg #[.int .i64 sda.x.node.t, .int .i64 sda.x.node.w, .int .i64 sda.x.parent.t, .int .i64 sda.x.parent.w, .string sda.x.name, .bool sda.x.dir, .bool sda.x.gone, .slice A118 n119 c120, .int .i64 sda.x.by_.t, .int .i64 sda.x.by_.w, .bool sda.hangs, .string sda.path]) (vs := [.int .i64 sda.x.node.t, .int .i64 sda.x.node.w, .int .i64 sda.x.parent.t, .int .i64 sda.x.parent.w, .string sda.x.name, .bool sda.x.dir, .bool sda.x.gone, .slice A118 n119 c120, .int .i64 sda.x.by_.t, .int .i64 sda.x.by_.w, .bool sda.hangs, .string sda.path]) (cs' := [.int .i64 sda.x.node.t, .int .i64 sda.x.node.w, .int .i64 sda.x.parent.t, .int .i64 sda.x.parent.w, .string sda.x.name, .bool sda.x.dir, .bool sda.x.gone, .slice A118 n119 c120, .int .i64 sda.x.by_.t, .int .i64 sda.x.by_.w, .bool sda.hangs, .string sda.path]) (by kernel_rfl) (by kernel_rfl) rfl Ty.sz123 h158 rfl (Nat.le_of_ble_eq_true rfl) rfl ?_)
       intro w159 h160 c161
       have M162 := Mod.trans' M154 c161 (fun i hi => by injection hi with hi; rw [← hi]; exact g109)
       have M163 := Mod.trans' M155 c161 (fun i hi => by injection hi with hi; rw [← hi]; exact g110)
       have M164 := Mod.trans' M156 c161 (fun i hi => by injection hi with hi; rw [← hi]; exact g111)
       have M165 := Mod.trans' M157 c161 (fun i hi => by injection hi with hi; rw [← hi]; exact g112)
       refine hx (Y := [b141, b103]) (Mod.of_chg c161 (by simp)) (fun y hy => .inl hy) ?_
       have h166 := (chg_ob c161 (Nat.ne_of_gt l149) h144)
       refine h1 (i := 9) (fuel := 0) (by kernel_rfl) rfl (ss rfl (k := 0) (v := .agg #[.int .i64 sdb.x.node.t, .int .i64 sdb.x.node.w, .int .i64 sdb.x.parent.t, .int .i64 sdb.x.parent.w, .string sdb.x.name, .bool sdb.x.dir, .bool sdb.x.gone, .slice A130 n131 c132, .int .i64 sdb.x.by_.t, .int .i64 sdb.x.by_.w, .bool sdb.hangs, .string sdb.path]) (vs := [.int .i64 sdb.x.node.t, .int .i64 sdb.x.node.w, .int .i64 sdb.x.parent.t, .int .i64 sdb.x.parent.w, .string sdb.x.name, .bool sdb.x.dir, .bool sdb.x.gone, .slice A130 n131 c132, .int .i64 sdb.x.by_.t, .int .i64 sdb.x.by_.w, .bool sdb.hangs, .string sdb.path]) (cs' := [.int .i64 sdb.x.node.t, .int .i64 sdb.x.node.w, .int .i64 sdb.x.parent.t, .int .i64 sdb.x.parent.w, .string sdb.x.name, .bool sdb.x.dir, .bool sdb.x.gone, .slice A130 n131 c132, .int .i64 sdb.x.by_.t, .int .i64 sdb.x.by_.w, .bool sdb.hangs, .string sdb.path]) (by kernel_rfl) (by kernel_rfl) rfl Ty.sz123 h166 rfl (Nat.le_of_ble_eq_true rfl) rfl ?_)
       intro w167 h168 c169
       have M170 := Mod.trans' M162 c169 (fun i hi => by injection hi with hi; rw [← hi]; exact g150)
       have M171 := Mod.trans' M163 c169 (fun i hi => by injection hi with hi; rw [← hi]; exact g151)
       have M172 := Mod.trans' M164 c169 (fun i hi => by injection hi with hi; rw [← hi]; exact g152)
       have M173 := Mod.trans' M165 c169 (fun i hi => by injection hi with hi; rw [← hi]; exact g153)
       refine hx (Y := [b141, b103]) (Mod.of_chg c169 (by simp)) (fun y hy => .inl hy) ?_
       refine hend (by kernel_rfl) ?_
       refine then_n ?_
       have h174 := (chg_ob c169 (Nat.ne_of_lt l149) h160)
       have h175 := (Dat.chg (Dat.chg (Dat.up h121 (up_up u134 u145)) c161 ⟨(Nat.le_trans hB g109), NotU8.of h158 (by decide)⟩) c169 ⟨(Nat.le_trans hB g150), NotU8.of h166 (by decide)⟩)
       have h176 := (Dat.chg (Dat.chg (Dat.up h133 u145) c161 ⟨(Nat.le_trans hB g109), NotU8.of h158 (by decide)⟩) c169 ⟨(Nat.le_trans hB g150), NotU8.of h166 (by decide)⟩)
       exact ⟨b103, b141, A118, n119, c120, A130, n131, c132, .func (.func 133) #[] #[.pointer (some ⟨ka1, 0, none⟩), .pointer (some ⟨ka2, 0, none⟩), .pointer (some ⟨ka3, 0, none⟩)], .agg #[.int .i64 y71.t, .int .i64 y71.w], .agg #[.int .i64 sda.x.node.t, .int .i64 sda.x.node.w, .int .i64 sda.x.parent.t, .int .i64 sda.x.parent.w, .string sda.x.name, .bool sda.x.dir, .bool sda.x.gone, .slice A118 n119 c120, .int .i64 sda.x.by_.t, .int .i64 sda.x.by_.w, .bool sda.hangs, .string sda.path], .func (.func 133) #[] #[.pointer (some ⟨kb1, 0, none⟩), .pointer (some ⟨kb2, 0, none⟩), .pointer (some ⟨kb3, 0, none⟩)], .agg #[.int .i64 y71.t, .int .i64 y71.w], .agg #[.int .i64 sdb.x.node.t, .int .i64 sdb.x.node.w, .int .i64 sdb.x.parent.t, .int .i64 sdb.x.parent.w, .string sdb.x.name, .bool sdb.x.dir, .bool sdb.x.gone, .slice A130 n131 c132, .int .i64 sdb.x.by_.t, .int .i64 sdb.x.by_.w, .bool sdb.hangs, .string sdb.path], (by kernel_rfl), M173, h174, h168, h175, h176⟩
      ·
       refine sn rfl (cs := #[.int .i64 0, .int .i64 0, .int .i64 0, .int .i64 0, .string (⟨#[]⟩), .bool false, .bool false, .slice none 0 0, .int .i64 0, .int .i64 0, .bool false, .string (⟨#[]⟩)]) (T := 123) (V := fun b => .pointer (some ⟨b, 0, none⟩)) (r_alloc Ty.zv123 rfl) ?_
       intro b129 w130 e131 h132 u133
       have h134 := md_ob M128 nin0 h84
       have l135 : b72 < b129 := by rw [e131]; exact lt_ob h134
       have h136 := (up_ob u122 h106)
       have l137 : b103 < b129 := by rw [e131]; exact lt_ob h136
       have g138 : w.heap.size ≤ b129 := by rw [e131]; exact M125.size
       have g139 : w23.heap.size ≤ b129 := by rw [e131]; exact M126.size
       have g140 : w48.heap.size ≤ b129 := by rw [e131]; exact M127.size
       have g141 : w83.heap.size ≤ b129 := by rw [e131]; exact M128.size
       have M142 := Mod.trans M125 (Mod.of_up u133)
       have M143 := Mod.trans M126 (Mod.of_up u133)
       have M144 := Mod.trans M127 (Mod.of_up u133)
       have M145 := Mod.trans M128 (Mod.of_up u133)
       refine hx (Y := [b129, b103]) (Mod.of_up u133) (ynew e131) ?_
       have h152 := (Looks.up h61 (Mod.up M144))
       have h153 := (OT.up hb (Mod.up M142))
       refine h1 (i := 5) (fuel := 2) (by kernel_rfl) rfl (sc rfl (r_callv (caps := [.pointer (some ⟨kb1, 0, none⟩), .pointer (some ⟨kb2, 0, none⟩), .pointer (some ⟨kb3, 0, none⟩)]) (all := [.agg #[.int .i64 y71.t, .int .i64 y71.w], .pointer (some ⟨kb1, 0, none⟩), .pointer (some ⟨kb2, 0, none⟩), .pointer (some ⟨kb3, 0, none⟩)]) En.f133 (by kernel_rfl) (by kernel_rfl)) (look1_at h152 h153 (Nat.le_trans hB M142.size) hFb (TabIs.up htab (Mod.up M142)) y71.t y71.w hmz hsb) ?_)
       rintro e w146 ⟨A147, n148, c149, rfl, h150, u151⟩
       refine ⟨.agg #[.int .i64 sdb.x.node.t, .int .i64 sdb.x.node.w, .int .i64 sdb.x.parent.t, .int .i64 sdb.x.parent.w, .string sdb.x.name, .bool sdb.x.dir, .bool sdb.x.gone, .slice A147 n148 c149, .int .i64 sdb.x.by_.t, .int .i64 sdb.x.by_.w, .bool sdb.hangs, .string sdb.path], rfl, ?_⟩
       have M154 := Mod.trans M142 (Mod.of_up u151)
       have M155 := Mod.trans M143 (Mod.of_up u151)
       have M156 := Mod.trans M144 (Mod.of_up u151)
       have M157 := Mod.trans M145 (Mod.of_up u151)
       refine hx (Y := [b129, b103]) (Mod.of_up u151) (fun y hy => .inl hy) ?_
       have h158 := (up_ob u151 (up_ob u133 h136))
       refine h1 (i := 8) (fuel := 1) (by kernel_rfl) rfl (ss rfl (k := 0) (v := .agg #[.int .i64 sda.x.node.t, .int .i64 sda.x.node.w, .int .i64 sda.x.parent.t, .int .i64 sda.x.parent.w, .string sda.x.name, .bool sda.x.dir, .bool sda.x.gone, .slice A118 n119 c120, .int .i64 sda.x.by_.t, .int .i64 sda.x.by_.w, .bool sda.hangs, .string sda.path]) (vs := [.int .i64 sda.x.node.t, .int .i64 sda.x.node.w, .int .i64 sda.x.parent.t, .int .i64 sda.x.parent.w, .string sda.x.name, .bool sda.x.dir, .bool sda.x.gone, .slice A118 n119 c120, .int .i64 sda.x.by_.t, .int .i64 sda.x.by_.w, .bool sda.hangs, .string sda.path]) (cs' := [.int .i64 sda.x.node.t, .int .i64 sda.x.node.w, .int .i64 sda.x.parent.t, .int .i64 sda.x.parent.w, .string sda.x.name, .bool sda.x.dir, .bool sda.x.gone, .slice A118 n119 c120, .int .i64 sda.x.by_.t, .int .i64 sda.x.by_.w, .bool sda.hangs, .string sda.path]) (by kernel_rfl) (by kernel_rfl) rfl Ty.sz123 h158 rfl (Nat.le_of_ble_eq_true rfl) rfl ?_)
       intro w159 h160 c161
       have M162 := Mod.trans' M154 c161 (fun i hi => by injection hi with hi; rw [← hi]; exact g109)
       have M163 := Mod.trans' M155 c161 (fun i hi => by injection hi with hi; rw [← hi]; exact g110)
       have M164 := Mod.trans' M156 c161 (fun i hi => by injection hi with hi; rw [← hi]; exact g111)
       have M165 := Mod.trans' M157 c161 (fun i hi => by injection hi with hi; rw [← hi]; exact g112)
       refine hx (Y := [b129, b103]) (Mod.of_chg c161 (by simp)) (fun y hy => .inl hy) ?_
       have h166 := (chg_ob c161 (Nat.ne_of_gt l137) (up_ob u151 h132))
       refine h1 (i := 9) (fuel := 0) (by kernel_rfl) rfl (ss rfl (k := 0) (v := .agg #[.int .i64 sdb.x.node.t, .int .i64 sdb.x.node.w, .int .i64 sdb.x.parent.t, .int .i64 sdb.x.parent.w, .string sdb.x.name, .bool sdb.x.dir, .bool sdb.x.gone, .slice A147 n148 c149, .int .i64 sdb.x.by_.t, .int .i64 sdb.x.by_.w, .bool sdb.hangs, .string sdb.path]) (vs := [.int .i64 sdb.x.node.t, .int .i64 sdb.x.node.w, .int .i64 sdb.x.parent.t, .int .i64 sdb.x.parent.w, .string sdb.x.name, .bool sdb.x.dir, .bool sdb.x.gone, .slice A147 n148 c149, .int .i64 sdb.x.by_.t, .int .i64 sdb.x.by_.w, .bool sdb.hangs, .string sdb.path]) (cs' := [.int .i64 sdb.x.node.t, .int .i64 sdb.x.node.w, .int .i64 sdb.x.parent.t, .int .i64 sdb.x.parent.w, .string sdb.x.name, .bool sdb.x.dir, .bool sdb.x.gone, .slice A147 n148 c149, .int .i64 sdb.x.by_.t, .int .i64 sdb.x.by_.w, .bool sdb.hangs, .string sdb.path]) (by kernel_rfl) (by kernel_rfl) rfl Ty.sz123 h166 rfl (Nat.le_of_ble_eq_true rfl) rfl ?_)
       intro w167 h168 c169
       have M170 := Mod.trans' M162 c169 (fun i hi => by injection hi with hi; rw [← hi]; exact g138)
       have M171 := Mod.trans' M163 c169 (fun i hi => by injection hi with hi; rw [← hi]; exact g139)
       have M172 := Mod.trans' M164 c169 (fun i hi => by injection hi with hi; rw [← hi]; exact g140)
       have M173 := Mod.trans' M165 c169 (fun i hi => by injection hi with hi; rw [← hi]; exact g141)
       refine hx (Y := [b129, b103]) (Mod.of_chg c169 (by simp)) (fun y hy => .inl hy) ?_
       refine hend (by kernel_rfl) ?_
       refine then_n ?_
       have h174 := (chg_ob c169 (Nat.ne_of_lt l137) h160)
       have h175 := (Dat.chg (Dat.chg (Dat.up h121 (up_up u133 u151)) c161 ⟨(Nat.le_trans hB g109), NotU8.of h158 (by decide)⟩) c169 ⟨(Nat.le_trans hB g138), NotU8.of h166 (by decide)⟩)
       have h176 := (Dat.chg (Dat.chg h150 c161 ⟨(Nat.le_trans hB g109), NotU8.of h158 (by decide)⟩) c169 ⟨(Nat.le_trans hB g138), NotU8.of h166 (by decide)⟩)
       exact ⟨b103, b129, A118, n119, c120, A147, n148, c149, .func (.func 133) #[] #[.pointer (some ⟨ka1, 0, none⟩), .pointer (some ⟨ka2, 0, none⟩), .pointer (some ⟨ka3, 0, none⟩)], .agg #[.int .i64 y71.t, .int .i64 y71.w], .agg #[.int .i64 sda.x.node.t, .int .i64 sda.x.node.w, .int .i64 sda.x.parent.t, .int .i64 sda.x.parent.w, .string sda.x.name, .bool sda.x.dir, .bool sda.x.gone, .slice A118 n119 c120, .int .i64 sda.x.by_.t, .int .i64 sda.x.by_.w, .bool sda.hangs, .string sda.path], .func (.func 133) #[] #[.pointer (some ⟨kb1, 0, none⟩), .pointer (some ⟨kb2, 0, none⟩), .pointer (some ⟨kb3, 0, none⟩)], .agg #[.int .i64 y71.t, .int .i64 y71.w], .agg #[.int .i64 sdb.x.node.t, .int .i64 sdb.x.node.w, .int .i64 sdb.x.parent.t, .int .i64 sdb.x.parent.w, .string sdb.x.name, .bool sdb.x.dir, .bool sdb.x.gone, .slice A147 n148 c149, .int .i64 sdb.x.by_.t, .int .i64 sdb.x.by_.w, .bool sdb.hangs, .string sdb.path], (by kernel_rfl), M173, h174, h168, h175, h176⟩
     ·
      refine sn rfl (cs := #[.int .i64 0, .int .i64 0, .int .i64 0, .int .i64 0, .string (⟨#[]⟩), .bool false, .bool false, .slice none 0 0, .int .i64 0, .int .i64 0, .bool false, .string (⟨#[]⟩)]) (T := 123) (V := fun b => .pointer (some ⟨b, 0, none⟩)) (r_alloc Ty.zv123 rfl) ?_
      intro b117 w118 e119 h120 u121
      have h122 := md_ob M116 nin0 h84
      have l123 : b72 < b117 := by rw [e119]; exact lt_ob h122
      have l124 : b103 < b117 := by rw [e119]; exact lt_ob h106
      have g125 : w.heap.size ≤ b117 := by rw [e119]; exact M113.size
      have g126 : w23.heap.size ≤ b117 := by rw [e119]; exact M114.size
      have g127 : w48.heap.size ≤ b117 := by rw [e119]; exact M115.size
      have g128 : w83.heap.size ≤ b117 := by rw [e119]; exact M116.size
      have M129 := Mod.trans M113 (Mod.of_up u121)
      have M130 := Mod.trans M114 (Mod.of_up u121)
      have M131 := Mod.trans M115 (Mod.of_up u121)
      have M132 := Mod.trans M116 (Mod.of_up u121)
      refine hx (Y := [b117, b103]) (Mod.of_up u121) (ynew e119) ?_
      have h139 := (Looks.up h60 (Mod.up M131))
      have h140 := (OT.up ha (Mod.up M129))
      refine h1 (i := 2) (fuel := 3) (by kernel_rfl) rfl (sc rfl (r_callv (caps := [.pointer (some ⟨ka1, 0, none⟩), .pointer (some ⟨ka2, 0, none⟩), .pointer (some ⟨ka3, 0, none⟩)]) (all := [.agg #[.int .i64 y71.t, .int .i64 y71.w], .pointer (some ⟨ka1, 0, none⟩), .pointer (some ⟨ka2, 0, none⟩), .pointer (some ⟨ka3, 0, none⟩)]) En.f133 (by kernel_rfl) (by kernel_rfl)) (look1_at h139 h140 (Nat.le_trans hB M129.size) hFa (TabIs.up htab (Mod.up M129)) y71.t y71.w hmz hsa) ?_)
      rintro e w133 ⟨A134, n135, c136, rfl, h137, u138⟩
      refine ⟨.agg #[.int .i64 sda.x.node.t, .int .i64 sda.x.node.w, .int .i64 sda.x.parent.t, .int .i64 sda.x.parent.w, .string sda.x.name, .bool sda.x.dir, .bool sda.x.gone, .slice A134 n135 c136, .int .i64 sda.x.by_.t, .int .i64 sda.x.by_.w, .bool sda.hangs, .string sda.path], rfl, ?_⟩
      have M141 := Mod.trans M129 (Mod.of_up u138)
      have M142 := Mod.trans M130 (Mod.of_up u138)
      have M143 := Mod.trans M131 (Mod.of_up u138)
      have M144 := Mod.trans M132 (Mod.of_up u138)
      refine hx (Y := [b117, b103]) (Mod.of_up u138) (fun y hy => .inl hy) ?_
      have h151 := (Looks.up h61 (Mod.up M143))
      have h152 := (OT.up hb (Mod.up M141))
      refine h1 (i := 5) (fuel := 2) (by kernel_rfl) rfl (sc rfl (r_callv (caps := [.pointer (some ⟨kb1, 0, none⟩), .pointer (some ⟨kb2, 0, none⟩), .pointer (some ⟨kb3, 0, none⟩)]) (all := [.agg #[.int .i64 y71.t, .int .i64 y71.w], .pointer (some ⟨kb1, 0, none⟩), .pointer (some ⟨kb2, 0, none⟩), .pointer (some ⟨kb3, 0, none⟩)]) En.f133 (by kernel_rfl) (by kernel_rfl)) (look1_at h151 h152 (Nat.le_trans hB M141.size) hFb (TabIs.up htab (Mod.up M141)) y71.t y71.w hmz hsb) ?_)
      rintro e w145 ⟨A146, n147, c148, rfl, h149, u150⟩
      refine ⟨.agg #[.int .i64 sdb.x.node.t, .int .i64 sdb.x.node.w, .int .i64 sdb.x.parent.t, .int .i64 sdb.x.parent.w, .string sdb.x.name, .bool sdb.x.dir, .bool sdb.x.gone, .slice A146 n147 c148, .int .i64 sdb.x.by_.t, .int .i64 sdb.x.by_.w, .bool sdb.hangs, .string sdb.path], rfl, ?_⟩
      have M153 := Mod.trans M141 (Mod.of_up u150)
      have M154 := Mod.trans M142 (Mod.of_up u150)
      have M155 := Mod.trans M143 (Mod.of_up u150)
      have M156 := Mod.trans M144 (Mod.of_up u150)
      refine hx (Y := [b117, b103]) (Mod.of_up u150) (fun y hy => .inl hy) ?_
      have h157 := (up_ob u150 (up_ob u138 (up_ob u121 h106)))
      refine h1 (i := 8) (fuel := 1) (by kernel_rfl) rfl (ss rfl (k := 0) (v := .agg #[.int .i64 sda.x.node.t, .int .i64 sda.x.node.w, .int .i64 sda.x.parent.t, .int .i64 sda.x.parent.w, .string sda.x.name, .bool sda.x.dir, .bool sda.x.gone, .slice A134 n135 c136, .int .i64 sda.x.by_.t, .int .i64 sda.x.by_.w, .bool sda.hangs, .string sda.path]) (vs := [.int .i64 sda.x.node.t, .int .i64 sda.x.node.w, .int .i64 sda.x.parent.t, .int .i64 sda.x.parent.w, .string sda.x.name, .bool sda.x.dir, .bool sda.x.gone, .slice A134 n135 c136, .int .i64 sda.x.by_.t, .int .i64 sda.x.by_.w, .bool sda.hangs, .string sda.path]) (cs' := [.int .i64 sda.x.node.t, .int .i64 sda.x.node.w, .int .i64 sda.x.parent.t, .int .i64 sda.x.parent.w, .string sda.x.name, .bool sda.x.dir, .bool sda.x.gone, .slice A134 n135 c136, .int .i64 sda.x.by_.t, .int .i64 sda.x.by_.w, .bool sda.hangs, .string sda.path]) (by kernel_rfl) (by kernel_rfl) rfl Ty.sz123 h157 rfl (Nat.le_of_ble_eq_true rfl) rfl ?_)
      intro w158 h159 c160
      have M161 := Mod.trans' M153 c160 (fun i hi => by injection hi with hi; rw [← hi]; exact g109)
      have M162 := Mod.trans' M154 c160 (fun i hi => by injection hi with hi; rw [← hi]; exact g110)
      have M163 := Mod.trans' M155 c160 (fun i hi => by injection hi with hi; rw [← hi]; exact g111)
      have M164 := Mod.trans' M156 c160 (fun i hi => by injection hi with hi; rw [← hi]; exact g112)
      refine hx (Y := [b117, b103]) (Mod.of_chg c160 (by simp)) (fun y hy => .inl hy) ?_
      have h165 := (chg_ob c160 (Nat.ne_of_gt l124) (up_ob u150 (up_ob u138 h120)))
      refine h1 (i := 9) (fuel := 0) (by kernel_rfl) rfl (ss rfl (k := 0) (v := .agg #[.int .i64 sdb.x.node.t, .int .i64 sdb.x.node.w, .int .i64 sdb.x.parent.t, .int .i64 sdb.x.parent.w, .string sdb.x.name, .bool sdb.x.dir, .bool sdb.x.gone, .slice A146 n147 c148, .int .i64 sdb.x.by_.t, .int .i64 sdb.x.by_.w, .bool sdb.hangs, .string sdb.path]) (vs := [.int .i64 sdb.x.node.t, .int .i64 sdb.x.node.w, .int .i64 sdb.x.parent.t, .int .i64 sdb.x.parent.w, .string sdb.x.name, .bool sdb.x.dir, .bool sdb.x.gone, .slice A146 n147 c148, .int .i64 sdb.x.by_.t, .int .i64 sdb.x.by_.w, .bool sdb.hangs, .string sdb.path]) (cs' := [.int .i64 sdb.x.node.t, .int .i64 sdb.x.node.w, .int .i64 sdb.x.parent.t, .int .i64 sdb.x.parent.w, .string sdb.x.name, .bool sdb.x.dir, .bool sdb.x.gone, .slice A146 n147 c148, .int .i64 sdb.x.by_.t, .int .i64 sdb.x.by_.w, .bool sdb.hangs, .string sdb.path]) (by kernel_rfl) (by kernel_rfl) rfl Ty.sz123 h165 rfl (Nat.le_of_ble_eq_true rfl) rfl ?_)
      intro w166 h167 c168
      have M169 := Mod.trans' M161 c168 (fun i hi => by injection hi with hi; rw [← hi]; exact g125)
      have M170 := Mod.trans' M162 c168 (fun i hi => by injection hi with hi; rw [← hi]; exact g126)
      have M171 := Mod.trans' M163 c168 (fun i hi => by injection hi with hi; rw [← hi]; exact g127)
      have M172 := Mod.trans' M164 c168 (fun i hi => by injection hi with hi; rw [← hi]; exact g128)
      refine hx (Y := [b117, b103]) (Mod.of_chg c168 (by simp)) (fun y hy => .inl hy) ?_
      refine hend (by kernel_rfl) ?_
      refine then_n ?_
      have h173 := (chg_ob c168 (Nat.ne_of_lt l124) h159)
      have h174 := (Dat.chg (Dat.chg (Dat.up h137 u150) c160 ⟨(Nat.le_trans hB g109), NotU8.of h157 (by decide)⟩) c168 ⟨(Nat.le_trans hB g125), NotU8.of h165 (by decide)⟩)
      have h175 := (Dat.chg (Dat.chg h149 c160 ⟨(Nat.le_trans hB g109), NotU8.of h157 (by decide)⟩) c168 ⟨(Nat.le_trans hB g125), NotU8.of h165 (by decide)⟩)
      exact ⟨b103, b117, A134, n135, c136, A146, n147, c148, .func (.func 133) #[] #[.pointer (some ⟨ka1, 0, none⟩), .pointer (some ⟨ka2, 0, none⟩), .pointer (some ⟨ka3, 0, none⟩)], .agg #[.int .i64 y71.t, .int .i64 y71.w], .agg #[.int .i64 sda.x.node.t, .int .i64 sda.x.node.w, .int .i64 sda.x.parent.t, .int .i64 sda.x.parent.w, .string sda.x.name, .bool sda.x.dir, .bool sda.x.gone, .slice A134 n135 c136, .int .i64 sda.x.by_.t, .int .i64 sda.x.by_.w, .bool sda.hangs, .string sda.path], .func (.func 133) #[] #[.pointer (some ⟨kb1, 0, none⟩), .pointer (some ⟨kb2, 0, none⟩), .pointer (some ⟨kb3, 0, none⟩)], .agg #[.int .i64 y71.t, .int .i64 y71.w], .agg #[.int .i64 sdb.x.node.t, .int .i64 sdb.x.node.w, .int .i64 sdb.x.parent.t, .int .i64 sdb.x.parent.w, .string sdb.x.name, .bool sdb.x.dir, .bool sdb.x.gone, .slice A146 n147 c148, .int .i64 sdb.x.by_.t, .int .i64 sdb.x.by_.w, .bool sdb.hangs, .string sdb.path], (by kernel_rfl), M172, h173, h167, h174, h175⟩
    ·
     refine sn rfl (cs := #[.int .i64 0, .int .i64 0, .int .i64 0, .int .i64 0, .string (⟨#[]⟩), .bool false, .bool false, .slice none 0 0, .int .i64 0, .int .i64 0, .bool false, .string (⟨#[]⟩)]) (T := 123) (V := fun b => .pointer (some ⟨b, 0, none⟩)) (r_alloc Ty.zv123 rfl) ?_
     intro b103 w104 e105 h106 u107
     have l108 : b72 < b103 := by rw [e105]; exact lt_ob h102
     have g109 : w.heap.size ≤ b103 := by rw [e105]; exact M98.size
     have g110 : w23.heap.size ≤ b103 := by rw [e105]; exact M99.size
     have g111 : w48.heap.size ≤ b103 := by rw [e105]; exact M100.size
     have g112 : w83.heap.size ≤ b103 := by rw [e105]; exact M101.size
     have M113 := Mod.trans M98 (Mod.of_up u107)
     have M114 := Mod.trans M99 (Mod.of_up u107)
     have M115 := Mod.trans M100 (Mod.of_up u107)
     have M116 := Mod.trans M101 (Mod.of_up u107)
     refine hx (Y := [b103]) (Mod.of_up u107) (ynew e105) ?_
     refine h2 (i := 2) (j := 6) (fuel := 4) (by kernel_rfl) rfl rfl ?_ ?_
     ·
      have h123 := (Looks.up h60 (Mod.up M115))
      have h124 := (OT.up ha (Mod.up M113))
      refine sc rfl (r_callv (caps := [.pointer (some ⟨ka1, 0, none⟩), .pointer (some ⟨ka2, 0, none⟩), .pointer (some ⟨ka3, 0, none⟩)]) (all := [.agg #[.int .i64 y71.t, .int .i64 y71.w], .pointer (some ⟨ka1, 0, none⟩), .pointer (some ⟨ka2, 0, none⟩), .pointer (some ⟨ka3, 0, none⟩)]) En.f133 (by kernel_rfl) (by kernel_rfl)) (look1_at h123 h124 (Nat.le_trans hB M113.size) hFa (TabIs.up htab (Mod.up M113)) y71.t y71.w hmz hsa) ?_
      rintro e w117 ⟨A118, n119, c120, rfl, h121, u122⟩
      refine ⟨.agg #[.int .i64 sda.x.node.t, .int .i64 sda.x.node.w, .int .i64 sda.x.parent.t, .int .i64 sda.x.parent.w, .string sda.x.name, .bool sda.x.dir, .bool sda.x.gone, .slice A118 n119 c120, .int .i64 sda.x.by_.t, .int .i64 sda.x.by_.w, .bool sda.hangs, .string sda.path], rfl, ?_⟩
      have M125 := Mod.trans M113 (Mod.of_up u122)
      have M126 := Mod.trans M114 (Mod.of_up u122)
      have M127 := Mod.trans M115 (Mod.of_up u122)
      have M128 := Mod.trans M116 (Mod.of_up u122)
      refine hx (Y := [b103]) (Mod.of_up u122) (fun y hy => .inl hy) ?_
      refine h2 (i := 5) (j := 6) (fuel := 3) (by kernel_rfl) rfl rfl ?_ ?_
      ·
       have h135 := (Looks.up h61 (Mod.up M127))
       have h136 := (OT.up hb (Mod.up M125))
       refine sc rfl (r_callv (caps := [.pointer (some ⟨kb1, 0, none⟩), .pointer (some ⟨kb2, 0, none⟩), .pointer (some ⟨kb3, 0, none⟩)]) (all := [.agg #[.int .i64 y71.t, .int .i64 y71.w], .pointer (some ⟨kb1, 0, none⟩), .pointer (some ⟨kb2, 0, none⟩), .pointer (some ⟨kb3, 0, none⟩)]) En.f133 (by kernel_rfl) (by kernel_rfl)) (look1_at h135 h136 (Nat.le_trans hB M125.size) hFb (TabIs.up htab (Mod.up M125)) y71.t y71.w hmz hsb) ?_
       rintro e w129 ⟨A130, n131, c132, rfl, h133, u134⟩
       refine ⟨.agg #[.int .i64 sdb.x.node.t, .int .i64 sdb.x.node.w, .int .i64 sdb.x.parent.t, .int .i64 sdb.x.parent.w, .string sdb.x.name, .bool sdb.x.dir, .bool sdb.x.gone, .slice A130 n131 c132, .int .i64 sdb.x.by_.t, .int .i64 sdb.x.by_.w, .bool sdb.hangs, .string sdb.path], rfl, ?_⟩
       have M137 := Mod.trans M125 (Mod.of_up u134)
       have M138 := Mod.trans M126 (Mod.of_up u134)
       have M139 := Mod.trans M127 (Mod.of_up u134)
       have M140 := Mod.trans M128 (Mod.of_up u134)
       refine hx (Y := [b103]) (Mod.of_up u134) (fun y hy => .inl hy) ?_
       refine h1 (i := 6) (fuel := 2) (by kernel_rfl) rfl (sn rfl (cs := #[.int .i64 0, .int .i64 0, .int .i64 0, .int .i64 0, .string (⟨#[]⟩), .bool false, .bool false, .slice none 0 0, .int .i64 0, .int .i64 0, .bool false, .string (⟨#[]⟩)]) (T := 123) (V := fun b => .pointer (some ⟨b, 0, none⟩)) (r_alloc Ty.zv123 rfl) ?_)
       intro b141 w142 e143 h144 u145
       have h146 := md_ob M140 nin0 h84
       have l147 : b72 < b141 := by rw [e143]; exact lt_ob h146
       have h148 := (up_ob u134 (up_ob u122 h106))
       have l149 : b103 < b141 := by rw [e143]; exact lt_ob h148
       have g150 : w.heap.size ≤ b141 := by rw [e143]; exact M137.size
       have g151 : w23.heap.size ≤ b141 := by rw [e143]; exact M138.size
       have g152 : w48.heap.size ≤ b141 := by rw [e143]; exact M139.size
       have g153 : w83.heap.size ≤ b141 := by rw [e143]; exact M140.size
       have M154 := Mod.trans M137 (Mod.of_up u145)
       have M155 := Mod.trans M138 (Mod.of_up u145)
       have M156 := Mod.trans M139 (Mod.of_up u145)
       have M157 := Mod.trans M140 (Mod.of_up u145)
       refine hx (Y := [b141, b103]) (Mod.of_up u145) (ynew e143) ?_
       refine h1 (i := 8) (fuel := 1) (by kernel_rfl) rfl (ss rfl (k := 0) (v := .agg #[.int .i64 sda.x.node.t, .int .i64 sda.x.node.w, .int .i64 sda.x.parent.t, .int .i64 sda.x.parent.w, .string sda.x.name, .bool sda.x.dir, .bool sda.x.gone, .slice A118 n119 c120, .int .i64 sda.x.by_.t, .int .i64 sda.x.by_.w, .bool sda.hangs, .string sda.path]) (vs := [.int .i64 sda.x.node.t, .int .i64 sda.x.node.w, .int .i64 sda.x.parent.t, .int .i64 sda.x.parent.w, .string sda.x.name, .bool sda.x.dir, .bool sda.x.gone, .slice A118 n119 c120, .int .i64 sda.x.by_.t, .int .i64 sda.x.by_.w, .bool sda.hangs, .string sda.path]) (cs' := [.int .i64 sda.x.node.t, .int .i64 sda.x.node.w, .int .i64 sda.x.parent.t, .int .i64 sda.x.parent.w, .string sda.x.name, .bool sda.x.dir, .bool sda.x.gone, .slice A118 n119 c120, .int .i64 sda.x.by_.t, .int .i64 sda.x.by_.w, .bool sda.hangs, .string sda.path]) (by kernel_rfl) (by kernel_rfl) rfl Ty.sz123 h144 rfl (Nat.le_of_ble_eq_true rfl) rfl ?_)
       intro w158 h159 c160
       have M161 := Mod.trans' M154 c160 (fun i hi => by injection hi with hi; rw [← hi]; exact g150)
       have M162 := Mod.trans' M155 c160 (fun i hi => by injection hi with hi; rw [← hi]; exact g151)
       have M163 := Mod.trans' M156 c160 (fun i hi => by injection hi with hi; rw [← hi]; exact g152)
       have M164 := Mod.trans' M157 c160 (fun i hi => by injection hi with hi; rw [← hi]; exact g153)
       refine hx (Y := [b141, b103]) (Mod.of_chg c160 (by simp)) (fun y hy => .inl hy) ?_
       have h165 := (chg_ob c160 (Nat.ne_of_lt l149) (up_ob u145 h148))
       refine h1 (i := 9) (fuel := 0) (by kernel_rfl) rfl (ss rfl (k := 0) (v := .agg #[.int .i64 sdb.x.node.t, .int .i64 sdb.x.node.w, .int .i64 sdb.x.parent.t, .int .i64 sdb.x.parent.w, .string sdb.x.name, .bool sdb.x.dir, .bool sdb.x.gone, .slice A130 n131 c132, .int .i64 sdb.x.by_.t, .int .i64 sdb.x.by_.w, .bool sdb.hangs, .string sdb.path]) (vs := [.int .i64 sdb.x.node.t, .int .i64 sdb.x.node.w, .int .i64 sdb.x.parent.t, .int .i64 sdb.x.parent.w, .string sdb.x.name, .bool sdb.x.dir, .bool sdb.x.gone, .slice A130 n131 c132, .int .i64 sdb.x.by_.t, .int .i64 sdb.x.by_.w, .bool sdb.hangs, .string sdb.path]) (cs' := [.int .i64 sdb.x.node.t, .int .i64 sdb.x.node.w, .int .i64 sdb.x.parent.t, .int .i64 sdb.x.parent.w, .string sdb.x.name, .bool sdb.x.dir, .bool sdb.x.gone, .slice A130 n131 c132, .int .i64 sdb.x.by_.t, .int .i64 sdb.x.by_.w, .bool sdb.hangs, .string sdb.path]) (by kernel_rfl) (by kernel_rfl) rfl Ty.sz123 h165 rfl (Nat.le_of_ble_eq_true rfl) rfl ?_)
       intro w166 h167 c168
       have M169 := Mod.trans' M161 c168 (fun i hi => by injection hi with hi; rw [← hi]; exact g109)
       have M170 := Mod.trans' M162 c168 (fun i hi => by injection hi with hi; rw [← hi]; exact g110)
       have M171 := Mod.trans' M163 c168 (fun i hi => by injection hi with hi; rw [← hi]; exact g111)
       have M172 := Mod.trans' M164 c168 (fun i hi => by injection hi with hi; rw [← hi]; exact g112)
       refine hx (Y := [b141, b103]) (Mod.of_chg c168 (by simp)) (fun y hy => .inl hy) ?_
       refine hend (by kernel_rfl) ?_
       refine then_n ?_
       have h173 := (chg_ob c168 (Nat.ne_of_gt l149) h159)
       have h174 := (Dat.chg (Dat.up h121 (up_chgn (up_up u134 u145) c160 (by rw [e143]; exact u134.size))) c168 ⟨(Nat.le_trans hB g109), NotU8.of h165 (by decide)⟩)
       have h175 := (Dat.chg (Dat.up h133 (up_chgn u145 c160 (by rw [e143]; exact Nat.le_refl _))) c168 ⟨(Nat.le_trans hB g109), NotU8.of h165 (by decide)⟩)
       exact ⟨b141, b103, A118, n119, c120, A130, n131, c132, .func (.func 133) #[] #[.pointer (some ⟨ka1, 0, none⟩), .pointer (some ⟨ka2, 0, none⟩), .pointer (some ⟨ka3, 0, none⟩)], .agg #[.int .i64 y71.t, .int .i64 y71.w], .agg #[.int .i64 sda.x.node.t, .int .i64 sda.x.node.w, .int .i64 sda.x.parent.t, .int .i64 sda.x.parent.w, .string sda.x.name, .bool sda.x.dir, .bool sda.x.gone, .slice A118 n119 c120, .int .i64 sda.x.by_.t, .int .i64 sda.x.by_.w, .bool sda.hangs, .string sda.path], .func (.func 133) #[] #[.pointer (some ⟨kb1, 0, none⟩), .pointer (some ⟨kb2, 0, none⟩), .pointer (some ⟨kb3, 0, none⟩)], .agg #[.int .i64 y71.t, .int .i64 y71.w], .agg #[.int .i64 sdb.x.node.t, .int .i64 sdb.x.node.w, .int .i64 sdb.x.parent.t, .int .i64 sdb.x.parent.w, .string sdb.x.name, .bool sdb.x.dir, .bool sdb.x.gone, .slice A130 n131 c132, .int .i64 sdb.x.by_.t, .int .i64 sdb.x.by_.w, .bool sdb.hangs, .string sdb.path], (by kernel_rfl), M172, h173, h167, h174, h175⟩
      ·
       refine sn rfl (cs := #[.int .i64 0, .int .i64 0, .int .i64 0, .int .i64 0, .string (⟨#[]⟩), .bool false, .bool false, .slice none 0 0, .int .i64 0, .int .i64 0, .bool false, .string (⟨#[]⟩)]) (T := 123) (V := fun b => .pointer (some ⟨b, 0, none⟩)) (r_alloc Ty.zv123 rfl) ?_
       intro b129 w130 e131 h132 u133
       have h134 := md_ob M128 nin0 h84
       have l135 : b72 < b129 := by rw [e131]; exact lt_ob h134
       have h136 := (up_ob u122 h106)
       have l137 : b103 < b129 := by rw [e131]; exact lt_ob h136
       have g138 : w.heap.size ≤ b129 := by rw [e131]; exact M125.size
       have g139 : w23.heap.size ≤ b129 := by rw [e131]; exact M126.size
       have g140 : w48.heap.size ≤ b129 := by rw [e131]; exact M127.size
       have g141 : w83.heap.size ≤ b129 := by rw [e131]; exact M128.size
       have M142 := Mod.trans M125 (Mod.of_up u133)
       have M143 := Mod.trans M126 (Mod.of_up u133)
       have M144 := Mod.trans M127 (Mod.of_up u133)
       have M145 := Mod.trans M128 (Mod.of_up u133)
       refine hx (Y := [b129, b103]) (Mod.of_up u133) (ynew e131) ?_
       have h152 := (Looks.up h61 (Mod.up M144))
       have h153 := (OT.up hb (Mod.up M142))
       refine h1 (i := 5) (fuel := 2) (by kernel_rfl) rfl (sc rfl (r_callv (caps := [.pointer (some ⟨kb1, 0, none⟩), .pointer (some ⟨kb2, 0, none⟩), .pointer (some ⟨kb3, 0, none⟩)]) (all := [.agg #[.int .i64 y71.t, .int .i64 y71.w], .pointer (some ⟨kb1, 0, none⟩), .pointer (some ⟨kb2, 0, none⟩), .pointer (some ⟨kb3, 0, none⟩)]) En.f133 (by kernel_rfl) (by kernel_rfl)) (look1_at h152 h153 (Nat.le_trans hB M142.size) hFb (TabIs.up htab (Mod.up M142)) y71.t y71.w hmz hsb) ?_)
       rintro e w146 ⟨A147, n148, c149, rfl, h150, u151⟩
       refine ⟨.agg #[.int .i64 sdb.x.node.t, .int .i64 sdb.x.node.w, .int .i64 sdb.x.parent.t, .int .i64 sdb.x.parent.w, .string sdb.x.name, .bool sdb.x.dir, .bool sdb.x.gone, .slice A147 n148 c149, .int .i64 sdb.x.by_.t, .int .i64 sdb.x.by_.w, .bool sdb.hangs, .string sdb.path], rfl, ?_⟩
       have M154 := Mod.trans M142 (Mod.of_up u151)
       have M155 := Mod.trans M143 (Mod.of_up u151)
       have M156 := Mod.trans M144 (Mod.of_up u151)
       have M157 := Mod.trans M145 (Mod.of_up u151)
       refine hx (Y := [b129, b103]) (Mod.of_up u151) (fun y hy => .inl hy) ?_
       have h158 := (up_ob u151 h132)
       refine h1 (i := 8) (fuel := 1) (by kernel_rfl) rfl (ss rfl (k := 0) (v := .agg #[.int .i64 sda.x.node.t, .int .i64 sda.x.node.w, .int .i64 sda.x.parent.t, .int .i64 sda.x.parent.w, .string sda.x.name, .bool sda.x.dir, .bool sda.x.gone, .slice A118 n119 c120, .int .i64 sda.x.by_.t, .int .i64 sda.x.by_.w, .bool sda.hangs, .string sda.path]) (vs := [.int .i64 sda.x.node.t, .int .i64 sda.x.node.w, .int .i64 sda.x.parent.t, .int .i64 sda.x.parent.w, .string sda.x.name, .bool sda.x.dir, .bool sda.x.gone, .slice A118 n119 c120, .int .i64 sda.x.by_.t, .int .i64 sda.x.by_.w, .bool sda.hangs, .string sda.path]) (cs' := [.int .i64 sda.x.node.t, .int .i64 sda.x.node.w, .int .i64 sda.x.parent.t, .int .i64 sda.x.parent.w, .string sda.x.name, .bool sda.x.dir, .bool sda.x.gone, .slice A118 n119 c120, .int .i64 sda.x.by_.t, .int .i64 sda.x.by_.w, .bool sda.hangs, .string sda.path]) (by kernel_rfl) (by kernel_rfl) rfl Ty.sz123 h158 rfl (Nat.le_of_ble_eq_true rfl) rfl ?_)
       intro w159 h160 c161
       have M162 := Mod.trans' M154 c161 (fun i hi => by injection hi with hi; rw [← hi]; exact g138)
       have M163 := Mod.trans' M155 c161 (fun i hi => by injection hi with hi; rw [← hi]; exact g139)
       have M164 := Mod.trans' M156 c161 (fun i hi => by injection hi with hi; rw [← hi]; exact g140)
       have M165 := Mod.trans' M157 c161 (fun i hi => by injection hi with hi; rw [← hi]; exact g141)
       refine hx (Y := [b129, b103]) (Mod.of_chg c161 (by simp)) (fun y hy => .inl hy) ?_
       have h166 := (chg_ob c161 (Nat.ne_of_lt l137) (up_ob u151 (up_ob u133 h136)))
       refine h1 (i := 9) (fuel := 0) (by kernel_rfl) rfl (ss rfl (k := 0) (v := .agg #[.int .i64 sdb.x.node.t, .int .i64 sdb.x.node.w, .int .i64 sdb.x.parent.t, .int .i64 sdb.x.parent.w, .string sdb.x.name, .bool sdb.x.dir, .bool sdb.x.gone, .slice A147 n148 c149, .int .i64 sdb.x.by_.t, .int .i64 sdb.x.by_.w, .bool sdb.hangs, .string sdb.path]) (vs := [.int .i64 sdb.x.node.t, .int .i64 sdb.x.node.w, .int .i64 sdb.x.parent.t, .int .i64 sdb.x.parent.w, .string sdb.x.name, .bool sdb.x.dir, .bool sdb.x.gone, .slice A147 n148 c149, .int .i64 sdb.x.by_.t, .int .i64 sdb.x.by_.w, .bool sdb.hangs, .string sdb.path]) (cs' := [.int .i64 sdb.x.node.t, .int .i64 sdb.x.node.w, .int .i64 sdb.x.parent.t, .int .i64 sdb.x.parent.w, .string sdb.x.name, .bool sdb.x.dir, .bool sdb.x.gone, .slice A147 n148 c149, .int .i64 sdb.x.by_.t, .int .i64 sdb.x.by_.w, .bool sdb.hangs, .string sdb.path]) (by kernel_rfl) (by kernel_rfl) rfl Ty.sz123 h166 rfl (Nat.le_of_ble_eq_true rfl) rfl ?_)
       intro w167 h168 c169
       have M170 := Mod.trans' M162 c169 (fun i hi => by injection hi with hi; rw [← hi]; exact g109)
       have M171 := Mod.trans' M163 c169 (fun i hi => by injection hi with hi; rw [← hi]; exact g110)
       have M172 := Mod.trans' M164 c169 (fun i hi => by injection hi with hi; rw [← hi]; exact g111)
       have M173 := Mod.trans' M165 c169 (fun i hi => by injection hi with hi; rw [← hi]; exact g112)
       refine hx (Y := [b129, b103]) (Mod.of_chg c169 (by simp)) (fun y hy => .inl hy) ?_
       refine hend (by kernel_rfl) ?_
       refine then_n ?_
       have h174 := (chg_ob c169 (Nat.ne_of_gt l137) h160)
       have h175 := (Dat.chg (Dat.up h121 (up_chgn (up_up u133 u151) c161 (by rw [e131]; exact Nat.le_refl _))) c169 ⟨(Nat.le_trans hB g109), NotU8.of h166 (by decide)⟩)
       have h176 := (Dat.chg (Dat.chg h150 c161 ⟨(Nat.le_trans hB g138), NotU8.of h158 (by decide)⟩) c169 ⟨(Nat.le_trans hB g109), NotU8.of h166 (by decide)⟩)
       exact ⟨b129, b103, A118, n119, c120, A147, n148, c149, .func (.func 133) #[] #[.pointer (some ⟨ka1, 0, none⟩), .pointer (some ⟨ka2, 0, none⟩), .pointer (some ⟨ka3, 0, none⟩)], .agg #[.int .i64 y71.t, .int .i64 y71.w], .agg #[.int .i64 sda.x.node.t, .int .i64 sda.x.node.w, .int .i64 sda.x.parent.t, .int .i64 sda.x.parent.w, .string sda.x.name, .bool sda.x.dir, .bool sda.x.gone, .slice A118 n119 c120, .int .i64 sda.x.by_.t, .int .i64 sda.x.by_.w, .bool sda.hangs, .string sda.path], .func (.func 133) #[] #[.pointer (some ⟨kb1, 0, none⟩), .pointer (some ⟨kb2, 0, none⟩), .pointer (some ⟨kb3, 0, none⟩)], .agg #[.int .i64 y71.t, .int .i64 y71.w], .agg #[.int .i64 sdb.x.node.t, .int .i64 sdb.x.node.w, .int .i64 sdb.x.parent.t, .int .i64 sdb.x.parent.w, .string sdb.x.name, .bool sdb.x.dir, .bool sdb.x.gone, .slice A147 n148 c149, .int .i64 sdb.x.by_.t, .int .i64 sdb.x.by_.w, .bool sdb.hangs, .string sdb.path], (by kernel_rfl), M173, h174, h168, h175, h176⟩
     ·
      refine sn rfl (cs := #[.int .i64 0, .int .i64 0, .int .i64 0, .int .i64 0, .string (⟨#[]⟩), .bool false, .bool false, .slice none 0 0, .int .i64 0, .int .i64 0, .bool false, .string (⟨#[]⟩)]) (T := 123) (V := fun b => .pointer (some ⟨b, 0, none⟩)) (r_alloc Ty.zv123 rfl) ?_
      intro b117 w118 e119 h120 u121
      have h122 := md_ob M116 nin0 h84
      have l123 : b72 < b117 := by rw [e119]; exact lt_ob h122
      have l124 : b103 < b117 := by rw [e119]; exact lt_ob h106
      have g125 : w.heap.size ≤ b117 := by rw [e119]; exact M113.size
      have g126 : w23.heap.size ≤ b117 := by rw [e119]; exact M114.size
      have g127 : w48.heap.size ≤ b117 := by rw [e119]; exact M115.size
      have g128 : w83.heap.size ≤ b117 := by rw [e119]; exact M116.size
      have M129 := Mod.trans M113 (Mod.of_up u121)
      have M130 := Mod.trans M114 (Mod.of_up u121)
      have M131 := Mod.trans M115 (Mod.of_up u121)
      have M132 := Mod.trans M116 (Mod.of_up u121)
      refine hx (Y := [b117, b103]) (Mod.of_up u121) (ynew e119) ?_
      have h139 := (Looks.up h60 (Mod.up M131))
      have h140 := (OT.up ha (Mod.up M129))
      refine h1 (i := 2) (fuel := 3) (by kernel_rfl) rfl (sc rfl (r_callv (caps := [.pointer (some ⟨ka1, 0, none⟩), .pointer (some ⟨ka2, 0, none⟩), .pointer (some ⟨ka3, 0, none⟩)]) (all := [.agg #[.int .i64 y71.t, .int .i64 y71.w], .pointer (some ⟨ka1, 0, none⟩), .pointer (some ⟨ka2, 0, none⟩), .pointer (some ⟨ka3, 0, none⟩)]) En.f133 (by kernel_rfl) (by kernel_rfl)) (look1_at h139 h140 (Nat.le_trans hB M129.size) hFa (TabIs.up htab (Mod.up M129)) y71.t y71.w hmz hsa) ?_)
      rintro e w133 ⟨A134, n135, c136, rfl, h137, u138⟩
      refine ⟨.agg #[.int .i64 sda.x.node.t, .int .i64 sda.x.node.w, .int .i64 sda.x.parent.t, .int .i64 sda.x.parent.w, .string sda.x.name, .bool sda.x.dir, .bool sda.x.gone, .slice A134 n135 c136, .int .i64 sda.x.by_.t, .int .i64 sda.x.by_.w, .bool sda.hangs, .string sda.path], rfl, ?_⟩
      have M141 := Mod.trans M129 (Mod.of_up u138)
      have M142 := Mod.trans M130 (Mod.of_up u138)
      have M143 := Mod.trans M131 (Mod.of_up u138)
      have M144 := Mod.trans M132 (Mod.of_up u138)
      refine hx (Y := [b117, b103]) (Mod.of_up u138) (fun y hy => .inl hy) ?_
      have h151 := (Looks.up h61 (Mod.up M143))
      have h152 := (OT.up hb (Mod.up M141))
      refine h1 (i := 5) (fuel := 2) (by kernel_rfl) rfl (sc rfl (r_callv (caps := [.pointer (some ⟨kb1, 0, none⟩), .pointer (some ⟨kb2, 0, none⟩), .pointer (some ⟨kb3, 0, none⟩)]) (all := [.agg #[.int .i64 y71.t, .int .i64 y71.w], .pointer (some ⟨kb1, 0, none⟩), .pointer (some ⟨kb2, 0, none⟩), .pointer (some ⟨kb3, 0, none⟩)]) En.f133 (by kernel_rfl) (by kernel_rfl)) (look1_at h151 h152 (Nat.le_trans hB M141.size) hFb (TabIs.up htab (Mod.up M141)) y71.t y71.w hmz hsb) ?_)
      rintro e w145 ⟨A146, n147, c148, rfl, h149, u150⟩
      refine ⟨.agg #[.int .i64 sdb.x.node.t, .int .i64 sdb.x.node.w, .int .i64 sdb.x.parent.t, .int .i64 sdb.x.parent.w, .string sdb.x.name, .bool sdb.x.dir, .bool sdb.x.gone, .slice A146 n147 c148, .int .i64 sdb.x.by_.t, .int .i64 sdb.x.by_.w, .bool sdb.hangs, .string sdb.path], rfl, ?_⟩
      have M153 := Mod.trans M141 (Mod.of_up u150)
      have M154 := Mod.trans M142 (Mod.of_up u150)
      have M155 := Mod.trans M143 (Mod.of_up u150)
      have M156 := Mod.trans M144 (Mod.of_up u150)
      refine hx (Y := [b117, b103]) (Mod.of_up u150) (fun y hy => .inl hy) ?_
      have h157 := (up_ob u150 (up_ob u138 h120))
      refine h1 (i := 8) (fuel := 1) (by kernel_rfl) rfl (ss rfl (k := 0) (v := .agg #[.int .i64 sda.x.node.t, .int .i64 sda.x.node.w, .int .i64 sda.x.parent.t, .int .i64 sda.x.parent.w, .string sda.x.name, .bool sda.x.dir, .bool sda.x.gone, .slice A134 n135 c136, .int .i64 sda.x.by_.t, .int .i64 sda.x.by_.w, .bool sda.hangs, .string sda.path]) (vs := [.int .i64 sda.x.node.t, .int .i64 sda.x.node.w, .int .i64 sda.x.parent.t, .int .i64 sda.x.parent.w, .string sda.x.name, .bool sda.x.dir, .bool sda.x.gone, .slice A134 n135 c136, .int .i64 sda.x.by_.t, .int .i64 sda.x.by_.w, .bool sda.hangs, .string sda.path]) (cs' := [.int .i64 sda.x.node.t, .int .i64 sda.x.node.w, .int .i64 sda.x.parent.t, .int .i64 sda.x.parent.w, .string sda.x.name, .bool sda.x.dir, .bool sda.x.gone, .slice A134 n135 c136, .int .i64 sda.x.by_.t, .int .i64 sda.x.by_.w, .bool sda.hangs, .string sda.path]) (by kernel_rfl) (by kernel_rfl) rfl Ty.sz123 h157 rfl (Nat.le_of_ble_eq_true rfl) rfl ?_)
      intro w158 h159 c160
      have M161 := Mod.trans' M153 c160 (fun i hi => by injection hi with hi; rw [← hi]; exact g125)
      have M162 := Mod.trans' M154 c160 (fun i hi => by injection hi with hi; rw [← hi]; exact g126)
      have M163 := Mod.trans' M155 c160 (fun i hi => by injection hi with hi; rw [← hi]; exact g127)
      have M164 := Mod.trans' M156 c160 (fun i hi => by injection hi with hi; rw [← hi]; exact g128)
      refine hx (Y := [b117, b103]) (Mod.of_chg c160 (by simp)) (fun y hy => .inl hy) ?_
      have h165 := (chg_ob c160 (Nat.ne_of_lt l124) (up_ob u150 (up_ob u138 (up_ob u121 h106))))
      refine h1 (i := 9) (fuel := 0) (by kernel_rfl) rfl (ss rfl (k := 0) (v := .agg #[.int .i64 sdb.x.node.t, .int .i64 sdb.x.node.w, .int .i64 sdb.x.parent.t, .int .i64 sdb.x.parent.w, .string sdb.x.name, .bool sdb.x.dir, .bool sdb.x.gone, .slice A146 n147 c148, .int .i64 sdb.x.by_.t, .int .i64 sdb.x.by_.w, .bool sdb.hangs, .string sdb.path]) (vs := [.int .i64 sdb.x.node.t, .int .i64 sdb.x.node.w, .int .i64 sdb.x.parent.t, .int .i64 sdb.x.parent.w, .string sdb.x.name, .bool sdb.x.dir, .bool sdb.x.gone, .slice A146 n147 c148, .int .i64 sdb.x.by_.t, .int .i64 sdb.x.by_.w, .bool sdb.hangs, .string sdb.path]) (cs' := [.int .i64 sdb.x.node.t, .int .i64 sdb.x.node.w, .int .i64 sdb.x.parent.t, .int .i64 sdb.x.parent.w, .string sdb.x.name, .bool sdb.x.dir, .bool sdb.x.gone, .slice A146 n147 c148, .int .i64 sdb.x.by_.t, .int .i64 sdb.x.by_.w, .bool sdb.hangs, .string sdb.path]) (by kernel_rfl) (by kernel_rfl) rfl Ty.sz123 h165 rfl (Nat.le_of_ble_eq_true rfl) rfl ?_)
      intro w166 h167 c168
      have M169 := Mod.trans' M161 c168 (fun i hi => by injection hi with hi; rw [← hi]; exact g109)
      have M170 := Mod.trans' M162 c168 (fun i hi => by injection hi with hi; rw [← hi]; exact g110)
      have M171 := Mod.trans' M163 c168 (fun i hi => by injection hi with hi; rw [← hi]; exact g111)
      have M172 := Mod.trans' M164 c168 (fun i hi => by injection hi with hi; rw [← hi]; exact g112)
      refine hx (Y := [b117, b103]) (Mod.of_chg c168 (by simp)) (fun y hy => .inl hy) ?_
      refine hend (by kernel_rfl) ?_
      refine then_n ?_
      have h173 := (chg_ob c168 (Nat.ne_of_gt l124) h159)
      have h174 := (Dat.chg (Dat.chg (Dat.up h137 u150) c160 ⟨(Nat.le_trans hB g125), NotU8.of h157 (by decide)⟩) c168 ⟨(Nat.le_trans hB g109), NotU8.of h165 (by decide)⟩)
      have h175 := (Dat.chg (Dat.chg h149 c160 ⟨(Nat.le_trans hB g125), NotU8.of h157 (by decide)⟩) c168 ⟨(Nat.le_trans hB g109), NotU8.of h165 (by decide)⟩)
      exact ⟨b117, b103, A134, n135, c136, A146, n147, c148, .func (.func 133) #[] #[.pointer (some ⟨ka1, 0, none⟩), .pointer (some ⟨ka2, 0, none⟩), .pointer (some ⟨ka3, 0, none⟩)], .agg #[.int .i64 y71.t, .int .i64 y71.w], .agg #[.int .i64 sda.x.node.t, .int .i64 sda.x.node.w, .int .i64 sda.x.parent.t, .int .i64 sda.x.parent.w, .string sda.x.name, .bool sda.x.dir, .bool sda.x.gone, .slice A134 n135 c136, .int .i64 sda.x.by_.t, .int .i64 sda.x.by_.w, .bool sda.hangs, .string sda.path], .func (.func 133) #[] #[.pointer (some ⟨kb1, 0, none⟩), .pointer (some ⟨kb2, 0, none⟩), .pointer (some ⟨kb3, 0, none⟩)], .agg #[.int .i64 y71.t, .int .i64 y71.w], .agg #[.int .i64 sdb.x.node.t, .int .i64 sdb.x.node.w, .int .i64 sdb.x.parent.t, .int .i64 sdb.x.parent.w, .string sdb.x.name, .bool sdb.x.dir, .bool sdb.x.gone, .slice A146 n147 c148, .int .i64 sdb.x.by_.t, .int .i64 sdb.x.by_.w, .bool sdb.hangs, .string sdb.path], (by kernel_rfl), M172, h173, h167, h174, h175⟩
   rintro _ w96 ⟨ba, bb, yA1, yn1, yc1, yA2, yn2, yc2, y43, y44, y45, y46, y47, y48, rfl, h97, h98, h99, h100, h101⟩
   have M102 := Mod.thin M86 h97 (by simp)
   have M103 := Mod.thin M87 h97 (by simp)
   have M104 := Mod.thin M88 h97 (by simp)
   refine wp_seq (rg_lit ?_)
   refine wl (sv rfl (v := .agg #[.int .i64 sda.x.node.t, .int .i64 sda.x.node.w, .int .i64 sda.x.parent.t, .int .i64 sda.x.parent.w, .string sda.x.name, .bool sda.x.dir, .bool sda.x.gone, .slice yA1 yn1 yc1, .int .i64 sda.x.by_.t, .int .i64 sda.x.by_.w, .bool sda.hangs, .string sda.path]) (r_loads (k := 0) (by kernel_rfl) Ty.ag123 Ty.sz123 h98 (by kernel_rfl)) ?_)
   refine wl (sv rfl (v := .agg #[.int .i64 sdb.x.node.t, .int .i64 sdb.x.node.w, .int .i64 sdb.x.parent.t, .int .i64 sdb.x.parent.w, .string sdb.x.name, .bool sdb.x.dir, .bool sdb.x.gone, .slice yA2 yn2 yc2, .int .i64 sdb.x.by_.t, .int .i64 sdb.x.by_.w, .bool sdb.hangs, .string sdb.path]) (r_loads (k := 0) (by kernel_rfl) Ty.ag123 Ty.sz123 h99 (by kernel_rfl)) ?_)
   refine wl (sc rfl (r_callv (caps := []) (all := [.agg #[.int .i64 sda.x.node.t, .int .i64 sda.x.node.w, .int .i64 sda.x.parent.t, .int .i64 sda.x.parent.w, .string sda.x.name, .bool sda.x.dir, .bool sda.x.gone, .slice yA1 yn1 yc1, .int .i64 sda.x.by_.t, .int .i64 sda.x.by_.w, .bool sda.hangs, .string sda.path], .agg #[.int .i64 sdb.x.node.t, .int .i64 sdb.x.node.w, .int .i64 sdb.x.parent.t, .int .i64 sdb.x.parent.w, .string sdb.x.name, .bool sdb.x.dir, .bool sdb.x.gone, .slice yA2 yn2 yc2, .int .i64 sdb.x.by_.t, .int .i64 sdb.x.by_.w, .bool sdb.hangs, .string sdb.path]]) En.f76 (by kernel_rfl) (by kernel_rfl)) (kind_at (a := sda) (b := sdb) h100 h101) ?_)
   rintro e w105 ⟨rfl, u106⟩
   refine ⟨.int .i64 (kindP sda sdb), rfl, ?_⟩
   have M107 := Mod.trans M102 (Mod.of_up u106)
   have M108 := Mod.trans M103 (Mod.of_up u106)
   have M109 := Mod.trans M104 (Mod.of_up u106)
   refine was (v := .int .i64 (kindP sda sdb)) ?_
   refine wnil (then_n (wp_seq (rg_lit ?_)))
   refine wmv (v := .int .i64 (kindP sda sdb)) ?_
   refine wl (sb rfl (r_ne (k := .i64) (m := (kindP sda sdb)) (n := 0) (by kernel_rfl) (by kernel_rfl)) ?_)
   intro b110 k111
   refine wnil (then_n ?_)
   refine bcase b110 (fun v112 => ?_) (fun v112 => ?_)
   ·
    have p113 := of_decide_eq_false (k111.trans v112)
    refine wp_cond_false (ebool (b := b110) (by kernel_rfl) v112) ?_
    refine wp_skip (inb_n (then_n (rg_lit ?_)))
    refine wl (sv rfl (v := .int .i64 ((j + 1 : Nat) : Int)) (r_add (k := .i64) (m := (j : Int)) (n := 1) (c := ((j + 1 : Nat) : Int)) (by kernel_rfl) (by kernel_rfl) ((IntWalk.i64_in _ (by omega)).trans (by omega))) ?_)
    refine wmv (v := .int .i64 ((j + 1 : Nat) : Int)) ?_
    refine wnil (then_n ?_)
    have h114 := (CRow.up h95 (up_up (Mod.up h97) u106))
    refine ⟨D.length - (j + 1), ?_, (j + 1), out, oA, oc, tget [undef, undef, undef, undef, undef, undef, undef, undef, undef, undef, undef, .pointer (some ⟨b72, 0, none⟩), .pointer (some ⟨ba, 0, none⟩), .pointer (some ⟨bb, 0, none⟩), .int .i64 (kindP sda sdb), undef, undef, undef, undef, undef, undef, undef, undef, undef, undef, undef, undef, undef, undef, undef, undef, undef, undef, undef, undef, undef, undef, undef, undef, undef, .bool b64, .pointer (some ⟨g71, j * 2, none⟩), .agg #[.int .i64 y71.t, .int .i64 y71.w], y43, y44, y45, y46, y47, y48, .agg #[.int .i64 sda.x.node.t, .int .i64 sda.x.node.w, .int .i64 sda.x.parent.t, .int .i64 sda.x.parent.w, .string sda.x.name, .bool sda.x.dir, .bool sda.x.gone, .slice yA1 yn1 yc1, .int .i64 sda.x.by_.t, .int .i64 sda.x.by_.w, .bool sda.hangs, .string sda.path], .agg #[.int .i64 sdb.x.node.t, .int .i64 sdb.x.node.w, .int .i64 sdb.x.parent.t, .int .i64 sdb.x.parent.w, .string sdb.x.name, .bool sdb.x.dir, .bool sdb.x.gone, .slice yA2 yn2 yc2, .int .i64 sdb.x.by_.t, .int .i64 sdb.x.by_.w, .bool sdb.hangs, .string sdb.path], .int .i64 (kindP sda sdb), .int .i64 (kindP sda sdb), .bool b110, (Zj 54), (Zj 55), (Zj 56), (Zj 57), (Zj 58), (Zj 59), (Zj 60), (Zj 61), (Zj 62), (Zj 63), .int .i64 ((j + 1 : Nat) : Int)], rfl, (by kernel_rfl), M109, (by omega), (by rw [ho1]; exact chgs_no hy71 hsa hsb (Decidable.not_not.1 p113)), h114⟩
    · omega
   have p113 := of_decide_eq_true (k111.trans v112)
   refine wp_cond_true (ebool (b := b110) (by kernel_rfl) v112) ?_
   refine rg_lit ?_
   refine wmv (v := .slice oA out.length oc) ?_
   refine wmv (v := .int .i64 (kindP sda sdb)) ?_
   have h114 := (up_ob u106 (md_ob h97 nin0 h84))
   refine wl (sv rfl (v := .agg #[.int .i64 y71.t, .int .i64 y71.w]) (r_loads (k := 0) (by kernel_rfl) Ty.ag24 Ty.sz24 h114 (by kernel_rfl)) ?_)
   refine wl (sv rfl (v := .pointer (some ⟨ba, 11, none⟩)) (r_fieldAddr (u := .pointer (some ⟨ba, 0, none⟩)) (by kernel_rfl) (fun _ => (by kernel_rfl))) ?_)
   have h115 := (up_ob u106 h98)
   refine wl (sv rfl (v := .string sda.path) (r_load (k := 11) (by kernel_rfl) Ty.ag9 h115 (by kernel_rfl)) ?_)
   refine wl (sv rfl (v := .pointer (some ⟨bb, 11, none⟩)) (r_fieldAddr (u := .pointer (some ⟨bb, 0, none⟩)) (by kernel_rfl) (fun _ => (by kernel_rfl))) ?_)
   have h116 := (up_ob u106 h99)
   refine wl (sv rfl (v := .string sdb.path) (r_load (k := 11) (by kernel_rfl) Ty.ag9 h116 (by kernel_rfl)) ?_)
   refine wl (sv rfl (v := .agg #[.int .i64 (kindP sda sdb), .int .i64 y71.t, .int .i64 y71.w, .string sda.path, .string sdb.path]) (r_build (ps := [(0, .int .i64 (kindP sda sdb)), (1, .agg #[.int .i64 y71.t, .int .i64 y71.w]), (2, .string sda.path), (3, .string sdb.path)]) (cs := [.int .i64 (kindP sda sdb), .int .i64 y71.t, .int .i64 y71.w, .string sda.path, .string sdb.path]) Ty.un61 Ty.zv61 Ty.pl61 (by kernel_rfl) (by kernel_rfl)) ?_)
   refine wl (sn rfl (cs := #[.int .i64 (kindP sda sdb), .int .i64 y71.t, .int .i64 y71.w, .string sda.path, .string sdb.path]) (T := 61) (V := fun b => .slice (some ⟨b, 0, none⟩) 1 1) (r_buildSlice (n := 1) (ps := [(0, .agg #[.int .i64 (kindP sda sdb), .int .i64 y71.t, .int .i64 y71.w, .string sda.path, .string sdb.path])]) Ty.un54 Ty.sz61 Ty.zv61 (by decide) (by decide) (by kernel_rfl) (by kernel_rfl)) ?_)
   intro b117 w118 e119 h120 u121
   have l122 : b72 < b117 := by rw [e119]; exact lt_ob h114
   have l123 : ba < b117 := by rw [e119]; exact lt_ob h115
   have l124 : bb < b117 := by rw [e119]; exact lt_ob h116
   have g125 : w.heap.size ≤ b117 := by rw [e119]; exact M107.size
   have g126 : w23.heap.size ≤ b117 := by rw [e119]; exact M108.size
   have g127 : w48.heap.size ≤ b117 := by rw [e119]; exact M109.size
   have M128 := Mod.trans M107 (Mod.of_up u121)
   have M129 := Mod.trans M108 (Mod.of_up u121)
   have M130 := Mod.trans M109 (Mod.of_up u121)
   have h131 := (CRow.up h95 (up_up (up_up (Mod.up h97) u106) u121))
   refine wl (snC ch5_a rfl (L := out) (x := (⟨(kindP sda sdb), y71, sda.path, sdb.path⟩ : ChgD)) (by kernel_rfl) (by kernel_rfl) h131 Ty.un54 h120 M130.size (by omega) ?_)
   intro A132 c133 w134 h135 u136
   have M137 := Mod.trans' M128 u136 (fun k hk => Nat.le_trans M55.size (h131.own k hk).1)
   have M138 := Mod.trans' M129 u136 (fun k hk => Nat.le_trans M56.size (h131.own k hk).1)
   have M139 := Mod.trans' M130 u136 (fun k hk => Nat.le_trans (Nat.le_refl _) (h131.own k hk).1)
   refine was (v := .slice A132 ((out ++ [(⟨(kindP sda sdb), y71, sda.path, sdb.path⟩ : ChgD)]).length) c133) ?_
   refine wnil (inb_n (then_n (rg_lit ?_)))
   refine wl (sv rfl (v := .int .i64 ((j + 1 : Nat) : Int)) (r_add (k := .i64) (m := (j : Int)) (n := 1) (c := ((j + 1 : Nat) : Int)) (by kernel_rfl) (by kernel_rfl) ((IntWalk.i64_in _ (by omega)).trans (by omega))) ?_)
   refine wmv (v := .int .i64 ((j + 1 : Nat) : Int)) ?_
   refine wnil (then_n ?_)
   refine ⟨D.length - (j + 1), ?_, (j + 1), (out ++ [(⟨(kindP sda sdb), y71, sda.path, sdb.path⟩ : ChgD)]), A132, c133, tget [undef, undef, undef, undef, undef, undef, undef, undef, undef, undef, undef, .pointer (some ⟨b72, 0, none⟩), .pointer (some ⟨ba, 0, none⟩), .pointer (some ⟨bb, 0, none⟩), .int .i64 (kindP sda sdb), undef, undef, undef, undef, undef, undef, undef, undef, undef, undef, undef, undef, undef, undef, undef, undef, undef, undef, undef, undef, undef, undef, undef, undef, undef, .bool b64, .pointer (some ⟨g71, j * 2, none⟩), .agg #[.int .i64 y71.t, .int .i64 y71.w], y43, y44, y45, y46, y47, y48, .agg #[.int .i64 sda.x.node.t, .int .i64 sda.x.node.w, .int .i64 sda.x.parent.t, .int .i64 sda.x.parent.w, .string sda.x.name, .bool sda.x.dir, .bool sda.x.gone, .slice yA1 yn1 yc1, .int .i64 sda.x.by_.t, .int .i64 sda.x.by_.w, .bool sda.hangs, .string sda.path], .agg #[.int .i64 sdb.x.node.t, .int .i64 sdb.x.node.w, .int .i64 sdb.x.parent.t, .int .i64 sdb.x.parent.w, .string sdb.x.name, .bool sdb.x.dir, .bool sdb.x.gone, .slice yA2 yn2 yc2, .int .i64 sdb.x.by_.t, .int .i64 sdb.x.by_.w, .bool sdb.hangs, .string sdb.path], .int .i64 (kindP sda sdb), .int .i64 (kindP sda sdb), .bool b110, .slice oA out.length oc, .int .i64 (kindP sda sdb), .agg #[.int .i64 y71.t, .int .i64 y71.w], .pointer (some ⟨ba, 11, none⟩), .string sda.path, .pointer (some ⟨bb, 11, none⟩), .string sdb.path, .agg #[.int .i64 (kindP sda sdb), .int .i64 y71.t, .int .i64 y71.w, .string sda.path, .string sdb.path], .slice (some ⟨b117, 0, none⟩) 1 1, .slice A132 ((out ++ [(⟨(kindP sda sdb), y71, sda.path, sdb.path⟩ : ChgD)]).length) c133, .int .i64 ((j + 1 : Nat) : Int)], rfl, (by kernel_rfl), M139, (by omega), (by rw [ho1]; exact chgs_yes hy71 hsa hsb p113), h135⟩
   · omega
  have p37 := of_decide_eq_true (k35.trans v36)
  have q38 : k < LL.length := by omega
  have q39 : k < LL.length := by omega
  refine wp_cond_true (ebool (b := b34) (by kernel_rfl) v36) ?_
  refine wp_skip (then_n (wp_seq (wp_block (wp_seq (rg_lit ?_)))))
  have h40 := (IRow.up h26 (Mod.up hM1))
  obtain ⟨y41, hy41⟩ : ∃ x, LL[k]? = some x := ⟨_, List.getElem?_eq_getElem q39⟩
  obtain ⟨g41, cp41, cu41, dA41, dn41, dc41, hA41, hg41, hb41, he41, hD41⟩ := h40.get hy41
  injection hA41 with hA41 _ _
  replace he41 : (cu41.toList.drop (0 + k * 10)).take 10 = (itC y41 (.slice dA41 dn41 dc41)) := by rw [Nat.zero_add]; exact he41
  refine wl (sv rfl (v := .pointer (some ⟨g41, 0 + k * 10, none⟩)) (r_ixaddr' (A := A24) (b := g41) (o := 0) (n := LL.length) (c := c25) (sz := 10) (j := (k : Int)) (by kernel_rfl) hA41 (by kernel_rfl) Ty.un74 Ty.sz42 (by omega) (by omega) (by simp)) ?_)
  refine wl (sv rfl (v := itV y41 (.slice dA41 dn41 dc41)) (r_loads (k := 0 + k * 10) (by kernel_rfl) Ty.ag42 Ty.sz42 hb41 (el_sub0 he41 rfl)) ?_)
  refine wl (sn rfl (cs := #[.int .i64 0, .int .i64 0, .int .i64 0, .int .i64 0, .string (⟨#[]⟩), .bool false, .bool false, .slice none 0 0, .int .i64 0, .int .i64 0]) (T := 42) (V := fun b => .pointer (some ⟨b, 0, none⟩)) (r_alloc Ty.zv42 rfl) ?_)
  intro b42 w43 e44 h45 u46
  have l47 : g41 < b42 := by rw [e44]; exact lt_ob hb41
  have g48 : w.heap.size ≤ b42 := by rw [e44]; exact M33.size
  have g49 : w23.heap.size ≤ b42 := by rw [e44]; exact hM1.size
  have M50 := Mod.trans M33 (Mod.of_up u46)
  have M51 := Mod.trans hM1 (Mod.of_up u46)
  refine wl (ss rfl (k := 0) (v := itV y41 (.slice dA41 dn41 dc41)) (vs := (itC y41 (.slice dA41 dn41 dc41))) (cs' := (itC y41 (.slice dA41 dn41 dc41))) (by kernel_rfl) (by kernel_rfl) rfl Ty.sz42 h45 rfl (Nat.le_of_ble_eq_true rfl) rfl ?_)
  intro w52 h53 c54
  have M55 := Mod.trans' M50 c54 (fun i hi => by injection hi with hi; rw [← hi]; exact g48)
  have M56 := Mod.trans' M51 c54 (fun i hi => by injection hi with hi; rw [← hi]; exact g49)
  refine wnil (then_n (rg_lit ?_))
  refine wmv (v := .slice nA ns.length nc) ?_
  refine wl (sv rfl (v := .pointer (some ⟨b42, 0, none⟩)) (r_fieldAddr (u := .pointer (some ⟨b42, 0, none⟩)) (by kernel_rfl) (fun _ => (by kernel_rfl))) ?_)
  refine wl (sv rfl (v := .agg #[.int .i64 y41.node.t, .int .i64 y41.node.w]) (r_loads (k := 0) (by kernel_rfl) Ty.ag24 Ty.sz24 h53 (by kernel_rfl)) ?_)
  refine wl (sn rfl (cs := #[.int .i64 y41.node.t, .int .i64 y41.node.w]) (T := 24) (V := fun b => .slice (some ⟨b, 0, none⟩) 1 1) (r_buildSlice (n := 1) (ps := [(0, .agg #[.int .i64 y41.node.t, .int .i64 y41.node.w])]) Ty.un95 Ty.sz24 Ty.zv24 (by decide) (by decide) (by kernel_rfl) (by kernel_rfl)) ?_)
  intro b57 w58 e59 h60 u61
  have h62 := (chg_ob c54 (Nat.ne_of_lt l47) (up_ob u46 hb41))
  have l63 : g41 < b57 := by rw [e59]; exact lt_ob h62
  have l64 : b42 < b57 := by rw [e59]; exact lt_ob h53
  have g65 : w.heap.size ≤ b57 := by rw [e59]; exact M55.size
  have g66 : w23.heap.size ≤ b57 := by rw [e59]; exact M56.size
  have M67 := Mod.trans M55 (Mod.of_up u61)
  have M68 := Mod.trans M56 (Mod.of_up u61)
  have h69 := (MRow.up hF1_2 (up_up (up_chgn u46 c54 (by rw [e44]; exact Nat.le_refl _)) u61))
  refine wl (snM rfl (L := ns) (x := y41.node.t) (y := y41.node.w) (by kernel_rfl) (by kernel_rfl) h69 Ty.un95 h60 M68.size (by omega) ?_)
  intro A70 c71 w72 h73 u74
  have M75 := Mod.trans' M67 u74 (fun k hk => Nat.le_trans M30.size (h69.own k hk).1)
  have M76 := Mod.trans' M68 u74 (fun k hk => Nat.le_trans (Nat.le_refl _) (h69.own k hk).1)
  refine was (v := .slice A70 ((ns ++ [(⟨y41.node.t, y41.node.w⟩ : Stamp)]).length) c71) ?_
  refine wnil (inb_n (then_n (rg_lit ?_)))
  refine wl (sv rfl (v := .int .i64 ((k + 1 : Nat) : Int)) (r_add (k := .i64) (m := (k : Int)) (n := 1) (c := ((k + 1 : Nat) : Int)) (by kernel_rfl) (by kernel_rfl) ((IntWalk.i64_in _ (by omega)).trans (by omega))) ?_)
  refine wmv (v := .int .i64 ((k + 1 : Nat) : Int)) ?_
  refine wnil (then_n ?_)
  refine ⟨LL.length - (k + 1), ?_, (k + 1), (ns ++ [(⟨y41.node.t, y41.node.w⟩ : Stamp)]), A70, c71, .pointer (some ⟨b42, 0, none⟩), .bool b34, .pointer (some ⟨g41, 0 + k * 10, none⟩), itV y41 (.slice dA41 dn41 dc41), .slice nA ns.length nc, .pointer (some ⟨b42, 0, none⟩), .agg #[.int .i64 y41.node.t, .int .i64 y41.node.w], .slice (some ⟨b57, 0, none⟩) 1 1, .slice A70 ((ns ++ [(⟨y41.node.t, y41.node.w⟩ : Stamp)]).length) c71, .int .i64 ((k + 1 : Nat) : Int), rfl, (by kernel_rfl), M76, (by omega), (by rw [hns]; exact nodes_next hy41), h73⟩
  · omega
end Go.Proofs.YtefhfoioeoijlaaGreatDoor

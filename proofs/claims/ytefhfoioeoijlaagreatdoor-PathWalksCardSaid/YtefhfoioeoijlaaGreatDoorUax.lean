/- DF -/
import Derived.Test.YtefhfoioeoijlaaGreatDoorUah
import Derived.Test.YtefhfoioeoijlaaGreatDoorUaq
import Derived.Test.YtefhfoioeoijlaaGreatDoorUaw
set_option linter.unusedVariables false
set_option linter.unusedSimpArgs false
namespace Go.Proofs.YtefhfoioeoijlaaGreatDoor
open Go Go.RowKit Go.Sort
set_option maxHeartbeats 2000000 in
theorem lessD_at {w : World} (xa xb : ByteArray) (hxa : xa.size ≤ 1000000) (hxb : xb.size ≤ 1000000) : Calls Tryz.prog 93 #[.string xa, .string xb] w fun e w' => e = .returned (.bool (lessB xa xb)) ∧ Up w w' := by
  go_enter Tryz.func93, Tryz.ntmps93
  refine wp_seq (rg_lit (was (v := B_ false) (wnil (then_n (wp_seq (wp_seq (rg_lit (was (v := I_ 0) (wnil (then_n (wp_block ?_)))))))))))
  refine lp (fun n a r1 => ∃ (k : Nat), (n = xa.size - k) ∧ (HasFr a 37 [(0, S_ xa), (1, S_ xb), (5, I_ k)] []) ∧ (Mod [] w r1) ∧ (LessI xa xb k)) ⟨_, 0, rfl, hmk, Mod.refl _ _, (LessI.zero _ _)⟩ ?_
  rintro _ _ r1 ⟨k, rfl, h1, hM1, hF1_0⟩
  obtain ⟨_, rfl⟩ := h1
  have M2 := Mod.thin (Mod.refl [] w) hM1 (by simp)
  have hI := hF1_0
  have hI1 := hI.1
  have hI2 := hI.2.1
  refine wp_seq (wp_seq (rg_lit (wmv (v := I_ k) (wmv (v := S_ xa) (wlv (v := I_ xa.size) (r_lens Ty.un9 (s := xa) (by kernel_rfl)) (wl (sb rfl (ltI k xa.size) fun b3 k4 => wmv (v := B_ b3) ?_)))))))
  refine bcd k4 (fun v5 p6 => ?_) (fun v5 p6 => ?_)
  ·
   iterate 4 refine wls rfl v5 ?_
   refine wlv (v := B_ false) (pkF (ebk v5)) (wnil (then_n (wp_cond_false (by kernel_rfl) (wp_exit (then_x (by nofun) (then_x (by nofun) (inb_hit (then_n (wp_seq (rg_lit (wmv (v := S_ xa) (wlv (v := I_ xa.size) (r_lens Ty.un9 (s := xa) (by kernel_rfl)) (wmv (v := S_ xb) (wlv (v := I_ xb.size) (r_lens Ty.un9 (s := xb) (by kernel_rfl)) (wl (sb rfl (ltI xa.size xb.size) fun b7 k8 => ?_))))))))))))))))
   refine was (v := B_ b7) (wnil (then_n (wp_ret ?_)))
   refine br1 (v := B_ b7) rfl ?_
   exact ⟨ret_bool ((LessI.fin hF1_0 (by omega)).trans k8).symm, (Mod.up M2)⟩
  refine wlw rfl v5 (v := I_ k) (mv) (wlw rfl v5 (v := S_ xb) (mv) (wlw rfl v5 (v := I_ xb.size) (r_lens Ty.un9 (s := xb) (by kernel_rfl)) (wl (sb (wt (b := b3) rfl (by kernel_rfl) v5) (ltI k xb.size) fun b9 k10 => wlv (v := B_ b9) (pkT (ebk v5)) (wnil (then_n ?_))))))
  refine bcd k10 (fun v11 p12 => ?_) (fun v11 p12 => ?_)
  ·
   refine wp_cond_false (ebk v11) (wp_exit (then_x (by nofun) (then_x (by nofun) (inb_hit (then_n (wp_seq (rg_lit (wmv (v := S_ xa) (wlv (v := I_ xa.size) (r_lens Ty.un9 (s := xa) (by kernel_rfl)) (wmv (v := S_ xb) (wlv (v := I_ xb.size) (r_lens Ty.un9 (s := xb) (by kernel_rfl)) (wl (sb rfl (ltI xa.size xb.size) fun b13 k14 => was (v := B_ b13) (wnil (then_n (wp_ret ?_))))))))))))))))
   refine br1 (v := B_ b13) rfl ?_
   exact ⟨ret_bool ((LessI.fin hF1_0 (by omega)).trans k14).symm, (Mod.up M2)⟩
  refine wp_cond_true (ebk v11) (wp_skip (then_n (wp_seq (wp_block (wp_seq ?_)))))
  refine rg_all (by kernel_rfl) (by kernel_rfl) ?_
  refine qmv (v := S_ xa) (qmv (v := I_ k) ?_)
  obtain ⟨y15, hy15⟩ : ∃ x, xa.data.toList[k]? = some x := ⟨_, List.getElem?_eq_getElem (by rw [← sz_len]; omega)⟩
  refine qv rfl (v := .int .u8 ((y15.toNat : Nat) : Int)) (fun _ _ => r_strix (s := xa) (k := k) (c := y15) (by kernel_rfl) (by kernel_rfl) hy15 Tryz.underlying9) (qmv (v := S_ xb) (qmv (v := I_ k) ?_))
  obtain ⟨y16, hy16⟩ : ∃ x, xb.data.toList[k]? = some x := ⟨_, List.getElem?_eq_getElem (by rw [← sz_len]; omega)⟩
  refine qv rfl (v := .int .u8 ((y16.toNat : Nat) : Int)) (fun _ _ => r_strix (s := xb) (k := k) (c := y16) (by kernel_rfl) (by kernel_rfl) hy16 Tryz.underlying9) ?_
  refine qb rfl (fun _ _ => r_ne (k := .u8) (m := ((y15.toNat : Nat) : Int)) (n := ((y16.toNat : Nat) : Int)) (by kernel_rfl) (by kernel_rfl)) fun _ k18 => ?_
  refine qnil fun _ u20 => ?_
  refine then_n ?_
  refine bcd k18 (fun v23 p24 => ?_) (fun v23 p24 => ?_)
  ·
   refine wp_cond_false (ebk v23) (wp_skip (inb_n (then_n (rg_lit (wmv (v := I_ k) (wlv (v := N_ (k + 1)) (adN k 1) (was (v := N_ (k + 1)) (wnil (then_n ?_)))))))))
   refine ⟨xa.size - (k + 1), ?_, (k + 1), rfl, hmk, (mtu hM1 u20), (LessI.next hF1_0 hy15 hy16 p24)⟩
   · omega
  refine wp_cond_true (ebk v23) (wp_seq ?_)
  refine rg_all (by kernel_rfl) (by kernel_rfl) ?_
  refine qmv (v := S_ xa) (qmv (v := I_ k) (qv rfl (v := .int .u8 ((y15.toNat : Nat) : Int)) (fun _ _ => r_strix (s := xa) (k := k) (c := y15) (by kernel_rfl) (by kernel_rfl) hy15 Tryz.underlying9) (qmv (v := S_ xb) (qmv (v := I_ k) (qv rfl (v := .int .u8 ((y16.toNat : Nat) : Int)) (fun _ _ => r_strix (s := xb) (k := k) (c := y16) (by kernel_rfl) (by kernel_rfl) hy16 Tryz.underlying9) ?_)))))
  refine qb rfl (fun _ _ => r_lt (k := .u8) (m := ((y15.toNat : Nat) : Int)) (n := ((y16.toNat : Nat) : Int)) (by kernel_rfl) (by kernel_rfl)) fun b27 k28 => ?_
  refine qas (v := B_ b27) ?_
  refine qnil fun _ u30 => ?_
  refine then_n (wp_ret (inb_r (then_x (by nofun) (then_x (by nofun) (inb_r (then_x (by nofun) ?_))))))
  refine br1 (v := B_ b27) rfl ?_
  exact ⟨ret_bool ((LessI.hit hF1_0 hy15 hy16 p24).trans k28).symm, (Mod.up (mtu (mtu M2 u20) u30))⟩
set_option maxRecDepth 20000 in
set_option maxHeartbeats 2000000 in
theorem listD_at {B : Nat} {w : World} {ub : Nat} {L : List Item} (h : RIs B w ub L) (hB : B ≤ w.heap.size) (hF : Fit L) (n1 n2 : Int) : Calls Tryz.prog 86 #[trP ub, .agg #[.int .i64 n1, .int .i64 n2]] w fun e w' => ∃ xA c D, e = .returned (.tuple #[.slice xA D.length c, .int .i64 (kidK L ⟨n1, n2⟩)]) ∧ GRow 160 enC 5 w.heap.size w' (.slice xA D.length c) D ∧ (kidK L ⟨n1, n2⟩ = 0 → Listed (entsI (kidsI ⟨n1, n2⟩ L)) D) ∧ (kidK L ⟨n1, n2⟩ ≠ 0 → D = []) ∧ Up w w' := by
  obtain ⟨ii_r, iz_r, hi_r, hz_r, hs_r, hb_r, hc_r⟩ := info_ritem
  have hk3 := kids_300 hF ⟨n1, n2⟩
  go_enter Tryz.func86, Tryz.ntmps86
  refine wp_seq (rg_lit (wl (sn rfl (cs := #[I_ n1, I_ n2]) (T := 24) (V := fun b => pt b 0) (r_box (v := .agg #[I_ n1, I_ n2]) (by kernel_rfl) rfl) fun b1 _ _ h4 u5 => ?_)))
  have M7 := mtu (Mod.refl [] w) u5
  refine was (v := .slice none 0 0) (was (v := I_ 0) (wnil (then_n (wp_seq (wp_seq (rg_lit (wmv (v := pt ub 0) (wlv (v := .agg #[I_ n1, I_ n2]) (lds 0 Ty.ag24 Ty.sz24 h4) ?_))))))))
  have h8 := (RIs.up h (Mod.up M7))
  refine wl (sca [pt ub 0, .agg #[I_ n1, I_ n2]] En.f78 (rhangs_at h8 n1 n2) ?_)
  rintro e _ ⟨rfl, u10⟩
  refine ⟨_, rfl, ?_⟩
  have M11 := mtu M7 u10
  refine wlv (v := B_ (!(hangsI L 301 ⟨n1, n2⟩))) (r_not (b := (hangsI L 301 ⟨n1, n2⟩)) (by kernel_rfl)) (wnil (then_n ?_))
  refine bcase (hangsI L 301 ⟨n1, n2⟩) (fun v12 => ?_) (fun v12 => ?_)
  ·
   refine wp_cond_true (ebk (bneg v12)) (wp_seq (rg_lit (was (v := .slice none 0 0) (was (v := I_ 12) (wnil (then_n (wp_ret (then_x (by nofun) ?_))))))))
   refine br2 (v := .slice none 0 0) (u := I_ 12) rfl ?_
   exact ⟨none, 0, [], by rw [kidK_12 v12]; rfl, GRow.nil _ _, fun h0 => absurd h0 (by rw [kidK_12 v12]; decide), fun _ => rfl, (Mod.up M11)⟩
  refine wp_cond_false (ebk (bneg v12)) (wp_skip (then_n (wp_seq (rg_lit (wmv (v := pt ub 0) ?_)))))
  have h13 := (up_ob u10 h4)
  refine wlv (v := .agg #[I_ n1, I_ n2]) (lds 0 Ty.ag24 Ty.sz24 h13) (wl (sca [pt ub 0, .agg #[I_ n1, I_ n2]] En.f79 (rget_x (RIs.up h (Mod.up M11)) n1 n2) ?_))
  rintro e _ ⟨A16, n17, c18, rfl, _, u20⟩
  refine ⟨_, rfl, ?_⟩
  have M21 := mtu M11 u20
  refine wmv (v := .tuple #[itV (gotI L ⟨n1, n2⟩) (.slice A16 n17 c18), B_ (hasI L ⟨n1, n2⟩)]) (wlv (v := itV (gotI L ⟨n1, n2⟩) (.slice A16 n17 c18)) (xt [itV (gotI L ⟨n1, n2⟩) (.slice A16 n17 c18), B_ (hasI L ⟨n1, n2⟩)]) (wlv (v := B_ (hasI L ⟨n1, n2⟩)) (xt [itV (gotI L ⟨n1, n2⟩) (.slice A16 n17 c18), B_ (hasI L ⟨n1, n2⟩)]) (wl (sn rfl (cs := #[I_ 0, I_ 0, I_ 0, I_ 0, S_ (⟨#[]⟩), B_ false, B_ false, .slice none 0 0, I_ 0, I_ 0]) (T := 127) (V := fun b => pt b 0) (r_alloc Ty.zv127 rfl) fun b22 _ e24 h25 u26 => ?_))))
  have h27 := (up_ob u20 h13)
  have l28 := lsz e24 h27
  have g29 := gsz e24 M21
  refine wl (ss rfl (k := 0) (v := itV (gotI L ⟨n1, n2⟩) (.slice A16 n17 c18)) (vs := (itC (gotI L ⟨n1, n2⟩) (.slice A16 n17 c18))) (cs' := (itC (gotI L ⟨n1, n2⟩) (.slice A16 n17 c18))) (by kernel_rfl) (by kernel_rfl) rfl Ty.sz127 h25 rfl (Nat.le_of_ble_eq_true rfl) rfl fun w31 h32 c33 => ?_)
  have M34 := mtn (mtu M21 u26) c33 g29
  refine was (v := B_ (hasI L ⟨n1, n2⟩)) (wnil (then_n (wp_seq ?_)))
  refine wp_cutA (R := fun a wq => (HasFr a 88 [(0, pt ub 0), (1, .agg #[I_ n1, I_ n2]), (3, pt b1 0), (6, pt b22 0), (7, B_ (hasI L ⟨n1, n2⟩))] []) ∧ (Mod [] w31 wq) ∧ (kidK L ⟨n1, n2⟩ = 0)) ?_ ?_
  ·
   refine wp_seq (rg_lit ?_)
   iterate 2 refine wmv (v := B_ (hasI L ⟨n1, n2⟩)) ?_
   refine bcase (hasI L ⟨n1, n2⟩) (fun v38 => ?_) (fun v38 => ?_)
   ·
    iterate 3 refine wls rfl v38 ?_
    refine wlv (v := B_ false) (pkF (ebk v38)) (wnil (then_n (wp_cond_false (by kernel_rfl) (wp_skip (then_n ?_)))))
    exact ⟨hmk, (Mod.refl [] w31), (kidK_0a v12 v38)⟩
   refine wlw rfl v38 (v := pt b22 5) (fa (pt b22 0)) (wlw rfl v38 (v := B_ ((gotI L ⟨n1, n2⟩).dir)) (ld 5 Ty.ag4 h32) (wlw rfl v38 (v := B_ (!((gotI L ⟨n1, n2⟩).dir))) (r_not (b := ((gotI L ⟨n1, n2⟩).dir)) (by kernel_rfl)) (wlv (v := B_ (!((gotI L ⟨n1, n2⟩).dir))) (pkT (ebk v38)) (wnil (then_n ?_)))))
   refine bcase ((gotI L ⟨n1, n2⟩).dir) (fun v39 => ?_) (fun v39 => ?_)
   ·
    refine wp_cond_true (ebk (bneg v39)) (wp_seq (rg_lit (was (v := .slice none 0 0) (was (v := I_ 14) (wnil (then_n (wp_ret (then_x (by nofun) ?_))))))))
    refine br2 (v := .slice none 0 0) (u := I_ 14) rfl ?_
    exact ⟨none, 0, [], by rw [kidK_14 v12 v38 v39]; rfl, GRow.nil _ _, fun h0 => absurd h0 (by rw [kidK_14 v12 v38 v39]; decide), fun _ => rfl, (Mod.up M34)⟩
   refine wp_cond_false (ebk (bneg v39)) (wp_skip (then_n ?_))
   exact ⟨hmk, (Mod.refl [] w31), (kidK_0b v12 v38 v39)⟩
  rintro _ _ ⟨h41, h39, h40⟩
  obtain ⟨_, rfl⟩ := h41
  have M42 := Mod.thin M34 h39 (by simp)
  refine wp_seq (rg_lit (was (v := .slice none 0 0) (wnil (then_n (wp_seq (rg_lit (wmv (v := pt ub 0) ?_)))))))
  have h43 := (md_ob h39 nin0 (chg_ob c33 (Nat.ne_of_lt l28) (up_ob u26 h27)))
  refine wlv (v := .agg #[I_ n1, I_ n2]) (lds 0 Ty.ag24 Ty.sz24 h43) ?_
  have h50 := (RIs.up h (Mod.up M42))
  refine wl (sca [pt ub 0, .agg #[I_ n1, I_ n2]] En.f87 (row_sl (rkids_at h50 (Nat.le_trans hB M42.size) n1 n2)) ?_)
  rintro e w44 ⟨A45, c46, rfl, h47, u48⟩
  have h49 := IRow.base h47 M42.size
  refine ⟨_, rfl, ?_⟩
  refine was (v := .slice A45 ((kidsI ⟨n1, n2⟩ L).length) c46) (wnil (then_n (wp_seq (wp_seq (rg_lit (was (v := I_ 0) (wnil (then_n (wp_block ?_)))))))))
  have h52 := (up_ob u48 h43)
  have h53 := (up_ob u48 (md_ob h39 nin0 h32))
  refine lp (fun n a r1 => ∃ (kk : Nat) (oA : Option Addr) (on : Nat) (oc : Nat) (Lo : List EntD), (n = (kidsI ⟨n1, n2⟩ L).length - kk) ∧ (HasFr a 88 [(0, pt ub 0), (1, .agg #[I_ n1, I_ n2]), (3, pt b1 0), (6, pt b22 0), (7, B_ (hasI L ⟨n1, n2⟩)), (8, .slice oA on oc), (9, .slice A45 ((kidsI ⟨n1, n2⟩ L).length) c46), (10, I_ kk)] []) ∧ (Mod [] w44 r1) ∧ (kk ≤ (kidsI ⟨n1, n2⟩ L).length) ∧ (Listed (entsI ((kidsI ⟨n1, n2⟩ L).take kk)) Lo) ∧ (GRow 160 enC 5 w.heap.size r1 (.slice oA on oc) Lo)) ⟨_, 0, none, 0, 0, [], rfl, hmk, Mod.refl _ _, (Nat.zero_le _), listed_nil, (GRow.nil _ _)⟩ ?_
  rintro _ _ r1 ⟨kk, oA, on, oc, Lo, rfl, h56, hM1, _, hF1_1, hF1_2⟩
  obtain ⟨_, rfl⟩ := h56
  have M57 := Mod.thin (mtu M42 u48) hM1 (by simp)
  have hll := hF1_1.1.length_eq
  rw [entsI_len, List.length_take] at hll
  have hon := (GRow.addr hF1_2).1
  refine wp_seq (wp_seq (rg_lit (wmv (v := I_ kk) (wmv (v := .slice A45 ((kidsI ⟨n1, n2⟩ L).length) c46) (wlv (v := I_ (((kidsI ⟨n1, n2⟩ L).length) : Int)) (ln A45 ((kidsI ⟨n1, n2⟩ L).length) c46 Ty.un64) (wl (sb rfl (ltI kk (((kidsI ⟨n1, n2⟩ L).length) : Int)) fun _ k59 => wnil (then_n ?_))))))))
  refine bcd k59 (fun v60 p61 => ?_) (fun v60 p61 => ?_)
  ·
   refine wp_cond_false (ebk v60) (wp_exit (then_x (by nofun) (then_x (by nofun) (inb_hit (then_n (wp_seq (rg_lit (wmv (v := .slice oA on oc) (was (v := .slice oA on oc) (was (v := I_ 0) (wnil (then_n (wp_ret ?_)))))))))))))
   refine br2 (v := .slice oA on oc) (u := I_ 0) rfl ?_
   have hkl : (kidsI ⟨n1, n2⟩ L).take kk = (kidsI ⟨n1, n2⟩ L) := List.take_of_length_le (by omega)
   have hkz := h40
   exact ⟨oA, oc, Lo, by rw [hkz, ← hon], by rw [← hon]; exact hF1_2, fun _ => (by rw [← hkl]; exact hF1_1), fun h0 => absurd hkz h0, (Mod.up M57)⟩
  refine wp_cond_true (ebk v60) (wp_skip (then_n (wp_seq (wp_block (wp_seq ?_)))))
  obtain ⟨x0, hx0⟩ : ∃ x, (kidsI ⟨n1, n2⟩ L)[kk]? = some x := ⟨_, List.getElem?_eq_getElem (by omega)⟩
  refine wp_cutA (R := fun a wq => ∃ (eb : Nat), (HasFr a 88 [(0, pt ub 0), (1, .agg #[I_ n1, I_ n2]), (3, pt b1 0), (6, pt b22 0), (7, B_ (hasI L ⟨n1, n2⟩)), (8, .slice oA on oc), (9, .slice A45 ((kidsI ⟨n1, n2⟩ L).length) c46), (10, I_ kk), (11, pt eb 0)] []) ∧ (Mod [] r1 wq) ∧ (wq.heap[eb]? = some (.cells #[S_ (nmAt (kidsI ⟨n1, n2⟩ L) kk x0), I_ x0.node.t, I_ x0.node.w, B_ x0.dir, I_ x0.data.length] 160 (0, 0)))) ?_ ?_
  ·
   refine rg_held [] (n := 22) (by kernel_rfl) rfl ?_
   intro w68 u69
   have M71 := mtu hM1 u69
   have M72 := mtu (Mod.refl [] r1) u69
   refine hqm 0 21 rfl (v := .slice A45 ((kidsI ⟨n1, n2⟩ L).length) c46) (hqm 1 20 rfl (v := I_ kk) (hqm 3 19 rfl (v := .slice A45 ((kidsI ⟨n1, n2⟩ L).length) c46) (hqm 4 18 rfl (v := I_ kk) ?_)))
   have h73 := (IRow.up h49 (Mod.up M71))
   obtain ⟨g74, _, cu74, dA74, dn74, dc74, hA74, _, hb74, he74, _⟩ := h73.get hx0
   injection hA74 with hA74 _ _
   replace he74 : (cu74.toList.drop (0 + kk * 10)).take 10 = (itC x0 (.slice dA74 dn74 dc74)) := by rw [Nat.zero_add]; exact he74
   refine hqk 5 17 rfl rfl (v := pt g74 (0 + kk * 10)) (fun _ _ => ixa ((kidsI ⟨n1, n2⟩ L).length) c46 10 kk hA74 Ty.un64 Ty.sz127) (hqk 6 16 rfl rfl (v := pt g74 (0 + kk * 10)) (fun _ _ => fa (pt g74 (0 + kk * 10))) (hqk 7 15 rfl rfl (v := .agg #[I_ x0.node.t, I_ x0.node.w]) (fun _ uz => r_loads (k := 0 + kk * 10) (by kernel_rfl) Ty.ag24 Ty.sz24 (md_ob uz nin0 hb74) (el_sub0 he74 rfl)) (hqm 8 14 rfl (v := .slice A45 ((kidsI ⟨n1, n2⟩ L).length) c46) (hqm 9 13 rfl (v := I_ kk) ?_))))
   obtain ⟨g75, _, cu75, dA75, dn75, dc75, hA75, _, hb75, he75, _⟩ := h73.get hx0
   injection hA75 with hA75 _ _
   replace he75 : (cu75.toList.drop (0 + kk * 10)).take 10 = (itC x0 (.slice dA75 dn75 dc75)) := by rw [Nat.zero_add]; exact he75
   refine hqk 10 12 rfl rfl (v := pt g75 (0 + kk * 10)) (fun _ _ => ixa ((kidsI ⟨n1, n2⟩ L).length) c46 10 kk hA75 Ty.un64 Ty.sz127) (hqk 11 11 rfl rfl (v := pt g75 (0 + kk * 10 + 5)) (fun _ _ => fa (pt g75 (0 + kk * 10))) (hqk 12 10 rfl rfl (v := B_ x0.dir) (fun _ uz => r_load (k := 0 + kk * 10 + 5) (v := B_ x0.dir) (by kernel_rfl) Ty.ag4 (md_ob uz nin0 hb75) (el_get he75 5 rfl)) (hqm 13 9 rfl (v := .slice A45 ((kidsI ⟨n1, n2⟩ L).length) c46) (hqm 14 8 rfl (v := I_ kk) ?_))))
   obtain ⟨g76, _, cu76, dA76, dn76, dc76, hA76, _, hb76, he76, hD76⟩ := h73.get hx0
   injection hA76 with hA76 _ _
   replace he76 : (cu76.toList.drop (0 + kk * 10)).take 10 = (itC x0 (.slice dA76 dn76 dc76)) := by rw [Nat.zero_add]; exact he76
   refine hqk 15 7 rfl rfl (v := pt g76 (0 + kk * 10)) (fun _ _ => ixa ((kidsI ⟨n1, n2⟩ L).length) c46 10 kk hA76 Ty.un64 Ty.sz127) (hqk 16 6 rfl rfl (v := pt g76 (0 + kk * 10 + 7)) (fun _ _ => fa (pt g76 (0 + kk * 10))) (hqk 17 5 rfl rfl (v := .slice dA76 dn76 dc76) (fun _ uz => r_load (k := 0 + kk * 10 + 7) (v := .slice dA76 dn76 dc76) (by kernel_rfl) Ty.ag40 (md_ob uz nin0 hb76) (el_get he76 7 rfl)) (hqk 18 4 rfl rfl (v := I_ dn76) (fun _ _ => ln dA76 dn76 dc76 Ty.un40) ?_)))
   refine h2a 2 20 3 rfl rfl ?_ ?_
   ·
    refine sca [.slice A45 ((kidsI ⟨n1, n2⟩ L).length) c46, I_ kk] En.f144 (shownD1_at h73 hx0 ((Fit.kids hF _).1 _ (List.mem_of_getElem? hx0)) (kids_300 hF _)) ?_
    rintro e _ ⟨rfl, u78⟩
    refine ⟨_, rfl, ?_⟩
    have M80 := mtu M71 u78
    have M81 := mtu M72 u78
    refine hxu u78 (hqk 19 2 rfl rfl (v := .agg #[S_ (nmAt (kidsI ⟨n1, n2⟩ L) kk x0), I_ x0.node.t, I_ x0.node.w, B_ x0.dir, I_ dn76]) (fun _ _ => r_build (ps := [(0, S_ (nmAt (kidsI ⟨n1, n2⟩ L) kk x0)), (1, .agg #[I_ x0.node.t, I_ x0.node.w]), (2, B_ x0.dir), (3, I_ dn76)]) (cs := [S_ (nmAt (kidsI ⟨n1, n2⟩ L) kk x0), I_ x0.node.t, I_ x0.node.w, B_ x0.dir, I_ dn76]) Ty.un160 Ty.zv160 Ty.pl160 (by kernel_rfl) (by kernel_rfl)) (h1a 20 1 rfl (sn rfl (cs := #[S_ (⟨#[]⟩), I_ 0, I_ 0, B_ false, I_ 0]) (T := 160) (V := fun b => pt b 0) (r_alloc Ty.zv160 rfl) fun b82 _ e84 h85 u86 => ?_)))
    have l88 := lsz e84 (md_ob M80 nin0 h52)
    have g97 := gsz e84 (mtu (mtu M57 u69) u78)
    have g98 := gsz e84 M80
    have g99 := gsz e84 M81
    refine hxy u86 e84 (h1a 21 0 rfl (ss rfl (k := 0) (v := .agg #[S_ (nmAt (kidsI ⟨n1, n2⟩ L) kk x0), I_ x0.node.t, I_ x0.node.w, B_ x0.dir, I_ dn76]) (vs := [S_ (nmAt (kidsI ⟨n1, n2⟩ L) kk x0), I_ x0.node.t, I_ x0.node.w, B_ x0.dir, I_ dn76]) (cs' := [S_ (nmAt (kidsI ⟨n1, n2⟩ L) kk x0), I_ x0.node.t, I_ x0.node.w, B_ x0.dir, I_ dn76]) (by kernel_rfl) (by kernel_rfl) rfl Ty.sz160 h85 rfl (Nat.le_of_ble_eq_true rfl) rfl fun _ h104 c105 => hxc c105 ?_))
    refine hend (by kernel_rfl) ?_
    refine then_n ?_
    exact ⟨b82, hmk, (mtn (mtu M81 u86) c105 g99), (by rw [(Dat.len hD76).1]; exact h104)⟩
   ·
    refine sn rfl (cs := #[S_ (⟨#[]⟩), I_ 0, I_ 0, B_ false, I_ 0]) (T := 160) (V := fun b => pt b 0) (r_alloc Ty.zv160 rfl) fun b77 _ e79 h80 u81 => ?_
    have l88 := lsz e79 hb76
    have g90 := gsz e79 M71
    have g91 := gsz e79 M72
    refine hxy u81 e79 ?_
    have h97 := (IRow.up h49 (Mod.up (mtu M71 u81)))
    refine h1a 2 2 rfl (sca [.slice A45 ((kidsI ⟨n1, n2⟩ L).length) c46, I_ kk] En.f144 (shownD1_at h97 hx0 ((Fit.kids hF _).1 _ (List.mem_of_getElem? hx0)) (kids_300 hF _)) ?_)
    rintro e _ ⟨rfl, u96⟩
    refine ⟨_, rfl, ?_⟩
    refine hxu u96 (hqk 19 1 rfl rfl (v := .agg #[S_ (nmAt (kidsI ⟨n1, n2⟩ L) kk x0), I_ x0.node.t, I_ x0.node.w, B_ x0.dir, I_ dn76]) (fun _ _ => r_build (ps := [(0, S_ (nmAt (kidsI ⟨n1, n2⟩ L) kk x0)), (1, .agg #[I_ x0.node.t, I_ x0.node.w]), (2, B_ x0.dir), (3, I_ dn76)]) (cs := [S_ (nmAt (kidsI ⟨n1, n2⟩ L) kk x0), I_ x0.node.t, I_ x0.node.w, B_ x0.dir, I_ dn76]) Ty.un160 Ty.zv160 Ty.pl160 (by kernel_rfl) (by kernel_rfl)) (h1a 21 0 rfl (ss rfl (k := 0) (v := .agg #[S_ (nmAt (kidsI ⟨n1, n2⟩ L) kk x0), I_ x0.node.t, I_ x0.node.w, B_ x0.dir, I_ dn76]) (vs := [S_ (nmAt (kidsI ⟨n1, n2⟩ L) kk x0), I_ x0.node.t, I_ x0.node.w, B_ x0.dir, I_ dn76]) (cs' := [S_ (nmAt (kidsI ⟨n1, n2⟩ L) kk x0), I_ x0.node.t, I_ x0.node.w, B_ x0.dir, I_ dn76]) (by kernel_rfl) (by kernel_rfl) rfl Ty.sz160 (up_ob u96 h80) rfl (Nat.le_of_ble_eq_true rfl) rfl fun w102 h103 c104 => hxc c104 ?_)))
    refine hend (by kernel_rfl) ?_
    refine then_n ?_
    exact ⟨b77, hmk, (mtn (mtu (mtu M72 u81) u96) c104 g91), (by rw [(Dat.len hD76).1]; exact h103)⟩
  rintro _ w68 ⟨eb, h71, h69, h70⟩
  obtain ⟨_, rfl⟩ := h71
  have M72 := Mod.thin M57 h69 (by simp)
  have M73 := Mod.thin hM1 h69 (by simp)
  refine wp_seq (rg_lit (was (v := I_ 0) (wnil (then_n (wp_seq ?_)))))
  have h79 := (GRow.up hF1_2 (Mod.up h69))
  refine wp_cutA (R := fun a wq => ∃ (jz : Nat), (HasFr a 88 [(0, pt ub 0), (1, .agg #[I_ n1, I_ n2]), (3, pt b1 0), (6, pt b22 0), (7, B_ (hasI L ⟨n1, n2⟩)), (8, .slice oA on oc), (9, .slice A45 ((kidsI ⟨n1, n2⟩ L).length) c46), (10, I_ kk), (11, pt eb 0), (12, I_ jz)] []) ∧ (Mod [] w68 wq) ∧ (jz ≤ on) ∧ (Hid (∀ (j : Nat) (y : EntD), j < jz → Lo[j]? = some y → ¬ lessB (nmAt (kidsI ⟨n1, n2⟩ L) kk x0) y.name = true)) ∧ (jz = Lo.length ∨ ∃ y, Lo[jz]? = some y ∧ lessB (nmAt (kidsI ⟨n1, n2⟩ L) kk x0) y.name = true)) ?_ ?_
  ·
   refine wp_block ?_
   refine lp (fun n a r2 => ∃ (jj : Nat), (n = on - jj) ∧ (HasFr a 88 [(0, pt ub 0), (1, .agg #[I_ n1, I_ n2]), (3, pt b1 0), (6, pt b22 0), (7, B_ (hasI L ⟨n1, n2⟩)), (8, .slice oA on oc), (9, .slice A45 ((kidsI ⟨n1, n2⟩ L).length) c46), (10, I_ kk), (11, pt eb 0), (12, I_ jj)] []) ∧ (Mod [] w68 r2) ∧ (jj ≤ on) ∧ (Hid (∀ (j : Nat) (y : EntD), j < jj → Lo[j]? = some y → ¬ lessB (nmAt (kidsI ⟨n1, n2⟩ L) kk x0) y.name = true))) ⟨_, 0, rfl, hmk, Mod.refl _ _, (Nat.zero_le _), (fun j y hj => absurd hj (Nat.not_lt_zero _))⟩ ?_
   rintro _ _ r2 ⟨jj, rfl, h80, hM2, _, hF2_1⟩
   obtain ⟨_, rfl⟩ := h80
   have M81 := Mod.thin M72 hM2 (by simp)
   have M82 := Mod.thin M73 hM2 (by simp)
   have M83 := Mod.thin (Mod.refl [] w68) hM2 (by simp)
   refine wp_seq (wp_seq ?_)
   refine rg_tail 12 (by kernel_rfl) (by kernel_rfl) rfl rfl ?_
   refine qmv (v := I_ jj) (qmv (v := .slice oA on oc) (qv rfl (v := I_ on) (fun _ _ => ln oA on oc Ty.un136) ?_))
   refine qb rfl (fun _ _ => ltI jj on) fun b84 k85 => ?_
   refine qmv (v := B_ b84) ?_
   refine bcd k85 (fun v86 p87 => ?_) (fun v86 p87 => ?_)
   ·
    iterate 7 refine qls rfl v86 ?_
    refine qnil fun w88 u89 => ?_
    iterate 2 refine wls rfl v86 ?_
    refine wlv (v := B_ false) (pkF (ebk v86)) (wnil (then_n (wp_cond_false (by kernel_rfl) (wp_exit (then_x (by nofun) (then_x (by nofun) (inb_hit (then_n ?_))))))))
    exact ⟨jj, hmk, (mtu M83 u89), (by omega), hF2_1, (.inl (by omega))⟩
   refine qv (wt (b := b84) rfl (by kernel_rfl) v86) (v := pt eb 0) (fun _ _ => fa (pt eb 0)) (qv (wt (b := b84) rfl (by kernel_rfl) v86) (v := S_ (nmAt (kidsI ⟨n1, n2⟩ L) kk x0)) (fun _ uz => ld 0 Ty.ag9 (up_ob uz (md_ob M83 nin0 h70))) (qv (wt (b := b84) rfl (by kernel_rfl) v86) (v := .slice oA on oc) (fun _ _ => mv) (qv (wt (b := b84) rfl (by kernel_rfl) v86) (v := I_ jj) (fun _ _ => mv) ?_)))
   have h91 := (GRow.up h79 (Mod.up M83))
   obtain ⟨y92, hy92⟩ : ∃ x, Lo[jj]? = some x := ⟨_, List.getElem?_eq_getElem (by omega)⟩
   obtain ⟨g92, hA92, hl92, hc92⟩ := GRow.get enc_ent h91 hy92
   refine qv (wt (b := b84) rfl (by kernel_rfl) v86) (v := pt g92 (jj * 5)) (fun _ _ => ixa on oc 5 jj hA92 Ty.un136 Ty.sz160) (qv (wt (b := b84) rfl (by kernel_rfl) v86) (v := pt g92 (jj * 5)) (fun _ _ => fa (pt g92 (jj * 5))) (qv (wt (b := b84) rfl (by kernel_rfl) v86) (v := S_ y92.name) (fun _ uz => r_loadc (by kernel_rfl) Ty.ag9 ((fun j v hj => (uz.cell (p := ⟨g92, jj * 5 + j, none⟩) hl92).trans (hc92 j v hj)) 0 _ rfl)) ?_))
   refine qnil fun _ u94 => ?_
   refine wl (sc (wt (b := b84) rfl (by kernel_rfl) v86) (r_callv (caps := []) (all := [S_ (nmAt (kidsI ⟨n1, n2⟩ L) kk x0), S_ y92.name]) En.f93 (by kernel_rfl) (by kernel_rfl)) (lessD_at (nmAt (kidsI ⟨n1, n2⟩ L) kk x0) y92.name (by have := nm_size hF hx0; omega) (by have := name_size hF hF1_1 (List.mem_of_getElem? hy92); omega)) ?_)
   rintro e _ ⟨rfl, u100⟩
   refine ⟨_, rfl, ?_⟩
   refine wlw rfl v86 (v := B_ (!(lessB (nmAt (kidsI ⟨n1, n2⟩ L) kk x0) y92.name))) (r_not (b := (lessB (nmAt (kidsI ⟨n1, n2⟩ L) kk x0) y92.name)) (by kernel_rfl)) (wlv (v := B_ (!(lessB (nmAt (kidsI ⟨n1, n2⟩ L) kk x0) y92.name))) (pkT (ebk v86)) (wnil (then_n ?_)))
   refine bcase (lessB (nmAt (kidsI ⟨n1, n2⟩ L) kk x0) y92.name) (fun v105 => ?_) (fun v105 => ?_)
   ·
    refine wp_cond_true (ebk (bneg v105)) (wp_skip (then_n (wp_block (rg_lit (wmv (v := I_ jj) (wlv (v := N_ (jj + 1)) (adN jj 1) (was (v := N_ (jj + 1)) (wnil (inb_n (then_n ?_))))))))))
    refine ⟨on - (jj + 1), ?_, (jj + 1), rfl, hmk, (mtu (mtu hM2 u94) u100), (by omega), (none_next (p := fun y : EntD => lessB (nmAt (kidsI ⟨n1, n2⟩ L) kk x0) y.name = true) hF2_1 hy92 (Bool.eq_false_iff.1 v105))⟩
    · omega
   refine wp_cond_false (ebk (bneg v105)) (wp_exit (then_x (by nofun) (then_x (by nofun) (inb_hit (then_n ?_)))))
   exact ⟨jj, hmk, (mtu (mtu M83 u94) u100), (by omega), hF2_1, (.inr ⟨_, hy92, v105⟩)⟩
  rintro _ _ ⟨jz, h85, h81, _, h83, h84⟩
  obtain ⟨_, rfl⟩ := h85
  have M86 := Mod.thin M72 h81 (by simp)
  have M87 := Mod.thin M73 h81 (by simp)
  refine rg_held [] (n := 13) (by kernel_rfl) rfl ?_
  intro w88 u89
  have M90 := mtu M86 u89
  have M91 := mtu M87 u89
  have h93 := md_ob M91 nin0 h53
  have h94 := (up_ob u89 (md_ob h81 nin0 h70))
  have h98 := (GRow.up h79 (up_up (Mod.up h81) u89))
  refine hvq (i := 1) (fuel := 12) rfl (fun _ _ _ h => h) (Mod.refl [] w88) rfl (v := .slice oA on oc) (fun _ _ => mv) ?_
  refine hvq (i := 2) (fuel := 11) rfl (fun _ _ _ h => h) (Mod.refl [] w88) rfl (v := I_ jz) (fun _ _ => mv) ?_
  obtain ⟨hs99, hq99⟩ := GRow.headCut (P := Tryz.prog) (k := jz) enc_ent h98 (by omega) 136 160 Ty.un136 Ty.sz160
  refine hvq (i := 3) (fuel := 10) rfl (fun _ _ _ h => h) (Mod.refl [] w88) rfl (v := .slice oA jz oc) (fun _ _ => hq99 _ _ _ _ _ _ _ _ _ (by kernel_rfl) (by kernel_rfl)) ?_
  refine hvq (i := 5) (fuel := 9) rfl (fun _ _ _ h => h) (Mod.refl [] w88) rfl (v := .agg #[S_ (nmAt (kidsI ⟨n1, n2⟩ L) kk x0), I_ x0.node.t, I_ x0.node.w, B_ x0.dir, I_ x0.data.length]) (fun _ uz => lds 0 Ty.ag160 Ty.sz160 (md_ob uz nin0 h94)) ?_
  refine hvq (i := 8) (fuel := 8) rfl (fun _ _ _ h => h) (Mod.refl [] w88) rfl (v := .slice oA on oc) (fun _ _ => mv) ?_
  refine hvq (i := 9) (fuel := 7) rfl (fun _ _ _ h => h) (Mod.refl [] w88) rfl (v := I_ jz) (fun _ _ => mv) ?_
  obtain ⟨A100, hs100, hq100⟩ := GRow.tailCut (P := Tryz.prog) (k := jz) enc_ent h98 (by omega) 136 160 Ty.un136 Ty.sz160
  refine hvq (i := 10) (fuel := 6) rfl (fun _ _ _ h => h) (Mod.refl [] w88) rfl (v := .slice A100 (on - jz : Nat) (oc - jz : Nat)) (fun _ _ => hq100 _ _ _ _ _ _ _ _ _ (by kernel_rfl) (by kernel_rfl)) ?_
  refine h2a 0 6 5 rfl rfl ?_ ?_
  ·
   refine litG rfl (f := enC) (base := w88.heap.size) Ty.un136 Ty.sz160 (Mod.refl [] w88).size fun b101 w102 e103 h104 h105 u106 => ?_
   have l107 := lsz e103 (md_ob M91 nin0 h52)
   have l108 := lsz e103 h93
   have g110 := gsz e103 M90
   have g111 := gsz e103 M91
   have g112 := gsz e103 (Mod.refl [] w88)
   have M113 := mtu M90 u106
   have M114 := mtu M91 u106
   have M115 := mtu (Mod.refl [] w88) u106
   refine ⟨M115, ?_⟩
   refine h2a 4 6 4 rfl rfl ?_ ?_
   ·
    refine apG enc_ent rfl (by kernel_rfl) (by kernel_rfl) h105 (GSub.up hs99 (Mod.up M115)) Ty.un136 M115.size (by simp; omega) fun _ _ _ _ _ h122 g123 c124 => ?_
    have M127 := mtn M115 c124 g112
    obtain ⟨_, _, _, _, _, _⟩ := GRow.blk h122
    refine ⟨M127, ?_⟩
    refine h1a 6 3 rfl (sn rfl (cs := #[S_ (nmAt (kidsI ⟨n1, n2⟩ L) kk x0), I_ x0.node.t, I_ x0.node.w, B_ x0.dir, I_ x0.data.length]) (T := 160) (V := fun b => sl b 0 1 1) (r_buildSlice (n := 1) (ps := [(0, .agg #[S_ (nmAt (kidsI ⟨n1, n2⟩ L) kk x0), I_ x0.node.t, I_ x0.node.w, B_ x0.dir, I_ x0.data.length])]) Ty.un136 Ty.sz160 Ty.zv160 (by decide) (by decide) (by kernel_rfl) (by kernel_rfl)) fun _ _ e131 h132 u133 => ?_)
    have g141 := gsz e131 (mtn M113 c124 g110)
    have g143 := gsz e131 M127
    have M146 := mtu M127 u133
    refine ⟨M146, ?_⟩
    refine h1a 7 2 rfl (apG enc_ent rfl (by kernel_rfl) (by kernel_rfl) (GRow.up h122 u133) (GSub.one (x := (⟨(nmAt (kidsI ⟨n1, n2⟩ L) kk x0), ⟨x0.node.t, x0.node.w⟩, x0.dir, (x0.data.length : Int)⟩ : EntD)) h132 rfl) Ty.un136 M146.size (by simp; omega) fun _ _ _ _ _ h154 g155 c156 => ?_)
    have M159 := mtn M146 c156 g123
    obtain ⟨_, _, _, _, _, _⟩ := GRow.blk h154
    refine ⟨M159, ?_⟩
    refine h1a 11 1 rfl (apG enc_ent rfl (by kernel_rfl) (by kernel_rfl) h154 (GSub.up hs100 (Mod.up M159)) Ty.un136 M159.size (by simp; omega) fun b162 n163 c164 _ _ h167 _ c169 => ?_)
    have M172 := mtn M159 c169 g155
    obtain ⟨_, _, _, _, _, _⟩ := GRow.blk h167
    refine ⟨M172, ?_⟩
    refine hvq (i := 12) (fuel := 0) rfl (fun _ _ _ h => h) M172 rfl (v := sl b162 0 n163 c164) (fun _ _ => r_assign (by kernel_rfl)) ?_
    refine hend (by kernel_rfl) ?_
    refine inb_n (then_n (rg_lit (wmv (v := I_ kk) (wlv (v := N_ (kk + 1)) (adN kk 1) (was (v := N_ (kk + 1)) (wnil (then_n ?_)))))))
    refine ⟨(kidsI ⟨n1, n2⟩ L).length - (kk + 1), ?_, (kk + 1), (some ⟨b162, 0, none⟩), n163, c164, (Lo.take jz ++ [(⟨(nmAt (kidsI ⟨n1, n2⟩ L) kk x0), ⟨x0.node.t, x0.node.w⟩, x0.dir, (x0.data.length : Int)⟩ : EntD)] ++ Lo.drop jz), rfl, hmk, (mtn (mtn (mtu (mtn M114 c124 g111) u133) c156 (Nat.le_trans M91.size g123)) c169 (Nat.le_trans M91.size g155)), (by omega), (by rw [ent_step hx0 rfl]; exact listed_ins hF1_1 (ents_new hF hx0 rfl) h83 h84), (GRow.base (GRow.to h167 (by simp)) M90.size)⟩
    · omega
   ·
    refine sn rfl (cs := #[S_ (nmAt (kidsI ⟨n1, n2⟩ L) kk x0), I_ x0.node.t, I_ x0.node.w, B_ x0.dir, I_ x0.data.length]) (T := 160) (V := fun b => sl b 0 1 1) (r_buildSlice (n := 1) (ps := [(0, .agg #[S_ (nmAt (kidsI ⟨n1, n2⟩ L) kk x0), I_ x0.node.t, I_ x0.node.w, B_ x0.dir, I_ x0.data.length])]) Ty.un136 Ty.sz160 Ty.zv160 (by decide) (by decide) (by kernel_rfl) (by kernel_rfl)) fun _ _ e118 h119 u120 => ?_
    have l122 := lsz e118 (md_ob M114 nin0 h52)
    have l124 := lsz e118 (md_ob M114 nin0 h53)
    have l126 := lsz e118 (md_ob M115 nin0 h94)
    have l127 := lsz e118 h104
    have g128 := gsz e118 M113
    have g129 := gsz e118 M114
    have g130 := gsz e118 M115
    have M133 := mtu M115 u120
    refine ⟨M133, ?_⟩
    refine h1a 4 3 rfl (apG enc_ent rfl (by kernel_rfl) (by kernel_rfl) (GRow.up h105 u120) (GSub.up hs99 (Mod.up M133)) Ty.un136 M133.size (by simp; omega) fun _ _ _ _ _ h142 g143 c144 => ?_)
    have M147 := mtn M133 c144 g112
    obtain ⟨_, _, _, _, _, _⟩ := GRow.blk h142
    refine ⟨M147, ?_⟩
    refine h1a 7 2 rfl (apG enc_ent rfl (by kernel_rfl) (by kernel_rfl) h142 (GSub.one (x := (⟨(nmAt (kidsI ⟨n1, n2⟩ L) kk x0), ⟨x0.node.t, x0.node.w⟩, x0.dir, (x0.data.length : Int)⟩ : EntD)) (chg_ob c144 (Nat.ne_of_gt l127) h119) rfl) Ty.un136 M147.size (by simp; omega) fun _ _ _ _ _ h155 g156 c157 => ?_)
    have M160 := mtn M147 c157 g143
    obtain ⟨_, _, _, _, _, _⟩ := GRow.blk h155
    refine ⟨M160, ?_⟩
    refine h1a 11 1 rfl (apG enc_ent rfl (by kernel_rfl) (by kernel_rfl) h155 (GSub.up hs100 (Mod.up M160)) Ty.un136 M160.size (by simp; omega) fun b163 n164 c165 _ _ h168 _ c170 => ?_)
    have M173 := mtn M160 c170 g156
    obtain ⟨_, _, _, _, _, _⟩ := GRow.blk h168
    refine ⟨M173, ?_⟩
    refine hvq (i := 12) (fuel := 0) rfl (fun _ _ _ h => h) M173 rfl (v := sl b163 0 n164 c165) (fun _ _ => r_assign (by kernel_rfl)) ?_
    refine hend (by kernel_rfl) ?_
    refine inb_n (then_n (rg_lit (wmv (v := I_ kk) (wlv (v := N_ (kk + 1)) (adN kk 1) (was (v := N_ (kk + 1)) (wnil (then_n ?_)))))))
    refine ⟨(kidsI ⟨n1, n2⟩ L).length - (kk + 1), ?_, (kk + 1), (some ⟨b163, 0, none⟩), n164, c165, (Lo.take jz ++ [(⟨(nmAt (kidsI ⟨n1, n2⟩ L) kk x0), ⟨x0.node.t, x0.node.w⟩, x0.dir, (x0.data.length : Int)⟩ : EntD)] ++ Lo.drop jz), rfl, hmk, (mtn (mtn (mtn (mtu M114 u120) c144 g111) c157 (Nat.le_trans M91.size g143)) c170 (Nat.le_trans M91.size g156)), (by omega), (by rw [ent_step hx0 rfl]; exact listed_ins hF1_1 (ents_new hF hx0 rfl) h83 h84), (GRow.base (GRow.to h168 (by simp)) M90.size)⟩
    · omega
  ·
   refine sn rfl (cs := #[S_ (nmAt (kidsI ⟨n1, n2⟩ L) kk x0), I_ x0.node.t, I_ x0.node.w, B_ x0.dir, I_ x0.data.length]) (T := 160) (V := fun b => sl b 0 1 1) (r_buildSlice (n := 1) (ps := [(0, .agg #[S_ (nmAt (kidsI ⟨n1, n2⟩ L) kk x0), I_ x0.node.t, I_ x0.node.w, B_ x0.dir, I_ x0.data.length])]) Ty.un136 Ty.sz160 Ty.zv160 (by decide) (by decide) (by kernel_rfl) (by kernel_rfl)) fun b101 w102 e103 h104 u105 => ?_
   have l107 := lsz e103 h93
   have l108 := lsz e103 h94
   have g110 := gsz e103 M91
   have g111 := gsz e103 (Mod.refl [] w88)
   have M113 := mtu M91 u105
   have M114 := mtu (Mod.refl [] w88) u105
   refine ⟨M114, ?_⟩
   refine h1a 0 4 rfl (litG rfl (f := enC) (base := w88.heap.size) Ty.un136 Ty.sz160 M114.size fun _ _ e117 _ h119 u120 => ?_)
   have l122 := lsz e117 (md_ob M113 nin0 h52)
   have l124 := lsz e117 (md_ob M113 nin0 h53)
   have l126 := lsz e117 (md_ob M114 nin0 h94)
   have l127 := lsz e117 h104
   have g128 := gsz e117 (mtu M90 u105)
   have g129 := gsz e117 M113
   have g130 := gsz e117 M114
   have M133 := mtu M114 u120
   refine ⟨M133, ?_⟩
   refine h1a 4 3 rfl (apG enc_ent rfl (by kernel_rfl) (by kernel_rfl) h119 (GSub.up hs99 (Mod.up M133)) Ty.un136 M133.size (by simp; omega) fun _ _ _ _ _ h140 g141 c142 => ?_)
   have M145 := mtn M133 c142 g130
   obtain ⟨_, _, _, _, _, _⟩ := GRow.blk h140
   refine ⟨M145, ?_⟩
   refine h1a 7 2 rfl (apG enc_ent rfl (by kernel_rfl) (by kernel_rfl) h140 (GSub.one (x := (⟨(nmAt (kidsI ⟨n1, n2⟩ L) kk x0), ⟨x0.node.t, x0.node.w⟩, x0.dir, (x0.data.length : Int)⟩ : EntD)) (chg_ob c142 (Nat.ne_of_lt l127) (up_ob u120 h104)) rfl) Ty.un136 M145.size (by simp; omega) fun _ _ _ _ _ h153 g154 c155 => ?_)
   have M158 := mtn M145 c155 g141
   obtain ⟨_, _, _, _, _, _⟩ := GRow.blk h153
   refine ⟨M158, ?_⟩
   refine h1a 11 1 rfl (apG enc_ent rfl (by kernel_rfl) (by kernel_rfl) h153 (GSub.up hs100 (Mod.up M158)) Ty.un136 M158.size (by simp; omega) fun b161 n162 c163 _ _ h166 _ c168 => ?_)
   have M171 := mtn M158 c168 g154
   obtain ⟨_, _, _, _, _, _⟩ := GRow.blk h166
   refine ⟨M171, ?_⟩
   refine hvq (i := 12) (fuel := 0) rfl (fun _ _ _ h => h) M171 rfl (v := sl b161 0 n162 c163) (fun _ _ => r_assign (by kernel_rfl)) ?_
   refine hend (by kernel_rfl) ?_
   refine inb_n (then_n (rg_lit (wmv (v := I_ kk) (wlv (v := N_ (kk + 1)) (adN kk 1) (was (v := N_ (kk + 1)) (wnil (then_n ?_)))))))
   refine ⟨(kidsI ⟨n1, n2⟩ L).length - (kk + 1), ?_, (kk + 1), (some ⟨b161, 0, none⟩), n162, c163, (Lo.take jz ++ [(⟨(nmAt (kidsI ⟨n1, n2⟩ L) kk x0), ⟨x0.node.t, x0.node.w⟩, x0.dir, (x0.data.length : Int)⟩ : EntD)] ++ Lo.drop jz), rfl, hmk, (mtn (mtn (mtn (mtu M113 u120) c142 g129) c155 (Nat.le_trans M91.size g141)) c168 (Nat.le_trans M91.size g154)), (by omega), (by rw [ent_step hx0 rfl]; exact listed_ins hF1_1 (ents_new hF hx0 rfl) h83 h84), (GRow.base (GRow.to h166 (by simp)) M90.size)⟩
   · omega
end Go.Proofs.YtefhfoioeoijlaaGreatDoor

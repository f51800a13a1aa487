/- NA, NB, BRow, Pth -/
import Derived.Test.YtefhfoioeoijlaaGreatDoorUaa
import Derived.Test.YtefhfoioeoijlaaGreatDoorUab
import Derived.Test.YtefhfoioeoijlaaGreatDoorUah
import Derived.Test.YtefhfoioeoijlaaGreatDoorUao
import Derived.Test.YtefhfoioeoijlaaGreatDoorUaq
set_option linter.unusedVariables false
set_option linter.unusedSimpArgs false
namespace Go.Proofs.YtefhfoioeoijlaaGreatDoor
open Go Go.RowKit Go.Sort
set_option maxHeartbeats 2000000 in
theorem mark_at {w : World} (htab : Tab w) (m1 m2 : Int) (h1 : 0 ≤ m1 ∧ m1 ≤ 1099511627776) (h2 : 0 ≤ m2 ∧ m2 ≤ 8) : Calls Tryz.prog 36 #[.agg #[.int .i64 m1, .int .i64 m2]] w fun e w' => e = .returned (.string (markB ⟨m1, m2⟩)) ∧ Up w w' := by
  have hz1 := itoa_size (n := m1) (by omega) (by omega)
  have hz2 := itoa_size (n := m2) (by omega) (by omega)
  have hz3 : (⟨#[126]⟩ : ByteArray).size = 1 := rfl
  have hz4 : (⟨#[46]⟩ : ByteArray).size = 1 := rfl
  go_enter Tryz.func36, Tryz.ntmps36
  refine wp_seq (rg_lit (wl (sn rfl (cs := #[I_ m1, I_ m2]) (T := 24) (V := fun b => pt b 0) (r_box (v := .agg #[I_ m1, I_ m2]) (by kernel_rfl) rfl) fun b1 w2 _ h4 u5 => ?_)))
  have M7 := mtu (Mod.refl [] w) u5
  refine was (v := S_ (⟨#[]⟩)) (wnil (then_n (wp_seq ?_)))
  refine rg_all (by kernel_rfl) (by kernel_rfl) ?_
  refine qv rfl (v := pt b1 0) (fun _ _ => fa (pt b1 0)) (qv rfl (v := I_ m1) (fun _ uz => ld 0 Ty.ag2 (up_ob uz h4)) ?_)
  refine qc rfl (v := S_ (⟨(Lib.itoa m1).toArray⟩)) (fun _ _ => r_callv (caps := []) (all := [I_ m1, I_ 10]) En.f94 (by kernel_rfl) (by kernel_rfl)) (fun wz uz => fmt_at (TabIs.up (TabIs.up htab (Mod.up M7)) uz) m1 (by omega) (by omega)) ?_ ?_
  · rintro w1 e w2 hC ⟨rfl, hu⟩; exact ⟨rfl, up_step hC hu⟩
  refine qv rfl (v := S_ ((⟨#[126]⟩ : ByteArray) ++ (⟨(Lib.itoa m1).toArray⟩ : ByteArray))) (fun _ _ => r_adds (m := (⟨#[126]⟩)) (n := (⟨(Lib.itoa m1).toArray⟩)) (by kernel_rfl) (by kernel_rfl) (by (try simp only [ByteArray.size_append]); omega)) (qv rfl (v := S_ (((⟨#[126]⟩ : ByteArray) ++ (⟨(Lib.itoa m1).toArray⟩ : ByteArray)) ++ (⟨#[46]⟩ : ByteArray))) (fun _ _ => r_adds (m := ((⟨#[126]⟩ : ByteArray) ++ (⟨(Lib.itoa m1).toArray⟩ : ByteArray))) (n := (⟨#[46]⟩)) (by kernel_rfl) (by kernel_rfl) (by (try simp only [ByteArray.size_append]); omega)) (qv rfl (v := pt b1 1) (fun _ _ => fa (pt b1 0)) (qv rfl (v := I_ m2) (fun _ uz => ld 1 Ty.ag3 (up_ob uz h4)) ?_)))
  refine qc rfl (v := S_ (⟨(Lib.itoa m2).toArray⟩)) (fun _ _ => r_callv (caps := []) (all := [I_ m2]) En.f95 (by kernel_rfl) (by kernel_rfl)) (fun wz uz => itoa_at (TabIs.up (TabIs.up htab (Mod.up M7)) uz) m2 (by omega) (by omega)) ?_ ?_
  · rintro w1 e w2 hC ⟨rfl, hu⟩; exact ⟨rfl, up_step hC hu⟩
  refine qv rfl (v := S_ ((((⟨#[126]⟩ : ByteArray) ++ (⟨(Lib.itoa m1).toArray⟩ : ByteArray)) ++ (⟨#[46]⟩ : ByteArray)) ++ (⟨(Lib.itoa m2).toArray⟩ : ByteArray))) (fun _ _ => r_adds (m := (((⟨#[126]⟩ : ByteArray) ++ (⟨(Lib.itoa m1).toArray⟩ : ByteArray)) ++ (⟨#[46]⟩ : ByteArray))) (n := (⟨(Lib.itoa m2).toArray⟩)) (by kernel_rfl) (by kernel_rfl) (by (try simp only [ByteArray.size_append]); omega)) (qas (v := S_ ((((⟨#[126]⟩ : ByteArray) ++ (⟨(Lib.itoa m1).toArray⟩ : ByteArray)) ++ (⟨#[46]⟩ : ByteArray)) ++ (⟨(Lib.itoa m2).toArray⟩ : ByteArray))) ?_)
  refine qnil fun _ u9 => ?_
  refine then_n (wp_ret ?_)
  refine br1 (v := S_ ((((⟨#[126]⟩ : ByteArray) ++ (⟨(Lib.itoa m1).toArray⟩ : ByteArray)) ++ (⟨#[46]⟩ : ByteArray)) ++ (⟨(Lib.itoa m2).toArray⟩ : ByteArray))) rfl ?_
  exact ⟨rfl, (Mod.up (mtu M7 u9))⟩
set_option maxHeartbeats 2000000 in
theorem shownE_at {w : World} (x : EntD) (nm : ByteArray) : Calls Tryz.prog 64 #[.agg #[.string x.name, .int .i64 x.node.t, .int .i64 x.node.w, .bool x.dir, .int .i64 x.size], .string nm] w fun e w' => e = .returned (.bool (decide (x.name = nm))) ∧ Up w w' := by
  go_enter Tryz.func64, Tryz.ntmps64
  refine wp_seq (rg_lit (wl (sn rfl (cs := #[S_ x.name, I_ x.node.t, I_ x.node.w, B_ x.dir, I_ x.size]) (T := 35) (V := fun b => pt b 0) (r_box (v := .agg #[S_ x.name, I_ x.node.t, I_ x.node.w, B_ x.dir, I_ x.size]) (by kernel_rfl) rfl) fun b1 _ _ h4 u5 => was (v := B_ false) (wnil (then_n (wp_seq (rg_lit (wlv (v := pt b1 0) (fa (pt b1 0)) (wlv (v := S_ x.name) (ld 0 Ty.ag9 h4) (wmv (v := S_ nm) (wl (sb rfl (r_eqs (m := x.name) (n := nm) (by kernel_rfl) (by kernel_rfl)) fun b8 k9 => was (v := B_ b8) ?_))))))))))))
  refine wnil (then_n (wp_ret ?_))
  refine br1 (v := B_ b8) rfl ?_
  exact ⟨by rw [← k9], (Mod.up (mtu (Mod.refl [] w) u5))⟩
set_option maxHeartbeats 2000000 in
theorem kids18_at {B : Nat} {w : World} {tb r : Nat} {L : List Item} (h : TreeIs B w tb r L) (hB : B ≤ w.heap.size) (n1 n2 : Int) : Calls Tryz.prog 57 #[trP tb, .agg #[.int .i64 n1, .int .i64 n2]] w fun e w' => ∃ v, e = .returned (.tuple #[v, .int .i64 (kidK L ⟨n1, n2⟩)]) ∧ IRow 42 B w.heap.size w' v (kidsO L ⟨n1, n2⟩) ∧ Up w w' := by
  go_enter Tryz.func57, Tryz.ntmps57
  refine wp_seq (rg_lit (wl (sn rfl (cs := #[I_ n1, I_ n2]) (T := 24) (V := fun b => pt b 0) (r_box (v := .agg #[I_ n1, I_ n2]) (by kernel_rfl) rfl) fun _ w2 _ h4 u5 => ?_)))
  have M8 := mtu (Mod.refl [] w) u5
  refine was (v := .slice none 0 0) (was (v := I_ 0) (wnil (then_n (wp_seq (wp_seq (rg_lit (wmv (v := pt tb 0) (wl (sv (w' := w2) rfl (v := B_ false) (by kernel_rfl) (wnil (then_n (wp_cond_false (by kernel_rfl) (wp_skip (then_n (wp_seq (rg_lit (wmv (v := pt tb 0) ?_)))))))))))))))))
  refine wlv (v := .agg #[I_ n1, I_ n2]) (lds 0 Ty.ag24 Ty.sz24 h4) (wl (sca [pt tb 0, .agg #[I_ n1, I_ n2]] En.f20 (get_x (TreeIs.up h (Mod.up M8)) ⟨n1, n2⟩ (x := (gotI L ⟨n1, n2⟩)) (b := (hasI L ⟨n1, n2⟩)) rfl rfl) ?_))
  rintro e _ ⟨A11, n12, c13, rfl, _, u15⟩
  refine ⟨_, rfl, ?_⟩
  have M16 := mtu M8 u15
  refine wmv (v := .tuple #[itV (gotI L ⟨n1, n2⟩) (.slice A11 n12 c13), B_ (hasI L ⟨n1, n2⟩)]) (wlv (v := itV (gotI L ⟨n1, n2⟩) (.slice A11 n12 c13)) (xt [itV (gotI L ⟨n1, n2⟩) (.slice A11 n12 c13), B_ (hasI L ⟨n1, n2⟩)]) (wlv (v := B_ (hasI L ⟨n1, n2⟩)) (xt [itV (gotI L ⟨n1, n2⟩) (.slice A11 n12 c13), B_ (hasI L ⟨n1, n2⟩)]) (wl (sn rfl (cs := #[I_ 0, I_ 0, I_ 0, I_ 0, S_ (⟨#[]⟩), B_ false, B_ false, .slice none 0 0, I_ 0, I_ 0]) (T := 42) (V := fun b => pt b 0) (r_alloc Ty.zv42 rfl) fun b17 _ e19 h20 u21 => ?_))))
  have h24 := (up_ob u15 h4)
  have l25 := lsz e19 h24
  have g26 := gsz e19 M16
  refine wl (ss rfl (k := 0) (v := itV (gotI L ⟨n1, n2⟩) (.slice A11 n12 c13)) (vs := (itC (gotI L ⟨n1, n2⟩) (.slice A11 n12 c13))) (cs' := (itC (gotI L ⟨n1, n2⟩) (.slice A11 n12 c13))) (by kernel_rfl) (by kernel_rfl) rfl Ty.sz42 h20 rfl (Nat.le_of_ble_eq_true rfl) rfl fun _ h29 c30 => ?_)
  have M31 := mtn (mtu M16 u21) c30 g26
  refine was (v := B_ (hasI L ⟨n1, n2⟩)) (wnil (then_n (wp_seq (wp_block (wp_seq (rg_lit (wmv (v := pt tb 0) ?_)))))))
  have h32 := (chg_ob c30 (Nat.ne_of_lt l25) (up_ob u21 h24))
  refine wlv (v := .agg #[I_ n1, I_ n2]) (lds 0 Ty.ag24 Ty.sz24 h32) ?_
  have h33 := (TreeIs.up h (Mod.up M31))
  refine wl (sca [pt tb 0, .agg #[I_ n1, I_ n2]] En.f39 (hangs_at h33 n1 n2) ?_)
  rintro e _ ⟨rfl, u35⟩
  refine ⟨_, rfl, ?_⟩
  have M36 := mtu M31 u35
  refine wlv (v := B_ (!(hangsI L 301 ⟨n1, n2⟩))) (r_not (b := (hangsI L 301 ⟨n1, n2⟩)) (by kernel_rfl)) (was (v := B_ (!(hangsI L 301 ⟨n1, n2⟩))) (wnil (then_n ?_)))
  refine bcase (hangsI L 301 ⟨n1, n2⟩) (fun v37 => ?_) (fun v37 => ?_)
  ·
   refine wp_cond_true (ebk (bneg v37)) (wp_seq (rg_lit (was (v := .slice none 0 0) (was (v := I_ 12) (wnil (then_n (wp_ret (inb_r (then_x (by nofun) ?_)))))))))
   refine br2 (v := .slice none 0 0) (u := I_ 12) rfl ?_
   exact ⟨.slice none 0 0, by rw [kidK_12 v37], IRow.kidsNo (by rw [kidK_12 v37]; decide), (Mod.up M36)⟩
  refine wp_cond_false (ebk (bneg v37)) (wp_seq (rg_lit ?_))
  iterate 2 refine wmv (v := B_ (hasI L ⟨n1, n2⟩)) ?_
  refine bcase (hasI L ⟨n1, n2⟩) (fun v38 => ?_) (fun v38 => ?_)
  ·
   iterate 3 refine wls rfl v38 ?_
   refine wlv (v := B_ false) (pkF (ebk v38)) (was (v := B_ false) (wnil (then_n (wp_cond_false (by kernel_rfl) (wp_skip (inb_n (then_n (wp_seq (rg_lit (wmv (v := pt tb 0) (wlv (v := .agg #[I_ n1, I_ n2]) (lds 0 Ty.ag24 Ty.sz24 (up_ob u35 h32)) ?_)))))))))))
   have h46 := (TreeIs.up h (Mod.up M36))
   refine wl (sca [pt tb 0, .agg #[I_ n1, I_ n2]] En.f38 (row_sl (kids_at h46 (Nat.le_trans hB M36.size) n1 n2)) ?_)
   rintro e _ ⟨A41, c42, rfl, h43, u44⟩
   refine ⟨_, rfl, ?_⟩
   refine was (v := .slice A41 ((kidsI ⟨n1, n2⟩ L).length) c42) (was (v := I_ 0) (wnil (then_n (wp_ret ?_))))
   refine br2 (v := .slice A41 ((kidsI ⟨n1, n2⟩ L).length) c42) (u := I_ 0) rfl ?_
   exact ⟨_, by rw [kidK_0a v37 v38], IRow.kidsYes (IRow.base h43 M36.size) (kidK_0a v37 v38), (Mod.up (mtu M36 u44))⟩
  refine wlw rfl v38 (v := pt b17 5) (fa (pt b17 0)) (wlw rfl v38 (v := B_ ((gotI L ⟨n1, n2⟩).dir)) (ld 5 Ty.ag4 (up_ob u35 h29)) (wlw rfl v38 (v := B_ (!((gotI L ⟨n1, n2⟩).dir))) (r_not (b := ((gotI L ⟨n1, n2⟩).dir)) (by kernel_rfl)) (wlv (v := B_ (!((gotI L ⟨n1, n2⟩).dir))) (pkT (ebk v38)) (was (v := B_ (!((gotI L ⟨n1, n2⟩).dir))) (wnil (then_n ?_))))))
  refine bcase ((gotI L ⟨n1, n2⟩).dir) (fun v40 => ?_) (fun v40 => ?_)
  ·
   refine wp_cond_true (ebk (bneg v40)) (wp_seq (rg_lit (was (v := .slice none 0 0) (was (v := I_ 14) (wnil (then_n (wp_ret (inb_r (then_x (by nofun) ?_)))))))))
   refine br2 (v := .slice none 0 0) (u := I_ 14) rfl ?_
   exact ⟨.slice none 0 0, by rw [kidK_14 v37 v38 v40], IRow.kidsNo (by rw [kidK_14 v37 v38 v40]; decide), (Mod.up M36)⟩
  refine wp_cond_false (ebk (bneg v40)) (wp_skip (inb_n (then_n (wp_seq (rg_lit (wmv (v := pt tb 0) (wlv (v := .agg #[I_ n1, I_ n2]) (lds 0 Ty.ag24 Ty.sz24 (up_ob u35 h32)) ?_)))))))
  have h48 := (TreeIs.up h (Mod.up M36))
  refine wl (sca [pt tb 0, .agg #[I_ n1, I_ n2]] En.f38 (row_sl (kids_at h48 (Nat.le_trans hB M36.size) n1 n2)) ?_)
  rintro e _ ⟨A43, c44, rfl, h45, u46⟩
  refine ⟨_, rfl, ?_⟩
  refine was (v := .slice A43 ((kidsI ⟨n1, n2⟩ L).length) c44) (was (v := I_ 0) (wnil (then_n (wp_ret ?_))))
  refine br2 (v := .slice A43 ((kidsI ⟨n1, n2⟩ L).length) c44) (u := I_ 0) rfl ?_
  exact ⟨_, by rw [kidK_0b v37 v38 v40], IRow.kidsYes (IRow.base h45 M36.size) (kidK_0b v37 v38 v40), (Mod.up (mtu M36 u46))⟩
theorem OKI.st {x : Item} (h : OKI x) : (0 ≤ x.node.t ∧ x.node.t ≤ 1099511627776) ∧ (0 ≤ x.node.w ∧ x.node.w ≤ 8) := ⟨⟨h.2.1, h.2.2.2.2.1⟩, ⟨h.2.2.1, h.2.2.2.2.2⟩⟩
set_option maxHeartbeats 2000000 in
theorem ents_at {B : Nat} {w : World} {l : List Item} {xA : Option Addr} {xc : Nat} {base0 : Nat} (hl : IRow 42 B base0 w (.slice xA l.length xc) l) (hB : B ≤ w.heap.size) (htab : Tab w) (hOK : ∀ x ∈ l, OKI x) (hlen : l.length ≤ 300) :
    Calls Tryz.prog 58 #[.slice xA l.length xc] w fun e w' => ∃ v, e = .returned v ∧ ERow 35 B w.heap.size w' v (entsI l) ∧ Up w w' := by
  obtain ⟨iE, zE, hiE, hzE, hsE, hbE, hcE⟩ := info_ent
  obtain ⟨ii_p, iz_p, hi_p, hz_p, hs_p, hb_p, hc_p⟩ := info_item
  go_enter Tryz.func58, Tryz.ntmps58
  refine wp_seq (rg_lit (was (v := .slice none 0 0) (wnil (then_n (wp_seq (rg_lit (wl (snm rfl (V := fun b => .map (some b)) r_makeMap fun mp w1 e2 h3 u4 => ?_))))))))
  have g5 := gsz e2 (Mod.refl [] w)
  have M6 := mtu (Mod.refl [] w) u4
  refine was (v := .map (some mp)) (wnil (then_n (wp_seq (wp_seq (rg_lit (wmv (v := .slice xA l.length xc) (wlv (v := I_ l.length) (ln xA l.length xc Ty.un74) (wmv (v := I_ 0) (wnil (then_n (wp_block ?_)))))))))))
  refine lp (fun n a r1 => ∃ (k : Nat) (oA : Option Addr) (on : Nat) (oc : Nat), (n = l.length - k) ∧ (HasFr a 44 [(0, .slice xA l.length xc), (2, .slice oA on oc), (3, .map (some mp)), (8, .slice xA l.length xc), (9, I_ l.length), (10, I_ k)] []) ∧ (Mod [mp] w1 r1) ∧ (k ≤ l.length) ∧ (SMap r1 mp (metF (namesI (l.take k)))) ∧ (ERow 35 B w1.heap.size r1 (.slice oA on oc) (entsI (l.take k)))) ⟨_, 0, none, 0, 0, rfl, hmk, Mod.refl _ _, (Nat.zero_le _), (SMap.to (SMap.new h3) (metF_nil l)), (ERow.nil _ _ _ _)⟩ ?_
  rintro _ _ r1 ⟨k, oA, on, oc, rfl, h8, hM1, _, hF1_1, hF1_2⟩
  obtain ⟨_, rfl⟩ := h8
  have M9 := Mod.thin M6 hM1 (fun y hy => by simp only [List.mem_cons, List.not_mem_nil, or_false] at hy; subst hy; exact .inr g5)
  obtain ⟨_, _, h10⟩ := SMap.ob hF1_1
  refine wp_seq (rg_lit (wl (sb rfl (ltI k l.length) fun _ k12 => wnil (then_n (wp_seq ?_)))))
  refine bcd k12 (fun v13 p14 => ?_) (fun v13 p14 => ?_)
  ·
   refine wp_cond_false (ebk v13) (wp_exit (then_x (by nofun) (then_x (by nofun) (inb_hit (then_n (wp_seq (rg_lit (wmv (v := .slice oA on oc) (was (v := .slice oA on oc) (wnil (then_n (wp_ret ?_))))))))))))
   refine br1 (v := .slice oA on oc) rfl ?_
   exact ⟨_, rfl, ERow.base (ERow.to hF1_2 (entsI_take (by omega))) M6.size, (Mod.up M9)⟩
  have q16 : k < l.length := by omega
  refine wp_cond_true (ebk v13) (wp_skip (then_n (wp_seq (wp_block (wp_seq (rg_lit ?_))))))
  have h17 := (IRow.up hl (Mod.up M9))
  obtain ⟨y18, hy18⟩ : ∃ x, l[k]? = some x := ⟨_, List.getElem?_eq_getElem q16⟩
  obtain ⟨g18, _, cu18, dA18, dn18, dc18, hA18, _, hb18, he18, hD18⟩ := h17.get hy18
  injection hA18 with hA18 _ _
  replace he18 : (cu18.toList.drop (0 + k * 10)).take 10 = (itC y18 (.slice dA18 dn18 dc18)) := by rw [Nat.zero_add]; exact he18
  refine wlv (v := pt g18 (0 + k * 10)) (ixa l.length xc 10 k hA18 Ty.un74 Ty.sz42) (wlv (v := itV y18 (.slice dA18 dn18 dc18)) (r_loads (k := 0 + k * 10) (by kernel_rfl) Ty.ag42 Ty.sz42 hb18 (el_sub0 he18 rfl)) (wl (sn rfl (cs := #[I_ 0, I_ 0, I_ 0, I_ 0, S_ (⟨#[]⟩), B_ false, B_ false, .slice none 0 0, I_ 0, I_ 0]) (T := 42) (V := fun b => pt b 0) (r_alloc Ty.zv42 rfl) fun b19 _ e21 h22 u23 => ?_)))
  have l24 := lsz e21 h10
  have g26 := gsz e21 M9
  have g27 := gsz e21 hM1
  refine wl (ss rfl (k := 0) (v := itV y18 (.slice dA18 dn18 dc18)) (vs := (itC y18 (.slice dA18 dn18 dc18))) (cs' := (itC y18 (.slice dA18 dn18 dc18))) (by kernel_rfl) (by kernel_rfl) rfl Ty.sz42 h22 rfl (Nat.le_of_ble_eq_true rfl) rfl fun _ h31 c32 => ?_)
  have M33 := mtn (mtu M9 u23) c32 g26
  have M34 := mtn (mtu hM1 u23) c32 g27
  refine wnil (then_n (wp_seq (rg_lit (wlv (v := pt b19 4) (fa (pt b19 0)) (wlv (v := S_ y18.name) (ld 4 Ty.ag9 h31) (wlv (v := pt b19 0) (fa (pt b19 0)) (wlv (v := .agg #[I_ y18.node.t, I_ y18.node.w]) (lds 0 Ty.ag24 Ty.sz24 h31) (wlv (v := pt b19 5) (fa (pt b19 0)) (wlv (v := B_ y18.dir) (ld 5 Ty.ag4 h31) (wlv (v := pt b19 7) (fa (pt b19 0)) (wlv (v := .slice dA18 dn18 dc18) (ld 7 Ty.ag40 h31) ?_)))))))))))
  refine wlv (v := I_ dn18) (ln dA18 dn18 dc18 Ty.un40) (wlv (v := .agg #[S_ y18.name, I_ y18.node.t, I_ y18.node.w, B_ y18.dir, I_ dn18]) (r_build (ps := [(0, S_ y18.name), (1, .agg #[I_ y18.node.t, I_ y18.node.w]), (2, B_ y18.dir), (3, I_ dn18)]) (cs := [S_ y18.name, I_ y18.node.t, I_ y18.node.w, B_ y18.dir, I_ dn18]) Ty.un35 Ty.zv35 Ty.pl35 (by kernel_rfl) (by kernel_rfl)) (wl (sn rfl (cs := #[S_ (⟨#[]⟩), I_ 0, I_ 0, B_ false, I_ 0]) (T := 35) (V := fun b => pt b 0) (r_alloc Ty.zv35 rfl) fun b35 _ e37 h38 u39 => ?_)))
  have l41 := lsz e37 (chg_ob c32 (Nat.ne_of_lt l24) (up_ob u23 h10))
  have l44 := lsz e37 h31
  have g45 := gsz e37 M33
  have g46 := gsz e37 M34
  refine wl (ss rfl (k := 0) (v := .agg #[S_ y18.name, I_ y18.node.t, I_ y18.node.w, B_ y18.dir, I_ dn18]) (vs := [S_ y18.name, I_ y18.node.t, I_ y18.node.w, B_ y18.dir, I_ dn18]) (cs' := [S_ y18.name, I_ y18.node.t, I_ y18.node.w, B_ y18.dir, I_ dn18]) (by kernel_rfl) (by kernel_rfl) rfl Ty.sz35 h38 rfl (Nat.le_of_ble_eq_true rfl) rfl fun _ h50 c51 => ?_)
  have M53 := mtn (mtu M34 u39) c51 g46
  refine wnil (then_n (wp_seq (wp_seq (rg_lit (wmv (v := .map (some mp)) (wlv (v := pt b19 4) (fa (pt b19 0)) ?_))))))
  have h54 := (chg_ob c51 (Nat.ne_of_lt l44) (up_ob u39 h31))
  refine wlv (v := S_ y18.name) (ld 4 Ty.ag9 h54) ?_
  have h55 := (SMap.up hF1_1 (up_chgn (up_up (up_chgn u23 c32 (by rw [e21]; exact Nat.le_refl _)) u39) c51 (by rw [e37]; exact (up_chgn u23 c32 (by rw [e21]; exact Nat.le_refl _)).size)))
  refine wlv (v := B_ (metB (namesI (l.take k)) y18.name)) (r_lookS (r := mp) (s := y18.name) (v := B_ (metB (namesI (l.take k)) y18.name)) (by kernel_rfl) (by kernel_rfl) h55 Ty.un168 Ty.un9 (fun _ => by kernel_rfl) (metF_get _ _)) (wnil (then_n ?_))
  refine bcase (metB (namesI (l.take k)) y18.name) (fun v56 => ?_) (fun v56 => ?_)
  ·
   refine wp_cond_false (ebk v56) (wp_skip (then_n (wp_seq (rg_lit (wmv (v := .map (some mp)) (wlv (v := pt b19 4) (fa (pt b19 0)) (wlv (v := S_ y18.name) (ld 4 Ty.ag9 h54) ?_)))))))
   obtain ⟨_, hr58, hc58, hm58⟩ := SMap.store (P := Tryz.prog) h55 Ty.un168 Ty.un9 y18.name (.bool true)
   refine wl (sk rfl (r_mapUpdate (mv := .map (some mp)) (kv := S_ y18.name) (vv := B_ true) (by kernel_rfl) (by kernel_rfl) (by kernel_rfl) hr58) ?_)
   obtain ⟨_, _, _⟩ := SMap.ob hm58
   refine wnil (then_n (rg_lit (wmv (v := .slice oA on oc) (wlv (v := .agg #[S_ y18.name, I_ y18.node.t, I_ y18.node.w, B_ y18.dir, I_ dn18]) (lds 0 Ty.ag35 Ty.sz35 (chg_ob hc58 (Nat.ne_of_gt l41) h50)) (wl (sn rfl (cs := #[S_ y18.name, I_ y18.node.t, I_ y18.node.w, B_ y18.dir, I_ dn18]) (T := 35) (V := fun b => sl b 0 1 1) (r_buildSlice (n := 1) (ps := [(0, .agg #[S_ y18.name, I_ y18.node.t, I_ y18.node.w, B_ y18.dir, I_ dn18])]) Ty.un29 Ty.sz35 Ty.zv35 (by decide) (by decide) (by kernel_rfl) (by kernel_rfl)) fun _ _ _ h66 u67 => ?_))))))
   have M75 := mtu (mtx M53 hc58) u67
   have h76 := (ERow.up (ERow.chgm (ERow.up hF1_2 (up_chgn (up_up (up_chgn u23 c32 (by rw [e21]; exact Nat.le_refl _)) u39) c51 (by rw [e37]; exact (up_chgn u23 c32 (by rw [e21]; exact Nat.le_refl _)).size))) hc58 (ERow.ne_old (ERow.up hF1_2 (up_chgn (up_up (up_chgn u23 c32 (by rw [e21]; exact Nat.le_refl _)) u39) c51 (by rw [e37]; exact (up_chgn u23 c32 (by rw [e21]; exact Nat.le_refl _)).size))) (lt_ob h3))) u67)
   refine wl (snE rfl (L := (entsI (l.take k))) (x := (⟨y18.name, ⟨y18.node.t, y18.node.w⟩, y18.dir, (dn18 : Int)⟩ : EntD)) (by kernel_rfl) (by kernel_rfl) h76 Ty.un29 hiE hzE hsE hbE hcE h66 M75.size (by have := ents_le l k; omega) fun A77 n78 c79 w80 e81 h82 u83 => was (v := .slice A77 n78 c79) (wnil (inb_n (then_n (rg_lit (wlv (v := I_ ((k : Int) + 1)) (adN k 1) (wmv (v := I_ ((k : Int) + 1)) (wnil (then_n ?_)))))))))
   refine ⟨l.length - (k + 1), ?_, (k + 1), A77, n78, c79, rfl, hmk, (Mod.trans' M75 u83 (fun k hk => Nat.le_trans (Nat.le_refl _) (h76.own k hk).1)), (by omega), (SMap.to (SMap.own (SMap.up hm58 u67) u83 (h76.ne_old (lt_ob h3))) (metF_next hy18)), (ERow.to h82 (ents_not hy18 (Dat.len hD18).1 v56))⟩
   · omega
  refine wp_cond_true (ebk v56) ?_
  refine rg_tail 7 (by kernel_rfl) (by kernel_rfl) rfl rfl ?_
  refine qv rfl (v := pt b35 0) (fun _ _ => fa (pt b35 0)) (qv rfl (v := S_ y18.name) (fun _ uz => ld 0 Ty.ag9 (up_ob uz h50)) (qv rfl (v := pt b19 0) (fun _ _ => fa (pt b19 0)) (qv rfl (v := .agg #[I_ y18.node.t, I_ y18.node.w]) (fun _ uz => lds 0 Ty.ag24 Ty.sz24 (up_ob uz h54)) ?_)))
  refine qc rfl (v := S_ (markB ⟨y18.node.t, y18.node.w⟩)) (fun _ _ => r_callv (caps := []) (all := [.agg #[I_ y18.node.t, I_ y18.node.w]]) En.f36 (by kernel_rfl) (by kernel_rfl)) (fun wz uz => mark_at (TabIs.up (TabIs.up htab (Mod.up (mtn (mtu M33 u39) c51 g45))) uz) y18.node.t y18.node.w (OKI.st (hOK _ (List.mem_of_getElem? hy18))).1 (OKI.st (hOK _ (List.mem_of_getElem? hy18))).2) ?_ ?_
  · rintro w1 e _ hC ⟨rfl, hu⟩; exact ⟨rfl, up_step hC hu⟩
  refine qv rfl (v := S_ (y18.name ++ (markB ⟨y18.node.t, y18.node.w⟩))) (fun _ _ => r_adds (m := y18.name) (n := (markB ⟨y18.node.t, y18.node.w⟩)) (by kernel_rfl) (by kernel_rfl) (mark_size (hOK _ (List.mem_of_getElem? hy18)))) (qv rfl (v := pt b35 0) (fun _ _ => fa (pt b35 0)) ?_)
  refine qnil fun _ u58 => ?_
  refine wl (ss rfl (k := 0) (v := S_ (y18.name ++ (markB ⟨y18.node.t, y18.node.w⟩))) (vs := [S_ (y18.name ++ (markB ⟨y18.node.t, y18.node.w⟩))]) (cs' := [S_ (y18.name ++ (markB ⟨y18.node.t, y18.node.w⟩)), I_ y18.node.t, I_ y18.node.w, B_ y18.dir, I_ dn18]) (by kernel_rfl) (by kernel_rfl) rfl Ty.sz9 (up_ob u58 h50) rfl (Nat.le_of_ble_eq_true rfl) rfl fun _ h63 c64 => wnil (then_n (wp_seq (rg_lit (wmv (v := .map (some mp)) (wlv (v := pt b19 4) (fa (pt b19 0)) (wlv (v := S_ y18.name) (ld 4 Ty.ag9 (chg_ob c64 (Nat.ne_of_lt l44) (up_ob u58 h54))) ?_)))))))
  have h68 := (SMap.chg (SMap.up h55 u58) c64 (Nat.ne_of_lt l41))
  obtain ⟨_, hr70, hc70, hm70⟩ := SMap.store (P := Tryz.prog) h68 Ty.un168 Ty.un9 y18.name (.bool true)
  refine wl (sk rfl (r_mapUpdate (mv := .map (some mp)) (kv := S_ y18.name) (vv := B_ true) (by kernel_rfl) (by kernel_rfl) (by kernel_rfl) hr70) ?_)
  obtain ⟨_, _, _⟩ := SMap.ob hm70
  refine wnil (then_n (rg_lit (wmv (v := .slice oA on oc) (wlv (v := .agg #[S_ (y18.name ++ (markB ⟨y18.node.t, y18.node.w⟩)), I_ y18.node.t, I_ y18.node.w, B_ y18.dir, I_ dn18]) (lds 0 Ty.ag35 Ty.sz35 (chg_ob hc70 (Nat.ne_of_gt l41) h63)) (wl (sn rfl (cs := #[S_ (y18.name ++ (markB ⟨y18.node.t, y18.node.w⟩)), I_ y18.node.t, I_ y18.node.w, B_ y18.dir, I_ dn18]) (T := 35) (V := fun b => sl b 0 1 1) (r_buildSlice (n := 1) (ps := [(0, .agg #[S_ (y18.name ++ (markB ⟨y18.node.t, y18.node.w⟩)), I_ y18.node.t, I_ y18.node.w, B_ y18.dir, I_ dn18])]) Ty.un29 Ty.sz35 Ty.zv35 (by decide) (by decide) (by kernel_rfl) (by kernel_rfl)) fun _ _ _ h78 u79 => ?_))))))
  have M87 := mtu (mtx (mtn (mtu M53 u58) c64 g46) hc70) u79
  have h88 := (ERow.up (ERow.chgm (ERow.up hF1_2 (up_chgn (up_up (up_chgn (up_up (up_chgn u23 c32 (by rw [e21]; exact Nat.le_refl _)) u39) c51 (by rw [e37]; exact (up_chgn u23 c32 (by rw [e21]; exact Nat.le_refl _)).size)) u58) c64 (by rw [e37]; exact (up_chgn u23 c32 (by rw [e21]; exact Nat.le_refl _)).size))) hc70 (ERow.ne_old (ERow.up hF1_2 (up_chgn (up_up (up_chgn (up_up (up_chgn u23 c32 (by rw [e21]; exact Nat.le_refl _)) u39) c51 (by rw [e37]; exact (up_chgn u23 c32 (by rw [e21]; exact Nat.le_refl _)).size)) u58) c64 (by rw [e37]; exact (up_chgn u23 c32 (by rw [e21]; exact Nat.le_refl _)).size))) (lt_ob h3))) u79)
  refine wl (snE rfl (L := (entsI (l.take k))) (x := (⟨(y18.name ++ (markB ⟨y18.node.t, y18.node.w⟩)), ⟨y18.node.t, y18.node.w⟩, y18.dir, (dn18 : Int)⟩ : EntD)) (by kernel_rfl) (by kernel_rfl) h88 Ty.un29 hiE hzE hsE hbE hcE h78 M87.size (by have := ents_le l k; omega) fun A89 n90 c91 w92 e93 h94 u95 => was (v := .slice A89 n90 c91) (wnil (inb_n (then_n (rg_lit (wlv (v := I_ ((k : Int) + 1)) (adN k 1) (wmv (v := I_ ((k : Int) + 1)) (wnil (then_n ?_)))))))))
  refine ⟨l.length - (k + 1), ?_, (k + 1), A89, n90, c91, rfl, hmk, (Mod.trans' M87 u95 (fun k hk => Nat.le_trans (Nat.le_refl _) (h88.own k hk).1)), (by omega), (SMap.to (SMap.own (SMap.up hm70 u79) u95 (h88.ne_old (lt_ob h3))) (metF_next hy18)), (ERow.to h94 (ents_yes hy18 (Dat.len hD18).1 v56))⟩
  · omega
end Go.Proofs.YtefhfoioeoijlaaGreatDoor
set_option linter.unusedVariables false
set_option linter.unusedSimpArgs false
namespace Go.Proofs.YtefhfoioeoijlaaGreatDoor
open Go Go.RowKit Go.Sort
set_option maxHeartbeats 2000000 in
theorem list_at {B : Nat} {w : World} {tb r : Nat} {L : List Item} (h : TreeIs B w tb r L) (hB : B ≤ w.heap.size) (hF : Fit L) (htab : Tab w) (n1 n2 : Int) : Calls Tryz.prog 16 #[trP tb, .agg #[.int .i64 n1, .int .i64 n2]] w fun e w' => ∃ v D, e = .returned (.tuple #[v, .int .i64 (kidK L ⟨n1, n2⟩)]) ∧ ERow 35 B w.heap.size w' v D ∧ (kidK L ⟨n1, n2⟩ = 0 → Listed (entsI (kidsI ⟨n1, n2⟩ L)) D) ∧ (kidK L ⟨n1, n2⟩ ≠ 0 → D = []) ∧ Up w w' := by
  go_enter Tryz.func16, Tryz.ntmps16
  refine wp_seq (rg_lit (wl (sn rfl (cs := #[I_ n1, I_ n2]) (T := 24) (V := fun b => pt b 0) (r_box (v := .agg #[I_ n1, I_ n2]) (by kernel_rfl) rfl) fun _ _ _ h4 u5 => ?_)))
  have M8 := mtu (Mod.refl [] w) u5
  refine was (v := .slice none 0 0) (was (v := I_ 0) (wnil (then_n (wp_seq (rg_lit (wmv (v := pt tb 0) (wlv (v := .agg #[I_ n1, I_ n2]) (lds 0 Ty.ag24 Ty.sz24 h4) ?_)))))))
  have h16 := (TreeIs.up h (Mod.up M8))
  refine wl (sca [pt tb 0, .agg #[I_ n1, I_ n2]] En.f57 (kids18_at h16 (Nat.le_trans hB M8.size) n1 n2) ?_)
  rintro e _ ⟨_, rfl, h13, u14⟩
  obtain ⟨A11, c12, rfl⟩ := IRow.form h13
  have h15 := IRow.base h13 M8.size
  refine ⟨_, rfl, ?_⟩
  have M17 := mtu M8 u14
  refine wmv (v := .tuple #[.slice A11 ((kidsO L ⟨n1, n2⟩).length) c12, I_ (kidK L ⟨n1, n2⟩)]) (wlv (v := .slice A11 ((kidsO L ⟨n1, n2⟩).length) c12) (xt [.slice A11 ((kidsO L ⟨n1, n2⟩).length) c12, I_ (kidK L ⟨n1, n2⟩)]) (wlv (v := I_ (kidK L ⟨n1, n2⟩)) (xt [.slice A11 ((kidsO L ⟨n1, n2⟩).length) c12, I_ (kidK L ⟨n1, n2⟩)]) (was (v := .slice A11 ((kidsO L ⟨n1, n2⟩).length) c12) (was (v := I_ (kidK L ⟨n1, n2⟩)) (wnil (then_n (wp_seq (wp_seq (rg_lit (wmv (v := I_ (kidK L ⟨n1, n2⟩)) (wl (sb rfl (neI (kidK L ⟨n1, n2⟩) 0) fun _ k19 => wnil (then_n ?_)))))))))))))
  refine bcd k19 (fun v20 p21 => ?_) (fun v20 p21 => ?_)
  ·
   refine wp_cond_false (ebk v20) (wp_skip (then_n (wp_seq (rg_lit (wmv (v := .slice A11 ((kidsO L ⟨n1, n2⟩).length) c12) (wl (sca [.slice A11 ((kidsO L ⟨n1, n2⟩).length) c12] En.f58 (ents_at h15 (Nat.le_trans hB M17.size) (TabIs.up htab (Mod.up M17)) (kidsO_ok hF _) (kidsO_300 hF _)) ?_)))))))
   rintro e _ ⟨_, rfl, h26, u27⟩
   obtain ⟨A24, c25, rfl⟩ := ERow.form h26
   have h28 := ERow.base h26 M17.size
   have z29 := ERow.le h26
   refine ⟨_, rfl, ?_⟩
   refine was (v := .slice A24 ((entsI (kidsO L ⟨n1, n2⟩)).length) c25) (wnil (then_n (wp_seq (rg_lit (wmv (v := .slice A24 ((entsI (kidsO L ⟨n1, n2⟩)).length) c25) ?_)))))
   have hsz := kidsO_300 hF ⟨n1, n2⟩
   refine wl (sca [.slice A24 ((entsI (kidsO L ⟨n1, n2⟩)).length) c25, .func (.func 60) #[] #[]] En.f59 (sortE_at h28 hB (by rw [entsI_len]; omega) (ents_short (kidsO_ok hF _)) (kidsO_apart hF _)) ?_)
   rintro e _ ⟨D32, rfl, h33, h34, u35⟩
   refine ⟨_, rfl, ?_⟩
   refine wnil (then_n (wp_seq (rg_lit (wmv (v := .slice A24 ((entsI (kidsO L ⟨n1, n2⟩)).length) c25) (was (v := .slice A24 ((entsI (kidsO L ⟨n1, n2⟩)).length) c25) (was (v := I_ 0) (wnil (then_n (wp_ret ?_)))))))))
   refine br2 (v := .slice A24 ((entsI (kidsO L ⟨n1, n2⟩)).length) c25) (u := I_ 0) rfl ?_
   have hk0 : kidK L ⟨n1, n2⟩ = 0 := Decidable.not_not.1 p21
   exact ⟨_, D32, by rw [hk0], h33, fun _ => (by rw [← kidsO_yes hk0]; exact h34), fun h0 => absurd hk0 h0, (Mod.up (Mod.trans' (mtu M17 u27) u35 (fun k hk => Nat.le_trans (Nat.le_refl _) (h28.own k hk).1)))⟩
  refine wp_cond_true (ebk v20) (wp_seq (rg_lit (wmv (v := I_ (kidK L ⟨n1, n2⟩)) (was (v := .slice none 0 0) (was (v := I_ (kidK L ⟨n1, n2⟩)) (wnil (then_n (wp_ret (then_x (by nofun) ?_)))))))))
  refine br2 (v := .slice none 0 0) (u := I_ (kidK L ⟨n1, n2⟩)) rfl ?_
  exact ⟨.slice none 0 0, [], rfl, ERow.nil _ _ _ _, fun h0 => absurd h0 p21, fun _ => rfl, (Mod.up M17)⟩
set_option maxHeartbeats 2000000 in
theorem find18_at {B : Nat} {w : World} {tb r : Nat} {L : List Item} (h : TreeIs B w tb r L) (hB : B ≤ w.heap.size) (hF : Fit L) (htab : Tab w) (n1 n2 : Int) (nm : ByteArray) : Calls Tryz.prog 18 #[trP tb, .agg #[.int .i64 n1, .int .i64 n2], .string nm] w fun e w' => e = .returned (.tuple #[enV (findE L ⟨n1, n2⟩ nm), .int .i64 (findK L ⟨n1, n2⟩ nm)]) ∧ Up w w' := by
  go_enter Tryz.func18, Tryz.ntmps18
  refine wp_seq (rg_lit (wl (sn rfl (cs := #[I_ n1, I_ n2]) (T := 24) (V := fun b => pt b 0) (r_box (v := .agg #[I_ n1, I_ n2]) (by kernel_rfl) rfl) fun b1 _ _ h4 u5 => ?_)))
  have M8 := mtu (Mod.refl [] w) u5
  refine wl (sn rfl (cs := #[S_ (⟨#[]⟩), I_ 0, I_ 0, B_ false, I_ 0]) (T := 35) (V := fun b => pt b 0) (r_alloc Ty.zv35 rfl) fun b9 _ e11 h12 u13 => ?_)
  have g17 := gsz e11 M8
  have M18 := mtu M8 u13
  refine was (v := I_ 0) (wnil (then_n (wp_seq (rg_lit (wmv (v := pt tb 0) (wlv (v := .agg #[I_ n1, I_ n2]) (lds 0 Ty.ag24 Ty.sz24 (up_ob u13 h4)) ?_))))))
  have h30 := (TreeIs.up h (Mod.up M18))
  refine wl (sca [pt tb 0, .agg #[I_ n1, I_ n2]] En.f16 (list_at h30 (Nat.le_trans hB M18.size) hF (TabIs.up htab (Mod.up M18)) n1 n2) ?_)
  rintro e w20 ⟨_, DD, rfl, h25, h26, _, u28⟩
  obtain ⟨A23, c24, rfl⟩ := ERow.form h25
  have z31 := ERow.le h25
  refine ⟨_, rfl, ?_⟩
  have M32 := mtu M18 u28
  refine wmv (v := .tuple #[.slice A23 DD.length c24, I_ (kidK L ⟨n1, n2⟩)]) (wlv (v := .slice A23 DD.length c24) (xt [.slice A23 DD.length c24, I_ (kidK L ⟨n1, n2⟩)]) (wlv (v := I_ (kidK L ⟨n1, n2⟩)) (xt [.slice A23 DD.length c24, I_ (kidK L ⟨n1, n2⟩)]) (was (v := .slice A23 DD.length c24) (was (v := I_ (kidK L ⟨n1, n2⟩)) (wnil (then_n (wp_seq (wp_seq (rg_lit (wmv (v := I_ (kidK L ⟨n1, n2⟩)) (wl (sb rfl (neI (kidK L ⟨n1, n2⟩) 0) fun _ k34 => wnil (then_n ?_)))))))))))))
  refine bcd k34 (fun v35 p36 => ?_) (fun v35 p36 => ?_)
  ·
   refine wp_cond_false (ebk v35) (wp_skip (then_n (wp_seq (wp_seq (rg_lit (wmv (v := .slice A23 DD.length c24) (wlv (v := I_ DD.length) (ln A23 DD.length c24 Ty.un29) (wmv (v := I_ 0) (wnil (then_n (wp_block ?_)))))))))))
   have h39 := (up_ob u28 h12)
   refine lp (fun n a r1 => ∃ (k : Nat), (n = DD.length - k) ∧ (HasFr a 37 [(0, pt tb 0), (1, .agg #[I_ n1, I_ n2]), (2, S_ nm), (4, pt b1 0), (6, pt b9 0), (8, .slice A23 DD.length c24), (9, I_ (kidK L ⟨n1, n2⟩)), (23, .slice A23 DD.length c24), (24, I_ DD.length), (25, I_ k)] []) ∧ (Mod [] w20 r1) ∧ (k ≤ DD.length) ∧ (Hid (∀ (j : Nat) (y : EntD), j < k → DD[j]? = some y → ¬ y.name = nm))) ⟨_, 0, rfl, hmk, Mod.refl _ _, (Nat.zero_le _), (fun j y hj => absurd hj (Nat.not_lt_zero _))⟩ ?_
   rintro _ _ r1 ⟨k, rfl, h41, hM1, _, hF1_1⟩
   obtain ⟨_, rfl⟩ := h41
   have M42 := Mod.thin M32 hM1 (by simp)
   refine wp_seq (rg_lit (wl (sb rfl (ltI k DD.length) fun _ k44 => wnil (then_n (wp_seq ?_)))))
   refine bcd k44 (fun v45 p46 => ?_) (fun v45 p46 => ?_)
   ·
    refine wp_cond_false (ebk v45) (wp_exit (then_x (by nofun) (then_x (by nofun) (inb_hit (then_n (wp_seq (rg_lit (wlv (v := .agg #[S_ (⟨#[]⟩), I_ 0, I_ 0, B_ false, I_ 0]) (r_build (ps := []) (cs := [S_ (⟨#[]⟩), I_ 0, I_ 0, B_ false, I_ 0]) Ty.un35 Ty.zv35 Ty.pl35 (by kernel_rfl) (by kernel_rfl)) (wl (ss rfl (k := 0) (v := .agg #[S_ (⟨#[]⟩), I_ 0, I_ 0, B_ false, I_ 0]) (vs := [S_ (⟨#[]⟩), I_ 0, I_ 0, B_ false, I_ 0]) (cs' := [S_ (⟨#[]⟩), I_ 0, I_ 0, B_ false, I_ 0]) (by kernel_rfl) (by kernel_rfl) rfl Ty.sz35 (md_ob hM1 nin0 h39) rfl (Nat.le_of_ble_eq_true rfl) rfl fun _ h49 c50 => was (v := I_ 12) (wnil (then_n (wp_ret ?_)))))))))))))
    refine bodyPost_ret (v := .tuple #[.agg #[S_ (⟨#[]⟩), I_ 0, I_ 0, B_ false, I_ 0], I_ 12]) (res2 rfl (rv_c (p := ⟨b9, 0, none⟩) (by kernel_rfl) (run_loadVars (vs := [S_ (⟨#[]⟩), I_ 0, I_ 0, B_ false, I_ 0]) Ty.ag35 Ty.sz35 h49 (by kernel_rfl))) (rv_t (by kernel_rfl))) (by kernel_rfl) ?_
    exact ⟨find_ret (y := zeroE) (find_miss (Decidable.not_not.1 p36) (h26 (Decidable.not_not.1 p36)) (none_end hF1_1 (by omega))), (Mod.up (mtn M42 c50 g17))⟩
   refine wp_cond_true (ebk v45) (wp_skip (then_n (wp_seq (wp_block (wp_seq (rg_lit ?_))))))
   have h49 := (ERow.up (ERow.base h25 M18.size) (Mod.up hM1))
   obtain ⟨y50, hy50⟩ : ∃ x, DD[k]? = some x := ⟨_, List.getElem?_eq_getElem (by omega)⟩
   obtain ⟨g50, _, cu50, hA50, _, hb50, he50⟩ := ERow.get h49 hy50
   injection hA50 with hA50 _ _
   replace he50 : (cu50.toList.drop (0 + k * 5)).take 5 = enC y50 := by rw [Nat.zero_add]; exact he50
   refine wlv (v := pt g50 (0 + k * 5)) (ixa DD.length c24 5 k hA50 Ty.un29 Ty.sz35) (wlv (v := .agg #[S_ y50.name, I_ y50.node.t, I_ y50.node.w, B_ y50.dir, I_ y50.size]) (r_loads (k := 0 + k * 5) (by kernel_rfl) Ty.ag35 Ty.sz35 hb50 (el_sub0 he50 rfl)) (wl (sn rfl (cs := #[S_ (⟨#[]⟩), I_ 0, I_ 0, B_ false, I_ 0]) (T := 35) (V := fun b => pt b 0) (r_alloc Ty.zv35 rfl) fun _ _ e53 h54 u55 => ?_)))
   have g63 := gsz e53 M42
   have g64 := gsz e53 hM1
   refine wl (ss rfl (k := 0) (v := .agg #[S_ y50.name, I_ y50.node.t, I_ y50.node.w, B_ y50.dir, I_ y50.size]) (vs := [S_ y50.name, I_ y50.node.t, I_ y50.node.w, B_ y50.dir, I_ y50.size]) (cs' := [S_ y50.name, I_ y50.node.t, I_ y50.node.w, B_ y50.dir, I_ y50.size]) (by kernel_rfl) (by kernel_rfl) rfl Ty.sz35 h54 rfl (Nat.le_of_ble_eq_true rfl) rfl fun _ h68 c69 => wnil (then_n (wp_seq (rg_lit (wlv (v := .agg #[S_ y50.name, I_ y50.node.t, I_ y50.node.w, B_ y50.dir, I_ y50.size]) (lds 0 Ty.ag35 Ty.sz35 h68) (wlv (v := .func (.func 64) #[.agg #[S_ y50.name, I_ y50.node.t, I_ y50.node.w, B_ y50.dir, I_ y50.size]] #[]) (r_makeFunc (us := [.agg #[S_ y50.name, I_ y50.node.t, I_ y50.node.w, B_ y50.dir, I_ y50.size]]) (vs := []) (by kernel_rfl) rfl) (was (v := .func (.func 64) #[.agg #[S_ y50.name, I_ y50.node.t, I_ y50.node.w, B_ y50.dir, I_ y50.size]] #[]) (wnil (then_n (wp_seq (rg_lit (wmv (v := .func (.func 64) #[.agg #[S_ y50.name, I_ y50.node.t, I_ y50.node.w, B_ y50.dir, I_ y50.size]] #[]) (wmv (v := S_ nm) (wl (sc rfl (r_callb (us := [.agg #[S_ y50.name, I_ y50.node.t, I_ y50.node.w, B_ y50.dir, I_ y50.size]]) (all := [.agg #[S_ y50.name, I_ y50.node.t, I_ y50.node.w, B_ y50.dir, I_ y50.size], S_ nm]) En.f64 (by kernel_rfl) (by kernel_rfl)) (shownE_at y50 nm) ?_)))))))))))))))
   rintro e _ ⟨rfl, u73⟩
   refine ⟨_, rfl, ?_⟩
   have M75 := mtu (mtn (mtu hM1 u55) c69 g64) u73
   refine wnil (then_n ?_)
   refine bcase (decide (y50.name = nm)) (fun v76 => ?_) (fun v76 => ?_)
   ·
    refine wp_cond_false (ebk v76) (wp_skip (inb_n (then_n (rg_lit (wlv (v := I_ ((k : Int) + 1)) (adN k 1) (wmv (v := I_ ((k : Int) + 1)) (wnil (then_n ?_))))))))
    refine ⟨DD.length - (k + 1), ?_, (k + 1), rfl, hmk, M75, (by omega), (none_next hF1_1 hy50 (of_decide_eq_false v76))⟩
    · omega
   refine wp_cond_true (ebk v76) (wp_seq (rg_lit (wlv (v := .agg #[S_ y50.name, I_ y50.node.t, I_ y50.node.w, B_ y50.dir, I_ y50.size]) (lds 0 Ty.ag35 Ty.sz35 (up_ob u73 h68)) (wl (ss rfl (k := 0) (v := .agg #[S_ y50.name, I_ y50.node.t, I_ y50.node.w, B_ y50.dir, I_ y50.size]) (vs := [S_ y50.name, I_ y50.node.t, I_ y50.node.w, B_ y50.dir, I_ y50.size]) (cs' := [S_ y50.name, I_ y50.node.t, I_ y50.node.w, B_ y50.dir, I_ y50.size]) (by kernel_rfl) (by kernel_rfl) rfl Ty.sz35 (md_ob M75 nin0 h39) rfl (Nat.le_of_ble_eq_true rfl) rfl fun _ h80 c81 => was (v := I_ 0) (wnil (then_n (wp_ret (inb_r (then_x (by nofun) (then_x (by nofun) (inb_r (then_x (by nofun) ?_)))))))))))))
   refine bodyPost_ret (v := .tuple #[.agg #[S_ y50.name, I_ y50.node.t, I_ y50.node.w, B_ y50.dir, I_ y50.size], I_ 0]) (res2 rfl (rv_c (p := ⟨b9, 0, none⟩) (by kernel_rfl) (run_loadVars (vs := [S_ y50.name, I_ y50.node.t, I_ y50.node.w, B_ y50.dir, I_ y50.size]) Ty.ag35 Ty.sz35 h80 (by kernel_rfl))) (rv_t (by kernel_rfl))) (by kernel_rfl) ?_
   exact ⟨find_ret (y := y50) (find_hit hF (Decidable.not_not.1 p36) (h26 (Decidable.not_not.1 p36)) hy50 (of_decide_eq_true v76)), (Mod.up (mtn (mtu (mtn (mtu M42 u55) c69 g63) u73) c81 g17))⟩
  refine wp_cond_true (ebk v35) (wp_seq (rg_lit (wlv (v := .agg #[S_ (⟨#[]⟩), I_ 0, I_ 0, B_ false, I_ 0]) (r_build (ps := []) (cs := [S_ (⟨#[]⟩), I_ 0, I_ 0, B_ false, I_ 0]) Ty.un35 Ty.zv35 Ty.pl35 (by kernel_rfl) (by kernel_rfl)) (wmv (v := I_ (kidK L ⟨n1, n2⟩)) (wl (ss rfl (k := 0) (v := .agg #[S_ (⟨#[]⟩), I_ 0, I_ 0, B_ false, I_ 0]) (vs := [S_ (⟨#[]⟩), I_ 0, I_ 0, B_ false, I_ 0]) (cs' := [S_ (⟨#[]⟩), I_ 0, I_ 0, B_ false, I_ 0]) (by kernel_rfl) (by kernel_rfl) rfl Ty.sz35 (up_ob u28 h12) rfl (Nat.le_of_ble_eq_true rfl) rfl fun _ h39 c40 => was (v := I_ (kidK L ⟨n1, n2⟩)) (wnil (then_n (wp_ret (then_x (by nofun) ?_))))))))))
  refine bodyPost_ret (v := .tuple #[.agg #[S_ (⟨#[]⟩), I_ 0, I_ 0, B_ false, I_ 0], I_ (kidK L ⟨n1, n2⟩)]) (res2 rfl (rv_c (p := ⟨b9, 0, none⟩) (by kernel_rfl) (run_loadVars (vs := [S_ (⟨#[]⟩), I_ 0, I_ 0, B_ false, I_ 0]) Ty.ag35 Ty.sz35 h39 (by kernel_rfl))) (rv_t (by kernel_rfl))) (by kernel_rfl) ?_
  exact ⟨find_ret (y := zeroE) (find_bad p36), (Mod.up (mtn M32 c40 g17))⟩
set_option maxHeartbeats 2000000 in
theorem shown18_at {B : Nat} {w : World} {tb r : Nat} {L : List Item} (h : TreeIs B w tb r L) (hB : B ≤ w.heap.size) (hF : Fit L) (htab : Tab w) (m1 m2 : Int) : Calls Tryz.prog 19 #[trP tb, .agg #[.int .i64 m1, .int .i64 m2]] w fun e w' => e = .returned (.tuple #[.string (shownB L ⟨m1, m2⟩), .int .i64 (shownK L ⟨m1, m2⟩)]) ∧ Up w w' := by
  go_enter Tryz.func19, Tryz.ntmps19
  refine wp_seq (rg_lit (wl (sn rfl (cs := #[I_ m1, I_ m2]) (T := 24) (V := fun b => pt b 0) (r_box (v := .agg #[I_ m1, I_ m2]) (by kernel_rfl) rfl) fun b1 w2 _ h4 u5 => ?_)))
  have M8 := mtu (Mod.refl [] w) u5
  refine was (v := S_ (⟨#[]⟩)) (was (v := I_ 0) (wnil (then_n (wp_seq (wp_seq (rg_lit (wmv (v := pt tb 0) (wl (sv (w' := w2) rfl (v := B_ false) (by kernel_rfl) (wnil (then_n (wp_cond_false (by kernel_rfl) (wp_skip (then_n (wp_seq (rg_lit (wmv (v := pt tb 0) ?_)))))))))))))))))
  refine wlv (v := .agg #[I_ m1, I_ m2]) (lds 0 Ty.ag24 Ty.sz24 h4) (wl (sca [pt tb 0, .agg #[I_ m1, I_ m2]] En.f20 (get_x (TreeIs.up h (Mod.up M8)) ⟨m1, m2⟩ (x := (gotI L ⟨m1, m2⟩)) (b := (hasI L ⟨m1, m2⟩)) rfl rfl) ?_))
  rintro e _ ⟨A11, n12, c13, rfl, _, u15⟩
  refine ⟨_, rfl, ?_⟩
  have M16 := mtu M8 u15
  refine wmv (v := .tuple #[itV (gotI L ⟨m1, m2⟩) (.slice A11 n12 c13), B_ (hasI L ⟨m1, m2⟩)]) (wlv (v := itV (gotI L ⟨m1, m2⟩) (.slice A11 n12 c13)) (xt [itV (gotI L ⟨m1, m2⟩) (.slice A11 n12 c13), B_ (hasI L ⟨m1, m2⟩)]) (wlv (v := B_ (hasI L ⟨m1, m2⟩)) (xt [itV (gotI L ⟨m1, m2⟩) (.slice A11 n12 c13), B_ (hasI L ⟨m1, m2⟩)]) (wl (sn rfl (cs := #[I_ 0, I_ 0, I_ 0, I_ 0, S_ (⟨#[]⟩), B_ false, B_ false, .slice none 0 0, I_ 0, I_ 0]) (T := 42) (V := fun b => pt b 0) (r_alloc Ty.zv42 rfl) fun b17 _ e19 h20 u21 => ?_))))
  have h24 := (up_ob u15 h4)
  have l25 := lsz e19 h24
  have g26 := gsz e19 M16
  refine wl (ss rfl (k := 0) (v := itV (gotI L ⟨m1, m2⟩) (.slice A11 n12 c13)) (vs := (itC (gotI L ⟨m1, m2⟩) (.slice A11 n12 c13))) (cs' := (itC (gotI L ⟨m1, m2⟩) (.slice A11 n12 c13))) (by kernel_rfl) (by kernel_rfl) rfl Ty.sz42 h20 rfl (Nat.le_of_ble_eq_true rfl) rfl fun _ h29 c30 => ?_)
  have M31 := mtn (mtu M16 u21) c30 g26
  refine was (v := B_ (hasI L ⟨m1, m2⟩)) (wnil (then_n (wp_seq (wp_seq (rg_lit (wmv (v := B_ (hasI L ⟨m1, m2⟩)) (wlv (v := B_ (!(hasI L ⟨m1, m2⟩))) (r_not (b := (hasI L ⟨m1, m2⟩)) (by kernel_rfl)) (wmv (v := B_ (!(hasI L ⟨m1, m2⟩))) ?_))))))))
  refine bcase (hasI L ⟨m1, m2⟩) (fun v32 => ?_) (fun v32 => ?_)
  ·
   iterate 4 refine wls rfl (bneg v32) ?_
   refine wlv (v := B_ true) (pkT (ebk (bneg v32))) (wnil (then_n (wp_cond_true (by kernel_rfl) (wp_seq (rg_lit (was (v := S_ (⟨#[]⟩)) (was (v := I_ 12) (wnil (then_n (wp_ret (then_x (by nofun) ?_)))))))))))
   refine br2 (v := S_ (⟨#[]⟩)) (u := I_ 12) rfl ?_
   exact ⟨shown_ret (shown_no1 v32), (Mod.up M31)⟩
  refine wlw rfl (bneg v32) (v := pt tb 0) (mv) ?_
  have h33 := (chg_ob c30 (Nat.ne_of_lt l25) (up_ob u21 h24))
  refine wlw rfl (bneg v32) (v := .agg #[I_ m1, I_ m2]) (lds 0 Ty.ag24 Ty.sz24 h33) ?_
  have h34 := (TreeIs.up h (Mod.up M31))
  refine wl (sc (wt (b := !(hasI L ⟨m1, m2⟩)) rfl (by kernel_rfl) (bneg v32)) (r_callv (caps := []) (all := [pt tb 0, .agg #[I_ m1, I_ m2]]) En.f39 (by kernel_rfl) (by kernel_rfl)) (hangs_at h34 m1 m2) ?_)
  rintro e _ ⟨rfl, u36⟩
  refine ⟨_, rfl, ?_⟩
  have M37 := mtu M31 u36
  refine wlw rfl (bneg v32) (v := B_ (!(hangsI L 301 ⟨m1, m2⟩))) (r_not (b := (hangsI L 301 ⟨m1, m2⟩)) (by kernel_rfl)) (wlv (v := B_ (!(hangsI L 301 ⟨m1, m2⟩))) (pkF (ebk (bneg v32))) (wnil (then_n ?_)))
  refine bcase (hangsI L 301 ⟨m1, m2⟩) (fun v38 => ?_) (fun v38 => ?_)
  ·
   refine wp_cond_true (ebk (bneg v38)) (wp_seq (rg_lit (was (v := S_ (⟨#[]⟩)) (was (v := I_ 12) (wnil (then_n (wp_ret (then_x (by nofun) ?_))))))))
   refine br2 (v := S_ (⟨#[]⟩)) (u := I_ 12) rfl ?_
   exact ⟨shown_ret (shown_no2 v38), (Mod.up M37)⟩
  refine wp_cond_false (ebk (bneg v38)) (wp_skip (then_n (wp_seq (wp_seq (rg_lit (wmv (v := pt tb 0) (wlv (v := pt b17 2) (fa (pt b17 0)) (wlv (v := .agg #[I_ ((gotI L ⟨m1, m2⟩).parent.t), I_ ((gotI L ⟨m1, m2⟩).parent.w)]) (lds 2 Ty.ag24 Ty.sz24 (up_ob u36 h29)) ?_))))))))
  have h46 := (TreeIs.up h (Mod.up M37))
  refine wl (sca [pt tb 0, .agg #[I_ ((gotI L ⟨m1, m2⟩).parent.t), I_ ((gotI L ⟨m1, m2⟩).parent.w)]] En.f38 (row_sl (kids_at h46 (Nat.le_trans hB M37.size) ((gotI L ⟨m1, m2⟩).parent.t) ((gotI L ⟨m1, m2⟩).parent.w))) ?_)
  rintro e _ ⟨A41, c42, rfl, h43, u44⟩
  have h45 := IRow.base h43 M37.size
  refine ⟨_, rfl, ?_⟩
  have M47 := mtu M37 u44
  refine wl (sca [.slice A41 ((kidsI ⟨(gotI L ⟨m1, m2⟩).parent.t, (gotI L ⟨m1, m2⟩).parent.w⟩ L).length) c42] En.f58 (ents_at h45 (Nat.le_trans hB M47.size) (TabIs.up htab (Mod.up M47)) (Fit.kids hF _).1 (kids_300 hF _)) ?_)
  rintro e w48 ⟨_, rfl, h52, u53⟩
  obtain ⟨A50, c51, rfl⟩ := ERow.form h52
  have z55 := ERow.le h52
  refine ⟨_, rfl, ?_⟩
  refine wlv (v := I_ (((entsI (kidsI ⟨(gotI L ⟨m1, m2⟩).parent.t, (gotI L ⟨m1, m2⟩).parent.w⟩ L)).length) : Int)) (ln A50 ((entsI (kidsI ⟨(gotI L ⟨m1, m2⟩).parent.t, (gotI L ⟨m1, m2⟩).parent.w⟩ L)).length) c51 Ty.un29) (wmv (v := I_ 0) (wnil (then_n (wp_block ?_))))
  refine lp (fun n a r1 => ∃ (k : Nat), (n = (entsI (kidsI ⟨(gotI L ⟨m1, m2⟩).parent.t, (gotI L ⟨m1, m2⟩).parent.w⟩ L)).length - k) ∧ (HasFr a 43 [(0, pt tb 0), (1, .agg #[I_ m1, I_ m2]), (3, pt b1 0), (6, pt b17 0), (7, B_ (hasI L ⟨m1, m2⟩)), (30, .slice A50 ((entsI (kidsI ⟨(gotI L ⟨m1, m2⟩).parent.t, (gotI L ⟨m1, m2⟩).parent.w⟩ L)).length) c51), (31, I_ (((entsI (kidsI ⟨(gotI L ⟨m1, m2⟩).parent.t, (gotI L ⟨m1, m2⟩).parent.w⟩ L)).length) : Int)), (32, I_ k)] []) ∧ (Mod [] w48 r1) ∧ (k ≤ (entsI (kidsI ⟨(gotI L ⟨m1, m2⟩).parent.t, (gotI L ⟨m1, m2⟩).parent.w⟩ L)).length) ∧ (Hid (∀ (j : Nat) (y : EntD), j < k → (entsI (kidsI ⟨(gotI L ⟨m1, m2⟩).parent.t, (gotI L ⟨m1, m2⟩).parent.w⟩ L))[j]? = some y → ¬ y.node = ⟨m1, m2⟩))) ⟨_, 0, rfl, hmk, Mod.refl _ _, (Nat.zero_le _), (fun j y hj => absurd hj (Nat.not_lt_zero _))⟩ ?_
  rintro _ _ r1 ⟨k, rfl, h63, hM1, _, hF1_1⟩
  obtain ⟨_, rfl⟩ := h63
  have M64 := Mod.thin (mtu M47 u53) hM1 (by simp)
  refine wp_seq (rg_lit (wl (sb rfl (ltI k (((entsI (kidsI ⟨(gotI L ⟨m1, m2⟩).parent.t, (gotI L ⟨m1, m2⟩).parent.w⟩ L)).length) : Int)) fun _ k66 => wnil (then_n (wp_seq ?_)))))
  refine bcd k66 (fun v67 p68 => ?_) (fun v67 p68 => ?_)
  ·
   refine wp_cond_false (ebk v67) (wp_exit (then_x (by nofun) (then_x (by nofun) (inb_hit (then_n (wp_seq (rg_lit (was (v := S_ (⟨#[]⟩)) (was (v := I_ 12) (wnil (then_n (wp_ret ?_))))))))))))
   refine br2 (v := S_ (⟨#[]⟩)) (u := I_ 12) rfl ?_
   exact ⟨shown_ret (shown_miss (none_end (D := (entsI (kidsI ⟨(gotI L ⟨m1, m2⟩).parent.t, (gotI L ⟨m1, m2⟩).parent.w⟩ L))) hF1_1 (by omega))), (Mod.up M64)⟩
  refine wp_cond_true (ebk v67) (wp_skip (then_n (wp_seq (wp_block (wp_seq (rg_lit ?_))))))
  have h69 := (ERow.up (ERow.base h52 M47.size) (Mod.up hM1))
  obtain ⟨y70, hy70⟩ : ∃ x, (entsI (kidsI ⟨(gotI L ⟨m1, m2⟩).parent.t, (gotI L ⟨m1, m2⟩).parent.w⟩ L))[k]? = some x := ⟨_, List.getElem?_eq_getElem (by omega)⟩
  obtain ⟨g70, _, cu70, hA70, _, hb70, he70⟩ := ERow.get h69 hy70
  injection hA70 with hA70 _ _
  replace he70 : (cu70.toList.drop (0 + k * 5)).take 5 = enC y70 := by rw [Nat.zero_add]; exact he70
  refine wlv (v := pt g70 (0 + k * 5)) (ixa ((entsI (kidsI ⟨(gotI L ⟨m1, m2⟩).parent.t, (gotI L ⟨m1, m2⟩).parent.w⟩ L)).length) c51 5 k hA70 Ty.un29 Ty.sz35) (wlv (v := .agg #[S_ y70.name, I_ y70.node.t, I_ y70.node.w, B_ y70.dir, I_ y70.size]) (r_loads (k := 0 + k * 5) (by kernel_rfl) Ty.ag35 Ty.sz35 hb70 (el_sub0 he70 rfl)) (wl (sn rfl (cs := #[S_ (⟨#[]⟩), I_ 0, I_ 0, B_ false, I_ 0]) (T := 35) (V := fun b => pt b 0) (r_alloc Ty.zv35 rfl) fun b71 _ e73 h74 u75 => ?_)))
  have g83 := gsz e73 M64
  have g84 := gsz e73 hM1
  refine wl (ss rfl (k := 0) (v := .agg #[S_ y70.name, I_ y70.node.t, I_ y70.node.w, B_ y70.dir, I_ y70.size]) (vs := [S_ y70.name, I_ y70.node.t, I_ y70.node.w, B_ y70.dir, I_ y70.size]) (cs' := [S_ y70.name, I_ y70.node.t, I_ y70.node.w, B_ y70.dir, I_ y70.size]) (by kernel_rfl) (by kernel_rfl) rfl Ty.sz35 h74 rfl (Nat.le_of_ble_eq_true rfl) rfl fun _ h88 c89 => ?_)
  have M91 := mtn (mtu hM1 u75) c89 g84
  refine wnil (then_n (wp_seq (rg_lit (wlv (v := pt b71 1) (fa (pt b71 0)) (wlv (v := .agg #[I_ y70.node.t, I_ y70.node.w]) (lds 1 Ty.ag24 Ty.sz24 h88) (wlv (v := .agg #[I_ m1, I_ m2]) (lds 0 Ty.ag24 Ty.sz24 (md_ob M91 nin0 (up_ob u53 (up_ob u44 (up_ob u36 h33))))) (wl (sb rfl (r_eqS (a := y70.node.t) (b := y70.node.w) (c := m1) (e := m2) (by kernel_rfl) (by kernel_rfl)) fun _ k94 => wnil (then_n ?_)))))))))
  refine bcd k94 (fun v95 p96 => ?_) (fun v95 p96 => ?_)
  ·
   refine wp_cond_false (ebk v95) (wp_skip (inb_n (then_n (rg_lit (wlv (v := I_ ((k : Int) + 1)) (adN k 1) (wmv (v := I_ ((k : Int) + 1)) (wnil (then_n ?_))))))))
   refine ⟨(entsI (kidsI ⟨(gotI L ⟨m1, m2⟩).parent.t, (gotI L ⟨m1, m2⟩).parent.w⟩ L)).length - (k + 1), ?_, (k + 1), rfl, hmk, M91, (by omega), (none_next (p := fun y : EntD => y.node = ⟨m1, m2⟩) hF1_1 hy70 p96)⟩
   · omega
  refine wp_cond_true (ebk v95) (wp_seq (rg_lit (wlv (v := pt b71 0) (fa (pt b71 0)) (wlv (v := S_ y70.name) (ld 0 Ty.ag9 h88) (was (v := S_ y70.name) (was (v := I_ 0) (wnil (then_n (wp_ret (inb_r (then_x (by nofun) (then_x (by nofun) (inb_r (then_x (by nofun) ?_))))))))))))))
  refine br2 (v := S_ y70.name) (u := I_ 0) rfl ?_
  exact ⟨shown_ret (shown_hit hF v32 v38 hy70 p96), (Mod.up (mtn (mtu M64 u75) c89 g83))⟩
end Go.Proofs.YtefhfoioeoijlaaGreatDoor
set_option linter.unusedVariables false
set_option linter.unusedSimpArgs false
namespace Go.Proofs.YtefhfoioeoijlaaGreatDoor
open Go Go.RowKit Go.Sort
def BRow (base : Nat) (w : World) (v : Value) (L : List ByteArray) : Prop := w.ownsRow base 9 1 v L.length (L.map Value.string)
theorem BRow.nil (base : Nat) (w : World) : BRow base w (.slice none 0 0) [] := World.ownsRow_nil w base _ 1
theorem BRow.keep {base : Nat} {w w' : World} {v : Value} {L : List ByteArray} (h : BRow base w v L) {q : Option Nat} (hg : w.grownBy w' q) (hv : v.ownBlock = none ∨ v.ownBlock ≠ q) : BRow base w' v L := World.ownsRow.kept h hg hv
theorem BRow.up {base : Nat} {w w' : World} {v : Value} {L : List ByteArray} (h : BRow base w v L) (hb : Up w w') : BRow base w' v L :=
  h.keep (q := none) ⟨hb.os, hb.tape, hb.output, hb.size, fun k hk _ => hb.block k hk⟩ (by cases hv : v.ownBlock <;> simp)
theorem BRow.chgm {base b : Nat} {w w' : World} {v : Value} {L : List ByteArray} (h : BRow base w v L) (c : Chg w w' b) (hn : v.ownBlock ≠ some b) : BRow base w' v L := World.ownsRow.kept h c (.inr hn)
theorem BRow.form {base : Nat} {w : World} {v : Value} {L : List ByteArray} (h : BRow base w v L) : ∃ A c, v = .slice A L.length c := by
  obtain ⟨_, ⟨rfl, h0⟩ | ⟨g, cap, cur, rfl, _⟩⟩ := h
  · exact ⟨none, 0, by rw [h0]⟩
  · exact ⟨_, cap, rfl⟩
theorem BRow.own {base : Nat} {w : World} {v : Value} {L : List ByteArray} (h : BRow base w v L) : ∀ k, v.ownBlock = some k → base ≤ k ∧ k < w.heap.size := World.ownsRow.lt h
theorem BRow.ne_old {base b : Nat} {w : World} {v : Value} {L : List ByteArray} (h : BRow base w v L) (e : b < base) : v.ownBlock ≠ some b := fun hh => by have := (h.own _ hh).1; omega
theorem BRow.base {base base' : Nat} {w : World} {v : Value} {L : List ByteArray} (h : BRow base w v L) (hb : base' ≤ base) : BRow base' w v L := by
  obtain ⟨h1, h2⟩ := h
  refine ⟨h1, ?_⟩
  rcases h2 with hn | ⟨g, cap, cur, hv, hbg, rest⟩
  · exact .inl hn
  · exact .inr ⟨g, cap, cur, hv, Nat.le_trans hb hbg, rest⟩
theorem info_str : ∃ i z, Tryz.prog.info? 9 = some i ∧ i.zero = some z ∧ i.size = 1 ∧ i.bytes = 16 ∧ z.cells.size = 1 := by
  have h : (Tryz.prog.info? 9).map (fun i => (i.zero.map (·.cells.size), i.size, i.bytes)) = some (some 1, 1, 16) := by kernel_rfl
  cases hi : Tryz.prog.info? 9 with
  | none => rw [hi] at h; cases h
  | some i =>
    rw [hi] at h; simp at h
    obtain ⟨⟨z, hz, h1⟩, h2, h3⟩ := h
    exact ⟨i, z, rfl, hz, h2, h3, h1⟩
theorem BRow.snoc {base : Nat} {w : World} {v : Value} {L : List ByteArray} (h : BRow base w v L) {t ty : TypeId} (ht : Tryz.prog.underlying t = some (.slice 9)) {b : Nat} {x : ByteArray} (hb : w.heap[b]? = some (.cells #[.string x] 9 (0, 0))) (hbase : base ≤ w.heap.size) (hlen : L.length ≤ 100000) :
    ∃ v' w', (Builtin.append_ #[t, t] ty #[v, .slice (some ⟨b, 0, none⟩) 1 1]).run Tryz.prog w = .ok v' w' ∧ BRow base w' v' (L ++ [x]) ∧ w.grownBy w' v.ownBlock := by
  obtain ⟨i, z, hi, hz, hsize, hby, hzs⟩ := info_str
  obtain ⟨v', w', h1, h2, h3, h4⟩ := run_append_own (P := Tryz.prog) w base t ty 9 i z 1 16 ht hi hz hsize hby hzs (by decide) v L.length (L.map Value.string) h ⟨b, 0, none⟩ 1 1 [.string x] (by simp)
    (fun j u hj => by
      rw [add_at, Nat.zero_add]
      have : (#[.string x] : Array Value)[j]? = some u := by simpa using hj
      simp only [World.cell?, hb]; simpa using this) (by intro u hu; simp at hu; subst hu; rfl) (by unfold maxLen; omega) (by omega) hbase
  refine ⟨v', w', h1, ?_, h3⟩
  unfold BRow
  rw [List.map_append]
  simpa using h2
theorem snB {ops : Array Oper} {Q : Exit → Act → World → Prop} {a : Act} {w : World} {J : Act → World → Prop} {d : Option Tmp} {ty : TypeId} {pos : String} {af : Array Edge} {g : Option (Nat × Bool)}
    {base : Nat} {v : Value} {L : List ByteArray} {t : TypeId} {s y : Operand} {b : Nat} {x : ByteArray}
    (hw : Region.wanted (⟨d, .call ⟨.builtin .append, #[s, y], #[t, t]⟩, ty, pos, af, g⟩ : Oper) (yielded ops a.tmps) = true) (hs : a.eval s = v) (hy : a.eval y = .slice (some ⟨b, 0, none⟩) 1 1)
    (h : BRow base w v L) (ht : Tryz.prog.underlying t = some (.slice 9)) (hb : w.heap[b]? = some (.cells #[.string x] 9 (0, 0))) (hbase : base ≤ w.heap.size) (hlen : L.length ≤ 100000)
    (k : ∀ A c w', BRow base w' (.slice A (L ++ [x]).length c) (L ++ [x]) → w.grownBy w' v.ownBlock → J (a.put d (.slice A (L ++ [x]).length c)) w') : St1 Tryz.prog ops Q ⟨d, .call ⟨.builtin .append, #[s, y], #[t, t]⟩, ty, pos, af, g⟩ J a w := by
  obtain ⟨v', w', h1, h2, h3⟩ := h.snoc (ty := ty) ht hb hbase hlen
  obtain ⟨A, c, rfl⟩ := h2.form
  refine sv hw ?_ (k A c w' h2 h3)
  simp [execOp, resolve, invoke, builtin, hs, hy, h1]
def SSRow (w : World) (v : Value) (L : List ByteArray) : Prop :=
  ∃ A c, v = .slice A L.length c ∧ L.length ≤ c ∧ (L = [] ∨ ∃ g f, A = some ⟨g, f, none⟩ ∧ g < w.heap.size ∧ ∀ (j : Nat) (x : ByteArray), L[j]? = some x → w.cell? ⟨g, f + j, none⟩ = some (.string x))
def joinB (L : List ByteArray) : ByteArray := ⟨(Lib.join (L.map (·.data.toList)) [47]).toArray⟩
theorem encStr_is (x : ByteArray) : encStr x.data.toList = .string x := by cases x; simp [encStr]
theorem rev_at {base : Nat} {w : World} {v : Value} {L : List ByteArray} (h : BRow base w v L) (hlen : L.length ≤ 100000) :
    Calls Tryz.prog 101 #[v] w fun e w' => e = .returned (.tuple #[]) ∧ SSRow w' v L.reverse ∧ w.grownBy w' v.ownBlock := by
  obtain ⟨hl, ⟨rfl, h0⟩ | ⟨g, cap, cur, rfl, hb, hg, hc, hm, hcs, htk⟩⟩ := h
  · have hL : L = [] := List.length_eq_zero_iff.1 h0
    subst hL
    refine (Tryz.slices_Reverse_string_empty none 0 w).mono ?_
    rintro e w' ⟨rfl, rfl⟩
    exact ⟨rfl, ⟨none, 0, rfl, Nat.le_refl _, .inl rfl⟩, rfl, rfl, rfl, Nat.le_refl _, fun k hk _ => rfl⟩
  · have hcell : ∀ (j : Nat) (x : ByteArray), L[j]? = some x → w.cell? ⟨g, 0 + j, none⟩ = some (.string x) := fun j x hx => by
      have hj := (List.getElem?_eq_some_iff.1 hx).1
      have h1 : (L.map Value.string)[j]? = some (.string x) := by rw [List.getElem?_map, hx]; rfl
      rw [← htk, List.getElem?_take, if_pos (by omega), Array.getElem?_toList] at h1
      simp only [World.cell?, hg, Nat.zero_add]
      exact h1
    have hH : Holds encStr w g 0 (L.map (·.data.toList)).toArray := by
      intro j hj
      simp only [List.size_toArray, List.length_map] at hj
      refine ⟨?_, by simp [World.frozen?, hg]⟩
      rw [hcell j _ (List.getElem?_eq_getElem hj)]
      congr 1
      rw [← encStr_is]
      congr 1
      simp [getElem!_pos, hj]
    have key := Tryz.slices_Reverse_string g 0 cap (L.map (·.data.toList)) w hH (by simp; omega)
    rw [List.length_map] at key
    refine key.mono ?_
    rintro e w' ⟨rfl, q, rfl⟩
    have hH' : Holds encStr (putRow encStr (Sort.ahead w q) g 0 (L.map (·.data.toList)).reverse.toArray) g 0 (L.map (·.data.toList)).reverse.toArray := holds_putRow encStr (Sort.ahead w q) g 0 (L.map (·.data.toList)).toArray _ (show Holds encStr (Sort.ahead w q) g 0 (L.map (·.data.toList)).toArray from fun j hj => hH j hj) (by simp)
    have hglt : g < w.heap.size := lt_ob hg
    refine ⟨rfl, ⟨some ⟨g, 0, none⟩, cap, by rw [List.length_reverse], by rw [List.length_reverse]; exact hc, .inr ⟨g, 0, rfl, by rw [size_putRow]; exact hglt, fun j x hx => ?_⟩⟩, ?_⟩
    · have hj := (List.getElem?_eq_some_iff.1 hx).1
      have := (hH' j (by simpa using hj)).1
      rw [this]
      congr 1
      rw [← encStr_is]
      congr 1
      have hx2 : (L.map (·.data.toList)).reverse[j]? = some x.data.toList := by rw [← List.map_reverse, List.getElem?_map, hx]; rfl
      obtain ⟨h3, h4⟩ := List.getElem?_eq_some_iff.1 hx2
      rw [getElem!_pos _ _ (by simpa using h3)]
      simpa using h4
    · refine ⟨rfl, rfl, rfl, by rw [size_putRow]; exact Nat.le_refl _, fun k hk hne => ?_⟩
      unfold putRow mapBlock
      simp only [Array.getElem?_modify]
      rw [if_neg (by intro e; exact hne (by rw [e]; rfl))]
      rfl
theorem join_at {w : World} {v : Value} {L : List ByteArray} (h : SSRow w v L) (hl : L.length ≤ 1000) (hlen : (joinB L).size ≤ 1000000) :
    Calls Tryz.prog 102 #[v, .string ⟨#[47]⟩] w fun e w' => e = .returned (.string (joinB L)) ∧ Up w w' := by
  have hlen' : (Lib.join (L.map (·.data.toList)) [47]).length ≤ 1000000 := by simpa [joinB, ByteArray.size] using hlen
  obtain ⟨A, c, rfl, hc, h0 | ⟨g, f, rfl, hg, hcell⟩⟩ := h
  · subst h0
    refine (Tryz.strings_Join_none A c ⟨#[47]⟩ w).mono ?_
    rintro e w' ⟨rfl, rfl⟩
    exact ⟨rfl, Below.refl _ _⟩
  · exact Tryz.strings_Join g f c L ⟨#[47]⟩ w hcell hg (by omega) hc (by show (Lib.join (L.map (·.data.toList)) [47]).length ≤ _; omega)
end Go.Proofs.YtefhfoioeoijlaaGreatDoor
set_option linter.unusedVariables false
set_option linter.unusedSimpArgs false
namespace Go.Proofs.YtefhfoioeoijlaaGreatDoor
open Go Go.RowKit Go.Sort
def ofL (L : List Item) : Nat → Stamp → List ByteArray → Option (List ByteArray)
  | 0, m, acc => if m = nilS then some acc else none
  | f + 1, m, acc => if m = nilS then some acc else ofL L f (gotI L m).parent (acc ++ [shownB L m])
def pathB (l : List ByteArray) : ByteArray := (⟨#[47]⟩ : ByteArray) ++ joinB l.reverse
def ofB (L : List Item) (m : Stamp) : ByteArray := if hangsI L 301 m = false then ⟨#[]⟩ else match ofL L 16 m [] with | none => ⟨#[]⟩ | some l => pathB l
def ofK (L : List Item) (m : Stamp) : Int := if hangsI L 301 m = false then 12 else match ofL L 16 m [] with | none => 3 | some _ => 0
theorem of_no {L : List Item} {m : Stamp} (h : hangsI L 301 m = false) : ofB L m = ⟨#[]⟩ ∧ ofK L m = 12 := by unfold ofB ofK; rw [if_pos h, if_pos h]; exact ⟨rfl, rfl⟩
theorem of_deep {L : List Item} {m : Stamp} (h : hangsI L 301 m = true) (e : ofL L 16 m [] = none) : ofB L m = ⟨#[]⟩ ∧ ofK L m = 3 := by
  have h' : ¬ hangsI L 301 m = false := by rw [h]; decide
  unfold ofB ofK; rw [if_neg h', if_neg h', e]; exact ⟨rfl, rfl⟩
theorem of_yes {L : List Item} {m : Stamp} {l : List ByteArray} (h : hangsI L 301 m = true) (e : ofL L 16 m [] = some l) : ofB L m = pathB l ∧ ofK L m = 0 := by
  have h' : ¬ hangsI L 301 m = false := by rw [h]; decide
  unfold ofB ofK; rw [if_neg h', if_neg h', e]; exact ⟨rfl, rfl⟩
theorem of_ret {L : List Item} {m : Stamp} {b : ByteArray} {k : Int} (h : ofB L m = b ∧ ofK L m = k) : Ending.returned (.tuple #[.string b, .int .i64 k]) = .returned (.tuple #[.string (ofB L m), .int .i64 (ofK L m)]) := by rw [h.1, h.2]
theorem ofL_nil {L : List Item} {f : Nat} {acc : List ByteArray} : ofL L f ⟨0, 0⟩ acc = some acc := by cases f <;> simp [ofL, nilS]
theorem ofL_stop {L : List Item} {m : Stamp} {acc : List ByteArray} (h : m ≠ ⟨0, 0⟩) : ofL L 0 m acc = none := by unfold ofL; rw [if_neg (show ¬ m = nilS from h)]
theorem ofL_go {L : List Item} {k : Nat} {m : Stamp} {acc : List ByteArray} (hk : k < 16) (h : m ≠ ⟨0, 0⟩) : ofL L (16 - k) m acc = ofL L (16 - (k + 1)) (gotI L m).parent (acc ++ [shownB L m]) := by
  rw [show 16 - k = (16 - (k + 1)) + 1 by omega]
  conv => lhs; unfold ofL
  rw [if_neg (show ¬ m = nilS from h)]
theorem shown_short {L : List Item} (hF : Fit L) (m : Stamp) : (shownB L m).data.toList.length ≤ 100 := by
  unfold shownB
  split
  · unfold nodeE
    cases e : (entsI (kidsI (gotI L m).parent L)).find? (fun e => decide (e.node = m)) with
    | none => decide
    | some y => exact ents_short (hF.kids _).1 y (List.mem_of_find?_eq_some e)
  · decide
def Shorts (l : List ByteArray) : Prop := ∀ x ∈ l, x.data.toList.length ≤ 100
theorem Shorts.snoc {l : List ByteArray} {x : ByteArray} (h : Shorts l) (hx : x.data.toList.length ≤ 100) : Shorts (l ++ [x]) := fun y hy => by
  rcases List.mem_append.1 hy with hy | hy
  · exact h y hy
  · simp at hy; subst hy; exact hx
theorem join_short : ∀ {l : List (List UInt8)}, (∀ x ∈ l, x.length ≤ 100) → (Lib.join l [47]).length ≤ l.length * 101
  | [], _ => by simp [Lib.join]
  | [x], h => by have := h x (by simp); simp [Lib.join]; omega
  | x :: y :: l, h => by
    have ih := join_short (l := y :: l) (fun z hz => h z (by simp [hz]))
    have h1 := h x (by simp)
    have e : Lib.join (x :: y :: l) [47] = x ++ ([47] ++ Lib.join (y :: l) [47]) := by simp [Lib.join, List.intercalate, List.intersperse]
    rw [e]
    simp only [List.length_append, List.length_cons, List.length_nil] at ih ⊢
    omega
theorem joinB_short {l : List ByteArray} (h : Shorts l) (hl : l.length ≤ 16) : (joinB l.reverse).size ≤ 1616 := by
  have h1 := join_short (l := l.reverse.map (·.data.toList)) (fun x hx => by
    obtain ⟨y, hy, rfl⟩ := List.mem_map.1 hx
    exact h y (List.mem_reverse.1 hy))
  simp only [List.length_map, List.length_reverse] at h1
  have : (joinB l.reverse).size = (Lib.join (l.reverse.map (·.data.toList)) [47]).length := by simp [joinB, ByteArray.size]
  omega
end Go.Proofs.YtefhfoioeoijlaaGreatDoor

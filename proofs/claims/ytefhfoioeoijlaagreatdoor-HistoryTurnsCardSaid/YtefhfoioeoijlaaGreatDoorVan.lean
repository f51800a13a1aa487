/- NA, NB, BRow, Pth, Nm5, PA, Met -/
import Derived.ArgAppend
import Derived.Lib.SplitLaws
import Derived.Shelf.Strings.SlTrimAscii
import Derived.Test.YtefhfoioeoijlaaGreatDoorVaa
import Derived.Test.YtefhfoioeoijlaaGreatDoorVab
import Derived.Test.YtefhfoioeoijlaaGreatDoorVaf
import Derived.Test.YtefhfoioeoijlaaGreatDoorVah
import Derived.Test.YtefhfoioeoijlaaGreatDoorVal
import Derived.Test.YtefhfoioeoijlaaGreatDoorVam
set_option linter.unusedVariables false
set_option linter.unusedSimpArgs false
namespace Go.Proofs.YtefhfoioeoijlaaGreatDoor
open Go Go.RowKit Go.Sort
set_option maxHeartbeats 2000000 in
theorem mark_at {w : World} (htab : Tab w) (m1 m2 : Int) (h1 : 0 ≤ m1 ∧ m1 ≤ 1099511627776) (h2 : 0 ≤ m2 ∧ m2 ≤ 8) : Calls Tryz.prog 36 #[.agg #[.int .i64 m1, .int .i64 m2]] w fun e w' => e = .returned (.string (markB ⟨m1, m2⟩)) ∧ Up w w' := by
  have hz1 := itoa_size (n := m1) (by omega) (by omega)
  have hz2 := itoa_size (n := m2) (by omega) (by omega)
  have hz3 : (⟨#[126]⟩ : ByteArray).size = 1 := rfl
  have hz4 : (⟨#[46]⟩ : ByteArray).size = 1 := rfl
  go_enter Tryz.func36, Tryz.ntmps36
  refine wp_seq (rg_lit (wl (sn rfl (cs := #[I_ m1, I_ m2]) (T := 24) (V := fun b => pt b 0) (r_box (v := .agg #[I_ m1, I_ m2]) (by kernel_rfl) rfl) fun b1 w2 e3 h4 u5 => ?_)))
  have M7 := mtu (Mod.refl [] w) u5
  refine was (v := S_ (⟨#[]⟩)) (wnil (then_n (wp_seq ?_)))
  refine rg_all (by kernel_rfl) (by kernel_rfl) ?_
  refine qv rfl (v := pt b1 0) (fun _ _ => fa (pt b1 0)) (qv rfl (v := I_ m1) (fun _ uz => ld 0 Ty.ag2 (up_ob uz h4)) ?_)
  refine qc rfl (v := S_ (⟨(Lib.itoa m1).toArray⟩)) (fun _ _ => r_callv (caps := []) (all := [I_ m1, I_ 10]) En.f94 (by kernel_rfl) (by kernel_rfl)) (fun wz uz => fmt_at (TabIs.up (TabIs.up htab (Mod.up M7)) uz) m1 (by omega) (by omega)) ?_ ?_
  · rintro w1 e w2 hC ⟨rfl, hu⟩; exact ⟨rfl, up_step hC hu⟩
  refine qv rfl (v := S_ ((⟨#[126]⟩ : ByteArray) ++ (⟨(Lib.itoa m1).toArray⟩ : ByteArray))) (fun _ _ => r_adds (m := (⟨#[126]⟩)) (n := (⟨(Lib.itoa m1).toArray⟩)) (by kernel_rfl) (by kernel_rfl) (by (try simp only [ByteArray.size_append]); omega)) (qv rfl (v := S_ (((⟨#[126]⟩ : ByteArray) ++ (⟨(Lib.itoa m1).toArray⟩ : ByteArray)) ++ (⟨#[46]⟩ : ByteArray))) (fun _ _ => r_adds (m := ((⟨#[126]⟩ : ByteArray) ++ (⟨(Lib.itoa m1).toArray⟩ : ByteArray))) (n := (⟨#[46]⟩)) (by kernel_rfl) (by kernel_rfl) (by (try simp only [ByteArray.size_append]); omega)) (qv rfl (v := pt b1 1) (fun _ _ => fa (pt b1 0)) (qv rfl (v := I_ m2) (fun _ uz => ld 1 Ty.ag3 (up_ob uz h4)) ?_)))
  refine qc rfl (v := S_ (⟨(Lib.itoa m2).toArray⟩)) (fun _ _ => r_callv (caps := []) (all := [I_ m2]) En.f95 (by kernel_rfl) (by kernel_rfl)) (fun wz uz => itoa_at (TabIs.up (TabIs.up htab (Mod.up M7)) uz) m2 (by omega) (by omega)) ?_ ?_
  · rintro w1 e w2 hC ⟨rfl, hu⟩; exact ⟨rfl, up_step hC hu⟩
  refine qv rfl (v := S_ ((((⟨#[126]⟩ : ByteArray) ++ (⟨(Lib.itoa m1).toArray⟩ : ByteArray)) ++ (⟨#[46]⟩ : ByteArray)) ++ (⟨(Lib.itoa m2).toArray⟩ : ByteArray))) (fun _ _ => r_adds (m := (((⟨#[126]⟩ : ByteArray) ++ (⟨(Lib.itoa m1).toArray⟩ : ByteArray)) ++ (⟨#[46]⟩ : ByteArray))) (n := (⟨(Lib.itoa m2).toArray⟩)) (by kernel_rfl) (by kernel_rfl) (by (try simp only [ByteArray.size_append]); omega)) (qas (v := S_ ((((⟨#[126]⟩ : ByteArray) ++ (⟨(Lib.itoa m1).toArray⟩ : ByteArray)) ++ (⟨#[46]⟩ : ByteArray)) ++ (⟨(Lib.itoa m2).toArray⟩ : ByteArray))) ?_)
  refine qnil fun w8 u9 => ?_
  have M10 := mtu M7 u9
  refine then_n (wp_ret ?_)
  refine br1 (v := S_ ((((⟨#[126]⟩ : ByteArray) ++ (⟨(Lib.itoa m1).toArray⟩ : ByteArray)) ++ (⟨#[46]⟩ : ByteArray)) ++ (⟨(Lib.itoa m2).toArray⟩ : ByteArray))) rfl ?_
  exact ⟨rfl, (Mod.up M10)⟩
theorem OKI.st {x : Item} (h : OKI x) : (0 ≤ x.node.t ∧ x.node.t ≤ 1099511627776) ∧ (0 ≤ x.node.w ∧ x.node.w ≤ 8) := ⟨⟨h.2.1, h.2.2.2.2.1⟩, ⟨h.2.2.1, h.2.2.2.2.2⟩⟩
set_option maxHeartbeats 2000000 in
theorem ents_at {B : Nat} {w : World} {l : List Item} {xA : Option Addr} {xc : Nat} {base0 : Nat} (hl : IRow 42 B base0 w (.slice xA l.length xc) l) (hB : B ≤ w.heap.size) (htab : Tab w) (hOK : ∀ x ∈ l, OKI x) (hlen : l.length ≤ 300) :
    Calls Tryz.prog 58 #[.slice xA l.length xc] w fun e w' => ∃ v, e = .returned v ∧ ERow 35 B w.heap.size w' v (entsI l) ∧ Up w w' := by
  obtain ⟨iE, zE, hiE, hzE, hsE, hbE, hcE⟩ := info_ent
  obtain ⟨ii_p, iz_p, hi_p, hz_p, hs_p, hb_p, hc_p⟩ := info_item
  go_enter Tryz.func58, Tryz.ntmps58
  refine wp_seq (rg_lit (was (v := .slice none 0 0) (wnil (then_n (wp_seq (rg_lit (wl (snm rfl (V := fun b => .map (some b)) r_makeMap fun mp w1 e2 h3 u4 => ?_))))))))
  have g5 := gsz e2 (Mod.refl [] w)
  have M6 := mtu (Mod.refl [] w) u4
  refine was (v := .map (some mp)) (wnil (then_n (wp_seq (wp_seq (rg_lit (wmv (v := .slice xA l.length xc) (wlv (v := I_ l.length) (ln xA l.length xc Ty.un74) (wmv (v := I_ 0) (wnil (then_n (wp_block ?_)))))))))))
  refine lp (fun n a r1 => ∃ (k : Nat) (oA : Option Addr) (on : Nat) (oc : Nat), (n = l.length - k) ∧ (HasFr a 44 [(0, .slice xA l.length xc), (2, .slice oA on oc), (3, .map (some mp)), (8, .slice xA l.length xc), (9, I_ l.length), (10, I_ k)] []) ∧ (Mod [mp] w1 r1) ∧ (k ≤ l.length) ∧ (SMap r1 mp (metF (namesI (l.take k)))) ∧ (ERow 35 B w1.heap.size r1 (.slice oA on oc) (entsI (l.take k)))) ⟨_, 0, none, 0, 0, rfl, hmk, Mod.refl _ _, (Nat.zero_le _), (SMap.to (SMap.new h3) (metF_nil l)), (ERow.nil _ _ _ _)⟩ ?_
  rintro _ _ r1 ⟨k, oA, on, oc, rfl, h8, hM1, hF1_0, hF1_1, hF1_2⟩
  obtain ⟨Y33, rfl⟩ := h8
  have M9 := Mod.thin M6 hM1 (fun y hy => by simp only [List.mem_cons, List.not_mem_nil, or_false] at hy; subst hy; exact .inr g5)
  obtain ⟨ech10, cch10, h10⟩ := SMap.ob hF1_1
  refine wp_seq (rg_lit (wl (sb rfl (ltI k l.length) fun b11 k12 => wnil (then_n (wp_seq ?_)))))
  refine bcd k12 (fun v13 p14 => ?_) (fun v13 p14 => ?_)
  ·
   refine wp_cond_false (eb v13) (wp_exit (then_x (by nofun) (then_x (by nofun) (inb_hit (then_n (wp_seq (rg_lit (wmv (v := .slice oA on oc) (was (v := .slice oA on oc) (wnil (then_n (wp_ret ?_))))))))))))
   refine br1 (v := .slice oA on oc) rfl ?_
   exact ⟨_, rfl, ERow.base (ERow.to hF1_2 (entsI_take (by omega))) M6.size, (Mod.up M9)⟩
  have q16 : k < l.length := by omega
  refine wp_cond_true (eb v13) (wp_skip (then_n (wp_seq (wp_block (wp_seq (rg_lit ?_))))))
  have h17 := (IRow.up hl (Mod.up M9))
  obtain ⟨y18, hy18⟩ : ∃ x, l[k]? = some x := ⟨_, List.getElem?_eq_getElem q16⟩
  obtain ⟨g18, cp18, cu18, dA18, dn18, dc18, hA18, hg18, hb18, he18, hD18⟩ := h17.get hy18
  injection hA18 with hA18 _ _
  replace he18 : (cu18.toList.drop (0 + k * 10)).take 10 = (itC y18 (.slice dA18 dn18 dc18)) := by rw [Nat.zero_add]; exact he18
  refine wlv (v := pt g18 (0 + k * 10)) (ixa l.length xc 10 k hA18 Ty.un74 Ty.sz42) (wlv (v := itV y18 (.slice dA18 dn18 dc18)) (r_loads (k := 0 + k * 10) (by kernel_rfl) Ty.ag42 Ty.sz42 hb18 (el_sub0 he18 rfl)) (wl (sn rfl (cs := #[I_ 0, I_ 0, I_ 0, I_ 0, S_ (⟨#[]⟩), B_ false, B_ false, .slice none 0 0, I_ 0, I_ 0]) (T := 42) (V := fun b => pt b 0) (r_alloc Ty.zv42 rfl) fun b19 w20 e21 h22 u23 => ?_)))
  have l24 := lsz e21 h10
  have g26 := gsz e21 M9
  have g27 := gsz e21 hM1
  have M28 := mtu M9 u23
  have M29 := mtu hM1 u23
  refine wl (ss rfl (k := 0) (v := itV y18 (.slice dA18 dn18 dc18)) (vs := (itC y18 (.slice dA18 dn18 dc18))) (cs' := (itC y18 (.slice dA18 dn18 dc18))) (by kernel_rfl) (by kernel_rfl) rfl Ty.sz42 h22 rfl (Nat.le_of_ble_eq_true rfl) rfl fun w30 h31 c32 => ?_)
  have M33 := mtn M28 c32 g26
  have M34 := mtn M29 c32 g27
  refine wnil (then_n (wp_seq (rg_lit (wlv (v := pt b19 4) (fa (pt b19 0)) (wlv (v := S_ y18.name) (ld 4 Ty.ag9 h31) (wlv (v := pt b19 0) (fa (pt b19 0)) (wlv (v := .agg #[I_ y18.node.t, I_ y18.node.w]) (lds 0 Ty.ag24 Ty.sz24 h31) (wlv (v := pt b19 5) (fa (pt b19 0)) (wlv (v := B_ y18.dir) (ld 5 Ty.ag4 h31) (wlv (v := pt b19 7) (fa (pt b19 0)) (wlv (v := .slice dA18 dn18 dc18) (ld 7 Ty.ag40 h31) ?_)))))))))))
  refine wlv (v := I_ dn18) (ln dA18 dn18 dc18 Ty.un40) (wlv (v := .agg #[S_ y18.name, I_ y18.node.t, I_ y18.node.w, B_ y18.dir, I_ dn18]) (r_build (ps := [(0, S_ y18.name), (1, .agg #[I_ y18.node.t, I_ y18.node.w]), (2, B_ y18.dir), (3, I_ dn18)]) (cs := [S_ y18.name, I_ y18.node.t, I_ y18.node.w, B_ y18.dir, I_ dn18]) Ty.un35 Ty.zv35 Ty.pl35 (by kernel_rfl) (by kernel_rfl)) (wl (sn rfl (cs := #[S_ (⟨#[]⟩), I_ 0, I_ 0, B_ false, I_ 0]) (T := 35) (V := fun b => pt b 0) (r_alloc Ty.zv35 rfl) fun b35 w36 e37 h38 u39 => ?_)))
  have h40 := (chg_ob c32 (Nat.ne_of_lt l24) (up_ob u23 h10))
  have l41 := lsz e37 h40
  have l44 := lsz e37 h31
  have g45 := gsz e37 M33
  have g46 := gsz e37 M34
  have M47 := mtu M33 u39
  have M48 := mtu M34 u39
  refine wl (ss rfl (k := 0) (v := .agg #[S_ y18.name, I_ y18.node.t, I_ y18.node.w, B_ y18.dir, I_ dn18]) (vs := [S_ y18.name, I_ y18.node.t, I_ y18.node.w, B_ y18.dir, I_ dn18]) (cs' := [S_ y18.name, I_ y18.node.t, I_ y18.node.w, B_ y18.dir, I_ dn18]) (by kernel_rfl) (by kernel_rfl) rfl Ty.sz35 h38 rfl (Nat.le_of_ble_eq_true rfl) rfl fun w49 h50 c51 => ?_)
  have M52 := mtn M47 c51 g45
  have M53 := mtn M48 c51 g46
  refine wnil (then_n (wp_seq (wp_seq (rg_lit (wmv (v := .map (some mp)) (wlv (v := pt b19 4) (fa (pt b19 0)) ?_))))))
  have h54 := (chg_ob c51 (Nat.ne_of_lt l44) (up_ob u39 h31))
  refine wlv (v := S_ y18.name) (ld 4 Ty.ag9 h54) ?_
  have h55 := (SMap.up hF1_1 (up_chgn (up_up (up_chgn u23 c32 (by rw [e21]; exact Nat.le_refl _)) u39) c51 (by rw [e37]; exact (up_chgn u23 c32 (by rw [e21]; exact Nat.le_refl _)).size)))
  refine wlv (v := B_ (metB (namesI (l.take k)) y18.name)) (r_lookS (r := mp) (s := y18.name) (v := B_ (metB (namesI (l.take k)) y18.name)) (by kernel_rfl) (by kernel_rfl) h55 Ty.un168 Ty.un9 (fun _ => by kernel_rfl) (metF_get _ _)) (wnil (then_n ?_))
  refine bcase (metB (namesI (l.take k)) y18.name) (fun v56 => ?_) (fun v56 => ?_)
  ·
   refine wp_cond_false (eb v56) (wp_skip (then_n (wp_seq (rg_lit (wmv (v := .map (some mp)) (wlv (v := pt b19 4) (fa (pt b19 0)) (wlv (v := S_ y18.name) (ld 4 Ty.ag9 h54) ?_)))))))
   obtain ⟨w58, hr58, hc58, hm58⟩ := SMap.store (P := Tryz.prog) h55 Ty.un168 Ty.un9 y18.name (.bool true)
   refine wl (sk rfl (r_mapUpdate (mv := .map (some mp)) (kv := S_ y18.name) (vv := B_ true) (by kernel_rfl) (by kernel_rfl) (by kernel_rfl) hr58) ?_)
   have M59 := mtn M52 hc58 g5
   have M60 := mtx M53 hc58
   obtain ⟨ech61, cch61, h61⟩ := SMap.ob hm58
   refine wnil (then_n (rg_lit (wmv (v := .slice oA on oc) ?_)))
   have h62 := (chg_ob hc58 (Nat.ne_of_gt l41) h50)
   refine wlv (v := .agg #[S_ y18.name, I_ y18.node.t, I_ y18.node.w, B_ y18.dir, I_ dn18]) (lds 0 Ty.ag35 Ty.sz35 h62) (wl (sn rfl (cs := #[S_ y18.name, I_ y18.node.t, I_ y18.node.w, B_ y18.dir, I_ dn18]) (T := 35) (V := fun b => sl b 0 1 1) (r_buildSlice (n := 1) (ps := [(0, .agg #[S_ y18.name, I_ y18.node.t, I_ y18.node.w, B_ y18.dir, I_ dn18])]) Ty.un29 Ty.sz35 Ty.zv35 (by decide) (by decide) (by kernel_rfl) (by kernel_rfl)) fun b63 w64 e65 h66 u67 => ?_))
   have h69 := (chg_ob hc58 (Nat.ne_of_gt l24) h54)
   have M75 := mtu M60 u67
   have h76 := (ERow.up (ERow.chgm (ERow.up hF1_2 (up_chgn (up_up (up_chgn u23 c32 (by rw [e21]; exact Nat.le_refl _)) u39) c51 (by rw [e37]; exact (up_chgn u23 c32 (by rw [e21]; exact Nat.le_refl _)).size))) hc58 (ERow.ne_old (ERow.up hF1_2 (up_chgn (up_up (up_chgn u23 c32 (by rw [e21]; exact Nat.le_refl _)) u39) c51 (by rw [e37]; exact (up_chgn u23 c32 (by rw [e21]; exact Nat.le_refl _)).size))) (lt_ob h3))) u67)
   refine wl (snE rfl (L := (entsI (l.take k))) (x := (⟨y18.name, ⟨y18.node.t, y18.node.w⟩, y18.dir, (dn18 : Int)⟩ : EntD)) (by kernel_rfl) (by kernel_rfl) h76 Ty.un29 hiE hzE hsE hbE hcE h66 M75.size (by have := ents_le l k; omega) fun A77 n78 c79 w80 e81 h82 u83 => ?_)
   have M85 := Mod.trans' M75 u83 (fun k hk => Nat.le_trans (Nat.le_refl _) (h76.own k hk).1)
   refine was (v := .slice A77 n78 c79) (wnil (inb_n (then_n (rg_lit (wlv (v := I_ ((k : Int) + 1)) (adI k 1 (IntWalk.i64_in _ (by omega))) (wmv (v := I_ ((k : Int) + 1)) (wnil (then_n ?_))))))))
   have h86 := (SMap.own (SMap.up hm58 u67) u83 (h76.ne_old (lt_ob h3)))
   refine ⟨l.length - (k + 1), ?_, (k + 1), A77, n78, c79, rfl, hmk, M85, (by omega), (SMap.to h86 (metF_next hy18)), (ERow.to h82 (ents_not hy18 (Dat.len hD18).1 v56))⟩
   · omega
  refine wp_cond_true (eb v56) ?_
  refine rg_tail 7 (by kernel_rfl) (by kernel_rfl) rfl rfl ?_
  refine qv rfl (v := pt b35 0) (fun _ _ => fa (pt b35 0)) (qv rfl (v := S_ y18.name) (fun _ uz => ld 0 Ty.ag9 (up_ob uz h50)) (qv rfl (v := pt b19 0) (fun _ _ => fa (pt b19 0)) (qv rfl (v := .agg #[I_ y18.node.t, I_ y18.node.w]) (fun _ uz => lds 0 Ty.ag24 Ty.sz24 (up_ob uz h54)) ?_)))
  refine qc rfl (v := S_ (markB ⟨y18.node.t, y18.node.w⟩)) (fun _ _ => r_callv (caps := []) (all := [.agg #[I_ y18.node.t, I_ y18.node.w]]) En.f36 (by kernel_rfl) (by kernel_rfl)) (fun wz uz => mark_at (TabIs.up (TabIs.up htab (Mod.up M52)) uz) y18.node.t y18.node.w (OKI.st (hOK _ (List.mem_of_getElem? hy18))).1 (OKI.st (hOK _ (List.mem_of_getElem? hy18))).2) ?_ ?_
  · rintro w1 e w2 hC ⟨rfl, hu⟩; exact ⟨rfl, up_step hC hu⟩
  refine qv rfl (v := S_ (y18.name ++ (markB ⟨y18.node.t, y18.node.w⟩))) (fun _ _ => r_adds (m := y18.name) (n := (markB ⟨y18.node.t, y18.node.w⟩)) (by kernel_rfl) (by kernel_rfl) (mark_size (hOK _ (List.mem_of_getElem? hy18)))) (qv rfl (v := pt b35 0) (fun _ _ => fa (pt b35 0)) ?_)
  refine qnil fun w57 u58 => ?_
  have M59 := mtu M52 u58
  have M60 := mtu M53 u58
  have h61 := (up_ob u58 h50)
  refine wl (ss rfl (k := 0) (v := S_ (y18.name ++ (markB ⟨y18.node.t, y18.node.w⟩))) (vs := [S_ (y18.name ++ (markB ⟨y18.node.t, y18.node.w⟩))]) (cs' := [S_ (y18.name ++ (markB ⟨y18.node.t, y18.node.w⟩)), I_ y18.node.t, I_ y18.node.w, B_ y18.dir, I_ dn18]) (by kernel_rfl) (by kernel_rfl) rfl Ty.sz9 h61 rfl (Nat.le_of_ble_eq_true rfl) rfl fun w62 h63 c64 => ?_)
  have M66 := mtn M60 c64 g46
  refine wnil (then_n (wp_seq (rg_lit (wmv (v := .map (some mp)) (wlv (v := pt b19 4) (fa (pt b19 0)) ?_)))))
  have h67 := (chg_ob c64 (Nat.ne_of_lt l44) (up_ob u58 h54))
  refine wlv (v := S_ y18.name) (ld 4 Ty.ag9 h67) ?_
  have h68 := (SMap.chg (SMap.up h55 u58) c64 (Nat.ne_of_lt l41))
  have h69 := (chg_ob c64 (Nat.ne_of_lt l41) (up_ob u58 (chg_ob c51 (Nat.ne_of_lt l41) (up_ob u39 h40))))
  obtain ⟨w70, hr70, hc70, hm70⟩ := SMap.store (P := Tryz.prog) h68 Ty.un168 Ty.un9 y18.name (.bool true)
  refine wl (sk rfl (r_mapUpdate (mv := .map (some mp)) (kv := S_ y18.name) (vv := B_ true) (by kernel_rfl) (by kernel_rfl) (by kernel_rfl) hr70) ?_)
  have M72 := mtx M66 hc70
  obtain ⟨ech73, cch73, h73⟩ := SMap.ob hm70
  refine wnil (then_n (rg_lit (wmv (v := .slice oA on oc) ?_)))
  have h74 := (chg_ob hc70 (Nat.ne_of_gt l41) h63)
  refine wlv (v := .agg #[S_ (y18.name ++ (markB ⟨y18.node.t, y18.node.w⟩)), I_ y18.node.t, I_ y18.node.w, B_ y18.dir, I_ dn18]) (lds 0 Ty.ag35 Ty.sz35 h74) (wl (sn rfl (cs := #[S_ (y18.name ++ (markB ⟨y18.node.t, y18.node.w⟩)), I_ y18.node.t, I_ y18.node.w, B_ y18.dir, I_ dn18]) (T := 35) (V := fun b => sl b 0 1 1) (r_buildSlice (n := 1) (ps := [(0, .agg #[S_ (y18.name ++ (markB ⟨y18.node.t, y18.node.w⟩)), I_ y18.node.t, I_ y18.node.w, B_ y18.dir, I_ dn18])]) Ty.un29 Ty.sz35 Ty.zv35 (by decide) (by decide) (by kernel_rfl) (by kernel_rfl)) fun b75 w76 e77 h78 u79 => ?_))
  have M87 := mtu M72 u79
  have h88 := (ERow.up (ERow.chgm (ERow.up hF1_2 (up_chgn (up_up (up_chgn (up_up (up_chgn u23 c32 (by rw [e21]; exact Nat.le_refl _)) u39) c51 (by rw [e37]; exact (up_chgn u23 c32 (by rw [e21]; exact Nat.le_refl _)).size)) u58) c64 (by rw [e37]; exact (up_chgn u23 c32 (by rw [e21]; exact Nat.le_refl _)).size))) hc70 (ERow.ne_old (ERow.up hF1_2 (up_chgn (up_up (up_chgn (up_up (up_chgn u23 c32 (by rw [e21]; exact Nat.le_refl _)) u39) c51 (by rw [e37]; exact (up_chgn u23 c32 (by rw [e21]; exact Nat.le_refl _)).size)) u58) c64 (by rw [e37]; exact (up_chgn u23 c32 (by rw [e21]; exact Nat.le_refl _)).size))) (lt_ob h3))) u79)
  refine wl (snE rfl (L := (entsI (l.take k))) (x := (⟨(y18.name ++ (markB ⟨y18.node.t, y18.node.w⟩)), ⟨y18.node.t, y18.node.w⟩, y18.dir, (dn18 : Int)⟩ : EntD)) (by kernel_rfl) (by kernel_rfl) h88 Ty.un29 hiE hzE hsE hbE hcE h78 M87.size (by have := ents_le l k; omega) fun A89 n90 c91 w92 e93 h94 u95 => ?_)
  have M97 := Mod.trans' M87 u95 (fun k hk => Nat.le_trans (Nat.le_refl _) (h88.own k hk).1)
  refine was (v := .slice A89 n90 c91) (wnil (inb_n (then_n (rg_lit (wlv (v := I_ ((k : Int) + 1)) (adI k 1 (IntWalk.i64_in _ (by omega))) (wmv (v := I_ ((k : Int) + 1)) (wnil (then_n ?_))))))))
  have h98 := (SMap.own (SMap.up hm70 u79) u95 (h88.ne_old (lt_ob h3)))
  refine ⟨l.length - (k + 1), ?_, (k + 1), A89, n90, c91, rfl, hmk, M97, (by omega), (SMap.to h98 (metF_next hy18)), (ERow.to h94 (ents_yes hy18 (Dat.len hD18).1 v56))⟩
  · omega
end Go.Proofs.YtefhfoioeoijlaaGreatDoor
set_option linter.unusedVariables false
set_option linter.unusedSimpArgs false
namespace Go.Proofs.YtefhfoioeoijlaaGreatDoor
open Go Go.RowKit Go.Sort
set_option maxHeartbeats 2000000 in
theorem shown18_at {B : Nat} {w : World} {tb r : Nat} {L : List Item} (h : TreeIs B w tb r L) (hB : B ≤ w.heap.size) (hF : Fit L) (htab : Tab w) (m1 m2 : Int) : Calls Tryz.prog 19 #[trP tb, .agg #[.int .i64 m1, .int .i64 m2]] w fun e w' => e = .returned (.tuple #[.string (shownB L ⟨m1, m2⟩), .int .i64 (shownK L ⟨m1, m2⟩)]) ∧ Up w w' := by
  go_enter Tryz.func19, Tryz.ntmps19
  refine wp_seq (rg_lit (wl (sn rfl (cs := #[I_ m1, I_ m2]) (T := 24) (V := fun b => pt b 0) (r_box (v := .agg #[I_ m1, I_ m2]) (by kernel_rfl) rfl) fun b1 w2 e3 h4 u5 => ?_)))
  have M8 := mtu (Mod.refl [] w) u5
  refine was (v := S_ (⟨#[]⟩)) (was (v := I_ 0) (wnil (then_n (wp_seq (wp_seq (rg_lit (wmv (v := pt tb 0) (wl (sv (w' := w2) rfl (v := B_ false) (by kernel_rfl) (wnil (then_n (wp_cond_false (by kernel_rfl) (wp_skip (then_n (wp_seq (rg_lit (wmv (v := pt tb 0) ?_)))))))))))))))))
  refine wlv (v := .agg #[I_ m1, I_ m2]) (lds 0 Ty.ag24 Ty.sz24 h4) ?_
  have h9 := (TreeIs.up h (Mod.up M8))
  refine wl (sca [pt tb 0, .agg #[I_ m1, I_ m2]] En.f20 (get_x h9 ⟨m1, m2⟩ (x := (gotI L ⟨m1, m2⟩)) (b := (hasI L ⟨m1, m2⟩)) rfl rfl) ?_)
  rintro e w10 ⟨A11, n12, c13, rfl, h14, u15⟩
  refine ⟨_, rfl, ?_⟩
  have M16 := mtu M8 u15
  refine wmv (v := .tuple #[itV (gotI L ⟨m1, m2⟩) (.slice A11 n12 c13), B_ (hasI L ⟨m1, m2⟩)]) (wlv (v := itV (gotI L ⟨m1, m2⟩) (.slice A11 n12 c13)) (xt [itV (gotI L ⟨m1, m2⟩) (.slice A11 n12 c13), B_ (hasI L ⟨m1, m2⟩)]) (wlv (v := B_ (hasI L ⟨m1, m2⟩)) (xt [itV (gotI L ⟨m1, m2⟩) (.slice A11 n12 c13), B_ (hasI L ⟨m1, m2⟩)]) (wl (sn rfl (cs := #[I_ 0, I_ 0, I_ 0, I_ 0, S_ (⟨#[]⟩), B_ false, B_ false, .slice none 0 0, I_ 0, I_ 0]) (T := 42) (V := fun b => pt b 0) (r_alloc Ty.zv42 rfl) fun b17 w18 e19 h20 u21 => ?_))))
  have h24 := (up_ob u15 h4)
  have l25 := lsz e19 h24
  have g26 := gsz e19 M16
  have M27 := mtu M16 u21
  refine wl (ss rfl (k := 0) (v := itV (gotI L ⟨m1, m2⟩) (.slice A11 n12 c13)) (vs := (itC (gotI L ⟨m1, m2⟩) (.slice A11 n12 c13))) (cs' := (itC (gotI L ⟨m1, m2⟩) (.slice A11 n12 c13))) (by kernel_rfl) (by kernel_rfl) rfl Ty.sz42 h20 rfl (Nat.le_of_ble_eq_true rfl) rfl fun w28 h29 c30 => ?_)
  have M31 := mtn M27 c30 g26
  refine was (v := B_ (hasI L ⟨m1, m2⟩)) (wnil (then_n (wp_seq (wp_seq (rg_lit (wmv (v := B_ (hasI L ⟨m1, m2⟩)) (wlv (v := B_ (!(hasI L ⟨m1, m2⟩))) (r_not (b := (hasI L ⟨m1, m2⟩)) (by kernel_rfl)) (wmv (v := B_ (!(hasI L ⟨m1, m2⟩))) ?_))))))))
  refine bcase (hasI L ⟨m1, m2⟩) (fun v32 => ?_) (fun v32 => ?_)
  ·
   iterate 4 refine wls rfl (bneg v32) ?_
   refine wlv (v := B_ true) (pkT (eb (bneg v32))) (wnil (then_n (wp_cond_true (by kernel_rfl) (wp_seq (rg_lit (was (v := S_ (⟨#[]⟩)) (was (v := I_ 12) (wnil (then_n (wp_ret (then_x (by nofun) ?_)))))))))))
   refine br2 (v := S_ (⟨#[]⟩)) (u := I_ 12) rfl ?_
   exact ⟨shown_ret (shown_no1 v32), (Mod.up M31)⟩
  refine wlw rfl (bneg v32) (v := pt tb 0) (mv) ?_
  have h33 := (chg_ob c30 (Nat.ne_of_lt l25) (up_ob u21 h24))
  refine wlw rfl (bneg v32) (v := .agg #[I_ m1, I_ m2]) (lds 0 Ty.ag24 Ty.sz24 h33) ?_
  have h34 := (TreeIs.up h (Mod.up M31))
  refine wl (sc (wt (b := !(hasI L ⟨m1, m2⟩)) rfl (by kernel_rfl) (bneg v32)) (r_callv (caps := []) (all := [pt tb 0, .agg #[I_ m1, I_ m2]]) En.f39 (by kernel_rfl) (by kernel_rfl)) (hangs_at h34 m1 m2) ?_)
  rintro e w35 ⟨rfl, u36⟩
  refine ⟨_, rfl, ?_⟩
  have M37 := mtu M31 u36
  refine wlw rfl (bneg v32) (v := B_ (!(hangsI L 301 ⟨m1, m2⟩))) (r_not (b := (hangsI L 301 ⟨m1, m2⟩)) (by kernel_rfl)) (wlv (v := B_ (!(hangsI L 301 ⟨m1, m2⟩))) (pkF (eb (bneg v32))) (wnil (then_n ?_)))
  refine bcase (hangsI L 301 ⟨m1, m2⟩) (fun v38 => ?_) (fun v38 => ?_)
  ·
   refine wp_cond_true (eb (bneg v38)) (wp_seq (rg_lit (was (v := S_ (⟨#[]⟩)) (was (v := I_ 12) (wnil (then_n (wp_ret (then_x (by nofun) ?_))))))))
   refine br2 (v := S_ (⟨#[]⟩)) (u := I_ 12) rfl ?_
   exact ⟨shown_ret (shown_no2 v38), (Mod.up M37)⟩
  refine wp_cond_false (eb (bneg v38)) (wp_skip (then_n (wp_seq (wp_seq (rg_lit (wmv (v := pt tb 0) (wlv (v := pt b17 2) (fa (pt b17 0)) ?_)))))))
  have h39 := (up_ob u36 h29)
  refine wlv (v := .agg #[I_ ((gotI L ⟨m1, m2⟩).parent.t), I_ ((gotI L ⟨m1, m2⟩).parent.w)]) (lds 2 Ty.ag24 Ty.sz24 h39) ?_
  have h46 := (TreeIs.up h (Mod.up M37))
  refine wl (sca [pt tb 0, .agg #[I_ ((gotI L ⟨m1, m2⟩).parent.t), I_ ((gotI L ⟨m1, m2⟩).parent.w)]] En.f38 (row_sl (kids_at h46 (Nat.le_trans hB M37.size) ((gotI L ⟨m1, m2⟩).parent.t) ((gotI L ⟨m1, m2⟩).parent.w))) ?_)
  rintro e w40 ⟨A41, c42, rfl, h43, u44⟩
  have h45 := IRow.base h43 M37.size
  refine ⟨_, rfl, ?_⟩
  have M47 := mtu M37 u44
  refine wl (sca [.slice A41 ((kidsI ⟨(gotI L ⟨m1, m2⟩).parent.t, (gotI L ⟨m1, m2⟩).parent.w⟩ L).length) c42] En.f58 (ents_at h45 (Nat.le_trans hB M47.size) (TabIs.up htab (Mod.up M47)) (Fit.kids hF _).1 (kids_300 hF _)) ?_)
  rintro e w48 ⟨v49, rfl, h52, u53⟩
  obtain ⟨A50, c51, rfl⟩ := ERow.form h52
  have h54 := ERow.base h52 M47.size
  have z55 := ERow.le h52
  refine ⟨_, rfl, ?_⟩
  have M56 := mtu M47 u53
  refine wlv (v := I_ (((entsI (kidsI ⟨(gotI L ⟨m1, m2⟩).parent.t, (gotI L ⟨m1, m2⟩).parent.w⟩ L)).length) : Int)) (ln A50 ((entsI (kidsI ⟨(gotI L ⟨m1, m2⟩).parent.t, (gotI L ⟨m1, m2⟩).parent.w⟩ L)).length) c51 Ty.un29) (wmv (v := I_ 0) (wnil (then_n (wp_block ?_))))
  have h58 := (up_ob u53 (up_ob u44 (up_ob u36 h33)))
  refine lp (fun n a r1 => ∃ (k : Nat), (n = (entsI (kidsI ⟨(gotI L ⟨m1, m2⟩).parent.t, (gotI L ⟨m1, m2⟩).parent.w⟩ L)).length - k) ∧ (HasFr a 43 [(0, pt tb 0), (1, .agg #[I_ m1, I_ m2]), (3, pt b1 0), (6, pt b17 0), (7, B_ (hasI L ⟨m1, m2⟩)), (11, B_ false), (25, B_ (!(hangsI L 301 ⟨m1, m2⟩))), (30, .slice A50 ((entsI (kidsI ⟨(gotI L ⟨m1, m2⟩).parent.t, (gotI L ⟨m1, m2⟩).parent.w⟩ L)).length) c51), (31, I_ (((entsI (kidsI ⟨(gotI L ⟨m1, m2⟩).parent.t, (gotI L ⟨m1, m2⟩).parent.w⟩ L)).length) : Int)), (32, I_ k)] []) ∧ (Mod [] w48 r1) ∧ (k ≤ (entsI (kidsI ⟨(gotI L ⟨m1, m2⟩).parent.t, (gotI L ⟨m1, m2⟩).parent.w⟩ L)).length) ∧ (Hid (∀ (j : Nat) (y : EntD), j < k → (entsI (kidsI ⟨(gotI L ⟨m1, m2⟩).parent.t, (gotI L ⟨m1, m2⟩).parent.w⟩ L))[j]? = some y → ¬ y.node = ⟨m1, m2⟩))) ⟨_, 0, rfl, hmk, Mod.refl _ _, (Nat.zero_le _), (fun j y hj => absurd hj (Nat.not_lt_zero _))⟩ ?_
  rintro _ _ r1 ⟨k, rfl, h63, hM1, hF1_0, hF1_1⟩
  obtain ⟨Y34, rfl⟩ := h63
  have M64 := Mod.thin M56 hM1 (by simp)
  refine wp_seq (rg_lit (wl (sb rfl (ltI k (((entsI (kidsI ⟨(gotI L ⟨m1, m2⟩).parent.t, (gotI L ⟨m1, m2⟩).parent.w⟩ L)).length) : Int)) fun b65 k66 => wnil (then_n (wp_seq ?_)))))
  refine bcd k66 (fun v67 p68 => ?_) (fun v67 p68 => ?_)
  ·
   refine wp_cond_false (eb v67) (wp_exit (then_x (by nofun) (then_x (by nofun) (inb_hit (then_n (wp_seq (rg_lit (was (v := S_ (⟨#[]⟩)) (was (v := I_ 12) (wnil (then_n (wp_ret ?_))))))))))))
   refine br2 (v := S_ (⟨#[]⟩)) (u := I_ 12) rfl ?_
   exact ⟨shown_ret (shown_miss (none_end (D := (entsI (kidsI ⟨(gotI L ⟨m1, m2⟩).parent.t, (gotI L ⟨m1, m2⟩).parent.w⟩ L))) hF1_1 (by omega))), (Mod.up M64)⟩
  refine wp_cond_true (eb v67) (wp_skip (then_n (wp_seq (wp_block (wp_seq (rg_lit ?_))))))
  have h69 := (ERow.up h54 (Mod.up hM1))
  obtain ⟨y70, hy70⟩ : ∃ x, (entsI (kidsI ⟨(gotI L ⟨m1, m2⟩).parent.t, (gotI L ⟨m1, m2⟩).parent.w⟩ L))[k]? = some x := ⟨_, List.getElem?_eq_getElem (by omega)⟩
  obtain ⟨g70, cp70, cu70, hA70, hg70, hb70, he70⟩ := ERow.get h69 hy70
  injection hA70 with hA70 _ _
  replace he70 : (cu70.toList.drop (0 + k * 5)).take 5 = enC y70 := by rw [Nat.zero_add]; exact he70
  refine wlv (v := pt g70 (0 + k * 5)) (ixa ((entsI (kidsI ⟨(gotI L ⟨m1, m2⟩).parent.t, (gotI L ⟨m1, m2⟩).parent.w⟩ L)).length) c51 5 k hA70 Ty.un29 Ty.sz35) (wlv (v := .agg #[S_ y70.name, I_ y70.node.t, I_ y70.node.w, B_ y70.dir, I_ y70.size]) (r_loads (k := 0 + k * 5) (by kernel_rfl) Ty.ag35 Ty.sz35 hb70 (el_sub0 he70 rfl)) (wl (sn rfl (cs := #[S_ (⟨#[]⟩), I_ 0, I_ 0, B_ false, I_ 0]) (T := 35) (V := fun b => pt b 0) (r_alloc Ty.zv35 rfl) fun b71 w72 e73 h74 u75 => ?_)))
  have g83 := gsz e73 M64
  have g84 := gsz e73 hM1
  have M85 := mtu M64 u75
  have M86 := mtu hM1 u75
  refine wl (ss rfl (k := 0) (v := .agg #[S_ y70.name, I_ y70.node.t, I_ y70.node.w, B_ y70.dir, I_ y70.size]) (vs := [S_ y70.name, I_ y70.node.t, I_ y70.node.w, B_ y70.dir, I_ y70.size]) (cs' := [S_ y70.name, I_ y70.node.t, I_ y70.node.w, B_ y70.dir, I_ y70.size]) (by kernel_rfl) (by kernel_rfl) rfl Ty.sz35 h74 rfl (Nat.le_of_ble_eq_true rfl) rfl fun w87 h88 c89 => ?_)
  have M90 := mtn M85 c89 g83
  have M91 := mtn M86 c89 g84
  refine wnil (then_n (wp_seq (rg_lit (wlv (v := pt b71 1) (fa (pt b71 0)) (wlv (v := .agg #[I_ y70.node.t, I_ y70.node.w]) (lds 1 Ty.ag24 Ty.sz24 h88) ?_)))))
  have h92 := md_ob M91 nin0 h58
  refine wlv (v := .agg #[I_ m1, I_ m2]) (lds 0 Ty.ag24 Ty.sz24 h92) (wl (sb rfl (r_eqS (a := y70.node.t) (b := y70.node.w) (c := m1) (e := m2) (by kernel_rfl) (by kernel_rfl)) fun b93 k94 => wnil (then_n ?_)))
  refine bcd k94 (fun v95 p96 => ?_) (fun v95 p96 => ?_)
  ·
   refine wp_cond_false (eb v95) (wp_skip (inb_n (then_n (rg_lit (wlv (v := I_ ((k : Int) + 1)) (adI k 1 (IntWalk.i64_in _ (by omega))) (wmv (v := I_ ((k : Int) + 1)) (wnil (then_n ?_))))))))
   refine ⟨(entsI (kidsI ⟨(gotI L ⟨m1, m2⟩).parent.t, (gotI L ⟨m1, m2⟩).parent.w⟩ L)).length - (k + 1), ?_, (k + 1), rfl, hmk, M91, (by omega), (none_next (p := fun y : EntD => y.node = ⟨m1, m2⟩) hF1_1 hy70 p96)⟩
   · omega
  refine wp_cond_true (eb v95) (wp_seq (rg_lit (wlv (v := pt b71 0) (fa (pt b71 0)) (wlv (v := S_ y70.name) (ld 0 Ty.ag9 h88) (was (v := S_ y70.name) (was (v := I_ 0) (wnil (then_n (wp_ret (inb_r (then_x (by nofun) (then_x (by nofun) (inb_r (then_x (by nofun) ?_))))))))))))))
  refine br2 (v := S_ y70.name) (u := I_ 0) rfl ?_
  exact ⟨shown_ret (shown_hit hF v32 v38 hy70 p96), (Mod.up M90)⟩
end Go.Proofs.YtefhfoioeoijlaaGreatDoor
set_option linter.unusedVariables false
set_option linter.unusedSimpArgs false
namespace Go.Proofs.YtefhfoioeoijlaaGreatDoor
open Go Go.RowKit Go.Sort
def BRow (base : Nat) (w : World) (v : Value) (L : List ByteArray) : Prop := w.ownsRow base 9 1 v L.length (L.map Value.string)
theorem BRow.nil (base : Nat) (w : World) : BRow base w (.slice none 0 0) [] := World.ownsRow_nil w base _ 1
theorem BRow.keep {base : Nat} {w w' : World} {v : Value} {L : List ByteArray} (h : BRow base w v L) {q : Option Nat} (hg : w.grownBy w' q) (hv : v.ownBlock = none ∨ v.ownBlock ≠ q) : BRow base w' v L := World.ownsRow.kept h hg hv
theorem BRow.up {base : Nat} {w w' : World} {v : Value} {L : List ByteArray} (h : BRow base w v L) (hb : Up w w') : BRow base w' v L :=
  h.keep (q := none) ⟨hb.os, hb.tape, hb.output, hb.size, fun k hk _ => hb.block k hk⟩ (by cases hv : v.ownBlock <;> simp)
theorem BRow.chgm {base b : Nat} {w w' : World} {v : Value} {L : List ByteArray} (h : BRow base w v L) (c : Chg w w' b) (hn : v.ownBlock ≠ some b) : BRow base w' v L := World.ownsRow.kept h c (.inr hn)
theorem BRow.form {base : Nat} {w : World} {v : Value} {L : List ByteArray} (h : BRow base w v L) : ∃ A c, v = .slice A L.length c := by
  obtain ⟨_, ⟨rfl, h0⟩ | ⟨g, cap, cur, rfl, _⟩⟩ := h
  · exact ⟨none, 0, by rw [h0]⟩
  · exact ⟨_, cap, rfl⟩
theorem BRow.own {base : Nat} {w : World} {v : Value} {L : List ByteArray} (h : BRow base w v L) : ∀ k, v.ownBlock = some k → base ≤ k ∧ k < w.heap.size := World.ownsRow.lt h
theorem BRow.ne_old {base b : Nat} {w : World} {v : Value} {L : List ByteArray} (h : BRow base w v L) (e : b < base) : v.ownBlock ≠ some b := fun hh => by have := (h.own _ hh).1; omega
theorem info_str : ∃ i z, Tryz.prog.info? 9 = some i ∧ i.zero = some z ∧ i.size = 1 ∧ i.bytes = 16 ∧ z.cells.size = 1 := by
  have h : (Tryz.prog.info? 9).map (fun i => (i.zero.map (·.cells.size), i.size, i.bytes)) = some (some 1, 1, 16) := by kernel_rfl
  cases hi : Tryz.prog.info? 9 with
  | none => rw [hi] at h; cases h
  | some i =>
    rw [hi] at h; simp at h
    obtain ⟨⟨z, hz, h1⟩, h2, h3⟩ := h
    exact ⟨i, z, rfl, hz, h2, h3, h1⟩
theorem BRow.snoc {base : Nat} {w : World} {v : Value} {L : List ByteArray} (h : BRow base w v L) {t ty : TypeId} (ht : Tryz.prog.underlying t = some (.slice 9)) {b : Nat} {x : ByteArray} (hb : w.heap[b]? = some (.cells #[.string x] 9 (0, 0))) (hbase : base ≤ w.heap.size) (hlen : L.length ≤ 100000) :
    ∃ v' w', (Builtin.append_ #[t, t] ty #[v, .slice (some ⟨b, 0, none⟩) 1 1]).run Tryz.prog w = .ok v' w' ∧ BRow base w' v' (L ++ [x]) ∧ w.grownBy w' v.ownBlock := by
  obtain ⟨i, z, hi, hz, hsize, hby, hzs⟩ := info_str
  obtain ⟨v', w', h1, h2, h3, h4⟩ := run_append_own (P := Tryz.prog) w base t ty 9 i z 1 16 ht hi hz hsize hby hzs (by decide) v L.length (L.map Value.string) h ⟨b, 0, none⟩ 1 1 [.string x] (by simp)
    (fun j u hj => by
      rw [add_at, Nat.zero_add]
      have : (#[.string x] : Array Value)[j]? = some u := by simpa using hj
      simp only [World.cell?, hb]; simpa using this) (by intro u hu; simp at hu; subst hu; rfl) (by unfold maxLen; omega) (by omega) hbase
  refine ⟨v', w', h1, ?_, h3⟩
  unfold BRow
  rw [List.map_append]
  simpa using h2
theorem snB {ops : Array Oper} {Q : Exit → Act → World → Prop} {a : Act} {w : World} {J : Act → World → Prop} {d : Option Tmp} {ty : TypeId} {pos : String} {af : Array Edge} {g : Option (Nat × Bool)}
    {base : Nat} {v : Value} {L : List ByteArray} {t : TypeId} {s y : Operand} {b : Nat} {x : ByteArray}
    (hw : Region.wanted (⟨d, .call ⟨.builtin .append, #[s, y], #[t, t]⟩, ty, pos, af, g⟩ : Oper) (yielded ops a.tmps) = true) (hs : a.eval s = v) (hy : a.eval y = .slice (some ⟨b, 0, none⟩) 1 1)
    (h : BRow base w v L) (ht : Tryz.prog.underlying t = some (.slice 9)) (hb : w.heap[b]? = some (.cells #[.string x] 9 (0, 0))) (hbase : base ≤ w.heap.size) (hlen : L.length ≤ 100000)
    (k : ∀ A c w', BRow base w' (.slice A (L ++ [x]).length c) (L ++ [x]) → w.grownBy w' v.ownBlock → J (a.put d (.slice A (L ++ [x]).length c)) w') : St1 Tryz.prog ops Q ⟨d, .call ⟨.builtin .append, #[s, y], #[t, t]⟩, ty, pos, af, g⟩ J a w := by
  obtain ⟨v', w', h1, h2, h3⟩ := h.snoc (ty := ty) ht hb hbase hlen
  obtain ⟨A, c, rfl⟩ := h2.form
  refine sv hw ?_ (k A c w' h2 h3)
  simp [execOp, resolve, invoke, builtin, hs, hy, h1]
def SSRow (w : World) (v : Value) (L : List ByteArray) : Prop :=
  ∃ A c, v = .slice A L.length c ∧ L.length ≤ c ∧ (L = [] ∨ ∃ g f, A = some ⟨g, f, none⟩ ∧ g < w.heap.size ∧ ∀ (j : Nat) (x : ByteArray), L[j]? = some x → w.cell? ⟨g, f + j, none⟩ = some (.string x))
def joinB (L : List ByteArray) : ByteArray := ⟨(Lib.join (L.map (·.data.toList)) [47]).toArray⟩
theorem encStr_is (x : ByteArray) : encStr x.data.toList = .string x := by cases x; simp [encStr]
theorem rev_at {base : Nat} {w : World} {v : Value} {L : List ByteArray} (h : BRow base w v L) (hlen : L.length ≤ 100000) :
    Calls Tryz.prog 101 #[v] w fun e w' => e = .returned (.tuple #[]) ∧ SSRow w' v L.reverse ∧ w.grownBy w' v.ownBlock := by
  obtain ⟨hl, ⟨rfl, h0⟩ | ⟨g, cap, cur, rfl, hb, hg, hc, hm, hcs, htk⟩⟩ := h
  · have hL : L = [] := List.length_eq_zero_iff.1 h0
    subst hL
    refine (Tryz.slices_Reverse_string_empty none 0 w).mono ?_
    rintro e w' ⟨rfl, rfl⟩
    exact ⟨rfl, ⟨none, 0, rfl, Nat.le_refl _, .inl rfl⟩, rfl, rfl, rfl, Nat.le_refl _, fun k hk _ => rfl⟩
  · have hcell : ∀ (j : Nat) (x : ByteArray), L[j]? = some x → w.cell? ⟨g, 0 + j, none⟩ = some (.string x) := fun j x hx => by
      have hj := (List.getElem?_eq_some_iff.1 hx).1
      have h1 : (L.map Value.string)[j]? = some (.string x) := by rw [List.getElem?_map, hx]; rfl
      rw [← htk, List.getElem?_take, if_pos (by omega), Array.getElem?_toList] at h1
      simp only [World.cell?, hg, Nat.zero_add]
      exact h1
    have hH : Holds encStr w g 0 (L.map (·.data.toList)).toArray := by
      intro j hj
      simp only [List.size_toArray, List.length_map] at hj
      refine ⟨?_, by simp [World.frozen?, hg]⟩
      rw [hcell j _ (List.getElem?_eq_getElem hj)]
      congr 1
      rw [← encStr_is]
      congr 1
      simp [getElem!_pos, hj]
    have key := Tryz.slices_Reverse_string g 0 cap (L.map (·.data.toList)) w hH (by simp; omega)
    rw [List.length_map] at key
    refine key.mono ?_
    rintro e w' ⟨rfl, q, rfl⟩
    have hH' : Holds encStr (putRow encStr (Sort.ahead w q) g 0 (L.map (·.data.toList)).reverse.toArray) g 0 (L.map (·.data.toList)).reverse.toArray := holds_putRow encStr (Sort.ahead w q) g 0 (L.map (·.data.toList)).toArray _ (show Holds encStr (Sort.ahead w q) g 0 (L.map (·.data.toList)).toArray from fun j hj => hH j hj) (by simp)
    have hglt : g < w.heap.size := lt_ob hg
    refine ⟨rfl, ⟨some ⟨g, 0, none⟩, cap, by rw [List.length_reverse], by rw [List.length_reverse]; exact hc, .inr ⟨g, 0, rfl, by rw [size_putRow]; exact hglt, fun j x hx => ?_⟩⟩, ?_⟩
    · have hj := (List.getElem?_eq_some_iff.1 hx).1
      have := (hH' j (by simpa using hj)).1
      rw [this]
      congr 1
      rw [← encStr_is]
      congr 1
      have hx2 : (L.map (·.data.toList)).reverse[j]? = some x.data.toList := by rw [← List.map_reverse, List.getElem?_map, hx]; rfl
      obtain ⟨h3, h4⟩ := List.getElem?_eq_some_iff.1 hx2
      rw [getElem!_pos _ _ (by simpa using h3)]
      simpa using h4
    · refine ⟨rfl, rfl, rfl, by rw [size_putRow]; exact Nat.le_refl _, fun k hk hne => ?_⟩
      unfold putRow mapBlock
      simp only [Array.getElem?_modify]
      rw [if_neg (by intro e; exact hne (by rw [e]; rfl))]
      rfl
theorem join_at {w : World} {v : Value} {L : List ByteArray} (h : SSRow w v L) (hl : L.length ≤ 1000) (hlen : (joinB L).size ≤ 1000000) :
    Calls Tryz.prog 102 #[v, .string ⟨#[47]⟩] w fun e w' => e = .returned (.string (joinB L)) ∧ Up w w' := by
  have hlen' : (Lib.join (L.map (·.data.toList)) [47]).length ≤ 1000000 := by simpa [joinB, ByteArray.size] using hlen
  obtain ⟨A, c, rfl, hc, h0 | ⟨g, f, rfl, hg, hcell⟩⟩ := h
  · subst h0
    refine (Tryz.strings_Join_none A c ⟨#[47]⟩ w).mono ?_
    rintro e w' ⟨rfl, rfl⟩
    exact ⟨rfl, Below.refl _ _⟩
  · exact Tryz.strings_Join g f c L ⟨#[47]⟩ w hcell hg (by omega) hc (by show (Lib.join (L.map (·.data.toList)) [47]).length ≤ _; omega)
end Go.Proofs.YtefhfoioeoijlaaGreatDoor
set_option linter.unusedVariables false
set_option linter.unusedSimpArgs false
namespace Go.Proofs.YtefhfoioeoijlaaGreatDoor
open Go Go.RowKit Go.Sort
def ofL (L : List Item) : Nat → Stamp → List ByteArray → Option (List ByteArray)
  | 0, m, acc => if m = nilS then some acc else none
  | f + 1, m, acc => if m = nilS then some acc else ofL L f (gotI L m).parent (acc ++ [shownB L m])
def pathB (l : List ByteArray) : ByteArray := (⟨#[47]⟩ : ByteArray) ++ joinB l.reverse
def ofB (L : List Item) (m : Stamp) : ByteArray := if hangsI L 301 m = false then ⟨#[]⟩ else match ofL L 16 m [] with | none => ⟨#[]⟩ | some l => pathB l
def ofK (L : List Item) (m : Stamp) : Int := if hangsI L 301 m = false then 12 else match ofL L 16 m [] with | none => 3 | some _ => 0
theorem of_no {L : List Item} {m : Stamp} (h : hangsI L 301 m = false) : ofB L m = ⟨#[]⟩ ∧ ofK L m = 12 := by unfold ofB ofK; rw [if_pos h, if_pos h]; exact ⟨rfl, rfl⟩
theorem of_deep {L : List Item} {m : Stamp} (h : hangsI L 301 m = true) (e : ofL L 16 m [] = none) : ofB L m = ⟨#[]⟩ ∧ ofK L m = 3 := by
  have h' : ¬ hangsI L 301 m = false := by rw [h]; decide
  unfold ofB ofK; rw [if_neg h', if_neg h', e]; exact ⟨rfl, rfl⟩
theorem of_yes {L : List Item} {m : Stamp} {l : List ByteArray} (h : hangsI L 301 m = true) (e : ofL L 16 m [] = some l) : ofB L m = pathB l ∧ ofK L m = 0 := by
  have h' : ¬ hangsI L 301 m = false := by rw [h]; decide
  unfold ofB ofK; rw [if_neg h', if_neg h', e]; exact ⟨rfl, rfl⟩
theorem of_ret {L : List Item} {m : Stamp} {b : ByteArray} {k : Int} (h : ofB L m = b ∧ ofK L m = k) : Ending.returned (.tuple #[.string b, .int .i64 k]) = .returned (.tuple #[.string (ofB L m), .int .i64 (ofK L m)]) := by rw [h.1, h.2]
theorem ofL_nil {L : List Item} {f : Nat} {acc : List ByteArray} : ofL L f ⟨0, 0⟩ acc = some acc := by cases f <;> simp [ofL, nilS]
theorem ofL_stop {L : List Item} {m : Stamp} {acc : List ByteArray} (h : m ≠ ⟨0, 0⟩) : ofL L 0 m acc = none := by unfold ofL; rw [if_neg (show ¬ m = nilS from h)]
theorem ofL_go {L : List Item} {k : Nat} {m : Stamp} {acc : List ByteArray} (hk : k < 16) (h : m ≠ ⟨0, 0⟩) : ofL L (16 - k) m acc = ofL L (16 - (k + 1)) (gotI L m).parent (acc ++ [shownB L m]) := by
  rw [show 16 - k = (16 - (k + 1)) + 1 by omega]
  conv => lhs; unfold ofL
  rw [if_neg (show ¬ m = nilS from h)]
theorem shown_short {L : List Item} (hF : Fit L) (m : Stamp) : (shownB L m).data.toList.length ≤ 100 := by
  unfold shownB
  split
  · unfold nodeE
    cases e : (entsI (kidsI (gotI L m).parent L)).find? (fun e => decide (e.node = m)) with
    | none => decide
    | some y => exact ents_short (hF.kids _).1 y (List.mem_of_find?_eq_some e)
  · decide
def Shorts (l : List ByteArray) : Prop := ∀ x ∈ l, x.data.toList.length ≤ 100
theorem Shorts.snoc {l : List ByteArray} {x : ByteArray} (h : Shorts l) (hx : x.data.toList.length ≤ 100) : Shorts (l ++ [x]) := fun y hy => by
  rcases List.mem_append.1 hy with hy | hy
  · exact h y hy
  · simp at hy; subst hy; exact hx
theorem join_short : ∀ {l : List (List UInt8)}, (∀ x ∈ l, x.length ≤ 100) → (Lib.join l [47]).length ≤ l.length * 101
  | [], _ => by simp [Lib.join]
  | [x], h => by have := h x (by simp); simp [Lib.join]; omega
  | x :: y :: l, h => by
    have ih := join_short (l := y :: l) (fun z hz => h z (by simp [hz]))
    have h1 := h x (by simp)
    have e : Lib.join (x :: y :: l) [47] = x ++ ([47] ++ Lib.join (y :: l) [47]) := by simp [Lib.join, List.intercalate, List.intersperse]
    rw [e]
    simp only [List.length_append, List.length_cons, List.length_nil] at ih ⊢
    omega
theorem joinB_short {l : List ByteArray} (h : Shorts l) (hl : l.length ≤ 16) : (joinB l.reverse).size ≤ 1616 := by
  have h1 := join_short (l := l.reverse.map (·.data.toList)) (fun x hx => by
    obtain ⟨y, hy, rfl⟩ := List.mem_map.1 hx
    exact h y (List.mem_reverse.1 hy))
  simp only [List.length_map, List.length_reverse] at h1
  have : (joinB l.reverse).size = (Lib.join (l.reverse.map (·.data.toList)) [47]).length := by simp [joinB, ByteArray.size]
  omega
end Go.Proofs.YtefhfoioeoijlaaGreatDoor
set_option linter.unusedVariables false
set_option linter.unusedSimpArgs false
namespace Go.Proofs.YtefhfoioeoijlaaGreatDoor
open Go Go.RowKit Go.Sort
section
variable {d : Option Tmp} {ty : TypeId} {pos : String} {af : Array Edge} {g : Option (Nat × Bool)} {ρ : Operand → Value} {w : World}
theorem r_neS2 {x y : Operand} {yt : TypeId} {a b c e : Int} (hx : ρ x = .agg #[.int .i64 a, .int .i64 b]) (hy : ρ y = .agg #[.int .i64 c, .int .i64 e]) :
    (execOp ρ ⟨d, .binOp .neq 24 x y yt, ty, pos, af, g⟩).run Tryz.prog w = .ok (.value (.bool (decide ((⟨a, b⟩ : Stamp) ≠ ⟨c, e⟩)))) w := by
  have h := stamp_eq' a b c e w
  simp [execOp, hx, hy, eqGuard, stamp_noguard, binOp, h]
end
end Go.Proofs.YtefhfoioeoijlaaGreatDoor
set_option linter.unusedVariables false
set_option linter.unusedSimpArgs false
namespace Go.Proofs.YtefhfoioeoijlaaGreatDoor
open Go Go.RowKit Go.Sort
set_option maxRecDepth 20000 in
set_option maxHeartbeats 2000000 in
theorem of_at {B : Nat} {w : World} {tb r : Nat} {L : List Item} (h : TreeIs B w tb r L) (hB : B ≤ w.heap.size) (hF : Fit L) (htab : Tab w) (m1 m2 : Int) : Calls Tryz.prog 42 #[trP tb, .agg #[.int .i64 m1, .int .i64 m2]] w fun e w' => e = .returned (.tuple #[.string (ofB L ⟨m1, m2⟩), .int .i64 (ofK L ⟨m1, m2⟩)]) ∧ Up w w' := by
  go_enter Tryz.func42, Tryz.ntmps42
  refine wp_seq (rg_lit (wl (sn rfl (cs := #[I_ m1, I_ m2]) (T := 24) (V := fun b => pt b 0) (r_box (v := .agg #[I_ m1, I_ m2]) (by kernel_rfl) rfl) fun pb w1 e2 h3 u4 => ?_)))
  have g6 := gsz e2 (Mod.refl [] w)
  have M7 := mtu (Mod.refl [] w) u4
  refine was (v := S_ (⟨#[]⟩)) (was (v := I_ 0) (wnil (then_n (wp_seq (wp_block (wp_seq (rg_lit (wmv (v := pt tb 0) (wl (sv (w' := w1) rfl (v := B_ false) (by kernel_rfl) (was (v := B_ false) (wnil (then_n (wp_cond_false (by kernel_rfl) (wp_seq (rg_lit ?_))))))))))))))))
  refine wmv (v := pt tb 0) (wlv (v := .agg #[I_ m1, I_ m2]) (lds 0 Ty.ag24 Ty.sz24 h3) ?_)
  have h8 := (TreeIs.up h (Mod.up M7))
  refine wl (sca [pt tb 0, .agg #[I_ m1, I_ m2]] En.f39 (hangs_at h8 m1 m2) ?_)
  rintro e w9 ⟨rfl, u10⟩
  refine ⟨_, rfl, ?_⟩
  have M11 := mtu M7 u10
  refine wlv (v := B_ (!(hangsI L 301 ⟨m1, m2⟩))) (r_not (b := (hangsI L 301 ⟨m1, m2⟩)) (by kernel_rfl)) (was (v := B_ (!(hangsI L 301 ⟨m1, m2⟩))) (wnil (then_n ?_)))
  refine bcase (hangsI L 301 ⟨m1, m2⟩) (fun v12 => ?_) (fun v12 => ?_)
  ·
   refine wp_cond_true (eb (bneg v12)) (wp_seq (rg_lit (was (v := S_ (⟨#[]⟩)) (was (v := I_ 12) (wnil (then_n (wp_ret (inb_r (then_x (by nofun) ?_)))))))))
   refine br2 (v := S_ (⟨#[]⟩)) (u := I_ 12) rfl ?_
   exact ⟨of_ret (of_no v12), (Mod.up M11)⟩
  refine wp_cond_false (eb (bneg v12)) (wp_skip (inb_n (then_n (wp_seq (rg_lit (was (v := .slice none 0 0) (wnil (then_n (wp_seq (wp_block ?_))))))))))
  have h14 := (up_ob u10 h3)
  refine lp (fun n a r1 => ∃ (k : Nat) (s1 : Int) (s2 : Int) (acc : List ByteArray) (oA : Option Addr) (oc : Nat), (n = 17 - k) ∧ (HasFr a 48 [(0, pt tb 0), (1, .agg #[I_ m1, I_ m2]), (3, pt pb 0), (6, .slice oA acc.length oc), (11, B_ false), (14, B_ (!(hangsI L 301 ⟨m1, m2⟩)))] []) ∧ (Mod [pb] w9 r1) ∧ (r1.heap[pb]? = some (.cells #[I_ s1, I_ s2] 24 (0, 0))) ∧ (k ≤ 16) ∧ (acc.length = k) ∧ (ofL L (16 - k) ⟨s1, s2⟩ acc = ofL L 16 ⟨m1, m2⟩ []) ∧ (Shorts acc) ∧ (BRow w9.heap.size r1 (.slice oA acc.length oc) acc)) ⟨_, 0, m1, m2, [], none, 0, rfl, hmk, Mod.refl _ _, h14, (Nat.zero_le _), rfl, rfl, (fun x hx => absurd hx (by simp)), (BRow.nil _ _)⟩ ?_
  rintro _ _ r1 ⟨k, s1, s2, acc, oA, oc, rfl, h16, hM1, hX1pb, hF1_0, hF1_1, hF1_2, hF1_3, hF1_4⟩
  obtain ⟨Y36, rfl⟩ := h16
  have M17 := Mod.thin M11 hM1 (fun y hy => by simp only [List.mem_cons, List.not_mem_nil, or_false] at hy; subst hy; exact .inr g6)
  refine wp_seq (wp_seq ?_)
  refine rg_all (by kernel_rfl) (by kernel_rfl) ?_
  refine qv rfl (v := .agg #[I_ s1, I_ s2]) (fun _ uz => lds 0 Ty.ag24 Ty.sz24 (up_ob uz hX1pb)) ?_
  refine qc rfl (v := .agg #[I_ 0, I_ 0]) (fun _ _ => r_callv (caps := []) (all := []) En.f99 (by kernel_rfl) (by kernel_rfl)) (fun wz uz => root_at _) ?_ ?_
  · rintro w1 e w2 hC ⟨rfl, hu⟩; exact ⟨rfl, up_step hC hu.below⟩
  refine qb rfl (fun _ _ => r_neS2 (a := s1) (b := s2) (c := 0) (e := 0) (by kernel_rfl) (by kernel_rfl)) fun b18 k19 => ?_
  refine qnil fun w20 u21 => ?_
  have M22 := mtu M17 u21
  have M23 := mtu hM1 u21
  refine then_n ?_
  refine bcd k19 (fun v24 p25 => ?_) (fun v24 p25 => ?_)
  ·
   refine wp_cond_false (eb v24) (wp_exit (then_x (by nofun) (then_x (by nofun) (inb_hit (then_n (wp_seq (rg_lit (wmv (v := .slice oA acc.length oc) ?_))))))))
   have h26 := (BRow.up hF1_4 u21)
   refine wl (sca [.slice oA acc.length oc] En.f101 (rev_at h26 (by omega)) ?_)
   rintro e w27 ⟨rfl, h28, u29⟩
   refine ⟨_, rfl, ?_⟩
   have M30 := Mod.trans' M22 u29 (fun k hk => Nat.le_trans M11.size (h26.own k hk).1)
   have M31 := Mod.trans' M23 u29 (fun k hk => Nat.le_trans (Nat.le_refl _) (h26.own k hk).1)
   refine wnil (then_n (wp_seq (rg_lit (wmv (v := .slice oA acc.length oc) ?_))))
   have hjs := joinB_short hF1_3 (by omega)
   refine wl (sca [.slice oA acc.length oc, S_ (⟨#[47]⟩)] En.f102 (join_at (L := acc.reverse) h28 (by simp; omega) (by omega)) ?_)
   rintro e w32 ⟨rfl, u33⟩
   refine ⟨_, rfl, ?_⟩
   have M34 := mtu M30 u33
   have M35 := mtu M31 u33
   refine wlv (v := S_ ((⟨#[47]⟩ : ByteArray) ++ (joinB acc.reverse))) (r_adds (m := (⟨#[47]⟩)) (n := (joinB acc.reverse)) (by kernel_rfl) (by kernel_rfl) (by have : (⟨#[47]⟩ : ByteArray).size = 1 := rfl; omega)) (was (v := S_ ((⟨#[47]⟩ : ByteArray) ++ (joinB acc.reverse))) (was (v := I_ 0) (wnil (then_n (wp_ret ?_)))))
   refine br2 (v := S_ ((⟨#[47]⟩ : ByteArray) ++ (joinB acc.reverse))) (u := I_ 0) rfl ?_
   have hz0 : ofL L 16 ⟨m1, m2⟩ [] = some acc := by rw [← hF1_2, Decidable.not_not.1 p25]; exact ofL_nil
   exact ⟨of_ret (of_yes v12 hz0), (Mod.up M34)⟩
  refine wp_cond_true (eb v24) (wp_skip (then_n (wp_block (wp_seq (wp_seq (rg_lit (wmv (v := .slice oA acc.length oc) (wlv (v := I_ acc.length) (ln oA acc.length oc Ty.un69) (wl (sb rfl (eqI acc.length 16) fun b26 k27 => wnil (then_n ?_)))))))))))
  refine bcd k27 (fun v28 p29 => ?_) (fun v28 p29 => ?_)
  ·
   refine wp_cond_false (eb v28) (wp_skip (then_n (wp_seq (rg_lit (wmv (v := pt tb 0) ?_)))))
   have h30 := (up_ob u21 hX1pb)
   refine wlv (v := .agg #[I_ s1, I_ s2]) (lds 0 Ty.ag24 Ty.sz24 h30) ?_
   have h31 := (TreeIs.up h (Mod.up M22))
   refine wl (sca [pt tb 0, .agg #[I_ s1, I_ s2]] En.f19 (shown18_at h31 (Nat.le_trans hB M22.size) hF (TabIs.up htab (Mod.up M22)) s1 s2) ?_)
   rintro e w32 ⟨rfl, u33⟩
   refine ⟨_, rfl, ?_⟩
   have M34 := mtu M22 u33
   have M35 := mtu M23 u33
   refine wmv (v := .tuple #[S_ (shownB L ⟨s1, s2⟩), I_ (shownK L ⟨s1, s2⟩)]) (wlv (v := S_ (shownB L ⟨s1, s2⟩)) (xt [S_ (shownB L ⟨s1, s2⟩), I_ (shownK L ⟨s1, s2⟩)]) (wlv (v := I_ (shownK L ⟨s1, s2⟩)) (xt [S_ (shownB L ⟨s1, s2⟩), I_ (shownK L ⟨s1, s2⟩)]) (was (v := S_ (shownB L ⟨s1, s2⟩)) (was (v := I_ (shownK L ⟨s1, s2⟩)) (wnil (then_n (wp_seq (rg_lit (wmv (v := .slice oA acc.length oc) (wmv (v := S_ (shownB L ⟨s1, s2⟩)) (wl (sn rfl (cs := #[S_ (shownB L ⟨s1, s2⟩)]) (T := 9) (V := fun b => sl b 0 1 1) (r_buildSlice (n := 1) (ps := [(0, S_ (shownB L ⟨s1, s2⟩))]) Ty.un69 Ty.sz9 Ty.zv9 (by decide) (by decide) (by kernel_rfl) (by kernel_rfl)) fun b36 w37 e38 h39 u40 => ?_))))))))))))
   have h43 := (up_ob u33 h30)
   have M47 := mtu M34 u40
   have M48 := mtu M35 u40
   have h49 := (BRow.up hF1_4 (up_up (up_up u21 u33) u40))
   refine wl (snB rfl (L := acc) (x := (shownB L ⟨s1, s2⟩)) (by kernel_rfl) (by kernel_rfl) h49 Ty.un69 h39 M48.size (by omega) fun A50 c51 w52 h53 u54 => ?_)
   have M55 := Mod.trans' M47 u54 (fun k hk => Nat.le_trans M11.size (h49.own k hk).1)
   have M56 := Mod.trans' M48 u54 (fun k hk => Nat.le_trans (Nat.le_refl _) (h49.own k hk).1)
   refine was (v := .slice A50 ((acc ++ [(shownB L ⟨s1, s2⟩)]).length) c51) (wnil (then_n (wp_seq (rg_lit (wmv (v := pt tb 0) ?_)))))
   have h57 := (own_ob u54 (h49.ne_old (lt_ob h14)) (up_ob u40 h43))
   refine wlv (v := .agg #[I_ s1, I_ s2]) (lds 0 Ty.ag24 Ty.sz24 h57) ?_
   have h58 := (TreeIs.up h (Mod.up M55))
   refine wl (sca [pt tb 0, .agg #[I_ s1, I_ s2]] En.f20 (get_x h58 ⟨s1, s2⟩ (x := (gotI L ⟨s1, s2⟩)) (b := (hasI L ⟨s1, s2⟩)) rfl rfl) ?_)
   rintro e w59 ⟨A60, n61, c62, rfl, h63, u64⟩
   refine ⟨_, rfl, ?_⟩
   have M66 := mtu M56 u64
   refine wmv (v := .tuple #[itV (gotI L ⟨s1, s2⟩) (.slice A60 n61 c62), B_ (hasI L ⟨s1, s2⟩)]) (wlv (v := itV (gotI L ⟨s1, s2⟩) (.slice A60 n61 c62)) (xt [itV (gotI L ⟨s1, s2⟩) (.slice A60 n61 c62), B_ (hasI L ⟨s1, s2⟩)]) (wlv (v := B_ (hasI L ⟨s1, s2⟩)) (xt [itV (gotI L ⟨s1, s2⟩) (.slice A60 n61 c62), B_ (hasI L ⟨s1, s2⟩)]) (wl (sn rfl (cs := #[I_ 0, I_ 0, I_ 0, I_ 0, S_ (⟨#[]⟩), B_ false, B_ false, .slice none 0 0, I_ 0, I_ 0]) (T := 42) (V := fun b => pt b 0) (r_alloc Ty.zv42 rfl) fun b67 w68 e69 h70 u71 => ?_))))
   have h74 := (up_ob u64 h57)
   have l75 := lsz e69 h74
   have g77 := gsz e69 M66
   have M79 := mtu M66 u71
   refine wl (ss rfl (k := 0) (v := itV (gotI L ⟨s1, s2⟩) (.slice A60 n61 c62)) (vs := (itC (gotI L ⟨s1, s2⟩) (.slice A60 n61 c62))) (cs' := (itC (gotI L ⟨s1, s2⟩) (.slice A60 n61 c62))) (by kernel_rfl) (by kernel_rfl) rfl Ty.sz42 h70 rfl (Nat.le_of_ble_eq_true rfl) rfl fun w80 h81 c82 => ?_)
   have M84 := mtn M79 c82 g77
   refine was (v := B_ (hasI L ⟨s1, s2⟩)) (wnil (then_n (rg_lit (wlv (v := pt b67 2) (fa (pt b67 0)) (wlv (v := .agg #[I_ ((gotI L ⟨s1, s2⟩).parent.t), I_ ((gotI L ⟨s1, s2⟩).parent.w)]) (lds 2 Ty.ag24 Ty.sz24 h81) ?_)))))
   have h85 := (chg_ob c82 (Nat.ne_of_lt l75) (up_ob u71 h74))
   refine wl (ss rfl (k := 0) (v := .agg #[I_ ((gotI L ⟨s1, s2⟩).parent.t), I_ ((gotI L ⟨s1, s2⟩).parent.w)]) (vs := [I_ ((gotI L ⟨s1, s2⟩).parent.t), I_ ((gotI L ⟨s1, s2⟩).parent.w)]) (cs' := [I_ ((gotI L ⟨s1, s2⟩).parent.t), I_ ((gotI L ⟨s1, s2⟩).parent.w)]) (by kernel_rfl) (by kernel_rfl) rfl Ty.sz24 h85 rfl (Nat.le_of_ble_eq_true rfl) rfl fun w86 h87 c88 => ?_)
   have M90 := mtx M84 c88
   refine wnil (inb_n (then_n ?_))
   have h91 := (BRow.chgm (BRow.up h53 (up_chgn (up_up u64 u71) c82 (by rw [e69]; exact u64.size))) c88 (BRow.ne_old (BRow.up h53 (up_chgn (up_up u64 u71) c82 (by rw [e69]; exact u64.size))) (lt_ob h14)))
   refine ⟨17 - (k + 1), ?_, (k + 1), (gotI L ⟨s1, s2⟩).parent.t, (gotI L ⟨s1, s2⟩).parent.w, (acc ++ [(shownB L ⟨s1, s2⟩)]), A50, c51, rfl, hmk, M90, h87, (by omega), (by simp only [List.length_append, List.length_cons, List.length_nil]; omega), ((ofL_go (by omega) p25).symm.trans hF1_2), (Shorts.snoc hF1_3 (shown_short hF _)), h91⟩
   · omega
  refine wp_cond_true (eb v28) (wp_seq (rg_lit (was (v := S_ (⟨#[]⟩)) (was (v := I_ 3) (wnil (then_n (wp_ret (then_x (by nofun) (inb_r (then_x (by nofun) (inb_r (then_x (by nofun) ?_))))))))))))
  refine br2 (v := S_ (⟨#[]⟩)) (u := I_ 3) rfl ?_
  have hz0 : ofL L 16 ⟨m1, m2⟩ [] = none := by rw [← hF1_2, show 16 - k = 0 by omega]; exact ofL_stop p25
  exact ⟨of_ret (of_deep v12 hz0), (Mod.up M22)⟩
end Go.Proofs.YtefhfoioeoijlaaGreatDoor
set_option linter.unusedVariables false
set_option linter.unusedSimpArgs false
namespace Go.Proofs.YtefhfoioeoijlaaGreatDoor
open Go Go.RowKit Go.Sort
def MRow (base : Nat) (w : World) (v : Value) (L : List Stamp) : Prop := w.ownsRow base 24 2 v L.length (flatS L)
theorem MRow.nil (base : Nat) (w : World) : MRow base w (.slice none 0 0) [] := World.ownsRow_nil w base _ 2
theorem MRow.keep {base : Nat} {w w' : World} {v : Value} {L : List Stamp} (h : MRow base w v L) {q : Option Nat} (hg : w.grownBy w' q) (hv : v.ownBlock = none ∨ v.ownBlock ≠ q) : MRow base w' v L := World.ownsRow.kept h hg hv
theorem MRow.up {base : Nat} {w w' : World} {v : Value} {L : List Stamp} (h : MRow base w v L) (hb : Up w w') : MRow base w' v L :=
  h.keep (q := none) ⟨hb.os, hb.tape, hb.output, hb.size, fun k hk _ => hb.block k hk⟩ (by cases hv : v.ownBlock <;> simp)
theorem MRow.form {base : Nat} {w : World} {v : Value} {L : List Stamp} (h : MRow base w v L) : ∃ A c, v = .slice A L.length c := by
  obtain ⟨_, ⟨rfl, h0⟩ | ⟨g, cap, cur, rfl, _⟩⟩ := h
  · exact ⟨none, 0, by rw [h0]⟩
  · exact ⟨_, cap, rfl⟩
theorem MRow.own {base : Nat} {w : World} {v : Value} {L : List Stamp} (h : MRow base w v L) : ∀ k, v.ownBlock = some k → base ≤ k ∧ k < w.heap.size := World.ownsRow.lt h
theorem info_st : ∃ i z, Tryz.prog.info? 24 = some i ∧ i.zero = some z ∧ i.size = 2 ∧ i.bytes = 16 ∧ z.cells.size = 2 := by
  have h : (Tryz.prog.info? 24).map (fun i => (i.zero.map (·.cells.size), i.size, i.bytes)) = some (some 2, 2, 16) := by kernel_rfl
  cases hi : Tryz.prog.info? 24 with
  | none => rw [hi] at h; cases h
  | some i =>
    rw [hi] at h; simp at h
    obtain ⟨⟨z, hz, h1⟩, h2, h3⟩ := h
    exact ⟨i, z, rfl, hz, h2, h3, h1⟩
theorem flatS_app (L M : List Stamp) : flatS (L ++ M) = flatS L ++ flatS M := by simp [flatS]
theorem MRow.snoc {base : Nat} {w : World} {v : Value} {L : List Stamp} (h : MRow base w v L) {t ty : TypeId} (ht : Tryz.prog.underlying t = some (.slice 24)) {b : Nat} {x y : Int} (hb : w.heap[b]? = some (.cells #[.int .i64 x, .int .i64 y] 24 (0, 0))) (hbase : base ≤ w.heap.size) (hlen : L.length ≤ 100000) :
    ∃ v' w', (Builtin.append_ #[t, t] ty #[v, .slice (some ⟨b, 0, none⟩) 1 1]).run Tryz.prog w = .ok v' w' ∧ MRow base w' v' (L ++ [(⟨x, y⟩ : Stamp)]) ∧ w.grownBy w' v.ownBlock := by
  obtain ⟨i, z, hi, hz, hsize, hby, hzs⟩ := info_st
  obtain ⟨v', w', h1, h2, h3, h4⟩ := run_append_own (P := Tryz.prog) w base t ty 24 i z 2 16 ht hi hz hsize hby hzs (by decide) v L.length (flatS L) h ⟨b, 0, none⟩ 1 1 [.int .i64 x, .int .i64 y] (by simp)
    (fun j u hj => by
      rw [add_at, Nat.zero_add]
      have : (#[.int .i64 x, .int .i64 y] : Array Value)[j]? = some u := by simpa using hj
      simp only [World.cell?, hb]; simpa using this) (by intro u hu; simp at hu; rcases hu with rfl | rfl <;> rfl) (by unfold maxLen; omega) (by omega) hbase
  refine ⟨v', w', h1, ?_, h3⟩
  unfold MRow
  rw [flatS_app]
  simpa [flatS, stC] using h2
theorem snM {ops : Array Oper} {Q : Exit → Act → World → Prop} {a : Act} {w : World} {J : Act → World → Prop} {d : Option Tmp} {ty : TypeId} {pos : String} {af : Array Edge} {g : Option (Nat × Bool)}
    {base : Nat} {v : Value} {L : List Stamp} {t : TypeId} {s p : Operand} {b : Nat} {x y : Int}
    (hw : Region.wanted (⟨d, .call ⟨.builtin .append, #[s, p], #[t, t]⟩, ty, pos, af, g⟩ : Oper) (yielded ops a.tmps) = true) (hs : a.eval s = v) (hy : a.eval p = .slice (some ⟨b, 0, none⟩) 1 1)
    (h : MRow base w v L) (ht : Tryz.prog.underlying t = some (.slice 24)) (hb : w.heap[b]? = some (.cells #[.int .i64 x, .int .i64 y] 24 (0, 0))) (hbase : base ≤ w.heap.size) (hlen : L.length ≤ 100000)
    (k : ∀ A c w', MRow base w' (.slice A (L ++ [(⟨x, y⟩ : Stamp)]).length c) (L ++ [(⟨x, y⟩ : Stamp)]) → w.grownBy w' v.ownBlock → J (a.put d (.slice A (L ++ [(⟨x, y⟩ : Stamp)]).length c)) w') : St1 Tryz.prog ops Q ⟨d, .call ⟨.builtin .append, #[s, p], #[t, t]⟩, ty, pos, af, g⟩ J a w := by
  obtain ⟨v', w', h1, h2, h3⟩ := h.snoc (ty := ty) ht hb hbase hlen
  obtain ⟨A, c, rfl⟩ := h2.form
  refine sv hw ?_ (k A c w' h2 h3)
  simp [execOp, resolve, invoke, builtin, hs, hy, h1]
theorem flatS_at : ∀ {L : List Stamp} {i : Nat} {x : Stamp}, L[i]? = some x → (flatS L)[i * 2]? = some (.int .i64 x.t) ∧ (flatS L)[i * 2 + 1]? = some (.int .i64 x.w)
  | y :: L, 0, x, h => by simp at h; subst h; simp [flatS, stC]
  | y :: L, i + 1, x, h => by
    have ih := flatS_at (L := L) (i := i) (x := x) (by simpa using h)
    have e : flatS (y :: L) = .int .i64 y.t :: .int .i64 y.w :: flatS L := by simp [flatS, stC]
    rw [e, show (i + 1) * 2 = i * 2 + 1 + 1 by omega]
    exact ih
theorem MRow.get {base : Nat} {w : World} {A : Option Addr} {n c i : Nat} {L : List Stamp} {x : Stamp} (h : MRow base w (.slice A n c) L) (hx : L[i]? = some x) :
    ∃ g, A = some ⟨g, 0, none⟩ ∧ g < w.heap.size ∧ w.cell? ⟨g, i * 2, none⟩ = some (.int .i64 x.t) ∧ w.cell? ⟨g, i * 2 + 1, none⟩ = some (.int .i64 x.w) := by
  obtain ⟨hl, ⟨e, h0⟩ | ⟨g, cap, cur, e, hb, hg, hc, hm, hcs, htk⟩⟩ := h
  · have := (List.getElem?_eq_some_iff.1 hx).1; omega
  · injection e with e1 _ e3
    subst e1
    have hi := (List.getElem?_eq_some_iff.1 hx).1
    have hf := flatS_at hx
    refine ⟨g, rfl, lt_ob hg, ?_, ?_⟩
    · have h1 := hf.1
      rw [← htk, List.getElem?_take, if_pos (by omega), Array.getElem?_toList] at h1
      simp only [World.cell?, hg]; exact h1
    · have h1 := hf.2
      rw [← htk, List.getElem?_take, if_pos (by omega), Array.getElem?_toList] at h1
      simp only [World.cell?, hg]; exact h1
end Go.Proofs.YtefhfoioeoijlaaGreatDoor

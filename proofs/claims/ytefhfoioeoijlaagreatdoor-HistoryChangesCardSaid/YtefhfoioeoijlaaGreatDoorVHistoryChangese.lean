/- DC -/
import Derived.Test.YtefhfoioeoijlaaGreatDoorVaa
import Derived.Test.YtefhfoioeoijlaaGreatDoorVab
import Derived.Test.YtefhfoioeoijlaaGreatDoorVac
import Derived.Test.YtefhfoioeoijlaaGreatDoorVad
import Derived.Test.YtefhfoioeoijlaaGreatDoorVae
import Derived.Test.YtefhfoioeoijlaaGreatDoorVaf
import Derived.Test.YtefhfoioeoijlaaGreatDoorVag
import Derived.Test.YtefhfoioeoijlaaGreatDoorVah
import Derived.Test.YtefhfoioeoijlaaGreatDoorVai
import Derived.Test.YtefhfoioeoijlaaGreatDoorVaj
import Derived.Test.YtefhfoioeoijlaaGreatDoorVak
import Derived.Test.YtefhfoioeoijlaaGreatDoorVal
import Derived.Test.YtefhfoioeoijlaaGreatDoorVam
import Derived.Test.YtefhfoioeoijlaaGreatDoorVan
import Derived.Test.YtefhfoioeoijlaaGreatDoorVao
import Derived.Test.YtefhfoioeoijlaaGreatDoorVap
import Derived.Test.YtefhfoioeoijlaaGreatDoorVaq
import Derived.Test.YtefhfoioeoijlaaGreatDoorVar
import Derived.Test.YtefhfoioeoijlaaGreatDoorVas
import Derived.Test.YtefhfoioeoijlaaGreatDoorVat
import Derived.Test.YtefhfoioeoijlaaGreatDoorVHistoryChangesa
import Derived.Test.YtefhfoioeoijlaaGreatDoorVHistoryChangesb
import Derived.Test.YtefhfoioeoijlaaGreatDoorVHistoryChangesc
import Derived.Test.YtefhfoioeoijlaaGreatDoorVHistoryChangesd
set_option linter.unusedVariables false
set_option linter.unusedSimpArgs false
namespace Go.Proofs.YtefhfoioeoijlaaGreatDoor
open Go Go.RowKit Go.Sort
set_option maxRecDepth 20000 in
set_option maxHeartbeats 2000000 in
theorem changesD_at {B : Nat} {w : World} {ua ub : Nat} {La Lb : List Item} (ha : RIs B w ua La) (hb : RIs B w ub Lb) (hB : B ≤ w.heap.size) (hFa : Fit La) (hFb : Fit Lb) :
    Calls Tryz.prog 27 #[trP ua, trP ub] w fun e w' => ∃ A c D, e = .returned (.slice A (chgs La Lb D).length c) ∧ CRow 117 w.heap.size w' (.slice A (chgs La Lb D).length c) (chgs La Lb D) ∧ Thn (nodesI (La ++ Lb)) D ∧ Up w w' := by
  obtain ⟨_, va, hva, hla, _, hLa⟩ := id ha
  rw [rowI_is] at hla
  obtain ⟨xA, xc, rfl⟩ := hla.form
  obtain ⟨_, vb, hvb, hlb, _, hLb⟩ := id hb
  rw [rowI_is] at hlb
  obtain ⟨yA, yc, rfl⟩ := hlb.form
  go_enter Tryz.func27, Tryz.ntmps27
  refine wp_seq (rg_lit (was (v := .slice none 0 0) (wnil (then_n (wp_seq (rg_lit (was (v := .slice none 0 0) (wnil (then_n (wp_seq (wp_seq (rg_lit (was (v := I_ 0) (wnil (then_n (wp_block ?_))))))))))))))))
  refine lp (fun n a r1 => ∃ (k : Nat) (ns : List Stamp) (nA : Option Addr) (nc : Nat), (n = La.length - k) ∧ (HasFr a 172 [(0, pt ua 0), (1, pt ub 0), (4, .slice none 0 0), (5, .slice nA ns.length nc), (6, I_ k)] []) ∧ (Mod [] w r1) ∧ (k ≤ La.length) ∧ (ns = nodesI (La.take k)) ∧ (MRow w.heap.size r1 (.slice nA ns.length nc) ns)) ⟨_, 0, [], none, 0, rfl, hmk, (Mod.refl [] w), (Nat.zero_le _), rfl, (MRow.nil _ _)⟩ ?_
  rintro _ _ r1 ⟨k, ns, nA, nc, rfl, h1, hM1, hF1_0, hF1_1, hF1_2⟩
  obtain ⟨Y57, rfl⟩ := h1
  have hns := hF1_1
  have hnl : ns.length ≤ 300 := by rw [hns]; simp only [nodesI, List.length_map, List.length_take]; omega
  refine wp_seq (wp_seq (rg_lit (wmv (v := I_ k) (wmv (v := pt ua 0) (wlv (v := pt ua 0) (nck) (wlv (v := pt ua 0) (fa (pt ua 0)) ?_))))))
  have h3 := md_ob hM1 nin0 hva
  refine wlv (v := .slice xA La.length xc) (ld 0 Ty.ag64 h3) (wlv (v := I_ La.length) (ln xA La.length xc Ty.un64) (wl (sb rfl (ltI k La.length) fun b4 k5 => wnil (then_n ?_))))
  refine bcd k5 (fun v6 p7 => ?_) (fun v6 p7 => ?_)
  ·
   refine wp_cond_false (eb v6) (wp_exit (then_x (by nofun) (then_x (by nofun) (inb_hit (then_n (wp_seq (wp_seq (rg_lit (was (v := I_ 0) (wnil (then_n (wp_block ?_))))))))))))
   have hnsa : ns = nodesI La := by rw [hns, List.take_of_length_le (by omega)]
   have h9 := (RIs.up ha (Mod.up hM1))
   have h10 := (RIs.up hb (Mod.up hM1))
   refine lp (fun n a r2 => ∃ (j : Nat) (ns2 : List Stamp) (mA : Option Addr) (mc : Nat), (n = Lb.length - j) ∧ (HasFr a 172 [(0, pt ua 0), (1, pt ub 0), (4, .slice none 0 0), (5, .slice mA ns2.length mc), (6, I_ k), (7, I_ j), (27, B_ b4)] []) ∧ (Mod [] w r2) ∧ (j ≤ Lb.length) ∧ (ns2 = nodesI La ++ nodesI (Lb.take j)) ∧ (MRow w.heap.size r2 (.slice mA ns2.length mc) ns2)) ⟨_, 0, ns, nA, nc, rfl, hmk, hM1, (Nat.zero_le _), (by rw [hnsa]; simp [nodesI]), hF1_2⟩ ?_
   rintro _ _ r2 ⟨j, ns2, mA, mc, rfl, h13, hM2, hF2_0, hF2_1, hF2_2⟩
   obtain ⟨Y58, rfl⟩ := h13
   have hns2 := hF2_1
   have hnl2 : ns2.length ≤ 600 := by rw [hns2, List.length_append]; simp only [nodesI, List.length_map, List.length_take]; omega
   refine wp_seq (wp_seq (rg_lit (wmv (v := I_ j) (wmv (v := pt ub 0) (wlv (v := pt ub 0) (nck) (wlv (v := pt ub 0) (fa (pt ub 0)) ?_))))))
   have h16 := md_ob hM2 nin0 hvb
   refine wlv (v := .slice yA Lb.length yc) (ld 0 Ty.ag64 h16) (wlv (v := I_ Lb.length) (ln yA Lb.length yc Ty.un64) (wl (sb rfl (ltI j Lb.length) fun b17 k18 => wnil (then_n ?_))))
   refine bcd k18 (fun v19 p20 => ?_) (fun v19 p20 => ?_)
   ·
    refine wp_cond_false (eb v19) (wp_exit (then_x (by nofun) (then_x (by nofun) (inb_hit (then_n (wp_seq (rg_lit (wmv (v := .slice mA ns2.length mc) ?_))))))))
    have hnsl : ns2.length ≤ 600 := by rw [hns2, List.length_append]; simp only [nodesI, List.length_map, List.length_take]; omega
    refine wl (sca [.slice mA ns2.length mc] En.f77 (sortD4_at hF2_2 (by omega)) ?_)
    rintro e w21 ⟨A22, c23, D, rfl, h24, h25, u26⟩
    have hTh : Thn (nodesI (La ++ Lb)) D := by rw [← nodes_both, ← List.take_of_length_le (l := Lb) (i := j) (by omega), ← hns2]; exact h25
    have hDl := h25.len
    refine ⟨_, rfl, ?_⟩
    have M27 := mtu hM2 u26
    have M28 := mtu hM2 u26
    refine was (v := .slice A22 D.length c23) (wnil (then_n (wp_seq (rg_lit (was (v := .slice none 0 0) (wnil (then_n (wp_seq (wp_seq (rg_lit (was (v := I_ 0) (wnil (then_n (wp_block ?_))))))))))))))
    have h29 := md_ob M27 nin0 hva
    have h30 := md_ob M27 nin0 hvb
    refine lp (fun n a r3 => ∃ (i : Nat) (out : List ChgD) (oA : Option Addr) (oc : Nat), (n = D.length - i) ∧ (HasFr a 172 [(0, pt ua 0), (1, pt ub 0), (4, .slice none 0 0), (5, .slice A22 D.length c23), (6, I_ k), (7, I_ j), (8, .slice oA out.length oc), (9, I_ i), (27, B_ b4), (47, B_ b17)] []) ∧ (Mod [] w21 r3) ∧ (i ≤ D.length) ∧ (out = chgs La Lb (D.take i)) ∧ (CRow 117 w21.heap.size r3 (.slice oA out.length oc) out)) ⟨_, 0, [], none, 0, rfl, hmk, Mod.refl _ _, (Nat.zero_le _), rfl, (CRow.nil _ _ _)⟩ ?_
    rintro _ _ r3 ⟨i, out, oA, oc, rfl, h35, hM3, hF3_0, hF3_1, hF3_2⟩
    obtain ⟨Y59, rfl⟩ := h35
    have M36 := Mod.thin M27 hM3 (by simp)
    have M37 := Mod.thin M28 hM3 (by simp)
    have ho1 := hF3_1
    have ho2 : out.length ≤ 600 := by have h9 := chgs_len La Lb (D.take i); rw [← ho1, List.length_take] at h9; omega
    refine wp_seq (wp_seq (rg_lit (wmv (v := I_ i) (wmv (v := .slice A22 D.length c23) (wlv (v := I_ D.length) (ln A22 D.length c23 Ty.un95) (wl (sb rfl (ltI i D.length) fun b38 k39 => wnil (then_n ?_))))))))
    refine bcd k39 (fun v40 p41 => ?_) (fun v40 p41 => ?_)
    ·
     refine wp_cond_false (eb v40) (wp_exit (then_x (by nofun) (then_x (by nofun) (inb_hit (then_n (wp_seq (rg_lit (wmv (v := .slice oA out.length oc) (was (v := .slice oA out.length oc) (wnil (then_n (wp_ret ?_))))))))))))
     refine br1 (v := .slice oA out.length oc) rfl ?_
     have hoe : out = chgs La Lb D := by rw [ho1, List.take_of_length_le (by omega)]
     exact ⟨oA, oc, D, by rw [← hoe], (by rw [← hoe]; exact CRow.base hF3_2 M27.size), hTh, (Mod.up M36)⟩
    refine wp_cond_true (eb v40) (wp_skip (then_n (wp_seq (wp_block (wp_seq (rg_lit (wmv (v := .slice A22 D.length c23) (wmv (v := I_ i) ?_))))))))
    have h44 := (MRow.up h24 (Mod.up hM3))
    obtain ⟨y45, hy45⟩ : ∃ x, D[i]? = some x := ⟨_, List.getElem?_eq_getElem (by omega)⟩
    obtain ⟨g45, hA45, hl45, hc45, hd45⟩ := MRow.get h44 hy45
    refine wlv (v := pt g45 (i * 2)) (ixa D.length c23 2 i hA45 Ty.un95 Ty.sz24) (wlv (v := .agg #[I_ y45.t, I_ y45.w]) (r_loadc2 (by kernel_rfl) Ty.ag24 Ty.sz24 hc45 hd45) (wl (sn rfl (cs := #[I_ 0, I_ 0]) (T := 24) (V := fun b => pt b 0) (r_alloc Ty.zv24 rfl) fun b46 w47 e48 h49 u50 => ?_)))
    have g55 := gsz e48 M36
    have g56 := gsz e48 M37
    have g57 := gsz e48 hM3
    have M58 := mtu M36 u50
    have M59 := mtu M37 u50
    have M60 := mtu hM3 u50
    refine wl (ss rfl (k := 0) (v := .agg #[I_ y45.t, I_ y45.w]) (vs := [I_ y45.t, I_ y45.w]) (cs' := [I_ y45.t, I_ y45.w]) (by kernel_rfl) (by kernel_rfl) rfl Ty.sz24 h49 rfl (Nat.le_of_ble_eq_true rfl) rfl fun w61 h62 c63 => ?_)
    have M64 := mtn M58 c63 g55
    have M65 := mtn M59 c63 g56
    have M66 := mtn M60 c63 g57
    refine wnil (then_n (wp_seq ?_))
    refine rg_held [] (n := 8) (by kernel_rfl) rfl ?_
    intro w67 u68
    have M69 := mtu M64 u68
    have M70 := mtu M65 u68
    have M71 := mtu M66 u68
    refine hqk 0 7 rfl rfl (v := pt ua 0) (fun _ _ => mv) ?_
    have h72 := (up_ob u68 h62)
    refine hqk 1 6 rfl rfl (v := .agg #[I_ y45.t, I_ y45.w]) (fun _ uz => lds 0 Ty.ag24 Ty.sz24 (md_ob uz nin0 h72)) (hqk 3 5 rfl rfl (v := pt ub 0) (fun _ _ => mv) (hqk 4 4 rfl rfl (v := .agg #[I_ y45.t, I_ y45.w]) (fun _ uz => lds 0 Ty.ag24 Ty.sz24 (md_ob uz nin0 h72)) ?_))
    have h73 := (RIs.up ha (Mod.up M69))
    refine h1a 2 3 rfl (sca [pt ua 0, .agg #[I_ y45.t, I_ y45.w]] En.f78 (rhangs_at h73 y45.t y45.w) ?_)
    rintro e w74 ⟨rfl, u75⟩
    refine ⟨_, rfl, ?_⟩
    have M76 := mtu M69 u75
    have M77 := mtu M70 u75
    have M78 := mtu M71 u75
    refine hxu u75 ?_
    have h79 := (RIs.up hb (Mod.up M76))
    refine h1a 5 2 rfl (sca [pt ub 0, .agg #[I_ y45.t, I_ y45.w]] En.f78 (rhangs_at h79 y45.t y45.w) ?_)
    rintro e w80 ⟨rfl, u81⟩
    refine ⟨_, rfl, ?_⟩
    have M82 := mtu M76 u81
    have M83 := mtu M77 u81
    have M84 := mtu M78 u81
    refine hxu u81 (hqk 6 1 rfl rfl (v := B_ (hangsI La 301 ⟨y45.t, y45.w⟩)) (fun _ _ => r_assign (by kernel_rfl)) (hqk 7 0 rfl rfl (v := B_ (hangsI Lb 301 ⟨y45.t, y45.w⟩)) (fun _ _ => r_assign (by kernel_rfl)) ?_))
    refine hend (by kernel_rfl) ?_
    refine then_n (wp_seq (rg_lit (wmv (v := pt ua 0) ?_)))
    have h85 := (up_ob u81 (up_ob u75 h72))
    refine wlv (v := .agg #[I_ y45.t, I_ y45.w]) (lds 0 Ty.ag24 Ty.sz24 h85) ?_
    have h86 := (RIs.up ha (Mod.up M82))
    refine wl (sca [pt ua 0, .agg #[I_ y45.t, I_ y45.w]] En.f53 (ofD_at h86 (Nat.le_trans hB M82.size) hFa y45.t y45.w) ?_)
    rintro e w87 ⟨rfl, u88⟩
    refine ⟨_, rfl, ?_⟩
    have M89 := mtu M82 u88
    have M90 := mtu M83 u88
    have M91 := mtu M84 u88
    refine wmv (v := .tuple #[S_ (ofB La ⟨y45.t, y45.w⟩), I_ (ofK La ⟨y45.t, y45.w⟩)]) (wlv (v := S_ (ofB La ⟨y45.t, y45.w⟩)) (xt [S_ (ofB La ⟨y45.t, y45.w⟩), I_ (ofK La ⟨y45.t, y45.w⟩)]) (wlv (v := I_ (ofK La ⟨y45.t, y45.w⟩)) (xt [S_ (ofB La ⟨y45.t, y45.w⟩), I_ (ofK La ⟨y45.t, y45.w⟩)]) (was (v := S_ (ofB La ⟨y45.t, y45.w⟩)) (was (v := I_ (ofK La ⟨y45.t, y45.w⟩)) (wnil (then_n (wp_seq (rg_lit (wmv (v := pt ub 0) ?_)))))))))
    have h92 := (up_ob u88 h85)
    refine wlv (v := .agg #[I_ y45.t, I_ y45.w]) (lds 0 Ty.ag24 Ty.sz24 h92) ?_
    have h93 := (RIs.up hb (Mod.up M89))
    refine wl (sca [pt ub 0, .agg #[I_ y45.t, I_ y45.w]] En.f53 (ofD_at h93 (Nat.le_trans hB M89.size) hFb y45.t y45.w) ?_)
    rintro e w94 ⟨rfl, u95⟩
    refine ⟨_, rfl, ?_⟩
    have M96 := mtu M89 u95
    have M97 := mtu M90 u95
    have M98 := mtu M91 u95
    refine wmv (v := .tuple #[S_ (ofB Lb ⟨y45.t, y45.w⟩), I_ (ofK Lb ⟨y45.t, y45.w⟩)]) (wlv (v := S_ (ofB Lb ⟨y45.t, y45.w⟩)) (xt [S_ (ofB Lb ⟨y45.t, y45.w⟩), I_ (ofK Lb ⟨y45.t, y45.w⟩)]) (wlv (v := I_ (ofK Lb ⟨y45.t, y45.w⟩)) (xt [S_ (ofB Lb ⟨y45.t, y45.w⟩), I_ (ofK Lb ⟨y45.t, y45.w⟩)]) (was (v := S_ (ofB Lb ⟨y45.t, y45.w⟩)) (was (v := I_ (ofK Lb ⟨y45.t, y45.w⟩)) (wnil (then_n (wp_seq (rg_lit (wmv (v := pt ua 0) ?_)))))))))
    have h99 := (up_ob u95 h92)
    refine wlv (v := .agg #[I_ y45.t, I_ y45.w]) (lds 0 Ty.ag24 Ty.sz24 h99) ?_
    have h106 := (RIs.up ha (Mod.up M96))
    refine wl (sca [pt ua 0, .agg #[I_ y45.t, I_ y45.w]] En.f79 (rget_x h106 y45.t y45.w) ?_)
    rintro e w100 ⟨A101, n102, c103, rfl, h104, u105⟩
    refine ⟨_, rfl, ?_⟩
    have M107 := mtu M96 u105
    have M108 := mtu M97 u105
    have M109 := mtu M98 u105
    refine wmv (v := .tuple #[itV (gotI La ⟨y45.t, y45.w⟩) (.slice A101 n102 c103), B_ (hasI La ⟨y45.t, y45.w⟩)]) (wlv (v := itV (gotI La ⟨y45.t, y45.w⟩) (.slice A101 n102 c103)) (xt [itV (gotI La ⟨y45.t, y45.w⟩) (.slice A101 n102 c103), B_ (hasI La ⟨y45.t, y45.w⟩)]) (wlv (v := B_ (hasI La ⟨y45.t, y45.w⟩)) (xt [itV (gotI La ⟨y45.t, y45.w⟩) (.slice A101 n102 c103), B_ (hasI La ⟨y45.t, y45.w⟩)]) (wl (sn rfl (cs := #[I_ 0, I_ 0, I_ 0, I_ 0, S_ (⟨#[]⟩), B_ false, B_ false, .slice none 0 0, I_ 0, I_ 0]) (T := 127) (V := fun b => pt b 0) (r_alloc Ty.zv127 rfl) fun b110 w111 e112 h113 u114 => ?_))))
    have h119 := (up_ob u105 h99)
    have l120 := lsz e112 h119
    have g121 := gsz e112 M107
    have g122 := gsz e112 M108
    have g123 := gsz e112 M109
    have M124 := mtu M107 u114
    have M125 := mtu M108 u114
    have M126 := mtu M109 u114
    refine wl (ss rfl (k := 0) (v := itV (gotI La ⟨y45.t, y45.w⟩) (.slice A101 n102 c103)) (vs := (itC (gotI La ⟨y45.t, y45.w⟩) (.slice A101 n102 c103))) (cs' := (itC (gotI La ⟨y45.t, y45.w⟩) (.slice A101 n102 c103))) (by kernel_rfl) (by kernel_rfl) rfl Ty.sz127 h113 rfl (Nat.le_of_ble_eq_true rfl) rfl fun w127 h128 c129 => ?_)
    have M130 := mtn M124 c129 g121
    have M131 := mtn M125 c129 g122
    have M132 := mtn M126 c129 g123
    refine was (v := B_ (hasI La ⟨y45.t, y45.w⟩)) (wnil (then_n (wp_seq (rg_lit (wmv (v := pt ub 0) ?_)))))
    have h133 := (chg_ob c129 (Nat.ne_of_lt l120) (up_ob u114 h119))
    refine wlv (v := .agg #[I_ y45.t, I_ y45.w]) (lds 0 Ty.ag24 Ty.sz24 h133) ?_
    have h140 := (RIs.up hb (Mod.up M130))
    refine wl (sca [pt ub 0, .agg #[I_ y45.t, I_ y45.w]] En.f79 (rget_x h140 y45.t y45.w) ?_)
    rintro e w134 ⟨A135, n136, c137, rfl, h138, u139⟩
    refine ⟨_, rfl, ?_⟩
    have M141 := mtu M130 u139
    have M142 := mtu M131 u139
    have M143 := mtu M132 u139
    refine wmv (v := .tuple #[itV (gotI Lb ⟨y45.t, y45.w⟩) (.slice A135 n136 c137), B_ (hasI Lb ⟨y45.t, y45.w⟩)]) (wlv (v := itV (gotI Lb ⟨y45.t, y45.w⟩) (.slice A135 n136 c137)) (xt [itV (gotI Lb ⟨y45.t, y45.w⟩) (.slice A135 n136 c137), B_ (hasI Lb ⟨y45.t, y45.w⟩)]) (wlv (v := B_ (hasI Lb ⟨y45.t, y45.w⟩)) (xt [itV (gotI Lb ⟨y45.t, y45.w⟩) (.slice A135 n136 c137), B_ (hasI Lb ⟨y45.t, y45.w⟩)]) (wl (sn rfl (cs := #[I_ 0, I_ 0, I_ 0, I_ 0, S_ (⟨#[]⟩), B_ false, B_ false, .slice none 0 0, I_ 0, I_ 0]) (T := 127) (V := fun b => pt b 0) (r_alloc Ty.zv127 rfl) fun b144 w145 e146 h147 u148 => ?_))))
    have h153 := (up_ob u139 h133)
    have l154 := lsz e146 h153
    have h155 := (up_ob u139 h128)
    have l156 := lsz e146 h155
    have g157 := gsz e146 M141
    have g158 := gsz e146 M142
    have g159 := gsz e146 M143
    have M160 := mtu M141 u148
    have M161 := mtu M142 u148
    have M162 := mtu M143 u148
    refine wl (ss rfl (k := 0) (v := itV (gotI Lb ⟨y45.t, y45.w⟩) (.slice A135 n136 c137)) (vs := (itC (gotI Lb ⟨y45.t, y45.w⟩) (.slice A135 n136 c137))) (cs' := (itC (gotI Lb ⟨y45.t, y45.w⟩) (.slice A135 n136 c137))) (by kernel_rfl) (by kernel_rfl) rfl Ty.sz127 h147 rfl (Nat.le_of_ble_eq_true rfl) rfl fun w163 h164 c165 => ?_)
    have M166 := mtn M160 c165 g157
    have M167 := mtn M161 c165 g158
    have M168 := mtn M162 c165 g159
    refine was (v := B_ (hasI Lb ⟨y45.t, y45.w⟩)) (wnil (then_n (wp_block (wp_seq (rg_lit (wmv (v := B_ (hangsI La 301 ⟨y45.t, y45.w⟩)) (wlv (v := B_ (!(hangsI La 301 ⟨y45.t, y45.w⟩))) (r_not (b := (hangsI La 301 ⟨y45.t, y45.w⟩)) (by kernel_rfl)) (wmv (v := B_ (!(hangsI La 301 ⟨y45.t, y45.w⟩))) ?_))))))))
    refine bcase (hangsI La 301 ⟨y45.t, y45.w⟩) (fun v169 => ?_) (fun v169 => ?_)
    ·
     refine wlw rfl (bneg v169) (v := B_ (hangsI Lb 301 ⟨y45.t, y45.w⟩)) (mv) (wlv (v := B_ (hangsI Lb 301 ⟨y45.t, y45.w⟩)) (pkT (eb (bneg v169))) (was (v := B_ (hangsI Lb 301 ⟨y45.t, y45.w⟩)) (wnil (then_n ?_))))
     refine bcase (hangsI Lb 301 ⟨y45.t, y45.w⟩) (fun v170 => ?_) (fun v170 => ?_)
     ·
      refine wp_cond_false (eb v170) (wp_seq (rg_lit ?_))
      iterate 2 refine wmv (v := B_ (hangsI La 301 ⟨y45.t, y45.w⟩)) ?_
      iterate 2 refine wls rfl v169 ?_
      refine wlv (v := B_ false) (pkF (eb v169)) (was (v := B_ false) (wnil (then_n (wp_cond_false (by kernel_rfl) (wp_seq (rg_lit ?_))))))
      iterate 2 refine wmv (v := B_ (hangsI La 301 ⟨y45.t, y45.w⟩)) ?_
      refine wls rfl v169 (wlv (v := B_ false) (pkF (eb v169)) (wmv (v := B_ false) ?_))
      iterate 3 refine wsp ?_
      refine wlv (v := B_ false) (pkF (by kernel_rfl)) (was (v := B_ false) (wnil (then_n (wp_cond_false (by kernel_rfl) (wp_seq (rg_lit ?_))))))
      iterate 2 refine wmv (v := B_ (hangsI La 301 ⟨y45.t, y45.w⟩)) ?_
      refine wls rfl v169 (wlv (v := B_ false) (pkF (eb v169)) (wmv (v := B_ false) ?_))
      iterate 13 refine wsp ?_
      refine wlv (v := B_ false) (pkF (by kernel_rfl)) (was (v := B_ false) (wnil (then_n (wp_cond_false (by kernel_rfl) (wp_skip (inb_n (inb_n (then_n (rg_lit (wmv (v := I_ i) (wlv (v := I_ ((i + 1 : Nat) : Int)) (adI (c := ((i + 1 : Nat) : Int)) i 1 ((IntWalk.i64_in _ (by omega)).trans (by omega))) (was (v := I_ ((i + 1 : Nat) : Int)) (wnil (then_n ?_))))))))))))))
      have h171 := (CRow.up hF3_2 (up_chgn (up_up (up_up (up_chgn (up_up (up_up (up_up (up_up (up_up (up_up (up_up (up_chgn u50 c63 (by rw [e48]; exact Nat.le_refl _)) u68) u75) u81) u88) u95) u105) u114) c129 (by rw [e112]; exact (up_up (up_up (up_up (up_up (up_up (up_up (up_chgn u50 c63 (by rw [e48]; exact Nat.le_refl _)) u68) u75) u81) u88) u95) u105).size)) u139) u148) c165 (by rw [e146]; exact (up_up (up_chgn (up_up (up_up (up_up (up_up (up_up (up_up (up_up (up_chgn u50 c63 (by rw [e48]; exact Nat.le_refl _)) u68) u75) u81) u88) u95) u105) u114) c129 (by rw [e112]; exact (up_up (up_up (up_up (up_up (up_up (up_up (up_chgn u50 c63 (by rw [e48]; exact Nat.le_refl _)) u68) u75) u81) u88) u95) u105).size)) u139).size)))
      refine ⟨D.length - (i + 1), ?_, (i + 1), out, oA, oc, rfl, hmk, M168, (by omega), (by rw [ho1]; exact chgs_no hy45 rfl rfl (kind_0 (a := sideP La y45) (b := sideP Lb y45) v169 v170)), h171⟩
      · omega
     refine wp_cond_true (eb v170) (rg_lit (wmv (v := .slice oA out.length oc) ?_))
     have h171 := (chg_ob c165 (Nat.ne_of_lt l154) (up_ob u148 h153))
     refine wlv (v := .agg #[I_ y45.t, I_ y45.w]) (lds 0 Ty.ag24 Ty.sz24 h171) (wmv (v := S_ (ofB Lb ⟨y45.t, y45.w⟩)) (wlv (v := .agg #[I_ 1, I_ y45.t, I_ y45.w, S_ (⟨#[]⟩), S_ (ofB Lb ⟨y45.t, y45.w⟩)]) (r_build (ps := [(0, I_ 1), (1, .agg #[I_ y45.t, I_ y45.w]), (3, S_ (ofB Lb ⟨y45.t, y45.w⟩))]) (cs := [I_ 1, I_ y45.t, I_ y45.w, S_ (⟨#[]⟩), S_ (ofB Lb ⟨y45.t, y45.w⟩)]) Ty.un117 Ty.zv117 Ty.pl117 (by kernel_rfl) (by kernel_rfl)) (wl (sn rfl (cs := #[I_ 1, I_ y45.t, I_ y45.w, S_ (⟨#[]⟩), S_ (ofB Lb ⟨y45.t, y45.w⟩)]) (T := 117) (V := fun b => sl b 0 1 1) (r_buildSlice (n := 1) (ps := [(0, .agg #[I_ 1, I_ y45.t, I_ y45.w, S_ (⟨#[]⟩), S_ (ofB Lb ⟨y45.t, y45.w⟩)])]) Ty.un52 Ty.sz117 Ty.zv117 (by decide) (by decide) (by kernel_rfl) (by kernel_rfl)) fun b172 w173 e174 h175 u176 => ?_))))
     have h177 := md_ob M166 nin0 hva
     have l178 := lsz e174 h177
     have h179 := md_ob M166 nin0 hvb
     have l180 := lsz e174 h179
     have l181 := lsz e174 h171
     have h182 := (chg_ob c165 (Nat.ne_of_lt l156) (up_ob u148 h155))
     have l183 := lsz e174 h182
     have l184 := lsz e174 h164
     have g185 := gsz e174 M166
     have g186 := gsz e174 M167
     have g187 := gsz e174 M168
     have M188 := mtu M166 u176
     have M189 := mtu M167 u176
     have M190 := mtu M168 u176
     have h191 := (CRow.up hF3_2 (up_up (up_chgn (up_up (up_up (up_chgn (up_up (up_up (up_up (up_up (up_up (up_up (up_up (up_chgn u50 c63 (by rw [e48]; exact Nat.le_refl _)) u68) u75) u81) u88) u95) u105) u114) c129 (by rw [e112]; exact (up_up (up_up (up_up (up_up (up_up (up_up (up_chgn u50 c63 (by rw [e48]; exact Nat.le_refl _)) u68) u75) u81) u88) u95) u105).size)) u139) u148) c165 (by rw [e146]; exact (up_up (up_chgn (up_up (up_up (up_up (up_up (up_up (up_up (up_up (up_chgn u50 c63 (by rw [e48]; exact Nat.le_refl _)) u68) u75) u81) u88) u95) u105) u114) c129 (by rw [e112]; exact (up_up (up_up (up_up (up_up (up_up (up_up (up_chgn u50 c63 (by rw [e48]; exact Nat.le_refl _)) u68) u75) u81) u88) u95) u105).size)) u139).size)) u176))
     refine wl (snC ch5_b rfl (L := out) (x := (⟨1, y45, ⟨#[]⟩, (ofB Lb ⟨y45.t, y45.w⟩)⟩ : ChgD)) (by kernel_rfl) (by kernel_rfl) h191 Ty.un52 h175 M190.size (by omega) fun A192 c193 w194 h195 u196 => ?_)
     have M197 := Mod.trans' M188 u196 (fun k hk => Nat.le_trans M27.size (h191.own k hk).1)
     have M198 := Mod.trans' M189 u196 (fun k hk => Nat.le_trans M28.size (h191.own k hk).1)
     have M199 := Mod.trans' M190 u196 (fun k hk => Nat.le_trans (Nat.le_refl _) (h191.own k hk).1)
     refine was (v := .slice A192 ((out ++ [(⟨1, y45, ⟨#[]⟩, (ofB Lb ⟨y45.t, y45.w⟩)⟩ : ChgD)]).length) c193) (wnil (inb_n (inb_n (then_n (rg_lit (wmv (v := I_ i) (wlv (v := I_ ((i + 1 : Nat) : Int)) (adI (c := ((i + 1 : Nat) : Int)) i 1 ((IntWalk.i64_in _ (by omega)).trans (by omega))) (was (v := I_ ((i + 1 : Nat) : Int)) (wnil (then_n ?_))))))))))
     refine ⟨D.length - (i + 1), ?_, (i + 1), (out ++ [(⟨1, y45, ⟨#[]⟩, (ofB Lb ⟨y45.t, y45.w⟩)⟩ : ChgD)]), A192, c193, rfl, hmk, M199, (by omega), (by rw [ho1]; exact chgD_of hy45 (by decide) (kind_1 (a := sideP La y45) (b := sideP Lb y45) v169 v170) (of_no v169).1.symm rfl), h195⟩
     · omega
    refine wls rfl (bneg v169) (wlv (v := B_ false) (pkF (eb (bneg v169))) (was (v := B_ false) (wnil (then_n (wp_cond_false (by kernel_rfl) (wp_seq (rg_lit ?_)))))))
    iterate 2 refine wmv (v := B_ (hangsI La 301 ⟨y45.t, y45.w⟩)) ?_
    refine wlw rfl v169 (v := B_ (hangsI Lb 301 ⟨y45.t, y45.w⟩)) (mv) (wlw rfl v169 (v := B_ (!(hangsI Lb 301 ⟨y45.t, y45.w⟩))) (r_not (b := (hangsI Lb 301 ⟨y45.t, y45.w⟩)) (by kernel_rfl)) (wlv (v := B_ (!(hangsI Lb 301 ⟨y45.t, y45.w⟩))) (pkT (eb v169)) (was (v := B_ (!(hangsI Lb 301 ⟨y45.t, y45.w⟩))) (wnil (then_n ?_)))))
    refine bcase (hangsI Lb 301 ⟨y45.t, y45.w⟩) (fun v170 => ?_) (fun v170 => ?_)
    ·
     refine wp_cond_true (eb (bneg v170)) (rg_lit (wmv (v := .slice oA out.length oc) ?_))
     have h171 := (chg_ob c165 (Nat.ne_of_lt l154) (up_ob u148 h153))
     refine wlv (v := .agg #[I_ y45.t, I_ y45.w]) (lds 0 Ty.ag24 Ty.sz24 h171) (wmv (v := S_ (ofB La ⟨y45.t, y45.w⟩)) (wlv (v := .agg #[I_ 2, I_ y45.t, I_ y45.w, S_ (ofB La ⟨y45.t, y45.w⟩), S_ (⟨#[]⟩)]) (r_build (ps := [(0, I_ 2), (1, .agg #[I_ y45.t, I_ y45.w]), (2, S_ (ofB La ⟨y45.t, y45.w⟩))]) (cs := [I_ 2, I_ y45.t, I_ y45.w, S_ (ofB La ⟨y45.t, y45.w⟩), S_ (⟨#[]⟩)]) Ty.un117 Ty.zv117 Ty.pl117 (by kernel_rfl) (by kernel_rfl)) (wl (sn rfl (cs := #[I_ 2, I_ y45.t, I_ y45.w, S_ (ofB La ⟨y45.t, y45.w⟩), S_ (⟨#[]⟩)]) (T := 117) (V := fun b => sl b 0 1 1) (r_buildSlice (n := 1) (ps := [(0, .agg #[I_ 2, I_ y45.t, I_ y45.w, S_ (ofB La ⟨y45.t, y45.w⟩), S_ (⟨#[]⟩)])]) Ty.un52 Ty.sz117 Ty.zv117 (by decide) (by decide) (by kernel_rfl) (by kernel_rfl)) fun b172 w173 e174 h175 u176 => ?_))))
     have h177 := md_ob M166 nin0 hva
     have l178 := lsz e174 h177
     have h179 := md_ob M166 nin0 hvb
     have l180 := lsz e174 h179
     have l181 := lsz e174 h171
     have h182 := (chg_ob c165 (Nat.ne_of_lt l156) (up_ob u148 h155))
     have l183 := lsz e174 h182
     have l184 := lsz e174 h164
     have g185 := gsz e174 M166
     have g186 := gsz e174 M167
     have g187 := gsz e174 M168
     have M188 := mtu M166 u176
     have M189 := mtu M167 u176
     have M190 := mtu M168 u176
     have h191 := (CRow.up hF3_2 (up_up (up_chgn (up_up (up_up (up_chgn (up_up (up_up (up_up (up_up (up_up (up_up (up_up (up_chgn u50 c63 (by rw [e48]; exact Nat.le_refl _)) u68) u75) u81) u88) u95) u105) u114) c129 (by rw [e112]; exact (up_up (up_up (up_up (up_up (up_up (up_up (up_chgn u50 c63 (by rw [e48]; exact Nat.le_refl _)) u68) u75) u81) u88) u95) u105).size)) u139) u148) c165 (by rw [e146]; exact (up_up (up_chgn (up_up (up_up (up_up (up_up (up_up (up_up (up_up (up_chgn u50 c63 (by rw [e48]; exact Nat.le_refl _)) u68) u75) u81) u88) u95) u105) u114) c129 (by rw [e112]; exact (up_up (up_up (up_up (up_up (up_up (up_up (up_chgn u50 c63 (by rw [e48]; exact Nat.le_refl _)) u68) u75) u81) u88) u95) u105).size)) u139).size)) u176))
     refine wl (snC ch5_b rfl (L := out) (x := (⟨2, y45, (ofB La ⟨y45.t, y45.w⟩), ⟨#[]⟩⟩ : ChgD)) (by kernel_rfl) (by kernel_rfl) h191 Ty.un52 h175 M190.size (by omega) fun A192 c193 w194 h195 u196 => ?_)
     have M197 := Mod.trans' M188 u196 (fun k hk => Nat.le_trans M27.size (h191.own k hk).1)
     have M198 := Mod.trans' M189 u196 (fun k hk => Nat.le_trans M28.size (h191.own k hk).1)
     have M199 := Mod.trans' M190 u196 (fun k hk => Nat.le_trans (Nat.le_refl _) (h191.own k hk).1)
     refine was (v := .slice A192 ((out ++ [(⟨2, y45, (ofB La ⟨y45.t, y45.w⟩), ⟨#[]⟩⟩ : ChgD)]).length) c193) (wnil (inb_n (inb_n (then_n (rg_lit (wmv (v := I_ i) (wlv (v := I_ ((i + 1 : Nat) : Int)) (adI (c := ((i + 1 : Nat) : Int)) i 1 ((IntWalk.i64_in _ (by omega)).trans (by omega))) (was (v := I_ ((i + 1 : Nat) : Int)) (wnil (then_n ?_))))))))))
     refine ⟨D.length - (i + 1), ?_, (i + 1), (out ++ [(⟨2, y45, (ofB La ⟨y45.t, y45.w⟩), ⟨#[]⟩⟩ : ChgD)]), A192, c193, rfl, hmk, M199, (by omega), (by rw [ho1]; exact chgD_of hy45 (by decide) (kind_2 (a := sideP La y45) (b := sideP Lb y45) v169 v170) rfl (of_no v170).1.symm), h195⟩
     · omega
    refine wp_cond_false (eb (bneg v170)) (wp_seq (rg_lit ?_))
    iterate 2 refine wmv (v := B_ (hangsI La 301 ⟨y45.t, y45.w⟩)) ?_
    refine wlw rfl v169 (v := B_ (hangsI Lb 301 ⟨y45.t, y45.w⟩)) (mv) (wlv (v := B_ (hangsI Lb 301 ⟨y45.t, y45.w⟩)) (pkT (eb v169)) (wmv (v := B_ (hangsI Lb 301 ⟨y45.t, y45.w⟩)) (wlw rfl v170 (v := S_ (ofB La ⟨y45.t, y45.w⟩)) (mv) (wlw rfl v170 (v := S_ (ofB Lb ⟨y45.t, y45.w⟩)) (mv) (wl (sb (wt (b := (hangsI Lb 301 ⟨y45.t, y45.w⟩)) rfl (by kernel_rfl) v170) (r_nes (m := (ofB La ⟨y45.t, y45.w⟩)) (n := (ofB Lb ⟨y45.t, y45.w⟩)) (by kernel_rfl) (by kernel_rfl)) fun b171 k172 => wlv (v := B_ b171) (pkT (eb v170)) (was (v := B_ b171) (wnil (then_n ?_)))))))))
    refine bcd k172 (fun v173 p174 => ?_) (fun v173 p174 => ?_)
    ·
     refine wp_cond_false (eb v173) (wp_seq (rg_lit ?_))
     iterate 2 refine wmv (v := B_ (hangsI La 301 ⟨y45.t, y45.w⟩)) ?_
     refine wlw rfl v169 (v := B_ (hangsI Lb 301 ⟨y45.t, y45.w⟩)) (mv) (wlv (v := B_ (hangsI Lb 301 ⟨y45.t, y45.w⟩)) (pkT (eb v169)) (wmv (v := B_ (hangsI Lb 301 ⟨y45.t, y45.w⟩)) (wlw rfl v170 (v := pt b110 8) (fa (pt b110 0)) ?_)))
     have h175 := (chg_ob c165 (Nat.ne_of_lt l156) (up_ob u148 h155))
     refine wlw rfl v170 (v := .agg #[I_ ((gotI La ⟨y45.t, y45.w⟩).by_.t), I_ ((gotI La ⟨y45.t, y45.w⟩).by_.w)]) (lds 8 Ty.ag24 Ty.sz24 h175) (wlw rfl v170 (v := pt b144 8) (fa (pt b144 0)) (wlw rfl v170 (v := .agg #[I_ ((gotI Lb ⟨y45.t, y45.w⟩).by_.t), I_ ((gotI Lb ⟨y45.t, y45.w⟩).by_.w)]) (lds 8 Ty.ag24 Ty.sz24 h164) (wl (sb (wt (b := (hangsI Lb 301 ⟨y45.t, y45.w⟩)) rfl (by kernel_rfl) v170) (r_neS2 (a := ((gotI La ⟨y45.t, y45.w⟩).by_.t)) (b := ((gotI La ⟨y45.t, y45.w⟩).by_.w)) (c := ((gotI Lb ⟨y45.t, y45.w⟩).by_.t)) (e := ((gotI Lb ⟨y45.t, y45.w⟩).by_.w)) (by kernel_rfl) (by kernel_rfl)) fun b176 k177 => wlw rfl v170 (v := B_ b176) (mv) ?_))))
     refine bcd k177 (fun v178 p179 => ?_) (fun v178 p179 => ?_)
     ·
      refine wlw rfl v178 (v := pt b110 7) (fa (pt b110 0)) (wlw rfl v178 (v := .slice A101 n102 c103) (ld 7 Ty.ag40 h175) (wlw rfl v178 (v := pt b144 7) (fa (pt b144 0)) (wlw rfl v178 (v := .slice A135 n136 c137) (ld 7 Ty.ag40 h164) ?_)))
      have h180 := (Dat.up h104 (up_chgn (up_up (up_up (up_chgn u114 c129 (by rw [e112]; exact Nat.le_refl _)) u139) u148) c165 (by rw [e146]; exact (up_up (up_chgn u114 c129 (by rw [e112]; exact Nat.le_refl _)) u139).size)))
      have h181 := (Dat.up h138 (up_chgn u148 c165 (by rw [e146]; exact Nat.le_refl _)))
      refine wl (sc (wt (b := b176) rfl (by kernel_rfl) v178) (r_callv (caps := []) (all := [.slice A101 n102 c103, .slice A135 n136 c137]) En.f80 (by kernel_rfl) (by kernel_rfl)) (r01same_at h180 h181) ?_)
      rintro e w182 ⟨rfl, u183⟩
      refine ⟨_, rfl, ?_⟩
      have M184 := mtu M166 u183
      have M185 := mtu M167 u183
      have M186 := mtu M168 u183
      refine wlw rfl v178 (v := B_ (!(decide ((gotI La ⟨y45.t, y45.w⟩).data = (gotI Lb ⟨y45.t, y45.w⟩).data)))) (r_not (b := (decide ((gotI La ⟨y45.t, y45.w⟩).data = (gotI Lb ⟨y45.t, y45.w⟩).data))) (by kernel_rfl)) (wlw rfl v170 (v := B_ (!(decide ((gotI La ⟨y45.t, y45.w⟩).data = (gotI Lb ⟨y45.t, y45.w⟩).data)))) (pkF (eb v178)) (wlv (v := B_ (!(decide ((gotI La ⟨y45.t, y45.w⟩).data = (gotI Lb ⟨y45.t, y45.w⟩).data)))) (pkT (eb v170)) (was (v := B_ (!(decide ((gotI La ⟨y45.t, y45.w⟩).data = (gotI Lb ⟨y45.t, y45.w⟩).data)))) (wnil (then_n ?_)))))
      refine bcase (decide ((gotI La ⟨y45.t, y45.w⟩).data = (gotI Lb ⟨y45.t, y45.w⟩).data)) (fun v187 => ?_) (fun v187 => ?_)
      ·
       refine wp_cond_true (eb (bneg v187)) (rg_lit (wmv (v := .slice oA out.length oc) ?_))
       have h188 := (up_ob u183 (chg_ob c165 (Nat.ne_of_lt l154) (up_ob u148 h153)))
       refine wlv (v := .agg #[I_ y45.t, I_ y45.w]) (lds 0 Ty.ag24 Ty.sz24 h188) (wmv (v := S_ (ofB La ⟨y45.t, y45.w⟩)) (wmv (v := S_ (ofB Lb ⟨y45.t, y45.w⟩)) (wlv (v := .agg #[I_ 4, I_ y45.t, I_ y45.w, S_ (ofB La ⟨y45.t, y45.w⟩), S_ (ofB Lb ⟨y45.t, y45.w⟩)]) (r_build (ps := [(0, I_ 4), (1, .agg #[I_ y45.t, I_ y45.w]), (2, S_ (ofB La ⟨y45.t, y45.w⟩)), (3, S_ (ofB Lb ⟨y45.t, y45.w⟩))]) (cs := [I_ 4, I_ y45.t, I_ y45.w, S_ (ofB La ⟨y45.t, y45.w⟩), S_ (ofB Lb ⟨y45.t, y45.w⟩)]) Ty.un117 Ty.zv117 Ty.pl117 (by kernel_rfl) (by kernel_rfl)) (wl (sn rfl (cs := #[I_ 4, I_ y45.t, I_ y45.w, S_ (ofB La ⟨y45.t, y45.w⟩), S_ (ofB Lb ⟨y45.t, y45.w⟩)]) (T := 117) (V := fun b => sl b 0 1 1) (r_buildSlice (n := 1) (ps := [(0, .agg #[I_ 4, I_ y45.t, I_ y45.w, S_ (ofB La ⟨y45.t, y45.w⟩), S_ (ofB Lb ⟨y45.t, y45.w⟩)])]) Ty.un52 Ty.sz117 Ty.zv117 (by decide) (by decide) (by kernel_rfl) (by kernel_rfl)) fun b189 w190 e191 h192 u193 => ?_)))))
       have h199 := (up_ob u183 h175)
       have M206 := mtu M184 u193
       have M207 := mtu M185 u193
       have M208 := mtu M186 u193
       have h209 := (CRow.up hF3_2 (up_up (up_up (up_chgn (up_up (up_up (up_chgn (up_up (up_up (up_up (up_up (up_up (up_up (up_up (up_chgn u50 c63 (by rw [e48]; exact Nat.le_refl _)) u68) u75) u81) u88) u95) u105) u114) c129 (by rw [e112]; exact (up_up (up_up (up_up (up_up (up_up (up_up (up_chgn u50 c63 (by rw [e48]; exact Nat.le_refl _)) u68) u75) u81) u88) u95) u105).size)) u139) u148) c165 (by rw [e146]; exact (up_up (up_chgn (up_up (up_up (up_up (up_up (up_up (up_up (up_up (up_chgn u50 c63 (by rw [e48]; exact Nat.le_refl _)) u68) u75) u81) u88) u95) u105) u114) c129 (by rw [e112]; exact (up_up (up_up (up_up (up_up (up_up (up_up (up_chgn u50 c63 (by rw [e48]; exact Nat.le_refl _)) u68) u75) u81) u88) u95) u105).size)) u139).size)) u183) u193))
       refine wl (snC ch5_b rfl (L := out) (x := (⟨4, y45, (ofB La ⟨y45.t, y45.w⟩), (ofB Lb ⟨y45.t, y45.w⟩)⟩ : ChgD)) (by kernel_rfl) (by kernel_rfl) h209 Ty.un52 h192 M208.size (by omega) fun A210 c211 w212 h213 u214 => ?_)
       have M217 := Mod.trans' M208 u214 (fun k hk => Nat.le_trans (Nat.le_refl _) (h209.own k hk).1)
       refine was (v := .slice A210 ((out ++ [(⟨4, y45, (ofB La ⟨y45.t, y45.w⟩), (ofB Lb ⟨y45.t, y45.w⟩)⟩ : ChgD)]).length) c211) (wnil (inb_n (inb_n (then_n (rg_lit (wmv (v := I_ i) (wlv (v := I_ ((i + 1 : Nat) : Int)) (adI (c := ((i + 1 : Nat) : Int)) i 1 ((IntWalk.i64_in _ (by omega)).trans (by omega))) (was (v := I_ ((i + 1 : Nat) : Int)) (wnil (then_n ?_))))))))))
       refine ⟨D.length - (i + 1), ?_, (i + 1), (out ++ [(⟨4, y45, (ofB La ⟨y45.t, y45.w⟩), (ofB Lb ⟨y45.t, y45.w⟩)⟩ : ChgD)]), A210, c211, rfl, hmk, M217, (by omega), (by rw [ho1]; exact chgD_of hy45 (by decide) (kind_4 (a := sideP La y45) (b := sideP Lb y45) v169 v170 (Decidable.not_not.1 p174) (.inr (of_decide_eq_false v187))) rfl rfl), h213⟩
       · omega
      refine wp_cond_false (eb (bneg v187)) (wp_skip (inb_n (inb_n (then_n (rg_lit (wmv (v := I_ i) (wlv (v := I_ ((i + 1 : Nat) : Int)) (adI (c := ((i + 1 : Nat) : Int)) i 1 ((IntWalk.i64_in _ (by omega)).trans (by omega))) (was (v := I_ ((i + 1 : Nat) : Int)) (wnil (then_n ?_))))))))))
      have h188 := (CRow.up hF3_2 (up_up (up_chgn (up_up (up_up (up_chgn (up_up (up_up (up_up (up_up (up_up (up_up (up_up (up_chgn u50 c63 (by rw [e48]; exact Nat.le_refl _)) u68) u75) u81) u88) u95) u105) u114) c129 (by rw [e112]; exact (up_up (up_up (up_up (up_up (up_up (up_up (up_chgn u50 c63 (by rw [e48]; exact Nat.le_refl _)) u68) u75) u81) u88) u95) u105).size)) u139) u148) c165 (by rw [e146]; exact (up_up (up_chgn (up_up (up_up (up_up (up_up (up_up (up_up (up_up (up_chgn u50 c63 (by rw [e48]; exact Nat.le_refl _)) u68) u75) u81) u88) u95) u105) u114) c129 (by rw [e112]; exact (up_up (up_up (up_up (up_up (up_up (up_up (up_chgn u50 c63 (by rw [e48]; exact Nat.le_refl _)) u68) u75) u81) u88) u95) u105).size)) u139).size)) u183))
      refine ⟨D.length - (i + 1), ?_, (i + 1), out, oA, oc, rfl, hmk, M186, (by omega), (by rw [ho1]; exact chgs_no hy45 rfl rfl (kind_5 (a := sideP La y45) (b := sideP Lb y45) v169 v170 (Decidable.not_not.1 p174) (Decidable.not_not.1 p179) (of_decide_eq_true v187))), h188⟩
      · omega
     iterate 6 refine wls rfl v178 ?_
     refine wlw rfl v170 (v := B_ true) (pkT (eb v178)) (wlv (v := B_ true) (pkT (eb v170)) (was (v := B_ true) (wnil (then_n (wp_cond_true (by kernel_rfl) (rg_lit (wmv (v := .slice oA out.length oc) ?_)))))))
     have h180 := (chg_ob c165 (Nat.ne_of_lt l154) (up_ob u148 h153))
     refine wlv (v := .agg #[I_ y45.t, I_ y45.w]) (lds 0 Ty.ag24 Ty.sz24 h180) (wmv (v := S_ (ofB La ⟨y45.t, y45.w⟩)) (wmv (v := S_ (ofB Lb ⟨y45.t, y45.w⟩)) (wlv (v := .agg #[I_ 4, I_ y45.t, I_ y45.w, S_ (ofB La ⟨y45.t, y45.w⟩), S_ (ofB Lb ⟨y45.t, y45.w⟩)]) (r_build (ps := [(0, I_ 4), (1, .agg #[I_ y45.t, I_ y45.w]), (2, S_ (ofB La ⟨y45.t, y45.w⟩)), (3, S_ (ofB Lb ⟨y45.t, y45.w⟩))]) (cs := [I_ 4, I_ y45.t, I_ y45.w, S_ (ofB La ⟨y45.t, y45.w⟩), S_ (ofB Lb ⟨y45.t, y45.w⟩)]) Ty.un117 Ty.zv117 Ty.pl117 (by kernel_rfl) (by kernel_rfl)) (wl (sn rfl (cs := #[I_ 4, I_ y45.t, I_ y45.w, S_ (ofB La ⟨y45.t, y45.w⟩), S_ (ofB Lb ⟨y45.t, y45.w⟩)]) (T := 117) (V := fun b => sl b 0 1 1) (r_buildSlice (n := 1) (ps := [(0, .agg #[I_ 4, I_ y45.t, I_ y45.w, S_ (ofB La ⟨y45.t, y45.w⟩), S_ (ofB Lb ⟨y45.t, y45.w⟩)])]) Ty.un52 Ty.sz117 Ty.zv117 (by decide) (by decide) (by kernel_rfl) (by kernel_rfl)) fun b181 w182 e183 h184 u185 => ?_)))))
     have h186 := md_ob M166 nin0 hva
     have l187 := lsz e183 h186
     have h188 := md_ob M166 nin0 hvb
     have M197 := mtu M167 u185
     have M198 := mtu M168 u185
     have h199 := (CRow.up hF3_2 (up_up (up_chgn (up_up (up_up (up_chgn (up_up (up_up (up_up (up_up (up_up (up_up (up_up (up_chgn u50 c63 (by rw [e48]; exact Nat.le_refl _)) u68) u75) u81) u88) u95) u105) u114) c129 (by rw [e112]; exact (up_up (up_up (up_up (up_up (up_up (up_up (up_chgn u50 c63 (by rw [e48]; exact Nat.le_refl _)) u68) u75) u81) u88) u95) u105).size)) u139) u148) c165 (by rw [e146]; exact (up_up (up_chgn (up_up (up_up (up_up (up_up (up_up (up_up (up_up (up_chgn u50 c63 (by rw [e48]; exact Nat.le_refl _)) u68) u75) u81) u88) u95) u105) u114) c129 (by rw [e112]; exact (up_up (up_up (up_up (up_up (up_up (up_up (up_chgn u50 c63 (by rw [e48]; exact Nat.le_refl _)) u68) u75) u81) u88) u95) u105).size)) u139).size)) u185))
     refine wl (snC ch5_b rfl (L := out) (x := (⟨4, y45, (ofB La ⟨y45.t, y45.w⟩), (ofB Lb ⟨y45.t, y45.w⟩)⟩ : ChgD)) (by kernel_rfl) (by kernel_rfl) h199 Ty.un52 h184 M198.size (by omega) fun A200 c201 w202 h203 u204 => ?_)
     have M206 := Mod.trans' M197 u204 (fun k hk => Nat.le_trans M28.size (h199.own k hk).1)
     have M207 := Mod.trans' M198 u204 (fun k hk => Nat.le_trans (Nat.le_refl _) (h199.own k hk).1)
     refine was (v := .slice A200 ((out ++ [(⟨4, y45, (ofB La ⟨y45.t, y45.w⟩), (ofB Lb ⟨y45.t, y45.w⟩)⟩ : ChgD)]).length) c201) (wnil (inb_n (inb_n (then_n (rg_lit (wmv (v := I_ i) (wlv (v := I_ ((i + 1 : Nat) : Int)) (adI (c := ((i + 1 : Nat) : Int)) i 1 ((IntWalk.i64_in _ (by omega)).trans (by omega))) (was (v := I_ ((i + 1 : Nat) : Int)) (wnil (then_n ?_))))))))))
     refine ⟨D.length - (i + 1), ?_, (i + 1), (out ++ [(⟨4, y45, (ofB La ⟨y45.t, y45.w⟩), (ofB Lb ⟨y45.t, y45.w⟩)⟩ : ChgD)]), A200, c201, rfl, hmk, M207, (by omega), (by rw [ho1]; exact chgD_of hy45 (by decide) (kind_4 (a := sideP La y45) (b := sideP Lb y45) v169 v170 (Decidable.not_not.1 p174) (.inl p179)) rfl rfl), h203⟩
     · omega
    refine wp_cond_true (eb v173) (rg_lit (wmv (v := .slice oA out.length oc) ?_))
    have h175 := (chg_ob c165 (Nat.ne_of_lt l154) (up_ob u148 h153))
    refine wlv (v := .agg #[I_ y45.t, I_ y45.w]) (lds 0 Ty.ag24 Ty.sz24 h175) (wmv (v := S_ (ofB La ⟨y45.t, y45.w⟩)) (wmv (v := S_ (ofB Lb ⟨y45.t, y45.w⟩)) (wlv (v := .agg #[I_ 3, I_ y45.t, I_ y45.w, S_ (ofB La ⟨y45.t, y45.w⟩), S_ (ofB Lb ⟨y45.t, y45.w⟩)]) (r_build (ps := [(0, I_ 3), (1, .agg #[I_ y45.t, I_ y45.w]), (2, S_ (ofB La ⟨y45.t, y45.w⟩)), (3, S_ (ofB Lb ⟨y45.t, y45.w⟩))]) (cs := [I_ 3, I_ y45.t, I_ y45.w, S_ (ofB La ⟨y45.t, y45.w⟩), S_ (ofB Lb ⟨y45.t, y45.w⟩)]) Ty.un117 Ty.zv117 Ty.pl117 (by kernel_rfl) (by kernel_rfl)) (wl (sn rfl (cs := #[I_ 3, I_ y45.t, I_ y45.w, S_ (ofB La ⟨y45.t, y45.w⟩), S_ (ofB Lb ⟨y45.t, y45.w⟩)]) (T := 117) (V := fun b => sl b 0 1 1) (r_buildSlice (n := 1) (ps := [(0, .agg #[I_ 3, I_ y45.t, I_ y45.w, S_ (ofB La ⟨y45.t, y45.w⟩), S_ (ofB Lb ⟨y45.t, y45.w⟩)])]) Ty.un52 Ty.sz117 Ty.zv117 (by decide) (by decide) (by kernel_rfl) (by kernel_rfl)) fun b176 w177 e178 h179 u180 => ?_)))))
    have h181 := md_ob M166 nin0 hva
    have h183 := md_ob M166 nin0 hvb
    have l184 := lsz e178 h183
    have h186 := (chg_ob c165 (Nat.ne_of_lt l156) (up_ob u148 h155))
    have l187 := lsz e178 h186
    have M194 := mtu M168 u180
    have h195 := (CRow.up hF3_2 (up_up (up_chgn (up_up (up_up (up_chgn (up_up (up_up (up_up (up_up (up_up (up_up (up_up (up_chgn u50 c63 (by rw [e48]; exact Nat.le_refl _)) u68) u75) u81) u88) u95) u105) u114) c129 (by rw [e112]; exact (up_up (up_up (up_up (up_up (up_up (up_up (up_chgn u50 c63 (by rw [e48]; exact Nat.le_refl _)) u68) u75) u81) u88) u95) u105).size)) u139) u148) c165 (by rw [e146]; exact (up_up (up_chgn (up_up (up_up (up_up (up_up (up_up (up_up (up_up (up_chgn u50 c63 (by rw [e48]; exact Nat.le_refl _)) u68) u75) u81) u88) u95) u105) u114) c129 (by rw [e112]; exact (up_up (up_up (up_up (up_up (up_up (up_up (up_chgn u50 c63 (by rw [e48]; exact Nat.le_refl _)) u68) u75) u81) u88) u95) u105).size)) u139).size)) u180))
    refine wl (snC ch5_b rfl (L := out) (x := (⟨3, y45, (ofB La ⟨y45.t, y45.w⟩), (ofB Lb ⟨y45.t, y45.w⟩)⟩ : ChgD)) (by kernel_rfl) (by kernel_rfl) h195 Ty.un52 h179 M194.size (by omega) fun A196 c197 w198 h199 u200 => ?_)
    have M203 := Mod.trans' M194 u200 (fun k hk => Nat.le_trans (Nat.le_refl _) (h195.own k hk).1)
    refine was (v := .slice A196 ((out ++ [(⟨3, y45, (ofB La ⟨y45.t, y45.w⟩), (ofB Lb ⟨y45.t, y45.w⟩)⟩ : ChgD)]).length) c197) (wnil (inb_n (inb_n (then_n (rg_lit (wmv (v := I_ i) (wlv (v := I_ ((i + 1 : Nat) : Int)) (adI (c := ((i + 1 : Nat) : Int)) i 1 ((IntWalk.i64_in _ (by omega)).trans (by omega))) (was (v := I_ ((i + 1 : Nat) : Int)) (wnil (then_n ?_))))))))))
    refine ⟨D.length - (i + 1), ?_, (i + 1), (out ++ [(⟨3, y45, (ofB La ⟨y45.t, y45.w⟩), (ofB Lb ⟨y45.t, y45.w⟩)⟩ : ChgD)]), A196, c197, rfl, hmk, M203, (by omega), (by rw [ho1]; exact chgD_of hy45 (by decide) (kind_3 (a := sideP La y45) (b := sideP Lb y45) v169 v170 p174) rfl rfl), h199⟩
    · omega
   have q22 : j < Lb.length := by omega
   refine wp_cond_true (eb v19) (wp_skip (then_n (wp_seq (wp_block (rg_lit (wmv (v := .slice mA ns2.length mc) (wmv (v := pt ub 0) (wlv (v := pt ub 0) (nck) (wlv (v := pt ub 0) (fa (pt ub 0)) (wlv (v := .slice yA Lb.length yc) (ld 0 Ty.ag64 h16) (wmv (v := I_ j) ?_)))))))))))
   have h23 := (IRow.up hlb (Mod.up hM2))
   obtain ⟨y24, hy24⟩ : ∃ x, Lb[j]? = some x := ⟨_, List.getElem?_eq_getElem q22⟩
   obtain ⟨g24, cp24, cu24, dA24, dn24, dc24, hA24, hg24, hb24, he24, hD24⟩ := h23.get hy24
   injection hA24 with hA24 _ _
   replace he24 : (cu24.toList.drop (0 + j * 10)).take 10 = (itC y24 (.slice dA24 dn24 dc24)) := by rw [Nat.zero_add]; exact he24
   refine wlv (v := pt g24 (0 + j * 10)) (ixa Lb.length yc 10 j hA24 Ty.un64 Ty.sz127) (wlv (v := pt g24 (0 + j * 10)) (fa (pt g24 (0 + j * 10))) (wlv (v := .agg #[I_ y24.node.t, I_ y24.node.w]) (r_loads (k := 0 + j * 10) (by kernel_rfl) Ty.ag24 Ty.sz24 hb24 (el_sub0 he24 rfl)) (wl (sn rfl (cs := #[I_ y24.node.t, I_ y24.node.w]) (T := 24) (V := fun b => sl b 0 1 1) (r_buildSlice (n := 1) (ps := [(0, .agg #[I_ y24.node.t, I_ y24.node.w])]) Ty.un95 Ty.sz24 Ty.zv24 (by decide) (by decide) (by kernel_rfl) (by kernel_rfl)) fun b25 w26 e27 h28 u29 => ?_))))
   have h30 := md_ob hM2 nin0 hva
   have M36 := mtu hM2 u29
   have M37 := mtu hM2 u29
   have h38 := (MRow.up hF2_2 u29)
   refine wl (snM rfl (L := ns2) (x := y24.node.t) (y := y24.node.w) (by kernel_rfl) (by kernel_rfl) h38 Ty.un95 h28 M36.size (by omega) fun A39 c40 w41 h42 u43 => ?_)
   have M45 := Mod.trans' M37 u43 (fun k hk => Nat.le_trans (Nat.le_refl _) (h38.own k hk).1)
   refine was (v := .slice A39 ((ns2 ++ [(⟨y24.node.t, y24.node.w⟩ : Stamp)]).length) c40) (wnil (inb_n (then_n (rg_lit (wmv (v := I_ j) (wlv (v := I_ ((j + 1 : Nat) : Int)) (adI (c := ((j + 1 : Nat) : Int)) j 1 ((IntWalk.i64_in _ (by omega)).trans (by omega))) (was (v := I_ ((j + 1 : Nat) : Int)) (wnil (then_n ?_)))))))))
   refine ⟨Lb.length - (j + 1), ?_, (j + 1), (ns2 ++ [(⟨y24.node.t, y24.node.w⟩ : Stamp)]), A39, c40, rfl, hmk, M45, (by omega), (by rw [hns2]; exact nodes_app2 hy24), h42⟩
   · omega
  have q9 : k < La.length := by omega
  refine wp_cond_true (eb v6) (wp_skip (then_n (wp_seq (wp_block (rg_lit (wmv (v := .slice nA ns.length nc) (wmv (v := pt ua 0) (wlv (v := pt ua 0) (nck) (wlv (v := pt ua 0) (fa (pt ua 0)) (wlv (v := .slice xA La.length xc) (ld 0 Ty.ag64 h3) (wmv (v := I_ k) ?_)))))))))))
  have h10 := (IRow.up hla (Mod.up hM1))
  obtain ⟨y11, hy11⟩ : ∃ x, La[k]? = some x := ⟨_, List.getElem?_eq_getElem q9⟩
  obtain ⟨g11, cp11, cu11, dA11, dn11, dc11, hA11, hg11, hb11, he11, hD11⟩ := h10.get hy11
  injection hA11 with hA11 _ _
  replace he11 : (cu11.toList.drop (0 + k * 10)).take 10 = (itC y11 (.slice dA11 dn11 dc11)) := by rw [Nat.zero_add]; exact he11
  refine wlv (v := pt g11 (0 + k * 10)) (ixa La.length xc 10 k hA11 Ty.un64 Ty.sz127) (wlv (v := pt g11 (0 + k * 10)) (fa (pt g11 (0 + k * 10))) (wlv (v := .agg #[I_ y11.node.t, I_ y11.node.w]) (r_loads (k := 0 + k * 10) (by kernel_rfl) Ty.ag24 Ty.sz24 hb11 (el_sub0 he11 rfl)) (wl (sn rfl (cs := #[I_ y11.node.t, I_ y11.node.w]) (T := 24) (V := fun b => sl b 0 1 1) (r_buildSlice (n := 1) (ps := [(0, .agg #[I_ y11.node.t, I_ y11.node.w])]) Ty.un95 Ty.sz24 Ty.zv24 (by decide) (by decide) (by kernel_rfl) (by kernel_rfl)) fun b12 w13 e14 h15 u16 => ?_))))
  have M23 := mtu hM1 u16
  have M24 := mtu hM1 u16
  have h25 := (MRow.up hF1_2 u16)
  refine wl (snM rfl (L := ns) (x := y11.node.t) (y := y11.node.w) (by kernel_rfl) (by kernel_rfl) h25 Ty.un95 h15 M23.size (by omega) fun A26 c27 w28 h29 u30 => ?_)
  have M32 := Mod.trans' M24 u30 (fun k hk => Nat.le_trans (Nat.le_refl _) (h25.own k hk).1)
  refine was (v := .slice A26 ((ns ++ [(⟨y11.node.t, y11.node.w⟩ : Stamp)]).length) c27) (wnil (inb_n (then_n (rg_lit (wmv (v := I_ k) (wlv (v := I_ ((k + 1 : Nat) : Int)) (adI (c := ((k + 1 : Nat) : Int)) k 1 ((IntWalk.i64_in _ (by omega)).trans (by omega))) (was (v := I_ ((k + 1 : Nat) : Int)) (wnil (then_n ?_)))))))))
  refine ⟨La.length - (k + 1), ?_, (k + 1), (ns ++ [(⟨y11.node.t, y11.node.w⟩ : Stamp)]), A26, c27, rfl, hmk, M32, (by omega), (by rw [hns]; exact nodes_next hy11), h29⟩
  · omega
end Go.Proofs.YtefhfoioeoijlaaGreatDoor

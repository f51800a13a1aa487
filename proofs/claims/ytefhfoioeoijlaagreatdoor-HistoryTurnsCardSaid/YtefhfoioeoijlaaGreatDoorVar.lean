/- HD -/
import Derived.Test.YtefhfoioeoijlaaGreatDoorVah
import Derived.Test.YtefhfoioeoijlaaGreatDoorVaq
set_option linter.unusedVariables false
set_option linter.unusedSimpArgs false
namespace Go.Proofs.YtefhfoioeoijlaaGreatDoor
open Go Go.RowKit Go.Sort
set_option maxHeartbeats 2000000 in
theorem changes_at {B : Nat} {w : World} {p q : Option Addr} {La Lb : List Item} (ha : OT B w p La) (hb : OT B w q Lb) (hB : B ≤ w.heap.size) (hFa : Fit La) (hFb : Fit Lb) (htab : Tab w) :
    Calls Tryz.prog 26 #[.pointer p, .pointer q] w fun e w' => ∃ A c D, e = .returned (.slice A (chgs La Lb D).length c) ∧ CRow 61 w.heap.size w' (.slice A (chgs La Lb D).length c) (chgs La Lb D) ∧ Thn (nodesI (La ++ Lb)) D ∧ Up w w' := by
  obtain ⟨LL, hLL⟩ : ∃ LL, LL = La ++ Lb := ⟨_, rfl⟩
  have hl6 : LL.length ≤ 600 := by have h1 := hFa.len; have h2 := hFb.len; rw [hLL, List.length_append]; omega
  go_enter Tryz.func26, Tryz.ntmps26
  refine wp_seq (rg_lit (was (v := .slice none 0 0) (wnil (then_n (wp_seq (rg_lit (was (v := .slice none 0 0) (wnil (then_n (wp_seq (wp_seq (rg_lit (wmv (v := .pointer p) (wl (sca [.pointer p] En.f41 (allO_at ha (Nat.le_trans hB (Mod.refl [] w).size)) ?_)))))))))))))))
  rintro e w1 ⟨A2, c3, rfl, h4, u5⟩
  have h6 := IRow.base h4 (Mod.refl [] w).size
  refine ⟨_, rfl, ?_⟩
  have M7 := mtu (Mod.refl [] w) u5
  refine wmv (v := .pointer q) ?_
  have h14 := (OT.up hb (Mod.up M7))
  refine wl (sca [.pointer q] En.f41 (allO_at h14 (Nat.le_trans hB M7.size)) ?_)
  rintro e w8 ⟨A9, c10, rfl, h11, u12⟩
  have h13 := IRow.base h11 M7.size
  refine ⟨_, rfl, ?_⟩
  have M15 := mtu M7 u12
  refine wl (sn rfl (cs := #[.slice A2 La.length c3, .slice A9 Lb.length c10]) (T := 74) (V := fun b => sl b 0 2 2) (r_buildSlice (n := 2) (ps := [(0, .slice A2 La.length c3), (1, .slice A9 Lb.length c10)]) Ty.un177 Ty.sz74 Ty.zv74 (by decide) (by decide) (by kernel_rfl) (by kernel_rfl)) fun b16 w17 e18 h19 u20 => ?_)
  have M22 := mtu M15 u20
  have h28 := (IRow.up h6 (up_up u12 u20))
  have h29 := (IRow.up h13 u20)
  refine wl (sca [sl b16 0 2 2] En.f73 (concat2_at (Nat.le_trans hB M22.size) h19 h28 h29 hFa.len hFb.len hLL) ?_)
  rintro e w23 ⟨A24, c25, rfl, h26, u27⟩
  refine ⟨_, rfl, ?_⟩
  have M30 := mtu M22 u27
  refine wlv (v := I_ LL.length) (ln A24 LL.length c25 Ty.un74) (wmv (v := I_ 0) (wnil (then_n (wp_block ?_))))
  refine lp (fun n a r1 => ∃ (k : Nat) (ns : List Stamp) (nA : Option Addr) (nc : Nat), (n = LL.length - k) ∧ (HasFr a 66 [(0, .pointer p), (1, .pointer q), (4, .slice none 0 0), (5, .slice nA ns.length nc), (20, .slice A24 LL.length c25), (21, I_ LL.length), (22, I_ k)] []) ∧ (Mod [] w23 r1) ∧ (k ≤ LL.length) ∧ (ns = nodesI (LL.take k)) ∧ (MRow w23.heap.size r1 (.slice nA ns.length nc) ns)) ⟨_, 0, [], none, 0, rfl, hmk, Mod.refl _ _, (Nat.zero_le _), rfl, (MRow.nil _ _)⟩ ?_
  rintro _ _ r1 ⟨k, ns, nA, nc, rfl, h33, hM1, hF1_0, hF1_1, hF1_2⟩
  obtain ⟨Y43, rfl⟩ := h33
  have M34 := Mod.thin M30 hM1 (by simp)
  have hns := hF1_1
  have hnl : ns.length ≤ 600 := by rw [hns]; simp only [nodesI, List.length_map, List.length_take]; omega
  refine wp_seq (rg_lit (wl (sb rfl (ltI k LL.length) fun b35 k36 => wnil (then_n (wp_seq ?_)))))
  refine bcd k36 (fun v37 p38 => ?_) (fun v37 p38 => ?_)
  ·
   refine wp_cond_false (eb v37) (wp_exit (then_x (by nofun) (then_x (by nofun) (inb_hit (then_n (wp_seq (rg_lit (wmv (v := .pointer p) (wl (sca [.pointer p] En.f74 (lookS_at p) ?_))))))))))
   rintro e w39 ⟨ka1, ka2, ka3, rfl, h40, u41⟩
   refine ⟨_, rfl, ?_⟩
   have M42 := mtu M34 u41
   have M43 := mtu hM1 u41
   refine wmv (v := .pointer q) (wl (sca [.pointer q] En.f74 (lookS_at q) ?_))
   rintro e w44 ⟨kb1, kb2, kb3, rfl, h45, u46⟩
   refine ⟨_, rfl, ?_⟩
   have M47 := mtu M42 u46
   have M48 := mtu M43 u46
   refine was (v := .func (.func 133) #[] #[pt ka1 0, pt ka2 0, pt ka3 0]) (was (v := .func (.func 133) #[] #[pt kb1 0, pt kb2 0, pt kb3 0]) (wnil (then_n (wp_seq (wp_seq (rg_lit (wmv (v := .slice nA ns.length nc) ?_)))))))
   have hsn : ns.length = LL.length := by rw [hns, List.take_of_length_le (by omega)]; simp [nodesI]
   have h55 := (MRow.up hF1_2 (up_up u41 u46))
   refine wl (sca [.slice nA ns.length nc] En.f75 (stampSortD_at h55 (by rfl) (by omega)) ?_)
   rintro e w49 ⟨A50, c51, D, rfl, h52, h53, u54⟩
   have hTh : Thn (nodesI (La ++ Lb)) D := by rw [← hLL, ← List.take_of_length_le (l := LL) (i := k) (by omega), ← hns]; exact h53
   have hDl := h53.len
   refine ⟨_, rfl, ?_⟩
   have M56 := mtu M47 u54
   have M57 := mtu M48 u54
   refine wlv (v := I_ D.length) (ln A50 D.length c51 Ty.un95) (wmv (v := I_ 0) (wnil (then_n (wp_block ?_))))
   have h61 := (Looks.up h40 (up_up u46 u54))
   have h62 := (Looks.up h45 u54)
   refine lp (fun n a r2 => ∃ (j : Nat) (out : List ChgD) (oA : Option Addr) (oc : Nat), (n = D.length - j) ∧ (HasFr a 66 [(0, .pointer p), (1, .pointer q), (4, .slice oA out.length oc), (5, .slice nA ns.length nc), (8, .func (.func 133) #[] #[pt ka1 0, pt ka2 0, pt ka3 0]), (9, .func (.func 133) #[] #[pt kb1 0, pt kb2 0, pt kb3 0]), (20, .slice A24 LL.length c25), (21, I_ LL.length), (22, I_ k), (23, B_ b35), (37, .slice A50 D.length c51), (38, I_ D.length), (39, I_ j)] []) ∧ (Mod [] w49 r2) ∧ (j ≤ D.length) ∧ (out = chgs La Lb (D.take j)) ∧ (CRow 61 w49.heap.size r2 (.slice oA out.length oc) out)) ⟨_, 0, [], none, 0, rfl, hmk, Mod.refl _ _, (Nat.zero_le _), rfl, (CRow.nil _ _ _)⟩ ?_
   rintro _ _ r2 ⟨j, out, oA, oc, rfl, h63, hM2, hF2_0, hF2_1, hF2_2⟩
   obtain ⟨Y44, rfl⟩ := h63
   have M64 := Mod.thin M56 hM2 (by simp)
   have M65 := Mod.thin M57 hM2 (by simp)
   have ho1 := hF2_1
   have ho2 : out.length ≤ 600 := by have h9 := chgs_len La Lb (D.take j); rw [← ho1, List.length_take] at h9; omega
   refine wp_seq (rg_lit (wl (sb rfl (ltI j D.length) fun b66 k67 => wnil (then_n (wp_seq ?_)))))
   refine bcd k67 (fun v68 p69 => ?_) (fun v68 p69 => ?_)
   ·
    refine wp_cond_false (eb v68) (wp_exit (then_x (by nofun) (then_x (by nofun) (inb_hit (then_n (wp_seq (rg_lit (wmv (v := .slice oA out.length oc) (was (v := .slice oA out.length oc) (wnil (then_n (wp_ret ?_))))))))))))
    refine br1 (v := .slice oA out.length oc) rfl ?_
    have hoe : out = chgs La Lb D := by rw [ho1, List.take_of_length_le (by omega)]
    exact ⟨oA, oc, D, by rw [← hoe], (by rw [← hoe]; exact CRow.base hF2_2 M56.size), hTh, (Mod.up M64)⟩
   refine wp_cond_true (eb v68) (wp_skip (then_n (wp_seq (wp_block (wp_seq (rg_lit ?_))))))
   have h72 := (MRow.up h52 (Mod.up hM2))
   obtain ⟨y73, hy73⟩ : ∃ x, D[j]? = some x := ⟨_, List.getElem?_eq_getElem (by omega)⟩
   obtain ⟨g73, hA73, hl73, hc73, hd73⟩ := MRow.get h72 hy73
   refine wlv (v := pt g73 (j * 2)) (ixa D.length c51 2 j hA73 Ty.un95 Ty.sz24) (wlv (v := .agg #[I_ y73.t, I_ y73.w]) (r_loadc2 (by kernel_rfl) Ty.ag24 Ty.sz24 hc73 hd73) (wl (sn rfl (cs := #[I_ 0, I_ 0]) (T := 24) (V := fun b => pt b 0) (r_alloc Ty.zv24 rfl) fun b74 w75 e76 h77 u78 => ?_)))
   have g79 := gsz e76 M64
   have g80 := gsz e76 M65
   have g81 := gsz e76 hM2
   have M82 := mtu M64 u78
   have M83 := mtu M65 u78
   have M84 := mtu hM2 u78
   refine wl (ss rfl (k := 0) (v := .agg #[I_ y73.t, I_ y73.w]) (vs := [I_ y73.t, I_ y73.w]) (cs' := [I_ y73.t, I_ y73.w]) (by kernel_rfl) (by kernel_rfl) rfl Ty.sz24 h77 rfl (Nat.le_of_ble_eq_true rfl) rfl fun w85 h86 c87 => ?_)
   have M88 := mtn M82 c87 g79
   have M89 := mtn M83 c87 g80
   have M90 := mtn M84 c87 g81
   refine wnil (then_n (wp_seq ?_))
   have hmz := thn_nonil hFa hFb hTh hy73
   obtain ⟨sda, hsa⟩ : ∃ s, sideP La ⟨y73.t, y73.w⟩ = s := ⟨_, rfl⟩
   obtain ⟨sdb, hsb⟩ : ∃ s, sideP Lb ⟨y73.t, y73.w⟩ = s := ⟨_, rfl⟩
   have h97 := (CRow.up hF2_2 (up_chgn u78 c87 (by rw [e76]; exact Nat.le_refl _)))
   refine wp_cutA (R := fun a wq => ∃ (ba : Nat) (bb : Nat) (yA1 : Option Addr) (yn1 : Nat) (yc1 : Nat) (yA2 : Option Addr) (yn2 : Nat) (yc2 : Nat), (HasFr a 66 [(0, .pointer p), (1, .pointer q), (4, .slice oA out.length oc), (5, .slice nA ns.length nc), (8, .func (.func 133) #[] #[pt ka1 0, pt ka2 0, pt ka3 0]), (9, .func (.func 133) #[] #[pt kb1 0, pt kb2 0, pt kb3 0]), (11, pt b74 0), (12, pt ba 0), (13, pt bb 0), (20, .slice A24 LL.length c25), (21, I_ LL.length), (22, I_ k), (23, B_ b35), (37, .slice A50 D.length c51), (38, I_ D.length), (39, I_ j), (40, B_ b66)] []) ∧ (Mod [] w85 wq) ∧ (wq.heap[ba]? = some (.cells #[I_ sda.x.node.t, I_ sda.x.node.w, I_ sda.x.parent.t, I_ sda.x.parent.w, S_ sda.x.name, B_ sda.x.dir, B_ sda.x.gone, .slice yA1 yn1 yc1, I_ sda.x.by_.t, I_ sda.x.by_.w, B_ sda.hangs, S_ sda.path] 123 (0, 0))) ∧ (wq.heap[bb]? = some (.cells #[I_ sdb.x.node.t, I_ sdb.x.node.w, I_ sdb.x.parent.t, I_ sdb.x.parent.w, S_ sdb.x.name, B_ sdb.x.dir, B_ sdb.x.gone, .slice yA2 yn2 yc2, I_ sdb.x.by_.t, I_ sdb.x.by_.w, B_ sdb.hangs, S_ sdb.path] 123 (0, 0))) ∧ (Dat B wq (.slice yA1 yn1 yc1) sda.x.data) ∧ (Dat B wq (.slice yA2 yn2 yc2) sdb.x.data)) ?_ ?_
   ·
    refine rg_held [] (n := 10) (by kernel_rfl) rfl ?_
    intro w98 u99
    have M100 := mtu M88 u99
    have M101 := mtu M89 u99
    have M102 := mtu M90 u99
    have M103 := mtu (Mod.refl [] w85) u99
    refine hqk 0 9 rfl rfl (v := .func (.func 133) #[] #[pt ka1 0, pt ka2 0, pt ka3 0]) (fun _ _ => mv) ?_
    have h104 := md_ob M103 nin0 h86
    refine hqk 1 8 rfl rfl (v := .agg #[I_ y73.t, I_ y73.w]) (fun _ uz => lds 0 Ty.ag24 Ty.sz24 (md_ob uz nin0 h104)) (hqk 3 7 rfl rfl (v := .func (.func 133) #[] #[pt kb1 0, pt kb2 0, pt kb3 0]) (fun _ _ => mv) (hqk 4 6 rfl rfl (v := .agg #[I_ y73.t, I_ y73.w]) (fun _ uz => lds 0 Ty.ag24 Ty.sz24 (md_ob uz nin0 h104)) ?_))
    refine h3 (i := 2) (j := 6) (k := 7) (fuel := 5) (by kernel_rfl) rfl rfl rfl ?_ ?_ ?_
    ·
     have h111 := (Looks.up h61 (Mod.up M102))
     have h112 := (OT.up ha (Mod.up M100))
     refine sc rfl (r_callv (caps := [pt ka1 0, pt ka2 0, pt ka3 0]) (all := [.agg #[I_ y73.t, I_ y73.w], pt ka1 0, pt ka2 0, pt ka3 0]) En.f133 (by kernel_rfl) (by kernel_rfl)) (look1_at h111 h112 (Nat.le_trans hB M100.size) hFa (TabIs.up htab (Mod.up M100)) y73.t y73.w hmz hsa) ?_
     rintro e w105 ⟨A106, n107, c108, rfl, h109, u110⟩
     refine ⟨_, rfl, ?_⟩
     have M113 := mtu M100 u110
     have M114 := mtu M101 u110
     have M115 := mtu M102 u110
     have M116 := mtu M103 u110
     refine hxu u110 ?_
     refine h3 (i := 5) (j := 6) (k := 7) (fuel := 4) (by kernel_rfl) rfl rfl rfl ?_ ?_ ?_
     ·
      have h123 := (Looks.up h62 (Mod.up M115))
      have h124 := (OT.up hb (Mod.up M113))
      refine sc rfl (r_callv (caps := [pt kb1 0, pt kb2 0, pt kb3 0]) (all := [.agg #[I_ y73.t, I_ y73.w], pt kb1 0, pt kb2 0, pt kb3 0]) En.f133 (by kernel_rfl) (by kernel_rfl)) (look1_at h123 h124 (Nat.le_trans hB M113.size) hFb (TabIs.up htab (Mod.up M113)) y73.t y73.w hmz hsb) ?_
      rintro e w117 ⟨A118, n119, c120, rfl, h121, u122⟩
      refine ⟨_, rfl, ?_⟩
      have M125 := mtu M113 u122
      have M126 := mtu M114 u122
      have M127 := mtu M115 u122
      have M128 := mtu M116 u122
      refine hxu u122 ?_
      refine h2a 6 7 3 rfl rfl ?_ ?_
      ·
       refine sn rfl (cs := #[I_ 0, I_ 0, I_ 0, I_ 0, S_ (⟨#[]⟩), B_ false, B_ false, .slice none 0 0, I_ 0, I_ 0, B_ false, S_ (⟨#[]⟩)]) (T := 123) (V := fun b => pt b 0) (r_alloc Ty.zv123 rfl) fun b129 w130 e131 h132 u133 => ?_
       have h134 := md_ob M128 nin0 h86
       have l135 := lsz e131 h134
       have g136 := gsz e131 M125
       have g137 := gsz e131 M126
       have g138 := gsz e131 M127
       have g139 := gsz e131 M128
       have M140 := mtu M125 u133
       have M141 := mtu M126 u133
       have M142 := mtu M127 u133
       have M143 := mtu M128 u133
       refine hxy u133 e131 (h1a 7 2 rfl (sn rfl (cs := #[I_ 0, I_ 0, I_ 0, I_ 0, S_ (⟨#[]⟩), B_ false, B_ false, .slice none 0 0, I_ 0, I_ 0, B_ false, S_ (⟨#[]⟩)]) (T := 123) (V := fun b => pt b 0) (r_alloc Ty.zv123 rfl) fun b144 w145 e146 h147 u148 => ?_))
       have h149 := md_ob M143 nin0 h86
       have l150 := lsz e146 h149
       have l151 := lsz e146 h132
       have g152 := gsz e146 M140
       have g153 := gsz e146 M141
       have g154 := gsz e146 M142
       have g155 := gsz e146 M143
       have M156 := mtu M140 u148
       have M157 := mtu M141 u148
       have M158 := mtu M142 u148
       have M159 := mtu M143 u148
       refine hxy u148 e146 ?_
       have h160 := (up_ob u148 h132)
       refine h1a 8 1 rfl (ss rfl (k := 0) (v := .agg #[I_ sda.x.node.t, I_ sda.x.node.w, I_ sda.x.parent.t, I_ sda.x.parent.w, S_ sda.x.name, B_ sda.x.dir, B_ sda.x.gone, .slice A106 n107 c108, I_ sda.x.by_.t, I_ sda.x.by_.w, B_ sda.hangs, S_ sda.path]) (vs := [I_ sda.x.node.t, I_ sda.x.node.w, I_ sda.x.parent.t, I_ sda.x.parent.w, S_ sda.x.name, B_ sda.x.dir, B_ sda.x.gone, .slice A106 n107 c108, I_ sda.x.by_.t, I_ sda.x.by_.w, B_ sda.hangs, S_ sda.path]) (cs' := [I_ sda.x.node.t, I_ sda.x.node.w, I_ sda.x.parent.t, I_ sda.x.parent.w, S_ sda.x.name, B_ sda.x.dir, B_ sda.x.gone, .slice A106 n107 c108, I_ sda.x.by_.t, I_ sda.x.by_.w, B_ sda.hangs, S_ sda.path]) (by kernel_rfl) (by kernel_rfl) rfl Ty.sz123 h160 rfl (Nat.le_of_ble_eq_true rfl) rfl fun w161 h162 c163 => ?_)
       have M164 := mtn M156 c163 g136
       have M165 := mtn M157 c163 g137
       have M166 := mtn M158 c163 g138
       have M167 := mtn M159 c163 g139
       refine hxc c163 ?_
       have h168 := (chg_ob c163 (Nat.ne_of_gt l151) h147)
       refine h1a 9 0 rfl (ss rfl (k := 0) (v := .agg #[I_ sdb.x.node.t, I_ sdb.x.node.w, I_ sdb.x.parent.t, I_ sdb.x.parent.w, S_ sdb.x.name, B_ sdb.x.dir, B_ sdb.x.gone, .slice A118 n119 c120, I_ sdb.x.by_.t, I_ sdb.x.by_.w, B_ sdb.hangs, S_ sdb.path]) (vs := [I_ sdb.x.node.t, I_ sdb.x.node.w, I_ sdb.x.parent.t, I_ sdb.x.parent.w, S_ sdb.x.name, B_ sdb.x.dir, B_ sdb.x.gone, .slice A118 n119 c120, I_ sdb.x.by_.t, I_ sdb.x.by_.w, B_ sdb.hangs, S_ sdb.path]) (cs' := [I_ sdb.x.node.t, I_ sdb.x.node.w, I_ sdb.x.parent.t, I_ sdb.x.parent.w, S_ sdb.x.name, B_ sdb.x.dir, B_ sdb.x.gone, .slice A118 n119 c120, I_ sdb.x.by_.t, I_ sdb.x.by_.w, B_ sdb.hangs, S_ sdb.path]) (by kernel_rfl) (by kernel_rfl) rfl Ty.sz123 h168 rfl (Nat.le_of_ble_eq_true rfl) rfl fun w169 h170 c171 => ?_)
       have M172 := mtn M164 c171 g152
       have M173 := mtn M165 c171 g153
       have M174 := mtn M166 c171 g154
       have M175 := mtn M167 c171 g155
       refine hxc c171 ?_
       refine hend (by kernel_rfl) ?_
       refine then_n ?_
       have h176 := (chg_ob c171 (Nat.ne_of_lt l151) h162)
       have h177 := (Dat.up h109 (up_chgn (up_chgn (up_up (up_up u122 u133) u148) c163 (by rw [e131]; exact u122.size)) c171 (by rw [e146]; exact (up_up u122 u133).size)))
       have h178 := (Dat.up h121 (up_chgn (up_chgn (up_up u133 u148) c163 (by rw [e131]; exact Nat.le_refl _)) c171 (by rw [e146]; exact u133.size)))
       exact ⟨b129, b144, A106, n107, c108, A118, n119, c120, hmk, M175, h176, h170, h177, h178⟩
      ·
       refine sn rfl (cs := #[I_ 0, I_ 0, I_ 0, I_ 0, S_ (⟨#[]⟩), B_ false, B_ false, .slice none 0 0, I_ 0, I_ 0, B_ false, S_ (⟨#[]⟩)]) (T := 123) (V := fun b => pt b 0) (r_alloc Ty.zv123 rfl) fun b129 w130 e131 h132 u133 => ?_
       have h134 := md_ob M128 nin0 h86
       have l135 := lsz e131 h134
       have g136 := gsz e131 M125
       have g137 := gsz e131 M126
       have g138 := gsz e131 M127
       have g139 := gsz e131 M128
       have M140 := mtu M125 u133
       have M141 := mtu M126 u133
       have M142 := mtu M127 u133
       have M143 := mtu M128 u133
       refine hxy u133 e131 (h1a 6 2 rfl (sn rfl (cs := #[I_ 0, I_ 0, I_ 0, I_ 0, S_ (⟨#[]⟩), B_ false, B_ false, .slice none 0 0, I_ 0, I_ 0, B_ false, S_ (⟨#[]⟩)]) (T := 123) (V := fun b => pt b 0) (r_alloc Ty.zv123 rfl) fun b144 w145 e146 h147 u148 => ?_))
       have h149 := md_ob M143 nin0 h86
       have l150 := lsz e146 h149
       have l151 := lsz e146 h132
       have g152 := gsz e146 M140
       have g153 := gsz e146 M141
       have g154 := gsz e146 M142
       have g155 := gsz e146 M143
       have M156 := mtu M140 u148
       have M157 := mtu M141 u148
       have M158 := mtu M142 u148
       have M159 := mtu M143 u148
       refine hxy u148 e146 (h1a 8 1 rfl (ss rfl (k := 0) (v := .agg #[I_ sda.x.node.t, I_ sda.x.node.w, I_ sda.x.parent.t, I_ sda.x.parent.w, S_ sda.x.name, B_ sda.x.dir, B_ sda.x.gone, .slice A106 n107 c108, I_ sda.x.by_.t, I_ sda.x.by_.w, B_ sda.hangs, S_ sda.path]) (vs := [I_ sda.x.node.t, I_ sda.x.node.w, I_ sda.x.parent.t, I_ sda.x.parent.w, S_ sda.x.name, B_ sda.x.dir, B_ sda.x.gone, .slice A106 n107 c108, I_ sda.x.by_.t, I_ sda.x.by_.w, B_ sda.hangs, S_ sda.path]) (cs' := [I_ sda.x.node.t, I_ sda.x.node.w, I_ sda.x.parent.t, I_ sda.x.parent.w, S_ sda.x.name, B_ sda.x.dir, B_ sda.x.gone, .slice A106 n107 c108, I_ sda.x.by_.t, I_ sda.x.by_.w, B_ sda.hangs, S_ sda.path]) (by kernel_rfl) (by kernel_rfl) rfl Ty.sz123 h147 rfl (Nat.le_of_ble_eq_true rfl) rfl fun w160 h161 c162 => ?_))
       have M163 := mtn M156 c162 g152
       have M164 := mtn M157 c162 g153
       have M165 := mtn M158 c162 g154
       have M166 := mtn M159 c162 g155
       refine hxc c162 ?_
       have h167 := (chg_ob c162 (Nat.ne_of_lt l151) (up_ob u148 h132))
       refine h1a 9 0 rfl (ss rfl (k := 0) (v := .agg #[I_ sdb.x.node.t, I_ sdb.x.node.w, I_ sdb.x.parent.t, I_ sdb.x.parent.w, S_ sdb.x.name, B_ sdb.x.dir, B_ sdb.x.gone, .slice A118 n119 c120, I_ sdb.x.by_.t, I_ sdb.x.by_.w, B_ sdb.hangs, S_ sdb.path]) (vs := [I_ sdb.x.node.t, I_ sdb.x.node.w, I_ sdb.x.parent.t, I_ sdb.x.parent.w, S_ sdb.x.name, B_ sdb.x.dir, B_ sdb.x.gone, .slice A118 n119 c120, I_ sdb.x.by_.t, I_ sdb.x.by_.w, B_ sdb.hangs, S_ sdb.path]) (cs' := [I_ sdb.x.node.t, I_ sdb.x.node.w, I_ sdb.x.parent.t, I_ sdb.x.parent.w, S_ sdb.x.name, B_ sdb.x.dir, B_ sdb.x.gone, .slice A118 n119 c120, I_ sdb.x.by_.t, I_ sdb.x.by_.w, B_ sdb.hangs, S_ sdb.path]) (by kernel_rfl) (by kernel_rfl) rfl Ty.sz123 h167 rfl (Nat.le_of_ble_eq_true rfl) rfl fun w168 h169 c170 => ?_)
       have M171 := mtn M163 c170 g136
       have M172 := mtn M164 c170 g137
       have M173 := mtn M165 c170 g138
       have M174 := mtn M166 c170 g139
       refine hxc c170 ?_
       refine hend (by kernel_rfl) ?_
       refine then_n ?_
       have h175 := (chg_ob c170 (Nat.ne_of_gt l151) h161)
       have h176 := (Dat.up h109 (up_chgn (up_chgn (up_up (up_up u122 u133) u148) c162 (by rw [e146]; exact (up_up u122 u133).size)) c170 (by rw [e131]; exact u122.size)))
       have h177 := (Dat.up h121 (up_chgn (up_chgn (up_up u133 u148) c162 (by rw [e146]; exact u133.size)) c170 (by rw [e131]; exact Nat.le_refl _)))
       exact ⟨b144, b129, A106, n107, c108, A118, n119, c120, hmk, M174, h175, h169, h176, h177⟩
     ·
      refine sn rfl (cs := #[I_ 0, I_ 0, I_ 0, I_ 0, S_ (⟨#[]⟩), B_ false, B_ false, .slice none 0 0, I_ 0, I_ 0, B_ false, S_ (⟨#[]⟩)]) (T := 123) (V := fun b => pt b 0) (r_alloc Ty.zv123 rfl) fun b117 w118 e119 h120 u121 => ?_
      have h122 := md_ob M116 nin0 h86
      have l123 := lsz e119 h122
      have g124 := gsz e119 M113
      have g125 := gsz e119 M114
      have g126 := gsz e119 M115
      have g127 := gsz e119 M116
      have M128 := mtu M113 u121
      have M129 := mtu M114 u121
      have M130 := mtu M115 u121
      have M131 := mtu M116 u121
      refine hxy u121 e119 ?_
      refine h2a 5 7 3 rfl rfl ?_ ?_
      ·
       have h138 := (Looks.up h62 (Mod.up M130))
       have h139 := (OT.up hb (Mod.up M128))
       refine sc rfl (r_callv (caps := [pt kb1 0, pt kb2 0, pt kb3 0]) (all := [.agg #[I_ y73.t, I_ y73.w], pt kb1 0, pt kb2 0, pt kb3 0]) En.f133 (by kernel_rfl) (by kernel_rfl)) (look1_at h138 h139 (Nat.le_trans hB M128.size) hFb (TabIs.up htab (Mod.up M128)) y73.t y73.w hmz hsb) ?_
       rintro e w132 ⟨A133, n134, c135, rfl, h136, u137⟩
       refine ⟨_, rfl, ?_⟩
       have M140 := mtu M128 u137
       have M141 := mtu M129 u137
       have M142 := mtu M130 u137
       have M143 := mtu M131 u137
       refine hxu u137 (h1a 7 2 rfl (sn rfl (cs := #[I_ 0, I_ 0, I_ 0, I_ 0, S_ (⟨#[]⟩), B_ false, B_ false, .slice none 0 0, I_ 0, I_ 0, B_ false, S_ (⟨#[]⟩)]) (T := 123) (V := fun b => pt b 0) (r_alloc Ty.zv123 rfl) fun b144 w145 e146 h147 u148 => ?_))
       have h149 := md_ob M143 nin0 h86
       have l150 := lsz e146 h149
       have h151 := (up_ob u137 h120)
       have l152 := lsz e146 h151
       have g153 := gsz e146 M140
       have g154 := gsz e146 M141
       have g155 := gsz e146 M142
       have g156 := gsz e146 M143
       have M157 := mtu M140 u148
       have M158 := mtu M141 u148
       have M159 := mtu M142 u148
       have M160 := mtu M143 u148
       refine hxy u148 e146 ?_
       have h161 := (up_ob u148 h151)
       refine h1a 8 1 rfl (ss rfl (k := 0) (v := .agg #[I_ sda.x.node.t, I_ sda.x.node.w, I_ sda.x.parent.t, I_ sda.x.parent.w, S_ sda.x.name, B_ sda.x.dir, B_ sda.x.gone, .slice A106 n107 c108, I_ sda.x.by_.t, I_ sda.x.by_.w, B_ sda.hangs, S_ sda.path]) (vs := [I_ sda.x.node.t, I_ sda.x.node.w, I_ sda.x.parent.t, I_ sda.x.parent.w, S_ sda.x.name, B_ sda.x.dir, B_ sda.x.gone, .slice A106 n107 c108, I_ sda.x.by_.t, I_ sda.x.by_.w, B_ sda.hangs, S_ sda.path]) (cs' := [I_ sda.x.node.t, I_ sda.x.node.w, I_ sda.x.parent.t, I_ sda.x.parent.w, S_ sda.x.name, B_ sda.x.dir, B_ sda.x.gone, .slice A106 n107 c108, I_ sda.x.by_.t, I_ sda.x.by_.w, B_ sda.hangs, S_ sda.path]) (by kernel_rfl) (by kernel_rfl) rfl Ty.sz123 h161 rfl (Nat.le_of_ble_eq_true rfl) rfl fun w162 h163 c164 => ?_)
       have M165 := mtn M157 c164 g124
       have M166 := mtn M158 c164 g125
       have M167 := mtn M159 c164 g126
       have M168 := mtn M160 c164 g127
       refine hxc c164 ?_
       have h169 := (chg_ob c164 (Nat.ne_of_gt l152) h147)
       refine h1a 9 0 rfl (ss rfl (k := 0) (v := .agg #[I_ sdb.x.node.t, I_ sdb.x.node.w, I_ sdb.x.parent.t, I_ sdb.x.parent.w, S_ sdb.x.name, B_ sdb.x.dir, B_ sdb.x.gone, .slice A133 n134 c135, I_ sdb.x.by_.t, I_ sdb.x.by_.w, B_ sdb.hangs, S_ sdb.path]) (vs := [I_ sdb.x.node.t, I_ sdb.x.node.w, I_ sdb.x.parent.t, I_ sdb.x.parent.w, S_ sdb.x.name, B_ sdb.x.dir, B_ sdb.x.gone, .slice A133 n134 c135, I_ sdb.x.by_.t, I_ sdb.x.by_.w, B_ sdb.hangs, S_ sdb.path]) (cs' := [I_ sdb.x.node.t, I_ sdb.x.node.w, I_ sdb.x.parent.t, I_ sdb.x.parent.w, S_ sdb.x.name, B_ sdb.x.dir, B_ sdb.x.gone, .slice A133 n134 c135, I_ sdb.x.by_.t, I_ sdb.x.by_.w, B_ sdb.hangs, S_ sdb.path]) (by kernel_rfl) (by kernel_rfl) rfl Ty.sz123 h169 rfl (Nat.le_of_ble_eq_true rfl) rfl fun w170 h171 c172 => ?_)
       have M173 := mtn M165 c172 g153
       have M174 := mtn M166 c172 g154
       have M175 := mtn M167 c172 g155
       have M176 := mtn M168 c172 g156
       refine hxc c172 ?_
       refine hend (by kernel_rfl) ?_
       refine then_n ?_
       have h177 := (chg_ob c172 (Nat.ne_of_lt l152) h163)
       have h178 := (Dat.up h109 (up_chgn (up_chgn (up_up (up_up u121 u137) u148) c164 (by rw [e119]; exact Nat.le_refl _)) c172 (by rw [e146]; exact (up_up u121 u137).size)))
       have h179 := (Dat.chg (Dat.chg (Dat.up h136 u148) c164 ⟨(Nat.le_trans hB g124), NotU8.of h161 (by decide)⟩) c172 ⟨(Nat.le_trans hB g153), NotU8.of h169 (by decide)⟩)
       exact ⟨b117, b144, A106, n107, c108, A133, n134, c135, hmk, M176, h177, h171, h178, h179⟩
      ·
       refine sn rfl (cs := #[I_ 0, I_ 0, I_ 0, I_ 0, S_ (⟨#[]⟩), B_ false, B_ false, .slice none 0 0, I_ 0, I_ 0, B_ false, S_ (⟨#[]⟩)]) (T := 123) (V := fun b => pt b 0) (r_alloc Ty.zv123 rfl) fun b132 w133 e134 h135 u136 => ?_
       have h137 := md_ob M131 nin0 h86
       have l138 := lsz e134 h137
       have l139 := lsz e134 h120
       have g140 := gsz e134 M128
       have g141 := gsz e134 M129
       have g142 := gsz e134 M130
       have g143 := gsz e134 M131
       have M144 := mtu M128 u136
       have M145 := mtu M129 u136
       have M146 := mtu M130 u136
       have M147 := mtu M131 u136
       refine hxy u136 e134 ?_
       have h154 := (Looks.up h62 (Mod.up M146))
       have h155 := (OT.up hb (Mod.up M144))
       refine h1a 5 2 rfl (sc rfl (r_callv (caps := [pt kb1 0, pt kb2 0, pt kb3 0]) (all := [.agg #[I_ y73.t, I_ y73.w], pt kb1 0, pt kb2 0, pt kb3 0]) En.f133 (by kernel_rfl) (by kernel_rfl)) (look1_at h154 h155 (Nat.le_trans hB M144.size) hFb (TabIs.up htab (Mod.up M144)) y73.t y73.w hmz hsb) ?_)
       rintro e w148 ⟨A149, n150, c151, rfl, h152, u153⟩
       refine ⟨_, rfl, ?_⟩
       have M156 := mtu M144 u153
       have M157 := mtu M145 u153
       have M158 := mtu M146 u153
       have M159 := mtu M147 u153
       refine hxu u153 ?_
       have h160 := (up_ob u153 (up_ob u136 h120))
       refine h1a 8 1 rfl (ss rfl (k := 0) (v := .agg #[I_ sda.x.node.t, I_ sda.x.node.w, I_ sda.x.parent.t, I_ sda.x.parent.w, S_ sda.x.name, B_ sda.x.dir, B_ sda.x.gone, .slice A106 n107 c108, I_ sda.x.by_.t, I_ sda.x.by_.w, B_ sda.hangs, S_ sda.path]) (vs := [I_ sda.x.node.t, I_ sda.x.node.w, I_ sda.x.parent.t, I_ sda.x.parent.w, S_ sda.x.name, B_ sda.x.dir, B_ sda.x.gone, .slice A106 n107 c108, I_ sda.x.by_.t, I_ sda.x.by_.w, B_ sda.hangs, S_ sda.path]) (cs' := [I_ sda.x.node.t, I_ sda.x.node.w, I_ sda.x.parent.t, I_ sda.x.parent.w, S_ sda.x.name, B_ sda.x.dir, B_ sda.x.gone, .slice A106 n107 c108, I_ sda.x.by_.t, I_ sda.x.by_.w, B_ sda.hangs, S_ sda.path]) (by kernel_rfl) (by kernel_rfl) rfl Ty.sz123 h160 rfl (Nat.le_of_ble_eq_true rfl) rfl fun w161 h162 c163 => ?_)
       have M164 := mtn M156 c163 g124
       have M165 := mtn M157 c163 g125
       have M166 := mtn M158 c163 g126
       have M167 := mtn M159 c163 g127
       refine hxc c163 ?_
       have h168 := (chg_ob c163 (Nat.ne_of_gt l139) (up_ob u153 h135))
       refine h1a 9 0 rfl (ss rfl (k := 0) (v := .agg #[I_ sdb.x.node.t, I_ sdb.x.node.w, I_ sdb.x.parent.t, I_ sdb.x.parent.w, S_ sdb.x.name, B_ sdb.x.dir, B_ sdb.x.gone, .slice A149 n150 c151, I_ sdb.x.by_.t, I_ sdb.x.by_.w, B_ sdb.hangs, S_ sdb.path]) (vs := [I_ sdb.x.node.t, I_ sdb.x.node.w, I_ sdb.x.parent.t, I_ sdb.x.parent.w, S_ sdb.x.name, B_ sdb.x.dir, B_ sdb.x.gone, .slice A149 n150 c151, I_ sdb.x.by_.t, I_ sdb.x.by_.w, B_ sdb.hangs, S_ sdb.path]) (cs' := [I_ sdb.x.node.t, I_ sdb.x.node.w, I_ sdb.x.parent.t, I_ sdb.x.parent.w, S_ sdb.x.name, B_ sdb.x.dir, B_ sdb.x.gone, .slice A149 n150 c151, I_ sdb.x.by_.t, I_ sdb.x.by_.w, B_ sdb.hangs, S_ sdb.path]) (by kernel_rfl) (by kernel_rfl) rfl Ty.sz123 h168 rfl (Nat.le_of_ble_eq_true rfl) rfl fun w169 h170 c171 => ?_)
       have M172 := mtn M164 c171 g140
       have M173 := mtn M165 c171 g141
       have M174 := mtn M166 c171 g142
       have M175 := mtn M167 c171 g143
       refine hxc c171 ?_
       refine hend (by kernel_rfl) ?_
       refine then_n ?_
       have h176 := (chg_ob c171 (Nat.ne_of_lt l139) h162)
       have h177 := (Dat.up h109 (up_chgn (up_chgn (up_up (up_up u121 u136) u153) c163 (by rw [e119]; exact Nat.le_refl _)) c171 (by rw [e134]; exact u121.size)))
       have h178 := (Dat.chg (Dat.chg h152 c163 ⟨(Nat.le_trans hB g124), NotU8.of h160 (by decide)⟩) c171 ⟨(Nat.le_trans hB g140), NotU8.of h168 (by decide)⟩)
       exact ⟨b117, b132, A106, n107, c108, A149, n150, c151, hmk, M175, h176, h170, h177, h178⟩
     ·
      refine sn rfl (cs := #[I_ 0, I_ 0, I_ 0, I_ 0, S_ (⟨#[]⟩), B_ false, B_ false, .slice none 0 0, I_ 0, I_ 0, B_ false, S_ (⟨#[]⟩)]) (T := 123) (V := fun b => pt b 0) (r_alloc Ty.zv123 rfl) fun b117 w118 e119 h120 u121 => ?_
      have h122 := md_ob M116 nin0 h86
      have l123 := lsz e119 h122
      have g124 := gsz e119 M113
      have g125 := gsz e119 M114
      have g126 := gsz e119 M115
      have g127 := gsz e119 M116
      have M128 := mtu M113 u121
      have M129 := mtu M114 u121
      have M130 := mtu M115 u121
      have M131 := mtu M116 u121
      refine hxy u121 e119 ?_
      refine h2a 5 6 3 rfl rfl ?_ ?_
      ·
       have h138 := (Looks.up h62 (Mod.up M130))
       have h139 := (OT.up hb (Mod.up M128))
       refine sc rfl (r_callv (caps := [pt kb1 0, pt kb2 0, pt kb3 0]) (all := [.agg #[I_ y73.t, I_ y73.w], pt kb1 0, pt kb2 0, pt kb3 0]) En.f133 (by kernel_rfl) (by kernel_rfl)) (look1_at h138 h139 (Nat.le_trans hB M128.size) hFb (TabIs.up htab (Mod.up M128)) y73.t y73.w hmz hsb) ?_
       rintro e w132 ⟨A133, n134, c135, rfl, h136, u137⟩
       refine ⟨_, rfl, ?_⟩
       have M140 := mtu M128 u137
       have M141 := mtu M129 u137
       have M142 := mtu M130 u137
       have M143 := mtu M131 u137
       refine hxu u137 (h1a 6 2 rfl (sn rfl (cs := #[I_ 0, I_ 0, I_ 0, I_ 0, S_ (⟨#[]⟩), B_ false, B_ false, .slice none 0 0, I_ 0, I_ 0, B_ false, S_ (⟨#[]⟩)]) (T := 123) (V := fun b => pt b 0) (r_alloc Ty.zv123 rfl) fun b144 w145 e146 h147 u148 => ?_))
       have h149 := md_ob M143 nin0 h86
       have l150 := lsz e146 h149
       have h151 := (up_ob u137 h120)
       have l152 := lsz e146 h151
       have g153 := gsz e146 M140
       have g154 := gsz e146 M141
       have g155 := gsz e146 M142
       have g156 := gsz e146 M143
       have M157 := mtu M140 u148
       have M158 := mtu M141 u148
       have M159 := mtu M142 u148
       have M160 := mtu M143 u148
       refine hxy u148 e146 (h1a 8 1 rfl (ss rfl (k := 0) (v := .agg #[I_ sda.x.node.t, I_ sda.x.node.w, I_ sda.x.parent.t, I_ sda.x.parent.w, S_ sda.x.name, B_ sda.x.dir, B_ sda.x.gone, .slice A106 n107 c108, I_ sda.x.by_.t, I_ sda.x.by_.w, B_ sda.hangs, S_ sda.path]) (vs := [I_ sda.x.node.t, I_ sda.x.node.w, I_ sda.x.parent.t, I_ sda.x.parent.w, S_ sda.x.name, B_ sda.x.dir, B_ sda.x.gone, .slice A106 n107 c108, I_ sda.x.by_.t, I_ sda.x.by_.w, B_ sda.hangs, S_ sda.path]) (cs' := [I_ sda.x.node.t, I_ sda.x.node.w, I_ sda.x.parent.t, I_ sda.x.parent.w, S_ sda.x.name, B_ sda.x.dir, B_ sda.x.gone, .slice A106 n107 c108, I_ sda.x.by_.t, I_ sda.x.by_.w, B_ sda.hangs, S_ sda.path]) (by kernel_rfl) (by kernel_rfl) rfl Ty.sz123 h147 rfl (Nat.le_of_ble_eq_true rfl) rfl fun w161 h162 c163 => ?_))
       have M164 := mtn M157 c163 g153
       have M165 := mtn M158 c163 g154
       have M166 := mtn M159 c163 g155
       have M167 := mtn M160 c163 g156
       refine hxc c163 ?_
       have h168 := (chg_ob c163 (Nat.ne_of_lt l152) (up_ob u148 h151))
       refine h1a 9 0 rfl (ss rfl (k := 0) (v := .agg #[I_ sdb.x.node.t, I_ sdb.x.node.w, I_ sdb.x.parent.t, I_ sdb.x.parent.w, S_ sdb.x.name, B_ sdb.x.dir, B_ sdb.x.gone, .slice A133 n134 c135, I_ sdb.x.by_.t, I_ sdb.x.by_.w, B_ sdb.hangs, S_ sdb.path]) (vs := [I_ sdb.x.node.t, I_ sdb.x.node.w, I_ sdb.x.parent.t, I_ sdb.x.parent.w, S_ sdb.x.name, B_ sdb.x.dir, B_ sdb.x.gone, .slice A133 n134 c135, I_ sdb.x.by_.t, I_ sdb.x.by_.w, B_ sdb.hangs, S_ sdb.path]) (cs' := [I_ sdb.x.node.t, I_ sdb.x.node.w, I_ sdb.x.parent.t, I_ sdb.x.parent.w, S_ sdb.x.name, B_ sdb.x.dir, B_ sdb.x.gone, .slice A133 n134 c135, I_ sdb.x.by_.t, I_ sdb.x.by_.w, B_ sdb.hangs, S_ sdb.path]) (by kernel_rfl) (by kernel_rfl) rfl Ty.sz123 h168 rfl (Nat.le_of_ble_eq_true rfl) rfl fun w169 h170 c171 => ?_)
       have M172 := mtn M164 c171 g124
       have M173 := mtn M165 c171 g125
       have M174 := mtn M166 c171 g126
       have M175 := mtn M167 c171 g127
       refine hxc c171 ?_
       refine hend (by kernel_rfl) ?_
       refine then_n ?_
       have h176 := (chg_ob c171 (Nat.ne_of_gt l152) h162)
       have h177 := (Dat.up h109 (up_chgn (up_chgn (up_up (up_up u121 u137) u148) c163 (by rw [e146]; exact (up_up u121 u137).size)) c171 (by rw [e119]; exact Nat.le_refl _)))
       have h178 := (Dat.chg (Dat.up h136 (up_chgn u148 c163 (by rw [e146]; exact Nat.le_refl _))) c171 ⟨(Nat.le_trans hB g124), NotU8.of h168 (by decide)⟩)
       exact ⟨b144, b117, A106, n107, c108, A133, n134, c135, hmk, M175, h176, h170, h177, h178⟩
      ·
       refine sn rfl (cs := #[I_ 0, I_ 0, I_ 0, I_ 0, S_ (⟨#[]⟩), B_ false, B_ false, .slice none 0 0, I_ 0, I_ 0, B_ false, S_ (⟨#[]⟩)]) (T := 123) (V := fun b => pt b 0) (r_alloc Ty.zv123 rfl) fun b132 w133 e134 h135 u136 => ?_
       have h137 := md_ob M131 nin0 h86
       have l138 := lsz e134 h137
       have l139 := lsz e134 h120
       have g140 := gsz e134 M128
       have g141 := gsz e134 M129
       have g142 := gsz e134 M130
       have g143 := gsz e134 M131
       have M144 := mtu M128 u136
       have M145 := mtu M129 u136
       have M146 := mtu M130 u136
       have M147 := mtu M131 u136
       refine hxy u136 e134 ?_
       have h154 := (Looks.up h62 (Mod.up M146))
       have h155 := (OT.up hb (Mod.up M144))
       refine h1a 5 2 rfl (sc rfl (r_callv (caps := [pt kb1 0, pt kb2 0, pt kb3 0]) (all := [.agg #[I_ y73.t, I_ y73.w], pt kb1 0, pt kb2 0, pt kb3 0]) En.f133 (by kernel_rfl) (by kernel_rfl)) (look1_at h154 h155 (Nat.le_trans hB M144.size) hFb (TabIs.up htab (Mod.up M144)) y73.t y73.w hmz hsb) ?_)
       rintro e w148 ⟨A149, n150, c151, rfl, h152, u153⟩
       refine ⟨_, rfl, ?_⟩
       have M156 := mtu M144 u153
       have M157 := mtu M145 u153
       have M158 := mtu M146 u153
       have M159 := mtu M147 u153
       refine hxu u153 ?_
       have h160 := (up_ob u153 h135)
       refine h1a 8 1 rfl (ss rfl (k := 0) (v := .agg #[I_ sda.x.node.t, I_ sda.x.node.w, I_ sda.x.parent.t, I_ sda.x.parent.w, S_ sda.x.name, B_ sda.x.dir, B_ sda.x.gone, .slice A106 n107 c108, I_ sda.x.by_.t, I_ sda.x.by_.w, B_ sda.hangs, S_ sda.path]) (vs := [I_ sda.x.node.t, I_ sda.x.node.w, I_ sda.x.parent.t, I_ sda.x.parent.w, S_ sda.x.name, B_ sda.x.dir, B_ sda.x.gone, .slice A106 n107 c108, I_ sda.x.by_.t, I_ sda.x.by_.w, B_ sda.hangs, S_ sda.path]) (cs' := [I_ sda.x.node.t, I_ sda.x.node.w, I_ sda.x.parent.t, I_ sda.x.parent.w, S_ sda.x.name, B_ sda.x.dir, B_ sda.x.gone, .slice A106 n107 c108, I_ sda.x.by_.t, I_ sda.x.by_.w, B_ sda.hangs, S_ sda.path]) (by kernel_rfl) (by kernel_rfl) rfl Ty.sz123 h160 rfl (Nat.le_of_ble_eq_true rfl) rfl fun w161 h162 c163 => ?_)
       have M164 := mtn M156 c163 g140
       have M165 := mtn M157 c163 g141
       have M166 := mtn M158 c163 g142
       have M167 := mtn M159 c163 g143
       refine hxc c163 ?_
       have h168 := (chg_ob c163 (Nat.ne_of_lt l139) (up_ob u153 (up_ob u136 h120)))
       refine h1a 9 0 rfl (ss rfl (k := 0) (v := .agg #[I_ sdb.x.node.t, I_ sdb.x.node.w, I_ sdb.x.parent.t, I_ sdb.x.parent.w, S_ sdb.x.name, B_ sdb.x.dir, B_ sdb.x.gone, .slice A149 n150 c151, I_ sdb.x.by_.t, I_ sdb.x.by_.w, B_ sdb.hangs, S_ sdb.path]) (vs := [I_ sdb.x.node.t, I_ sdb.x.node.w, I_ sdb.x.parent.t, I_ sdb.x.parent.w, S_ sdb.x.name, B_ sdb.x.dir, B_ sdb.x.gone, .slice A149 n150 c151, I_ sdb.x.by_.t, I_ sdb.x.by_.w, B_ sdb.hangs, S_ sdb.path]) (cs' := [I_ sdb.x.node.t, I_ sdb.x.node.w, I_ sdb.x.parent.t, I_ sdb.x.parent.w, S_ sdb.x.name, B_ sdb.x.dir, B_ sdb.x.gone, .slice A149 n150 c151, I_ sdb.x.by_.t, I_ sdb.x.by_.w, B_ sdb.hangs, S_ sdb.path]) (by kernel_rfl) (by kernel_rfl) rfl Ty.sz123 h168 rfl (Nat.le_of_ble_eq_true rfl) rfl fun w169 h170 c171 => ?_)
       have M172 := mtn M164 c171 g124
       have M173 := mtn M165 c171 g125
       have M174 := mtn M166 c171 g126
       have M175 := mtn M167 c171 g127
       refine hxc c171 ?_
       refine hend (by kernel_rfl) ?_
       refine then_n ?_
       have h176 := (chg_ob c171 (Nat.ne_of_gt l139) h162)
       have h177 := (Dat.up h109 (up_chgn (up_chgn (up_up (up_up u121 u136) u153) c163 (by rw [e134]; exact u121.size)) c171 (by rw [e119]; exact Nat.le_refl _)))
       have h178 := (Dat.chg (Dat.chg h152 c163 ⟨(Nat.le_trans hB g140), NotU8.of h160 (by decide)⟩) c171 ⟨(Nat.le_trans hB g124), NotU8.of h168 (by decide)⟩)
       exact ⟨b132, b117, A106, n107, c108, A149, n150, c151, hmk, M175, h176, h170, h177, h178⟩
    ·
     refine sn rfl (cs := #[I_ 0, I_ 0, I_ 0, I_ 0, S_ (⟨#[]⟩), B_ false, B_ false, .slice none 0 0, I_ 0, I_ 0, B_ false, S_ (⟨#[]⟩)]) (T := 123) (V := fun b => pt b 0) (r_alloc Ty.zv123 rfl) fun b105 w106 e107 h108 u109 => ?_
     have l110 := lsz e107 h104
     have g111 := gsz e107 M100
     have g112 := gsz e107 M101
     have g113 := gsz e107 M102
     have g114 := gsz e107 M103
     have M115 := mtu M100 u109
     have M116 := mtu M101 u109
     have M117 := mtu M102 u109
     have M118 := mtu M103 u109
     refine hxy u109 e107 ?_
     refine h2a 2 7 4 rfl rfl ?_ ?_
     ·
      have h125 := (Looks.up h61 (Mod.up M117))
      have h126 := (OT.up ha (Mod.up M115))
      refine sc rfl (r_callv (caps := [pt ka1 0, pt ka2 0, pt ka3 0]) (all := [.agg #[I_ y73.t, I_ y73.w], pt ka1 0, pt ka2 0, pt ka3 0]) En.f133 (by kernel_rfl) (by kernel_rfl)) (look1_at h125 h126 (Nat.le_trans hB M115.size) hFa (TabIs.up htab (Mod.up M115)) y73.t y73.w hmz hsa) ?_
      rintro e w119 ⟨A120, n121, c122, rfl, h123, u124⟩
      refine ⟨_, rfl, ?_⟩
      have M127 := mtu M115 u124
      have M128 := mtu M116 u124
      have M129 := mtu M117 u124
      have M130 := mtu M118 u124
      refine hxu u124 ?_
      refine h2a 5 7 3 rfl rfl ?_ ?_
      ·
       have h137 := (Looks.up h62 (Mod.up M129))
       have h138 := (OT.up hb (Mod.up M127))
       refine sc rfl (r_callv (caps := [pt kb1 0, pt kb2 0, pt kb3 0]) (all := [.agg #[I_ y73.t, I_ y73.w], pt kb1 0, pt kb2 0, pt kb3 0]) En.f133 (by kernel_rfl) (by kernel_rfl)) (look1_at h137 h138 (Nat.le_trans hB M127.size) hFb (TabIs.up htab (Mod.up M127)) y73.t y73.w hmz hsb) ?_
       rintro e w131 ⟨A132, n133, c134, rfl, h135, u136⟩
       refine ⟨_, rfl, ?_⟩
       have M139 := mtu M127 u136
       have M140 := mtu M128 u136
       have M141 := mtu M129 u136
       have M142 := mtu M130 u136
       refine hxu u136 (h1a 7 2 rfl (sn rfl (cs := #[I_ 0, I_ 0, I_ 0, I_ 0, S_ (⟨#[]⟩), B_ false, B_ false, .slice none 0 0, I_ 0, I_ 0, B_ false, S_ (⟨#[]⟩)]) (T := 123) (V := fun b => pt b 0) (r_alloc Ty.zv123 rfl) fun b143 w144 e145 h146 u147 => ?_))
       have h148 := md_ob M142 nin0 h86
       have l149 := lsz e145 h148
       have h150 := (up_ob u136 (up_ob u124 h108))
       have l151 := lsz e145 h150
       have g152 := gsz e145 M139
       have g153 := gsz e145 M140
       have g154 := gsz e145 M141
       have g155 := gsz e145 M142
       have M156 := mtu M139 u147
       have M157 := mtu M140 u147
       have M158 := mtu M141 u147
       have M159 := mtu M142 u147
       refine hxy u147 e145 ?_
       have h160 := (up_ob u147 h150)
       refine h1a 8 1 rfl (ss rfl (k := 0) (v := .agg #[I_ sda.x.node.t, I_ sda.x.node.w, I_ sda.x.parent.t, I_ sda.x.parent.w, S_ sda.x.name, B_ sda.x.dir, B_ sda.x.gone, .slice A120 n121 c122, I_ sda.x.by_.t, I_ sda.x.by_.w, B_ sda.hangs, S_ sda.path]) (vs := [I_ sda.x.node.t, I_ sda.x.node.w, I_ sda.x.parent.t, I_ sda.x.parent.w, S_ sda.x.name, B_ sda.x.dir, B_ sda.x.gone, .slice A120 n121 c122, I_ sda.x.by_.t, I_ sda.x.by_.w, B_ sda.hangs, S_ sda.path]) (cs' := [I_ sda.x.node.t, I_ sda.x.node.w, I_ sda.x.parent.t, I_ sda.x.parent.w, S_ sda.x.name, B_ sda.x.dir, B_ sda.x.gone, .slice A120 n121 c122, I_ sda.x.by_.t, I_ sda.x.by_.w, B_ sda.hangs, S_ sda.path]) (by kernel_rfl) (by kernel_rfl) rfl Ty.sz123 h160 rfl (Nat.le_of_ble_eq_true rfl) rfl fun w161 h162 c163 => ?_)
       have M164 := mtn M156 c163 g111
       have M165 := mtn M157 c163 g112
       have M166 := mtn M158 c163 g113
       have M167 := mtn M159 c163 g114
       refine hxc c163 ?_
       have h168 := (chg_ob c163 (Nat.ne_of_gt l151) h146)
       refine h1a 9 0 rfl (ss rfl (k := 0) (v := .agg #[I_ sdb.x.node.t, I_ sdb.x.node.w, I_ sdb.x.parent.t, I_ sdb.x.parent.w, S_ sdb.x.name, B_ sdb.x.dir, B_ sdb.x.gone, .slice A132 n133 c134, I_ sdb.x.by_.t, I_ sdb.x.by_.w, B_ sdb.hangs, S_ sdb.path]) (vs := [I_ sdb.x.node.t, I_ sdb.x.node.w, I_ sdb.x.parent.t, I_ sdb.x.parent.w, S_ sdb.x.name, B_ sdb.x.dir, B_ sdb.x.gone, .slice A132 n133 c134, I_ sdb.x.by_.t, I_ sdb.x.by_.w, B_ sdb.hangs, S_ sdb.path]) (cs' := [I_ sdb.x.node.t, I_ sdb.x.node.w, I_ sdb.x.parent.t, I_ sdb.x.parent.w, S_ sdb.x.name, B_ sdb.x.dir, B_ sdb.x.gone, .slice A132 n133 c134, I_ sdb.x.by_.t, I_ sdb.x.by_.w, B_ sdb.hangs, S_ sdb.path]) (by kernel_rfl) (by kernel_rfl) rfl Ty.sz123 h168 rfl (Nat.le_of_ble_eq_true rfl) rfl fun w169 h170 c171 => ?_)
       have M172 := mtn M164 c171 g152
       have M173 := mtn M165 c171 g153
       have M174 := mtn M166 c171 g154
       have M175 := mtn M167 c171 g155
       refine hxc c171 ?_
       refine hend (by kernel_rfl) ?_
       refine then_n ?_
       have h176 := (chg_ob c171 (Nat.ne_of_lt l151) h162)
       have h177 := (Dat.chg (Dat.chg (Dat.up h123 (up_up u136 u147)) c163 ⟨(Nat.le_trans hB g111), NotU8.of h160 (by decide)⟩) c171 ⟨(Nat.le_trans hB g152), NotU8.of h168 (by decide)⟩)
       have h178 := (Dat.chg (Dat.chg (Dat.up h135 u147) c163 ⟨(Nat.le_trans hB g111), NotU8.of h160 (by decide)⟩) c171 ⟨(Nat.le_trans hB g152), NotU8.of h168 (by decide)⟩)
       exact ⟨b105, b143, A120, n121, c122, A132, n133, c134, hmk, M175, h176, h170, h177, h178⟩
      ·
       refine sn rfl (cs := #[I_ 0, I_ 0, I_ 0, I_ 0, S_ (⟨#[]⟩), B_ false, B_ false, .slice none 0 0, I_ 0, I_ 0, B_ false, S_ (⟨#[]⟩)]) (T := 123) (V := fun b => pt b 0) (r_alloc Ty.zv123 rfl) fun b131 w132 e133 h134 u135 => ?_
       have h136 := md_ob M130 nin0 h86
       have l137 := lsz e133 h136
       have h138 := (up_ob u124 h108)
       have l139 := lsz e133 h138
       have g140 := gsz e133 M127
       have g141 := gsz e133 M128
       have g142 := gsz e133 M129
       have g143 := gsz e133 M130
       have M144 := mtu M127 u135
       have M145 := mtu M128 u135
       have M146 := mtu M129 u135
       have M147 := mtu M130 u135
       refine hxy u135 e133 ?_
       have h154 := (Looks.up h62 (Mod.up M146))
       have h155 := (OT.up hb (Mod.up M144))
       refine h1a 5 2 rfl (sc rfl (r_callv (caps := [pt kb1 0, pt kb2 0, pt kb3 0]) (all := [.agg #[I_ y73.t, I_ y73.w], pt kb1 0, pt kb2 0, pt kb3 0]) En.f133 (by kernel_rfl) (by kernel_rfl)) (look1_at h154 h155 (Nat.le_trans hB M144.size) hFb (TabIs.up htab (Mod.up M144)) y73.t y73.w hmz hsb) ?_)
       rintro e w148 ⟨A149, n150, c151, rfl, h152, u153⟩
       refine ⟨_, rfl, ?_⟩
       have M156 := mtu M144 u153
       have M157 := mtu M145 u153
       have M158 := mtu M146 u153
       have M159 := mtu M147 u153
       refine hxu u153 ?_
       have h160 := (up_ob u153 (up_ob u135 h138))
       refine h1a 8 1 rfl (ss rfl (k := 0) (v := .agg #[I_ sda.x.node.t, I_ sda.x.node.w, I_ sda.x.parent.t, I_ sda.x.parent.w, S_ sda.x.name, B_ sda.x.dir, B_ sda.x.gone, .slice A120 n121 c122, I_ sda.x.by_.t, I_ sda.x.by_.w, B_ sda.hangs, S_ sda.path]) (vs := [I_ sda.x.node.t, I_ sda.x.node.w, I_ sda.x.parent.t, I_ sda.x.parent.w, S_ sda.x.name, B_ sda.x.dir, B_ sda.x.gone, .slice A120 n121 c122, I_ sda.x.by_.t, I_ sda.x.by_.w, B_ sda.hangs, S_ sda.path]) (cs' := [I_ sda.x.node.t, I_ sda.x.node.w, I_ sda.x.parent.t, I_ sda.x.parent.w, S_ sda.x.name, B_ sda.x.dir, B_ sda.x.gone, .slice A120 n121 c122, I_ sda.x.by_.t, I_ sda.x.by_.w, B_ sda.hangs, S_ sda.path]) (by kernel_rfl) (by kernel_rfl) rfl Ty.sz123 h160 rfl (Nat.le_of_ble_eq_true rfl) rfl fun w161 h162 c163 => ?_)
       have M164 := mtn M156 c163 g111
       have M165 := mtn M157 c163 g112
       have M166 := mtn M158 c163 g113
       have M167 := mtn M159 c163 g114
       refine hxc c163 ?_
       have h168 := (chg_ob c163 (Nat.ne_of_gt l139) (up_ob u153 h134))
       refine h1a 9 0 rfl (ss rfl (k := 0) (v := .agg #[I_ sdb.x.node.t, I_ sdb.x.node.w, I_ sdb.x.parent.t, I_ sdb.x.parent.w, S_ sdb.x.name, B_ sdb.x.dir, B_ sdb.x.gone, .slice A149 n150 c151, I_ sdb.x.by_.t, I_ sdb.x.by_.w, B_ sdb.hangs, S_ sdb.path]) (vs := [I_ sdb.x.node.t, I_ sdb.x.node.w, I_ sdb.x.parent.t, I_ sdb.x.parent.w, S_ sdb.x.name, B_ sdb.x.dir, B_ sdb.x.gone, .slice A149 n150 c151, I_ sdb.x.by_.t, I_ sdb.x.by_.w, B_ sdb.hangs, S_ sdb.path]) (cs' := [I_ sdb.x.node.t, I_ sdb.x.node.w, I_ sdb.x.parent.t, I_ sdb.x.parent.w, S_ sdb.x.name, B_ sdb.x.dir, B_ sdb.x.gone, .slice A149 n150 c151, I_ sdb.x.by_.t, I_ sdb.x.by_.w, B_ sdb.hangs, S_ sdb.path]) (by kernel_rfl) (by kernel_rfl) rfl Ty.sz123 h168 rfl (Nat.le_of_ble_eq_true rfl) rfl fun w169 h170 c171 => ?_)
       have M172 := mtn M164 c171 g140
       have M173 := mtn M165 c171 g141
       have M174 := mtn M166 c171 g142
       have M175 := mtn M167 c171 g143
       refine hxc c171 ?_
       refine hend (by kernel_rfl) ?_
       refine then_n ?_
       have h176 := (chg_ob c171 (Nat.ne_of_lt l139) h162)
       have h177 := (Dat.chg (Dat.chg (Dat.up h123 (up_up u135 u153)) c163 ⟨(Nat.le_trans hB g111), NotU8.of h160 (by decide)⟩) c171 ⟨(Nat.le_trans hB g140), NotU8.of h168 (by decide)⟩)
       have h178 := (Dat.chg (Dat.chg h152 c163 ⟨(Nat.le_trans hB g111), NotU8.of h160 (by decide)⟩) c171 ⟨(Nat.le_trans hB g140), NotU8.of h168 (by decide)⟩)
       exact ⟨b105, b131, A120, n121, c122, A149, n150, c151, hmk, M175, h176, h170, h177, h178⟩
     ·
      refine sn rfl (cs := #[I_ 0, I_ 0, I_ 0, I_ 0, S_ (⟨#[]⟩), B_ false, B_ false, .slice none 0 0, I_ 0, I_ 0, B_ false, S_ (⟨#[]⟩)]) (T := 123) (V := fun b => pt b 0) (r_alloc Ty.zv123 rfl) fun b119 w120 e121 h122 u123 => ?_
      have h124 := md_ob M118 nin0 h86
      have l125 := lsz e121 h124
      have l126 := lsz e121 h108
      have g127 := gsz e121 M115
      have g128 := gsz e121 M116
      have g129 := gsz e121 M117
      have g130 := gsz e121 M118
      have M131 := mtu M115 u123
      have M132 := mtu M116 u123
      have M133 := mtu M117 u123
      have M134 := mtu M118 u123
      refine hxy u123 e121 ?_
      have h141 := (Looks.up h61 (Mod.up M133))
      have h142 := (OT.up ha (Mod.up M131))
      refine h1a 2 3 rfl (sc rfl (r_callv (caps := [pt ka1 0, pt ka2 0, pt ka3 0]) (all := [.agg #[I_ y73.t, I_ y73.w], pt ka1 0, pt ka2 0, pt ka3 0]) En.f133 (by kernel_rfl) (by kernel_rfl)) (look1_at h141 h142 (Nat.le_trans hB M131.size) hFa (TabIs.up htab (Mod.up M131)) y73.t y73.w hmz hsa) ?_)
      rintro e w135 ⟨A136, n137, c138, rfl, h139, u140⟩
      refine ⟨_, rfl, ?_⟩
      have M143 := mtu M131 u140
      have M144 := mtu M132 u140
      have M145 := mtu M133 u140
      have M146 := mtu M134 u140
      refine hxu u140 ?_
      have h153 := (Looks.up h62 (Mod.up M145))
      have h154 := (OT.up hb (Mod.up M143))
      refine h1a 5 2 rfl (sc rfl (r_callv (caps := [pt kb1 0, pt kb2 0, pt kb3 0]) (all := [.agg #[I_ y73.t, I_ y73.w], pt kb1 0, pt kb2 0, pt kb3 0]) En.f133 (by kernel_rfl) (by kernel_rfl)) (look1_at h153 h154 (Nat.le_trans hB M143.size) hFb (TabIs.up htab (Mod.up M143)) y73.t y73.w hmz hsb) ?_)
      rintro e w147 ⟨A148, n149, c150, rfl, h151, u152⟩
      refine ⟨_, rfl, ?_⟩
      have M155 := mtu M143 u152
      have M156 := mtu M144 u152
      have M157 := mtu M145 u152
      have M158 := mtu M146 u152
      refine hxu u152 ?_
      have h159 := (up_ob u152 (up_ob u140 (up_ob u123 h108)))
      refine h1a 8 1 rfl (ss rfl (k := 0) (v := .agg #[I_ sda.x.node.t, I_ sda.x.node.w, I_ sda.x.parent.t, I_ sda.x.parent.w, S_ sda.x.name, B_ sda.x.dir, B_ sda.x.gone, .slice A136 n137 c138, I_ sda.x.by_.t, I_ sda.x.by_.w, B_ sda.hangs, S_ sda.path]) (vs := [I_ sda.x.node.t, I_ sda.x.node.w, I_ sda.x.parent.t, I_ sda.x.parent.w, S_ sda.x.name, B_ sda.x.dir, B_ sda.x.gone, .slice A136 n137 c138, I_ sda.x.by_.t, I_ sda.x.by_.w, B_ sda.hangs, S_ sda.path]) (cs' := [I_ sda.x.node.t, I_ sda.x.node.w, I_ sda.x.parent.t, I_ sda.x.parent.w, S_ sda.x.name, B_ sda.x.dir, B_ sda.x.gone, .slice A136 n137 c138, I_ sda.x.by_.t, I_ sda.x.by_.w, B_ sda.hangs, S_ sda.path]) (by kernel_rfl) (by kernel_rfl) rfl Ty.sz123 h159 rfl (Nat.le_of_ble_eq_true rfl) rfl fun w160 h161 c162 => ?_)
      have M163 := mtn M155 c162 g111
      have M164 := mtn M156 c162 g112
      have M165 := mtn M157 c162 g113
      have M166 := mtn M158 c162 g114
      refine hxc c162 ?_
      have h167 := (chg_ob c162 (Nat.ne_of_gt l126) (up_ob u152 (up_ob u140 h122)))
      refine h1a 9 0 rfl (ss rfl (k := 0) (v := .agg #[I_ sdb.x.node.t, I_ sdb.x.node.w, I_ sdb.x.parent.t, I_ sdb.x.parent.w, S_ sdb.x.name, B_ sdb.x.dir, B_ sdb.x.gone, .slice A148 n149 c150, I_ sdb.x.by_.t, I_ sdb.x.by_.w, B_ sdb.hangs, S_ sdb.path]) (vs := [I_ sdb.x.node.t, I_ sdb.x.node.w, I_ sdb.x.parent.t, I_ sdb.x.parent.w, S_ sdb.x.name, B_ sdb.x.dir, B_ sdb.x.gone, .slice A148 n149 c150, I_ sdb.x.by_.t, I_ sdb.x.by_.w, B_ sdb.hangs, S_ sdb.path]) (cs' := [I_ sdb.x.node.t, I_ sdb.x.node.w, I_ sdb.x.parent.t, I_ sdb.x.parent.w, S_ sdb.x.name, B_ sdb.x.dir, B_ sdb.x.gone, .slice A148 n149 c150, I_ sdb.x.by_.t, I_ sdb.x.by_.w, B_ sdb.hangs, S_ sdb.path]) (by kernel_rfl) (by kernel_rfl) rfl Ty.sz123 h167 rfl (Nat.le_of_ble_eq_true rfl) rfl fun w168 h169 c170 => ?_)
      have M171 := mtn M163 c170 g127
      have M172 := mtn M164 c170 g128
      have M173 := mtn M165 c170 g129
      have M174 := mtn M166 c170 g130
      refine hxc c170 ?_
      refine hend (by kernel_rfl) ?_
      refine then_n ?_
      have h175 := (chg_ob c170 (Nat.ne_of_lt l126) h161)
      have h176 := (Dat.chg (Dat.chg (Dat.up h139 u152) c162 ⟨(Nat.le_trans hB g111), NotU8.of h159 (by decide)⟩) c170 ⟨(Nat.le_trans hB g127), NotU8.of h167 (by decide)⟩)
      have h177 := (Dat.chg (Dat.chg h151 c162 ⟨(Nat.le_trans hB g111), NotU8.of h159 (by decide)⟩) c170 ⟨(Nat.le_trans hB g127), NotU8.of h167 (by decide)⟩)
      exact ⟨b105, b119, A136, n137, c138, A148, n149, c150, hmk, M174, h175, h169, h176, h177⟩
    ·
     refine sn rfl (cs := #[I_ 0, I_ 0, I_ 0, I_ 0, S_ (⟨#[]⟩), B_ false, B_ false, .slice none 0 0, I_ 0, I_ 0, B_ false, S_ (⟨#[]⟩)]) (T := 123) (V := fun b => pt b 0) (r_alloc Ty.zv123 rfl) fun b105 w106 e107 h108 u109 => ?_
     have l110 := lsz e107 h104
     have g111 := gsz e107 M100
     have g112 := gsz e107 M101
     have g113 := gsz e107 M102
     have g114 := gsz e107 M103
     have M115 := mtu M100 u109
     have M116 := mtu M101 u109
     have M117 := mtu M102 u109
     have M118 := mtu M103 u109
     refine hxy u109 e107 ?_
     refine h2a 2 6 4 rfl rfl ?_ ?_
     ·
      have h125 := (Looks.up h61 (Mod.up M117))
      have h126 := (OT.up ha (Mod.up M115))
      refine sc rfl (r_callv (caps := [pt ka1 0, pt ka2 0, pt ka3 0]) (all := [.agg #[I_ y73.t, I_ y73.w], pt ka1 0, pt ka2 0, pt ka3 0]) En.f133 (by kernel_rfl) (by kernel_rfl)) (look1_at h125 h126 (Nat.le_trans hB M115.size) hFa (TabIs.up htab (Mod.up M115)) y73.t y73.w hmz hsa) ?_
      rintro e w119 ⟨A120, n121, c122, rfl, h123, u124⟩
      refine ⟨_, rfl, ?_⟩
      have M127 := mtu M115 u124
      have M128 := mtu M116 u124
      have M129 := mtu M117 u124
      have M130 := mtu M118 u124
      refine hxu u124 ?_
      refine h2a 5 6 3 rfl rfl ?_ ?_
      ·
       have h137 := (Looks.up h62 (Mod.up M129))
       have h138 := (OT.up hb (Mod.up M127))
       refine sc rfl (r_callv (caps := [pt kb1 0, pt kb2 0, pt kb3 0]) (all := [.agg #[I_ y73.t, I_ y73.w], pt kb1 0, pt kb2 0, pt kb3 0]) En.f133 (by kernel_rfl) (by kernel_rfl)) (look1_at h137 h138 (Nat.le_trans hB M127.size) hFb (TabIs.up htab (Mod.up M127)) y73.t y73.w hmz hsb) ?_
       rintro e w131 ⟨A132, n133, c134, rfl, h135, u136⟩
       refine ⟨_, rfl, ?_⟩
       have M139 := mtu M127 u136
       have M140 := mtu M128 u136
       have M141 := mtu M129 u136
       have M142 := mtu M130 u136
       refine hxu u136 (h1a 6 2 rfl (sn rfl (cs := #[I_ 0, I_ 0, I_ 0, I_ 0, S_ (⟨#[]⟩), B_ false, B_ false, .slice none 0 0, I_ 0, I_ 0, B_ false, S_ (⟨#[]⟩)]) (T := 123) (V := fun b => pt b 0) (r_alloc Ty.zv123 rfl) fun b143 w144 e145 h146 u147 => ?_))
       have h148 := md_ob M142 nin0 h86
       have l149 := lsz e145 h148
       have h150 := (up_ob u136 (up_ob u124 h108))
       have l151 := lsz e145 h150
       have g152 := gsz e145 M139
       have g153 := gsz e145 M140
       have g154 := gsz e145 M141
       have g155 := gsz e145 M142
       have M156 := mtu M139 u147
       have M157 := mtu M140 u147
       have M158 := mtu M141 u147
       have M159 := mtu M142 u147
       refine hxy u147 e145 (h1a 8 1 rfl (ss rfl (k := 0) (v := .agg #[I_ sda.x.node.t, I_ sda.x.node.w, I_ sda.x.parent.t, I_ sda.x.parent.w, S_ sda.x.name, B_ sda.x.dir, B_ sda.x.gone, .slice A120 n121 c122, I_ sda.x.by_.t, I_ sda.x.by_.w, B_ sda.hangs, S_ sda.path]) (vs := [I_ sda.x.node.t, I_ sda.x.node.w, I_ sda.x.parent.t, I_ sda.x.parent.w, S_ sda.x.name, B_ sda.x.dir, B_ sda.x.gone, .slice A120 n121 c122, I_ sda.x.by_.t, I_ sda.x.by_.w, B_ sda.hangs, S_ sda.path]) (cs' := [I_ sda.x.node.t, I_ sda.x.node.w, I_ sda.x.parent.t, I_ sda.x.parent.w, S_ sda.x.name, B_ sda.x.dir, B_ sda.x.gone, .slice A120 n121 c122, I_ sda.x.by_.t, I_ sda.x.by_.w, B_ sda.hangs, S_ sda.path]) (by kernel_rfl) (by kernel_rfl) rfl Ty.sz123 h146 rfl (Nat.le_of_ble_eq_true rfl) rfl fun w160 h161 c162 => ?_))
       have M163 := mtn M156 c162 g152
       have M164 := mtn M157 c162 g153
       have M165 := mtn M158 c162 g154
       have M166 := mtn M159 c162 g155
       refine hxc c162 ?_
       have h167 := (chg_ob c162 (Nat.ne_of_lt l151) (up_ob u147 h150))
       refine h1a 9 0 rfl (ss rfl (k := 0) (v := .agg #[I_ sdb.x.node.t, I_ sdb.x.node.w, I_ sdb.x.parent.t, I_ sdb.x.parent.w, S_ sdb.x.name, B_ sdb.x.dir, B_ sdb.x.gone, .slice A132 n133 c134, I_ sdb.x.by_.t, I_ sdb.x.by_.w, B_ sdb.hangs, S_ sdb.path]) (vs := [I_ sdb.x.node.t, I_ sdb.x.node.w, I_ sdb.x.parent.t, I_ sdb.x.parent.w, S_ sdb.x.name, B_ sdb.x.dir, B_ sdb.x.gone, .slice A132 n133 c134, I_ sdb.x.by_.t, I_ sdb.x.by_.w, B_ sdb.hangs, S_ sdb.path]) (cs' := [I_ sdb.x.node.t, I_ sdb.x.node.w, I_ sdb.x.parent.t, I_ sdb.x.parent.w, S_ sdb.x.name, B_ sdb.x.dir, B_ sdb.x.gone, .slice A132 n133 c134, I_ sdb.x.by_.t, I_ sdb.x.by_.w, B_ sdb.hangs, S_ sdb.path]) (by kernel_rfl) (by kernel_rfl) rfl Ty.sz123 h167 rfl (Nat.le_of_ble_eq_true rfl) rfl fun w168 h169 c170 => ?_)
       have M171 := mtn M163 c170 g111
       have M172 := mtn M164 c170 g112
       have M173 := mtn M165 c170 g113
       have M174 := mtn M166 c170 g114
       refine hxc c170 ?_
       refine hend (by kernel_rfl) ?_
       refine then_n ?_
       have h175 := (chg_ob c170 (Nat.ne_of_gt l151) h161)
       have h176 := (Dat.chg (Dat.up h123 (up_chgn (up_up u136 u147) c162 (by rw [e145]; exact u136.size))) c170 ⟨(Nat.le_trans hB g111), NotU8.of h167 (by decide)⟩)
       have h177 := (Dat.chg (Dat.up h135 (up_chgn u147 c162 (by rw [e145]; exact Nat.le_refl _))) c170 ⟨(Nat.le_trans hB g111), NotU8.of h167 (by decide)⟩)
       exact ⟨b143, b105, A120, n121, c122, A132, n133, c134, hmk, M174, h175, h169, h176, h177⟩
      ·
       refine sn rfl (cs := #[I_ 0, I_ 0, I_ 0, I_ 0, S_ (⟨#[]⟩), B_ false, B_ false, .slice none 0 0, I_ 0, I_ 0, B_ false, S_ (⟨#[]⟩)]) (T := 123) (V := fun b => pt b 0) (r_alloc Ty.zv123 rfl) fun b131 w132 e133 h134 u135 => ?_
       have h136 := md_ob M130 nin0 h86
       have l137 := lsz e133 h136
       have h138 := (up_ob u124 h108)
       have l139 := lsz e133 h138
       have g140 := gsz e133 M127
       have g141 := gsz e133 M128
       have g142 := gsz e133 M129
       have g143 := gsz e133 M130
       have M144 := mtu M127 u135
       have M145 := mtu M128 u135
       have M146 := mtu M129 u135
       have M147 := mtu M130 u135
       refine hxy u135 e133 ?_
       have h154 := (Looks.up h62 (Mod.up M146))
       have h155 := (OT.up hb (Mod.up M144))
       refine h1a 5 2 rfl (sc rfl (r_callv (caps := [pt kb1 0, pt kb2 0, pt kb3 0]) (all := [.agg #[I_ y73.t, I_ y73.w], pt kb1 0, pt kb2 0, pt kb3 0]) En.f133 (by kernel_rfl) (by kernel_rfl)) (look1_at h154 h155 (Nat.le_trans hB M144.size) hFb (TabIs.up htab (Mod.up M144)) y73.t y73.w hmz hsb) ?_)
       rintro e w148 ⟨A149, n150, c151, rfl, h152, u153⟩
       refine ⟨_, rfl, ?_⟩
       have M156 := mtu M144 u153
       have M157 := mtu M145 u153
       have M158 := mtu M146 u153
       have M159 := mtu M147 u153
       refine hxu u153 ?_
       have h160 := (up_ob u153 h134)
       refine h1a 8 1 rfl (ss rfl (k := 0) (v := .agg #[I_ sda.x.node.t, I_ sda.x.node.w, I_ sda.x.parent.t, I_ sda.x.parent.w, S_ sda.x.name, B_ sda.x.dir, B_ sda.x.gone, .slice A120 n121 c122, I_ sda.x.by_.t, I_ sda.x.by_.w, B_ sda.hangs, S_ sda.path]) (vs := [I_ sda.x.node.t, I_ sda.x.node.w, I_ sda.x.parent.t, I_ sda.x.parent.w, S_ sda.x.name, B_ sda.x.dir, B_ sda.x.gone, .slice A120 n121 c122, I_ sda.x.by_.t, I_ sda.x.by_.w, B_ sda.hangs, S_ sda.path]) (cs' := [I_ sda.x.node.t, I_ sda.x.node.w, I_ sda.x.parent.t, I_ sda.x.parent.w, S_ sda.x.name, B_ sda.x.dir, B_ sda.x.gone, .slice A120 n121 c122, I_ sda.x.by_.t, I_ sda.x.by_.w, B_ sda.hangs, S_ sda.path]) (by kernel_rfl) (by kernel_rfl) rfl Ty.sz123 h160 rfl (Nat.le_of_ble_eq_true rfl) rfl fun w161 h162 c163 => ?_)
       have M164 := mtn M156 c163 g140
       have M165 := mtn M157 c163 g141
       have M166 := mtn M158 c163 g142
       have M167 := mtn M159 c163 g143
       refine hxc c163 ?_
       have h168 := (chg_ob c163 (Nat.ne_of_lt l139) (up_ob u153 (up_ob u135 h138)))
       refine h1a 9 0 rfl (ss rfl (k := 0) (v := .agg #[I_ sdb.x.node.t, I_ sdb.x.node.w, I_ sdb.x.parent.t, I_ sdb.x.parent.w, S_ sdb.x.name, B_ sdb.x.dir, B_ sdb.x.gone, .slice A149 n150 c151, I_ sdb.x.by_.t, I_ sdb.x.by_.w, B_ sdb.hangs, S_ sdb.path]) (vs := [I_ sdb.x.node.t, I_ sdb.x.node.w, I_ sdb.x.parent.t, I_ sdb.x.parent.w, S_ sdb.x.name, B_ sdb.x.dir, B_ sdb.x.gone, .slice A149 n150 c151, I_ sdb.x.by_.t, I_ sdb.x.by_.w, B_ sdb.hangs, S_ sdb.path]) (cs' := [I_ sdb.x.node.t, I_ sdb.x.node.w, I_ sdb.x.parent.t, I_ sdb.x.parent.w, S_ sdb.x.name, B_ sdb.x.dir, B_ sdb.x.gone, .slice A149 n150 c151, I_ sdb.x.by_.t, I_ sdb.x.by_.w, B_ sdb.hangs, S_ sdb.path]) (by kernel_rfl) (by kernel_rfl) rfl Ty.sz123 h168 rfl (Nat.le_of_ble_eq_true rfl) rfl fun w169 h170 c171 => ?_)
       have M172 := mtn M164 c171 g111
       have M173 := mtn M165 c171 g112
       have M174 := mtn M166 c171 g113
       have M175 := mtn M167 c171 g114
       refine hxc c171 ?_
       refine hend (by kernel_rfl) ?_
       refine then_n ?_
       have h176 := (chg_ob c171 (Nat.ne_of_gt l139) h162)
       have h177 := (Dat.chg (Dat.up h123 (up_chgn (up_up u135 u153) c163 (by rw [e133]; exact Nat.le_refl _))) c171 ⟨(Nat.le_trans hB g111), NotU8.of h168 (by decide)⟩)
       have h178 := (Dat.chg (Dat.chg h152 c163 ⟨(Nat.le_trans hB g140), NotU8.of h160 (by decide)⟩) c171 ⟨(Nat.le_trans hB g111), NotU8.of h168 (by decide)⟩)
       exact ⟨b131, b105, A120, n121, c122, A149, n150, c151, hmk, M175, h176, h170, h177, h178⟩
     ·
      refine sn rfl (cs := #[I_ 0, I_ 0, I_ 0, I_ 0, S_ (⟨#[]⟩), B_ false, B_ false, .slice none 0 0, I_ 0, I_ 0, B_ false, S_ (⟨#[]⟩)]) (T := 123) (V := fun b => pt b 0) (r_alloc Ty.zv123 rfl) fun b119 w120 e121 h122 u123 => ?_
      have h124 := md_ob M118 nin0 h86
      have l125 := lsz e121 h124
      have l126 := lsz e121 h108
      have g127 := gsz e121 M115
      have g128 := gsz e121 M116
      have g129 := gsz e121 M117
      have g130 := gsz e121 M118
      have M131 := mtu M115 u123
      have M132 := mtu M116 u123
      have M133 := mtu M117 u123
      have M134 := mtu M118 u123
      refine hxy u123 e121 ?_
      have h141 := (Looks.up h61 (Mod.up M133))
      have h142 := (OT.up ha (Mod.up M131))
      refine h1a 2 3 rfl (sc rfl (r_callv (caps := [pt ka1 0, pt ka2 0, pt ka3 0]) (all := [.agg #[I_ y73.t, I_ y73.w], pt ka1 0, pt ka2 0, pt ka3 0]) En.f133 (by kernel_rfl) (by kernel_rfl)) (look1_at h141 h142 (Nat.le_trans hB M131.size) hFa (TabIs.up htab (Mod.up M131)) y73.t y73.w hmz hsa) ?_)
      rintro e w135 ⟨A136, n137, c138, rfl, h139, u140⟩
      refine ⟨_, rfl, ?_⟩
      have M143 := mtu M131 u140
      have M144 := mtu M132 u140
      have M145 := mtu M133 u140
      have M146 := mtu M134 u140
      refine hxu u140 ?_
      have h153 := (Looks.up h62 (Mod.up M145))
      have h154 := (OT.up hb (Mod.up M143))
      refine h1a 5 2 rfl (sc rfl (r_callv (caps := [pt kb1 0, pt kb2 0, pt kb3 0]) (all := [.agg #[I_ y73.t, I_ y73.w], pt kb1 0, pt kb2 0, pt kb3 0]) En.f133 (by kernel_rfl) (by kernel_rfl)) (look1_at h153 h154 (Nat.le_trans hB M143.size) hFb (TabIs.up htab (Mod.up M143)) y73.t y73.w hmz hsb) ?_)
      rintro e w147 ⟨A148, n149, c150, rfl, h151, u152⟩
      refine ⟨_, rfl, ?_⟩
      have M155 := mtu M143 u152
      have M156 := mtu M144 u152
      have M157 := mtu M145 u152
      have M158 := mtu M146 u152
      refine hxu u152 ?_
      have h159 := (up_ob u152 (up_ob u140 h122))
      refine h1a 8 1 rfl (ss rfl (k := 0) (v := .agg #[I_ sda.x.node.t, I_ sda.x.node.w, I_ sda.x.parent.t, I_ sda.x.parent.w, S_ sda.x.name, B_ sda.x.dir, B_ sda.x.gone, .slice A136 n137 c138, I_ sda.x.by_.t, I_ sda.x.by_.w, B_ sda.hangs, S_ sda.path]) (vs := [I_ sda.x.node.t, I_ sda.x.node.w, I_ sda.x.parent.t, I_ sda.x.parent.w, S_ sda.x.name, B_ sda.x.dir, B_ sda.x.gone, .slice A136 n137 c138, I_ sda.x.by_.t, I_ sda.x.by_.w, B_ sda.hangs, S_ sda.path]) (cs' := [I_ sda.x.node.t, I_ sda.x.node.w, I_ sda.x.parent.t, I_ sda.x.parent.w, S_ sda.x.name, B_ sda.x.dir, B_ sda.x.gone, .slice A136 n137 c138, I_ sda.x.by_.t, I_ sda.x.by_.w, B_ sda.hangs, S_ sda.path]) (by kernel_rfl) (by kernel_rfl) rfl Ty.sz123 h159 rfl (Nat.le_of_ble_eq_true rfl) rfl fun w160 h161 c162 => ?_)
      have M163 := mtn M155 c162 g127
      have M164 := mtn M156 c162 g128
      have M165 := mtn M157 c162 g129
      have M166 := mtn M158 c162 g130
      refine hxc c162 ?_
      have h167 := (chg_ob c162 (Nat.ne_of_lt l126) (up_ob u152 (up_ob u140 (up_ob u123 h108))))
      refine h1a 9 0 rfl (ss rfl (k := 0) (v := .agg #[I_ sdb.x.node.t, I_ sdb.x.node.w, I_ sdb.x.parent.t, I_ sdb.x.parent.w, S_ sdb.x.name, B_ sdb.x.dir, B_ sdb.x.gone, .slice A148 n149 c150, I_ sdb.x.by_.t, I_ sdb.x.by_.w, B_ sdb.hangs, S_ sdb.path]) (vs := [I_ sdb.x.node.t, I_ sdb.x.node.w, I_ sdb.x.parent.t, I_ sdb.x.parent.w, S_ sdb.x.name, B_ sdb.x.dir, B_ sdb.x.gone, .slice A148 n149 c150, I_ sdb.x.by_.t, I_ sdb.x.by_.w, B_ sdb.hangs, S_ sdb.path]) (cs' := [I_ sdb.x.node.t, I_ sdb.x.node.w, I_ sdb.x.parent.t, I_ sdb.x.parent.w, S_ sdb.x.name, B_ sdb.x.dir, B_ sdb.x.gone, .slice A148 n149 c150, I_ sdb.x.by_.t, I_ sdb.x.by_.w, B_ sdb.hangs, S_ sdb.path]) (by kernel_rfl) (by kernel_rfl) rfl Ty.sz123 h167 rfl (Nat.le_of_ble_eq_true rfl) rfl fun w168 h169 c170 => ?_)
      have M171 := mtn M163 c170 g111
      have M172 := mtn M164 c170 g112
      have M173 := mtn M165 c170 g113
      have M174 := mtn M166 c170 g114
      refine hxc c170 ?_
      refine hend (by kernel_rfl) ?_
      refine then_n ?_
      have h175 := (chg_ob c170 (Nat.ne_of_gt l126) h161)
      have h176 := (Dat.chg (Dat.chg (Dat.up h139 u152) c162 ⟨(Nat.le_trans hB g127), NotU8.of h159 (by decide)⟩) c170 ⟨(Nat.le_trans hB g111), NotU8.of h167 (by decide)⟩)
      have h177 := (Dat.chg (Dat.chg h151 c162 ⟨(Nat.le_trans hB g127), NotU8.of h159 (by decide)⟩) c170 ⟨(Nat.le_trans hB g111), NotU8.of h167 (by decide)⟩)
      exact ⟨b119, b105, A136, n137, c138, A148, n149, c150, hmk, M174, h175, h169, h176, h177⟩
   rintro _ w98 ⟨ba, bb, yA1, yn1, yc1, yA2, yn2, yc2, h104, h99, h100, h101, h102, h103⟩
   obtain ⟨Y45, rfl⟩ := h104
   have M105 := Mod.thin M88 h99 (by simp)
   have M106 := Mod.thin M89 h99 (by simp)
   have M107 := Mod.thin M90 h99 (by simp)
   refine wp_seq (rg_lit (wlv (v := .agg #[I_ sda.x.node.t, I_ sda.x.node.w, I_ sda.x.parent.t, I_ sda.x.parent.w, S_ sda.x.name, B_ sda.x.dir, B_ sda.x.gone, .slice yA1 yn1 yc1, I_ sda.x.by_.t, I_ sda.x.by_.w, B_ sda.hangs, S_ sda.path]) (lds 0 Ty.ag123 Ty.sz123 h100) (wlv (v := .agg #[I_ sdb.x.node.t, I_ sdb.x.node.w, I_ sdb.x.parent.t, I_ sdb.x.parent.w, S_ sdb.x.name, B_ sdb.x.dir, B_ sdb.x.gone, .slice yA2 yn2 yc2, I_ sdb.x.by_.t, I_ sdb.x.by_.w, B_ sdb.hangs, S_ sdb.path]) (lds 0 Ty.ag123 Ty.sz123 h101) (wl (sca [.agg #[I_ sda.x.node.t, I_ sda.x.node.w, I_ sda.x.parent.t, I_ sda.x.parent.w, S_ sda.x.name, B_ sda.x.dir, B_ sda.x.gone, .slice yA1 yn1 yc1, I_ sda.x.by_.t, I_ sda.x.by_.w, B_ sda.hangs, S_ sda.path], .agg #[I_ sdb.x.node.t, I_ sdb.x.node.w, I_ sdb.x.parent.t, I_ sdb.x.parent.w, S_ sdb.x.name, B_ sdb.x.dir, B_ sdb.x.gone, .slice yA2 yn2 yc2, I_ sdb.x.by_.t, I_ sdb.x.by_.w, B_ sdb.hangs, S_ sdb.path]] En.f76 (kind_at (a := sda) (b := sdb) h102 h103) ?_)))))
   rintro e w108 ⟨rfl, u109⟩
   refine ⟨_, rfl, ?_⟩
   have M110 := mtu M105 u109
   have M111 := mtu M106 u109
   have M112 := mtu M107 u109
   refine was (v := I_ (kindP sda sdb)) (wnil (then_n (wp_seq (rg_lit (wmv (v := I_ (kindP sda sdb)) (wl (sb rfl (neI (kindP sda sdb) 0) fun b113 k114 => wnil (then_n ?_))))))))
   refine bcd k114 (fun v115 p116 => ?_) (fun v115 p116 => ?_)
   ·
    refine wp_cond_false (eb v115) (wp_skip (inb_n (then_n (rg_lit (wlv (v := I_ ((j + 1 : Nat) : Int)) (adI (c := ((j + 1 : Nat) : Int)) j 1 ((IntWalk.i64_in _ (by omega)).trans (by omega))) (wmv (v := I_ ((j + 1 : Nat) : Int)) (wnil (then_n ?_))))))))
    have h117 := (CRow.up h97 (up_up (Mod.up h99) u109))
    refine ⟨D.length - (j + 1), ?_, (j + 1), out, oA, oc, rfl, hmk, M112, (by omega), (by rw [ho1]; exact chgs_no hy73 hsa hsb (Decidable.not_not.1 p116)), h117⟩
    · omega
   refine wp_cond_true (eb v115) (rg_lit (wmv (v := .slice oA out.length oc) (wmv (v := I_ (kindP sda sdb)) ?_)))
   have h117 := (up_ob u109 (md_ob h99 nin0 h86))
   refine wlv (v := .agg #[I_ y73.t, I_ y73.w]) (lds 0 Ty.ag24 Ty.sz24 h117) (wlv (v := pt ba 11) (fa (pt ba 0)) ?_)
   have h118 := (up_ob u109 h100)
   refine wlv (v := S_ sda.path) (ld 11 Ty.ag9 h118) (wlv (v := pt bb 11) (fa (pt bb 0)) ?_)
   have h119 := (up_ob u109 h101)
   refine wlv (v := S_ sdb.path) (ld 11 Ty.ag9 h119) (wlv (v := .agg #[I_ (kindP sda sdb), I_ y73.t, I_ y73.w, S_ sda.path, S_ sdb.path]) (r_build (ps := [(0, I_ (kindP sda sdb)), (1, .agg #[I_ y73.t, I_ y73.w]), (2, S_ sda.path), (3, S_ sdb.path)]) (cs := [I_ (kindP sda sdb), I_ y73.t, I_ y73.w, S_ sda.path, S_ sdb.path]) Ty.un61 Ty.zv61 Ty.pl61 (by kernel_rfl) (by kernel_rfl)) (wl (sn rfl (cs := #[I_ (kindP sda sdb), I_ y73.t, I_ y73.w, S_ sda.path, S_ sdb.path]) (T := 61) (V := fun b => sl b 0 1 1) (r_buildSlice (n := 1) (ps := [(0, .agg #[I_ (kindP sda sdb), I_ y73.t, I_ y73.w, S_ sda.path, S_ sdb.path])]) Ty.un54 Ty.sz61 Ty.zv61 (by decide) (by decide) (by kernel_rfl) (by kernel_rfl)) fun b120 w121 e122 h123 u124 => ?_)))
   have l125 := lsz e122 h117
   have l126 := lsz e122 h118
   have g128 := gsz e122 M110
   have g129 := gsz e122 M111
   have g130 := gsz e122 M112
   have M131 := mtu M110 u124
   have M132 := mtu M111 u124
   have M133 := mtu M112 u124
   have h134 := (CRow.up h97 (up_up (up_up (Mod.up h99) u109) u124))
   refine wl (snC ch5_a rfl (L := out) (x := (⟨(kindP sda sdb), y73, sda.path, sdb.path⟩ : ChgD)) (by kernel_rfl) (by kernel_rfl) h134 Ty.un54 h123 M133.size (by omega) fun A135 c136 w137 h138 u139 => ?_)
   have M140 := Mod.trans' M131 u139 (fun k hk => Nat.le_trans M56.size (h134.own k hk).1)
   have M141 := Mod.trans' M132 u139 (fun k hk => Nat.le_trans M57.size (h134.own k hk).1)
   have M142 := Mod.trans' M133 u139 (fun k hk => Nat.le_trans (Nat.le_refl _) (h134.own k hk).1)
   refine was (v := .slice A135 ((out ++ [(⟨(kindP sda sdb), y73, sda.path, sdb.path⟩ : ChgD)]).length) c136) (wnil (inb_n (then_n (rg_lit (wlv (v := I_ ((j + 1 : Nat) : Int)) (adI (c := ((j + 1 : Nat) : Int)) j 1 ((IntWalk.i64_in _ (by omega)).trans (by omega))) (wmv (v := I_ ((j + 1 : Nat) : Int)) (wnil (then_n ?_))))))))
   refine ⟨D.length - (j + 1), ?_, (j + 1), (out ++ [(⟨(kindP sda sdb), y73, sda.path, sdb.path⟩ : ChgD)]), A135, c136, rfl, hmk, M142, (by omega), (by rw [ho1]; exact chgs_yes hy73 hsa hsb p116), h138⟩
   · omega
  have q40 : k < LL.length := by omega
  refine wp_cond_true (eb v37) (wp_skip (then_n (wp_seq (wp_block (wp_seq (rg_lit ?_))))))
  have h41 := (IRow.up h26 (Mod.up hM1))
  obtain ⟨y42, hy42⟩ : ∃ x, LL[k]? = some x := ⟨_, List.getElem?_eq_getElem q40⟩
  obtain ⟨g42, cp42, cu42, dA42, dn42, dc42, hA42, hg42, hb42, he42, hD42⟩ := h41.get hy42
  injection hA42 with hA42 _ _
  replace he42 : (cu42.toList.drop (0 + k * 10)).take 10 = (itC y42 (.slice dA42 dn42 dc42)) := by rw [Nat.zero_add]; exact he42
  refine wlv (v := pt g42 (0 + k * 10)) (ixa LL.length c25 10 k hA42 Ty.un74 Ty.sz42) (wlv (v := itV y42 (.slice dA42 dn42 dc42)) (r_loads (k := 0 + k * 10) (by kernel_rfl) Ty.ag42 Ty.sz42 hb42 (el_sub0 he42 rfl)) (wl (sn rfl (cs := #[I_ 0, I_ 0, I_ 0, I_ 0, S_ (⟨#[]⟩), B_ false, B_ false, .slice none 0 0, I_ 0, I_ 0]) (T := 42) (V := fun b => pt b 0) (r_alloc Ty.zv42 rfl) fun b43 w44 e45 h46 u47 => ?_)))
  have l48 := lsz e45 hb42
  have g49 := gsz e45 M34
  have g50 := gsz e45 hM1
  have M51 := mtu M34 u47
  have M52 := mtu hM1 u47
  refine wl (ss rfl (k := 0) (v := itV y42 (.slice dA42 dn42 dc42)) (vs := (itC y42 (.slice dA42 dn42 dc42))) (cs' := (itC y42 (.slice dA42 dn42 dc42))) (by kernel_rfl) (by kernel_rfl) rfl Ty.sz42 h46 rfl (Nat.le_of_ble_eq_true rfl) rfl fun w53 h54 c55 => ?_)
  have M56 := mtn M51 c55 g49
  have M57 := mtn M52 c55 g50
  refine wnil (then_n (rg_lit (wmv (v := .slice nA ns.length nc) (wlv (v := pt b43 0) (fa (pt b43 0)) (wlv (v := .agg #[I_ y42.node.t, I_ y42.node.w]) (lds 0 Ty.ag24 Ty.sz24 h54) (wl (sn rfl (cs := #[I_ y42.node.t, I_ y42.node.w]) (T := 24) (V := fun b => sl b 0 1 1) (r_buildSlice (n := 1) (ps := [(0, .agg #[I_ y42.node.t, I_ y42.node.w])]) Ty.un95 Ty.sz24 Ty.zv24 (by decide) (by decide) (by kernel_rfl) (by kernel_rfl)) fun b58 w59 e60 h61 u62 => ?_)))))))
  have h63 := (chg_ob c55 (Nat.ne_of_lt l48) (up_ob u47 hb42))
  have M69 := mtu M57 u62
  have h70 := (MRow.up hF1_2 (up_up (up_chgn u47 c55 (by rw [e45]; exact Nat.le_refl _)) u62))
  refine wl (snM rfl (L := ns) (x := y42.node.t) (y := y42.node.w) (by kernel_rfl) (by kernel_rfl) h70 Ty.un95 h61 M69.size (by omega) fun A71 c72 w73 h74 u75 => ?_)
  have M77 := Mod.trans' M69 u75 (fun k hk => Nat.le_trans (Nat.le_refl _) (h70.own k hk).1)
  refine was (v := .slice A71 ((ns ++ [(⟨y42.node.t, y42.node.w⟩ : Stamp)]).length) c72) (wnil (inb_n (then_n (rg_lit (wlv (v := I_ ((k + 1 : Nat) : Int)) (adI (c := ((k + 1 : Nat) : Int)) k 1 ((IntWalk.i64_in _ (by omega)).trans (by omega))) (wmv (v := I_ ((k + 1 : Nat) : Int)) (wnil (then_n ?_))))))))
  refine ⟨LL.length - (k + 1), ?_, (k + 1), (ns ++ [(⟨y42.node.t, y42.node.w⟩ : Stamp)]), A71, c72, rfl, hmk, M77, (by omega), (by rw [hns]; exact nodes_next hy42), h74⟩
  · omega
end Go.Proofs.YtefhfoioeoijlaaGreatDoor

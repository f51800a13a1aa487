/- DG, PI -/
import Derived.Test.YtefhfoioeoijlaaGreatDoorUah
import Derived.Test.YtefhfoioeoijlaaGreatDoorUas
import Derived.Test.YtefhfoioeoijlaaGreatDoorUau
import Derived.Test.YtefhfoioeoijlaaGreatDoorUax
import Derived.Test.YtefhfoioeoijlaaGreatDoorUay
set_option linter.unusedVariables false
set_option linter.unusedSimpArgs false
namespace Go.Proofs.YtefhfoioeoijlaaGreatDoor
open Go Go.RowKit Go.Sort
set_option maxRecDepth 20000 in
set_option maxHeartbeats 2000000 in
theorem findD_at {B : Nat} {w : World} {ub : Nat} {L : List Item} (h : RIs B w ub L) (hB : B ≤ w.heap.size) (hF : Fit L) (n1 n2 : Int) (nm : ByteArray) : Calls Tryz.prog 110 #[trP ub, .agg #[.int .i64 n1, .int .i64 n2], .string nm] w fun e w' => e = .returned (.tuple #[enV (findE L ⟨n1, n2⟩ nm), .int .i64 (findK L ⟨n1, n2⟩ nm)]) ∧ Up w w' := by
  go_enter Tryz.func110, Tryz.ntmps110
  refine wp_seq (rg_lit (wl (sn rfl (cs := #[I_ n1, I_ n2]) (T := 24) (V := fun b => pt b 0) (r_box (v := .agg #[I_ n1, I_ n2]) (by kernel_rfl) rfl) fun b1 _ _ h4 u5 => ?_)))
  have M7 := mtu (Mod.refl [] w) u5
  refine wl (sn rfl (cs := #[S_ (⟨#[]⟩), I_ 0, I_ 0, B_ false, I_ 0]) (T := 160) (V := fun b => pt b 0) (r_alloc Ty.zv160 rfl) fun b8 _ e10 h11 u12 => ?_)
  have g14 := gsz e10 M7
  have M15 := mtu M7 u12
  refine was (v := I_ 0) (wnil (then_n (wp_seq (rg_lit (wmv (v := pt ub 0) (wlv (v := .agg #[I_ n1, I_ n2]) (lds 0 Ty.ag24 Ty.sz24 (up_ob u12 h4)) ?_))))))
  have h24 := (RIs.up h (Mod.up M15))
  refine wl (sca [pt ub 0, .agg #[I_ n1, I_ n2]] En.f86 (listD_at h24 (Nat.le_trans hB M15.size) hF n1 n2) ?_)
  rintro e w17 ⟨A18, c19, DD, rfl, h20, h21, h22, u23⟩
  have hDD := listD_len hF h21 h22
  refine ⟨_, rfl, ?_⟩
  have M25 := mtu M15 u23
  refine wmv (v := .tuple #[.slice A18 DD.length c19, I_ (kidK L ⟨n1, n2⟩)]) (wlv (v := .slice A18 DD.length c19) (xt [.slice A18 DD.length c19, I_ (kidK L ⟨n1, n2⟩)]) (wlv (v := I_ (kidK L ⟨n1, n2⟩)) (xt [.slice A18 DD.length c19, I_ (kidK L ⟨n1, n2⟩)]) (was (v := .slice A18 DD.length c19) (was (v := I_ (kidK L ⟨n1, n2⟩)) (wnil (then_n (wp_seq (wp_seq (rg_lit (wmv (v := I_ (kidK L ⟨n1, n2⟩)) (wl (sb rfl (neI (kidK L ⟨n1, n2⟩) 0) fun _ k27 => wnil (then_n ?_)))))))))))))
  refine bcd k27 (fun v28 p29 => ?_) (fun v28 p29 => ?_)
  ·
   refine wp_cond_false (ebk v28) (wp_skip (then_n (wp_seq (wp_seq (rg_lit (was (v := I_ 0) (wnil (then_n (wp_block ?_)))))))))
   have h31 := (up_ob u23 h11)
   refine lp (fun n a r1 => ∃ (k : Nat), (n = DD.length - k) ∧ (HasFr a 39 [(0, pt ub 0), (1, .agg #[I_ n1, I_ n2]), (2, S_ nm), (4, pt b1 0), (6, pt b8 0), (8, .slice A18 DD.length c19), (9, I_ (kidK L ⟨n1, n2⟩)), (10, I_ k)] []) ∧ (Mod [] w17 r1) ∧ (k ≤ DD.length) ∧ (Hid (∀ (j : Nat) (y : EntD), j < k → DD[j]? = some y → ¬ y.name = nm))) ⟨_, 0, rfl, hmk, Mod.refl _ _, (Nat.zero_le _), (fun j y hj => absurd hj (Nat.not_lt_zero _))⟩ ?_
   rintro _ _ r1 ⟨k, rfl, h33, hM1, _, hF1_1⟩
   obtain ⟨_, rfl⟩ := h33
   have M34 := Mod.thin M25 hM1 (by simp)
   refine wp_seq (wp_seq (rg_lit (wmv (v := I_ k) (wmv (v := .slice A18 DD.length c19) (wlv (v := I_ DD.length) (ln A18 DD.length c19 Ty.un136) (wl (sb rfl (ltI k DD.length) fun _ k36 => wnil (then_n ?_))))))))
   refine bcd k36 (fun v37 p38 => ?_) (fun v37 p38 => ?_)
   ·
    refine wp_cond_false (ebk v37) (wp_exit (then_x (by nofun) (then_x (by nofun) (inb_hit (then_n (wp_seq (rg_lit (wlv (v := .agg #[S_ (⟨#[]⟩), I_ 0, I_ 0, B_ false, I_ 0]) (r_build (ps := []) (cs := [S_ (⟨#[]⟩), I_ 0, I_ 0, B_ false, I_ 0]) Ty.un160 Ty.zv160 Ty.pl160 (by kernel_rfl) (by kernel_rfl)) (wl (ss rfl (k := 0) (v := .agg #[S_ (⟨#[]⟩), I_ 0, I_ 0, B_ false, I_ 0]) (vs := [S_ (⟨#[]⟩), I_ 0, I_ 0, B_ false, I_ 0]) (cs' := [S_ (⟨#[]⟩), I_ 0, I_ 0, B_ false, I_ 0]) (by kernel_rfl) (by kernel_rfl) rfl Ty.sz160 (md_ob hM1 nin0 h31) rfl (Nat.le_of_ble_eq_true rfl) rfl fun _ h41 c42 => was (v := I_ 12) (wnil (then_n (wp_ret ?_)))))))))))))
    refine bodyPost_ret (v := .tuple #[.agg #[S_ (⟨#[]⟩), I_ 0, I_ 0, B_ false, I_ 0], I_ 12]) (res2 rfl (rv_c (p := ⟨b8, 0, none⟩) (by kernel_rfl) (run_loadVars (vs := [S_ (⟨#[]⟩), I_ 0, I_ 0, B_ false, I_ 0]) Ty.ag160 Ty.sz160 h41 (by kernel_rfl))) (rv_t (by kernel_rfl))) (by kernel_rfl) ?_
    exact ⟨find_ret (y := zeroE) (find_miss (Decidable.not_not.1 p29) (h21 (Decidable.not_not.1 p29)) (none_end hF1_1 (by omega))), (Mod.up (mtn M34 c42 g14))⟩
   refine wp_cond_true (ebk v37) (wp_skip (then_n (wp_seq (wp_block (wp_seq (rg_lit (wmv (v := .slice A18 DD.length c19) (wmv (v := I_ k) ?_))))))))
   have h41 := (GRow.up h20 (Mod.up hM1))
   obtain ⟨y42, hy42⟩ : ∃ x, DD[k]? = some x := ⟨_, List.getElem?_eq_getElem (by omega)⟩
   obtain ⟨g42, hA42, _, hc42⟩ := GRow.get enc_ent h41 hy42
   refine wlv (v := pt g42 (k * 5)) (ixa DD.length c19 5 k hA42 Ty.un136 Ty.sz160) (wlv (v := pt g42 (k * 5)) (fa (pt g42 (k * 5))) (wlv (v := S_ y42.name) (r_loadc (by kernel_rfl) Ty.ag9 (hc42 0 _ rfl)) (wmv (v := S_ nm) (wl (sb rfl (r_eqs (m := y42.name) (n := nm) (by kernel_rfl) (by kernel_rfl)) fun _ k44 => wnil (then_n ?_))))))
   refine bcd k44 (fun v45 p46 => ?_) (fun v45 p46 => ?_)
   ·
    refine wp_cond_false (ebk v45) (wp_skip (inb_n (then_n (rg_lit (wmv (v := I_ k) (wlv (v := N_ (k + 1)) (adN k 1) (was (v := N_ (k + 1)) (wnil (then_n ?_)))))))))
    refine ⟨DD.length - (k + 1), ?_, (k + 1), rfl, hmk, hM1, (by omega), (none_next (p := fun y : EntD => y.name = nm) hF1_1 hy42 p46)⟩
    · omega
   refine wp_cond_true (ebk v45) (wp_seq (rg_lit (wmv (v := .slice A18 DD.length c19) (wmv (v := I_ k) ?_))))
   obtain ⟨g47, hA47, _, hc47⟩ := GRow.get enc_ent h41 hy42
   refine wlv (v := pt g47 (k * 5)) (ixa DD.length c19 5 k hA47 Ty.un136 Ty.sz160) (wlv (v := .agg #[S_ y42.name, I_ y42.node.t, I_ y42.node.w, B_ y42.dir, I_ y42.size]) (r_loadcN (vs := [S_ y42.name, I_ y42.node.t, I_ y42.node.w, B_ y42.dir, I_ y42.size]) (by kernel_rfl) Ty.ag160 Ty.sz160 hc47) (wl (ss rfl (k := 0) (v := .agg #[S_ y42.name, I_ y42.node.t, I_ y42.node.w, B_ y42.dir, I_ y42.size]) (vs := [S_ y42.name, I_ y42.node.t, I_ y42.node.w, B_ y42.dir, I_ y42.size]) (cs' := [S_ y42.name, I_ y42.node.t, I_ y42.node.w, B_ y42.dir, I_ y42.size]) (by kernel_rfl) (by kernel_rfl) rfl Ty.sz160 (md_ob hM1 nin0 h31) rfl (Nat.le_of_ble_eq_true rfl) rfl fun _ h50 c51 => was (v := I_ 0) (wnil (then_n (wp_ret (inb_r (then_x (by nofun) (then_x (by nofun) (inb_r (then_x (by nofun) ?_)))))))))))
   refine bodyPost_ret (v := .tuple #[.agg #[S_ y42.name, I_ y42.node.t, I_ y42.node.w, B_ y42.dir, I_ y42.size], I_ 0]) (res2 rfl (rv_c (p := ⟨b8, 0, none⟩) (by kernel_rfl) (run_loadVars (vs := [S_ y42.name, I_ y42.node.t, I_ y42.node.w, B_ y42.dir, I_ y42.size]) Ty.ag160 Ty.sz160 h50 (by kernel_rfl))) (rv_t (by kernel_rfl))) (by kernel_rfl) ?_
   exact ⟨find_ret (y := y42) (find_hit hF (Decidable.not_not.1 p29) (h21 (Decidable.not_not.1 p29)) hy42 p46), (Mod.up (mtn M34 c51 g14))⟩
  refine wp_cond_true (ebk v28) (wp_seq (rg_lit (wlv (v := .agg #[S_ (⟨#[]⟩), I_ 0, I_ 0, B_ false, I_ 0]) (r_build (ps := []) (cs := [S_ (⟨#[]⟩), I_ 0, I_ 0, B_ false, I_ 0]) Ty.un160 Ty.zv160 Ty.pl160 (by kernel_rfl) (by kernel_rfl)) (wmv (v := I_ (kidK L ⟨n1, n2⟩)) (wl (ss rfl (k := 0) (v := .agg #[S_ (⟨#[]⟩), I_ 0, I_ 0, B_ false, I_ 0]) (vs := [S_ (⟨#[]⟩), I_ 0, I_ 0, B_ false, I_ 0]) (cs' := [S_ (⟨#[]⟩), I_ 0, I_ 0, B_ false, I_ 0]) (by kernel_rfl) (by kernel_rfl) rfl Ty.sz160 (up_ob u23 h11) rfl (Nat.le_of_ble_eq_true rfl) rfl fun _ h32 c33 => was (v := I_ (kidK L ⟨n1, n2⟩)) (wnil (then_n (wp_ret (then_x (by nofun) ?_))))))))))
  refine bodyPost_ret (v := .tuple #[.agg #[S_ (⟨#[]⟩), I_ 0, I_ 0, B_ false, I_ 0], I_ (kidK L ⟨n1, n2⟩)]) (res2 rfl (rv_c (p := ⟨b8, 0, none⟩) (by kernel_rfl) (run_loadVars (vs := [S_ (⟨#[]⟩), I_ 0, I_ 0, B_ false, I_ 0]) Ty.ag160 Ty.sz160 h32 (by kernel_rfl))) (rv_t (by kernel_rfl))) (by kernel_rfl) ?_
  exact ⟨find_ret (y := zeroE) (find_bad p29), (Mod.up (mtn M25 c33 g14))⟩
set_option maxRecDepth 20000 in
set_option maxHeartbeats 2000000 in
theorem walkD_at {B : Nat} {w : World} {ub : Nat} {L : List Item} (h : RIs B w ub L) (hB : B ≤ w.heap.size) (hF : Fit L) (s : ByteArray) (hs : s.size ≤ 100000) : Calls Tryz.prog 52 #[trP ub, .string s] w fun e w' => e = .returned (.tuple #[.agg #[.int .i64 (walkS L s).t, .int .i64 (walkS L s).w], .int .i64 (walkK L s)]) ∧ Up w w' := by
  have hzp := parse_parts hs
  go_enter Tryz.func52, Tryz.ntmps52
  refine wp_seq (rg_lit (wl (sn rfl (cs := #[I_ 0, I_ 0]) (T := 24) (V := fun b => pt b 0) (r_alloc Ty.zv24 rfl) fun b1 _ e3 h4 u5 => ?_)))
  have g6 := gsz e3 (Mod.refl [] w)
  refine was (v := I_ 0) (wnil (then_n (wp_seq (rg_lit (wmv (v := S_ s) (wl (sca [S_ s] En.f45 (parseD_at s (by omega)) ?_)))))))
  rintro e _ ⟨A9, c10, rfl, h11, _, u13⟩
  refine ⟨_, rfl, ?_⟩
  have M15 := mtu (mtu (Mod.refl [] w) u5) u13
  refine wmv (v := .tuple #[.slice A9 ((parseL s).length) c10, I_ (parseK s)]) (wlv (v := .slice A9 ((parseL s).length) c10) (xt [.slice A9 ((parseL s).length) c10, I_ (parseK s)]) (wlv (v := I_ (parseK s)) (xt [.slice A9 ((parseL s).length) c10, I_ (parseK s)]) (was (v := .slice A9 ((parseL s).length) c10) (was (v := I_ (parseK s)) (wnil (then_n (wp_seq (wp_seq (rg_lit (wmv (v := I_ (parseK s)) (wl (sb rfl (neI (parseK s) 0) fun _ k17 => wnil (then_n ?_)))))))))))))
  refine bcd k17 (fun v18 p19 => ?_) (fun v18 p19 => ?_)
  ·
   refine wp_cond_false (ebk v18) (wp_skip (then_n (wp_seq (rg_lit (wlv (v := .agg #[I_ 0, I_ 0]) (r_build (ps := []) (cs := [I_ 0, I_ 0]) Ty.un24 Ty.zv24 Ty.pl24 (by kernel_rfl) (by kernel_rfl)) (wl (sn rfl (cs := #[I_ 0, I_ 0]) (T := 24) (V := fun b => pt b 0) (r_alloc Ty.zv24 rfl) fun pb w20 e21 h22 u23 => ?_)))))))
   have h24 := (up_ob u13 h4)
   have l25 := lsz e21 h24
   have g26 := gsz e21 M15
   have n28 := SSRow.fresh h11 e21
   refine wl (ss rfl (k := 0) (v := .agg #[I_ 0, I_ 0]) (vs := [I_ 0, I_ 0]) (cs' := [I_ 0, I_ 0]) (by kernel_rfl) (by kernel_rfl) rfl Ty.sz24 h22 rfl (Nat.le_of_ble_eq_true rfl) rfl fun w29 h30 c31 => wnil (then_n (wp_seq (wp_seq (rg_lit (was (v := I_ 0) (wnil (then_n (wp_block ?_)))))))))
   have h33 := (chg_ob c31 (Nat.ne_of_lt l25) (up_ob u23 h24))
   have h35 := (SSRow.up h11 (up_chgn u23 c31 (by rw [e21]; exact Nat.le_refl _)))
   refine lp (fun n a r1 => ∃ (k : Nat) (s1 : Int) (s2 : Int), (n = (parseL s).length - k) ∧ (HasFr a 45 [(0, pt ub 0), (1, S_ s), (4, pt b1 0), (6, .slice A9 ((parseL s).length) c10), (7, I_ (parseK s)), (8, pt pb 0), (9, I_ k)] []) ∧ (Mod [pb] w29 r1) ∧ (r1.heap[pb]? = some (.cells #[I_ s1, I_ s2] 24 (0, 0))) ∧ (k ≤ (parseL s).length) ∧ (wkS L ((parseL s).drop k) ⟨s1, s2⟩ = wkS L (parseL s) ⟨0, 0⟩)) ⟨_, 0, 0, 0, rfl, hmk, Mod.refl _ _, h30, (Nat.zero_le _), rfl⟩ ?_
   rintro _ _ r1 ⟨k, s1, s2, rfl, h36, hM1, hX1pb, _, hF1_1⟩
   obtain ⟨_, rfl⟩ := h36
   have M37 := Mod.thin (mtn (mtu M15 u23) c31 g26) hM1 (fun y hy => by simp only [List.mem_cons, List.not_mem_nil, or_false] at hy; subst hy; exact .inr g26)
   refine wp_seq (wp_seq (rg_lit (wmv (v := I_ k) (wmv (v := .slice A9 ((parseL s).length) c10) (wlv (v := I_ (((parseL s).length) : Int)) (ln A9 ((parseL s).length) c10 Ty.un69) (wl (sb rfl (ltI k (((parseL s).length) : Int)) fun _ k39 => wnil (then_n ?_))))))))
   refine bcd k39 (fun v40 p41 => ?_) (fun v40 p41 => ?_)
   ·
    refine wp_cond_false (ebk v40) (wp_exit (then_x (by nofun) (then_x (by nofun) (inb_hit (then_n (wp_seq (rg_lit (wlv (v := .agg #[I_ s1, I_ s2]) (lds 0 Ty.ag24 Ty.sz24 hX1pb) (wl (ss rfl (k := 0) (v := .agg #[I_ s1, I_ s2]) (vs := [I_ s1, I_ s2]) (cs' := [I_ s1, I_ s2]) (by kernel_rfl) (by kernel_rfl) rfl Ty.sz24 (md_ob hM1 (nin1 (Nat.ne_of_lt l25)) h33) rfl (Nat.le_of_ble_eq_true rfl) rfl fun _ h44 c45 => was (v := I_ 0) (wnil (then_n (wp_ret ?_)))))))))))))
    refine bodyPost_ret (v := .tuple #[.agg #[I_ s1, I_ s2], I_ 0]) (res2 rfl (rv_c (p := ⟨b1, 0, none⟩) (by kernel_rfl) (run_loadVars (vs := [I_ s1, I_ s2]) Ty.ag24 Ty.sz24 h44 (by kernel_rfl))) (rv_t (by kernel_rfl))) (by kernel_rfl) ?_
    exact ⟨walk_ret (walk_is (Decidable.not_not.1 p19) (hF1_1.symm.trans (wk_end (by omega)))), (Mod.up (mtn M37 c45 g6))⟩
   refine wp_cond_true (ebk v40) (wp_skip (then_n (wp_seq (wp_block (wp_seq ?_)))))
   refine rg_held [] (n := 13) (by kernel_rfl) rfl ?_
   intro w42 u43
   have M44 := mtu M37 u43
   have M45 := mtu hM1 u43
   refine hqm 0 12 rfl (v := pt ub 0) ?_
   have h46 := (up_ob u43 hX1pb)
   refine hqk 1 11 rfl rfl (v := .agg #[I_ s1, I_ s2]) (fun _ uz => lds 0 Ty.ag24 Ty.sz24 (md_ob uz nin0 h46)) (hqm 2 10 rfl (v := .slice A9 ((parseL s).length) c10) (hqm 3 9 rfl (v := I_ k) ?_))
   have h47 := (SSRow.chgm2 h35 (Mod.chg M45) n28)
   obtain ⟨y48, hy48⟩ : ∃ x, (parseL s)[k]? = some x := ⟨_, List.getElem?_eq_getElem (by omega)⟩
   obtain ⟨g48, f48, hA48, hl48, hc48⟩ := SSRow.get h47 hy48
   refine hqk 4 8 rfl rfl (v := pt g48 (f48 + k)) (fun _ _ => ixa ((parseL s).length) c10 1 k hA48 Ty.un69 Ty.sz9) (hqk 5 7 rfl rfl (v := S_ y48) (fun _ uz => r_loadc (by kernel_rfl) Ty.ag9 (((Mod.up uz).cell (p := ⟨g48, f48 + k, none⟩) hl48).trans hc48)) ?_)
   refine h2a 6 10 6 rfl rfl ?_ ?_
   ·
    have h51 := (RIs.up h (Mod.up M44))
    refine sca [pt ub 0, .agg #[I_ s1, I_ s2], S_ y48] En.f110 (findD_at h51 (Nat.le_trans hB M44.size) hF s1 s2 y48) ?_
    rintro e _ ⟨rfl, u50⟩
    refine ⟨_, rfl, ?_⟩
    have M52 := mtu M44 u50
    have M53 := mtu M45 u50
    refine hxu u50 (hqm 7 5 rfl (v := .tuple #[.agg #[S_ ((findE L ⟨s1, s2⟩ y48).name), I_ ((findE L ⟨s1, s2⟩ y48).node.t), I_ ((findE L ⟨s1, s2⟩ y48).node.w), B_ ((findE L ⟨s1, s2⟩ y48).dir), I_ ((findE L ⟨s1, s2⟩ y48).size)], I_ (findK L ⟨s1, s2⟩ y48)]) (hqk 8 4 rfl rfl (v := .agg #[S_ ((findE L ⟨s1, s2⟩ y48).name), I_ ((findE L ⟨s1, s2⟩ y48).node.t), I_ ((findE L ⟨s1, s2⟩ y48).node.w), B_ ((findE L ⟨s1, s2⟩ y48).dir), I_ ((findE L ⟨s1, s2⟩ y48).size)]) (fun _ _ => xt [.agg #[S_ ((findE L ⟨s1, s2⟩ y48).name), I_ ((findE L ⟨s1, s2⟩ y48).node.t), I_ ((findE L ⟨s1, s2⟩ y48).node.w), B_ ((findE L ⟨s1, s2⟩ y48).dir), I_ ((findE L ⟨s1, s2⟩ y48).size)], I_ (findK L ⟨s1, s2⟩ y48)]) (hqk 9 3 rfl rfl (v := I_ (findK L ⟨s1, s2⟩ y48)) (fun _ _ => xt [.agg #[S_ ((findE L ⟨s1, s2⟩ y48).name), I_ ((findE L ⟨s1, s2⟩ y48).node.t), I_ ((findE L ⟨s1, s2⟩ y48).node.w), B_ ((findE L ⟨s1, s2⟩ y48).dir), I_ ((findE L ⟨s1, s2⟩ y48).size)], I_ (findK L ⟨s1, s2⟩ y48)]) (h1a 10 2 rfl (sn rfl (cs := #[S_ (⟨#[]⟩), I_ 0, I_ 0, B_ false, I_ 0]) (T := 160) (V := fun b => pt b 0) (r_alloc Ty.zv160 rfl) fun b54 _ e56 h57 u58 => ?_)))))
    have h61 := (up_ob u50 h46)
    have l62 := lsz e56 h61
    have g63 := gsz e56 M52
    have g64 := gsz e56 M53
    refine hxy u58 e56 (h1a 11 1 rfl (ss rfl (k := 0) (v := .agg #[S_ ((findE L ⟨s1, s2⟩ y48).name), I_ ((findE L ⟨s1, s2⟩ y48).node.t), I_ ((findE L ⟨s1, s2⟩ y48).node.w), B_ ((findE L ⟨s1, s2⟩ y48).dir), I_ ((findE L ⟨s1, s2⟩ y48).size)]) (vs := [S_ ((findE L ⟨s1, s2⟩ y48).name), I_ ((findE L ⟨s1, s2⟩ y48).node.t), I_ ((findE L ⟨s1, s2⟩ y48).node.w), B_ ((findE L ⟨s1, s2⟩ y48).dir), I_ ((findE L ⟨s1, s2⟩ y48).size)]) (cs' := [S_ ((findE L ⟨s1, s2⟩ y48).name), I_ ((findE L ⟨s1, s2⟩ y48).node.t), I_ ((findE L ⟨s1, s2⟩ y48).node.w), B_ ((findE L ⟨s1, s2⟩ y48).dir), I_ ((findE L ⟨s1, s2⟩ y48).size)]) (by kernel_rfl) (by kernel_rfl) rfl Ty.sz160 h57 rfl (Nat.le_of_ble_eq_true rfl) rfl fun w67 h68 c69 => ?_))
    have M71 := mtn (mtu M53 u58) c69 g64
    refine hxc c69 (hqk 12 0 rfl rfl (v := I_ (findK L ⟨s1, s2⟩ y48)) (fun _ _ => r_assign (by kernel_rfl)) ?_)
    refine hend (by kernel_rfl) ?_
    refine then_n (wp_seq (wp_seq (rg_lit (wmv (v := I_ (findK L ⟨s1, s2⟩ y48)) (wl (sb rfl (neI (findK L ⟨s1, s2⟩ y48) 0) fun b72 k73 => wnil (then_n ?_)))))))
    refine bcd k73 (fun v74 p75 => ?_) (fun v74 p75 => ?_)
    ·
     refine wp_cond_false (ebk v74) (wp_skip (then_n (rg_lit (wlv (v := pt b54 1) (fa (pt b54 0)) (wlv (v := .agg #[I_ ((findE L ⟨s1, s2⟩ y48).node.t), I_ ((findE L ⟨s1, s2⟩ y48).node.w)]) (lds 1 Ty.ag24 Ty.sz24 h68) (wl (ss rfl (k := 0) (v := .agg #[I_ ((findE L ⟨s1, s2⟩ y48).node.t), I_ ((findE L ⟨s1, s2⟩ y48).node.w)]) (vs := [I_ ((findE L ⟨s1, s2⟩ y48).node.t), I_ ((findE L ⟨s1, s2⟩ y48).node.w)]) (cs' := [I_ ((findE L ⟨s1, s2⟩ y48).node.t), I_ ((findE L ⟨s1, s2⟩ y48).node.w)]) (by kernel_rfl) (by kernel_rfl) rfl Ty.sz24 (chg_ob c69 (Nat.ne_of_lt l62) (up_ob u58 h61)) rfl (Nat.le_of_ble_eq_true rfl) rfl fun w77 h78 c79 => wnil (inb_n (then_n (rg_lit (wmv (v := I_ k) (wlv (v := N_ (k + 1)) (adN k 1) (was (v := N_ (k + 1)) ?_)))))))))))))
     refine wnil (then_n ?_)
     refine ⟨(parseL s).length - (k + 1), ?_, (k + 1), (findE L ⟨s1, s2⟩ y48).node.t, (findE L ⟨s1, s2⟩ y48).node.w, rfl, hmk, (mtx M71 c79), h78, (by omega), ((wk_go hy48 (Decidable.not_not.1 p75)).symm.trans hF1_1)⟩
     · omega
    refine wp_cond_true (ebk v74) (wp_seq (rg_lit (wlv (v := .agg #[I_ 0, I_ 0]) (r_build (ps := []) (cs := [I_ 0, I_ 0]) Ty.un24 Ty.zv24 Ty.pl24 (by kernel_rfl) (by kernel_rfl)) (wmv (v := I_ (findK L ⟨s1, s2⟩ y48)) (wl (ss rfl (k := 0) (v := .agg #[I_ 0, I_ 0]) (vs := [I_ 0, I_ 0]) (cs' := [I_ 0, I_ 0]) (by kernel_rfl) (by kernel_rfl) rfl Ty.sz24 (md_ob M71 (nin1 (Nat.ne_of_lt l25)) h33) rfl (Nat.le_of_ble_eq_true rfl) rfl fun w77 h78 c79 => was (v := I_ (findK L ⟨s1, s2⟩ y48)) (wnil (then_n (wp_ret (then_x (by nofun) (inb_r (then_x (by nofun) (then_x (by nofun) (inb_r (then_x (by nofun) ?_)))))))))))))))
    refine bodyPost_ret (v := .tuple #[.agg #[I_ 0, I_ 0], I_ (findK L ⟨s1, s2⟩ y48)]) (res2 rfl (rv_c (p := ⟨b1, 0, none⟩) (by kernel_rfl) (run_loadVars (vs := [I_ 0, I_ 0]) Ty.ag24 Ty.sz24 h78 (by kernel_rfl))) (rv_t (by kernel_rfl))) (by kernel_rfl) ?_
    exact ⟨walk_ret (walk_is (Decidable.not_not.1 p19) (hF1_1.symm.trans (wk_no hy48 p75))), (Mod.up (mtn (mtn (mtu M52 u58) c69 g63) c79 g6))⟩
   ·
    refine sn rfl (cs := #[S_ (⟨#[]⟩), I_ 0, I_ 0, B_ false, I_ 0]) (T := 160) (V := fun b => pt b 0) (r_alloc Ty.zv160 rfl) fun b49 _ e51 h52 u53 => ?_
    have l56 := lsz e51 h46
    have g57 := gsz e51 M44
    have g58 := gsz e51 M45
    have M59 := mtu M44 u53
    refine hxy u53 e51 ?_
    have h63 := (RIs.up h (Mod.up M59))
    refine h1a 6 5 rfl (sca [pt ub 0, .agg #[I_ s1, I_ s2], S_ y48] En.f110 (findD_at h63 (Nat.le_trans hB M59.size) hF s1 s2 y48) ?_)
    rintro e _ ⟨rfl, u62⟩
    refine ⟨_, rfl, ?_⟩
    refine hxu u62 (hqm 7 4 rfl (v := .tuple #[.agg #[S_ ((findE L ⟨s1, s2⟩ y48).name), I_ ((findE L ⟨s1, s2⟩ y48).node.t), I_ ((findE L ⟨s1, s2⟩ y48).node.w), B_ ((findE L ⟨s1, s2⟩ y48).dir), I_ ((findE L ⟨s1, s2⟩ y48).size)], I_ (findK L ⟨s1, s2⟩ y48)]) (hqk 8 3 rfl rfl (v := .agg #[S_ ((findE L ⟨s1, s2⟩ y48).name), I_ ((findE L ⟨s1, s2⟩ y48).node.t), I_ ((findE L ⟨s1, s2⟩ y48).node.w), B_ ((findE L ⟨s1, s2⟩ y48).dir), I_ ((findE L ⟨s1, s2⟩ y48).size)]) (fun _ _ => xt [.agg #[S_ ((findE L ⟨s1, s2⟩ y48).name), I_ ((findE L ⟨s1, s2⟩ y48).node.t), I_ ((findE L ⟨s1, s2⟩ y48).node.w), B_ ((findE L ⟨s1, s2⟩ y48).dir), I_ ((findE L ⟨s1, s2⟩ y48).size)], I_ (findK L ⟨s1, s2⟩ y48)]) (hqk 9 2 rfl rfl (v := I_ (findK L ⟨s1, s2⟩ y48)) (fun _ _ => xt [.agg #[S_ ((findE L ⟨s1, s2⟩ y48).name), I_ ((findE L ⟨s1, s2⟩ y48).node.t), I_ ((findE L ⟨s1, s2⟩ y48).node.w), B_ ((findE L ⟨s1, s2⟩ y48).dir), I_ ((findE L ⟨s1, s2⟩ y48).size)], I_ (findK L ⟨s1, s2⟩ y48)]) (h1a 11 1 rfl (ss rfl (k := 0) (v := .agg #[S_ ((findE L ⟨s1, s2⟩ y48).name), I_ ((findE L ⟨s1, s2⟩ y48).node.t), I_ ((findE L ⟨s1, s2⟩ y48).node.w), B_ ((findE L ⟨s1, s2⟩ y48).dir), I_ ((findE L ⟨s1, s2⟩ y48).size)]) (vs := [S_ ((findE L ⟨s1, s2⟩ y48).name), I_ ((findE L ⟨s1, s2⟩ y48).node.t), I_ ((findE L ⟨s1, s2⟩ y48).node.w), B_ ((findE L ⟨s1, s2⟩ y48).dir), I_ ((findE L ⟨s1, s2⟩ y48).size)]) (cs' := [S_ ((findE L ⟨s1, s2⟩ y48).name), I_ ((findE L ⟨s1, s2⟩ y48).node.t), I_ ((findE L ⟨s1, s2⟩ y48).node.w), B_ ((findE L ⟨s1, s2⟩ y48).dir), I_ ((findE L ⟨s1, s2⟩ y48).size)]) (by kernel_rfl) (by kernel_rfl) rfl Ty.sz160 (up_ob u62 h52) rfl (Nat.le_of_ble_eq_true rfl) rfl fun w67 h68 c69 => ?_)))))
    have M71 := mtn (mtu (mtu M45 u53) u62) c69 g58
    refine hxc c69 (hqk 12 0 rfl rfl (v := I_ (findK L ⟨s1, s2⟩ y48)) (fun _ _ => r_assign (by kernel_rfl)) ?_)
    refine hend (by kernel_rfl) ?_
    refine then_n (wp_seq (wp_seq (rg_lit (wmv (v := I_ (findK L ⟨s1, s2⟩ y48)) (wl (sb rfl (neI (findK L ⟨s1, s2⟩ y48) 0) fun b72 k73 => wnil (then_n ?_)))))))
    refine bcd k73 (fun v74 p75 => ?_) (fun v74 p75 => ?_)
    ·
     refine wp_cond_false (ebk v74) (wp_skip (then_n (rg_lit (wlv (v := pt b49 1) (fa (pt b49 0)) (wlv (v := .agg #[I_ ((findE L ⟨s1, s2⟩ y48).node.t), I_ ((findE L ⟨s1, s2⟩ y48).node.w)]) (lds 1 Ty.ag24 Ty.sz24 h68) (wl (ss rfl (k := 0) (v := .agg #[I_ ((findE L ⟨s1, s2⟩ y48).node.t), I_ ((findE L ⟨s1, s2⟩ y48).node.w)]) (vs := [I_ ((findE L ⟨s1, s2⟩ y48).node.t), I_ ((findE L ⟨s1, s2⟩ y48).node.w)]) (cs' := [I_ ((findE L ⟨s1, s2⟩ y48).node.t), I_ ((findE L ⟨s1, s2⟩ y48).node.w)]) (by kernel_rfl) (by kernel_rfl) rfl Ty.sz24 (chg_ob c69 (Nat.ne_of_lt l56) (up_ob u62 (up_ob u53 h46))) rfl (Nat.le_of_ble_eq_true rfl) rfl fun w77 h78 c79 => wnil (inb_n (then_n (rg_lit (wmv (v := I_ k) (wlv (v := N_ (k + 1)) (adN k 1) (was (v := N_ (k + 1)) ?_)))))))))))))
     refine wnil (then_n ?_)
     refine ⟨(parseL s).length - (k + 1), ?_, (k + 1), (findE L ⟨s1, s2⟩ y48).node.t, (findE L ⟨s1, s2⟩ y48).node.w, rfl, hmk, (mtx M71 c79), h78, (by omega), ((wk_go hy48 (Decidable.not_not.1 p75)).symm.trans hF1_1)⟩
     · omega
    refine wp_cond_true (ebk v74) (wp_seq (rg_lit (wlv (v := .agg #[I_ 0, I_ 0]) (r_build (ps := []) (cs := [I_ 0, I_ 0]) Ty.un24 Ty.zv24 Ty.pl24 (by kernel_rfl) (by kernel_rfl)) (wmv (v := I_ (findK L ⟨s1, s2⟩ y48)) (wl (ss rfl (k := 0) (v := .agg #[I_ 0, I_ 0]) (vs := [I_ 0, I_ 0]) (cs' := [I_ 0, I_ 0]) (by kernel_rfl) (by kernel_rfl) rfl Ty.sz24 (md_ob M71 (nin1 (Nat.ne_of_lt l25)) h33) rfl (Nat.le_of_ble_eq_true rfl) rfl fun w77 h78 c79 => was (v := I_ (findK L ⟨s1, s2⟩ y48)) (wnil (then_n (wp_ret (then_x (by nofun) (inb_r (then_x (by nofun) (then_x (by nofun) (inb_r (then_x (by nofun) ?_)))))))))))))))
    refine bodyPost_ret (v := .tuple #[.agg #[I_ 0, I_ 0], I_ (findK L ⟨s1, s2⟩ y48)]) (res2 rfl (rv_c (p := ⟨b1, 0, none⟩) (by kernel_rfl) (run_loadVars (vs := [I_ 0, I_ 0]) Ty.ag24 Ty.sz24 h78 (by kernel_rfl))) (rv_t (by kernel_rfl))) (by kernel_rfl) ?_
    exact ⟨walk_ret (walk_is (Decidable.not_not.1 p19) (hF1_1.symm.trans (wk_no hy48 p75))), (Mod.up (mtn (mtn (mtu M59 u62) c69 g57) c79 g6))⟩
  refine wp_cond_true (ebk v18) (wp_seq (rg_lit (wlv (v := .agg #[I_ 0, I_ 0]) (r_build (ps := []) (cs := [I_ 0, I_ 0]) Ty.un24 Ty.zv24 Ty.pl24 (by kernel_rfl) (by kernel_rfl)) (wmv (v := I_ (parseK s)) (wl (ss rfl (k := 0) (v := .agg #[I_ 0, I_ 0]) (vs := [I_ 0, I_ 0]) (cs' := [I_ 0, I_ 0]) (by kernel_rfl) (by kernel_rfl) rfl Ty.sz24 (up_ob u13 h4) rfl (Nat.le_of_ble_eq_true rfl) rfl fun _ h22 c23 => was (v := I_ (parseK s)) (wnil (then_n (wp_ret (then_x (by nofun) ?_))))))))))
  refine bodyPost_ret (v := .tuple #[.agg #[I_ 0, I_ 0], I_ (parseK s)]) (res2 rfl (rv_c (p := ⟨b1, 0, none⟩) (by kernel_rfl) (run_loadVars (vs := [I_ 0, I_ 0]) Ty.ag24 Ty.sz24 h22 (by kernel_rfl))) (rv_t (by kernel_rfl))) (by kernel_rfl) ?_
  exact ⟨walk_ret (walk_bad p19), (Mod.up (mtn M15 c23 g6))⟩
set_option maxRecDepth 20000 in
set_option maxHeartbeats 2000000 in
theorem allD_at {B : Nat} {w : World} {ub : Nat} {L : List Item} (h : RIs B w ub L) (hB : B ≤ w.heap.size) (hF : Fit L) : Calls Tryz.prog 55 #[trP ub] w fun e w' => ∃ xA c, e = .returned (.slice xA (allB L).length c) ∧ GRow 9 strC 1 w.heap.size w' (.slice xA (allB L).length c) (allB L) ∧ Up w w' := by
  obtain ⟨ii_r, iz_r, hi_r, hz_r, hs_r, hb_r, hc_r⟩ := info_ritem
  have hL300 := hF.len
  obtain ⟨_, vb, hvb, hlb, _, hLb⟩ := id h
  rw [rowI_is] at hlb
  obtain ⟨lA, lc, rfl⟩ := hlb.form
  go_enter Tryz.func55, Tryz.ntmps55
  refine wp_seq (rg_lit (was (v := .slice none 0 0) (wnil (then_n (wp_seq (rg_lit (wl (sn rfl (cs := #[S_ (⟨#[47]⟩)]) (T := 9) (V := fun b => sl b 0 1 1) (r_buildSlice (n := 1) (ps := [(0, S_ (⟨#[47]⟩))]) Ty.un69 Ty.sz9 Ty.zv9 (by decide) (by decide) (by kernel_rfl) (by kernel_rfl)) fun b1 w2 e3 h4 u5 => ?_))))))))
  have g7 := gsz e3 (Mod.refl [] w)
  refine was (v := sl b1 0 1 1) (wnil (then_n (wp_seq (wp_seq (rg_lit (was (v := I_ 0) (wnil (then_n (wp_block ?_)))))))))
  refine lp (fun n a r1 => ∃ (kk : Nat) (oA : Option Addr) (on : Nat) (oc : Nat) (D : List ByteArray), (n = L.length - kk) ∧ (HasFr a 61 [(0, pt ub 0), (2, .slice none 0 0), (3, .slice oA on oc), (4, I_ kk)] []) ∧ (Mod [] w2 r1) ∧ (kk ≤ L.length) ∧ (SrtB (pathsI L (L.take kk)) D) ∧ (GRow 9 strC 1 w.heap.size r1 (.slice oA on oc) (⟨#[47]⟩ :: D))) ⟨_, 0, (some ⟨b1, 0, none⟩), 1, 1, [], rfl, hmk, Mod.refl _ _, (Nat.zero_le _), srtB_nil, (out_lit h4 g7)⟩ ?_
  rintro _ _ r1 ⟨kk, oA, on, oc, D, rfl, h12, hM1, _, hF1_1, hF1_2⟩
  obtain ⟨_, rfl⟩ := h12
  have M13 := Mod.thin (mtu (Mod.refl [] w) u5) hM1 (by simp)
  have hll := hF1_1.1.length_eq
  have hl2 := paths_len L (L.take kk)
  rw [List.length_take] at hl2
  have hon := (GRow.addr hF1_2).1
  rw [List.length_cons] at hon
  refine wp_seq (wp_seq (rg_lit (wmv (v := I_ kk) (wmv (v := pt ub 0) (wlv (v := pt ub 0) (nck) (wlv (v := pt ub 0) (fa (pt ub 0)) ?_))))))
  have h14 := md_ob M13 nin0 hvb
  refine wlv (v := .slice lA L.length lc) (ld 0 Ty.ag64 h14) (wlv (v := I_ L.length) (ln lA L.length lc Ty.un64) (wl (sb rfl (ltI kk L.length) fun _ k16 => wnil (then_n ?_))))
  refine bcd k16 (fun v17 p18 => ?_) (fun v17 p18 => ?_)
  ·
   refine wp_cond_false (ebk v17) (wp_exit (then_x (by nofun) (then_x (by nofun) (inb_hit (then_n (wp_seq (rg_lit (wmv (v := .slice oA on oc) (was (v := .slice oA on oc) (wnil (then_n (wp_ret ?_))))))))))))
   refine br1 (v := .slice oA on oc) rfl ?_
   have hoe := srtB_all hF1_1 (by omega)
   exact ⟨oA, oc, by rw [← hoe, List.length_cons, ← hon], by rw [← hoe, List.length_cons, ← hon]; exact hF1_2, (Mod.up M13)⟩
  have q20 : kk < L.length := by omega
  refine wp_cond_true (ebk v17) (wp_skip (then_n (wp_seq (wp_block (wp_seq (rg_lit ?_))))))
  iterate 2 refine wmv (v := pt ub 0) ?_
  refine wlv (v := pt ub 0) (nck) (wlv (v := pt ub 0) (fa (pt ub 0)) (wlv (v := .slice lA L.length lc) (ld 0 Ty.ag64 h14) (wmv (v := I_ kk) ?_)))
  have h21 := (IRow.up hlb (Mod.up M13))
  obtain ⟨y22, hy22⟩ : ∃ x, L[kk]? = some x := ⟨_, List.getElem?_eq_getElem q20⟩
  obtain ⟨g22, _, cu22, dA22, dn22, dc22, hA22, _, hb22, he22, _⟩ := h21.get hy22
  injection hA22 with hA22 _ _
  replace he22 : (cu22.toList.drop (0 + kk * 10)).take 10 = (itC y22 (.slice dA22 dn22 dc22)) := by rw [Nat.zero_add]; exact he22
  refine wlv (v := pt g22 (0 + kk * 10)) (ixa L.length lc 10 kk hA22 Ty.un64 Ty.sz127) (wlv (v := pt g22 (0 + kk * 10)) (fa (pt g22 (0 + kk * 10))) (wlv (v := .agg #[I_ y22.node.t, I_ y22.node.w]) (r_loads (k := 0 + kk * 10) (by kernel_rfl) Ty.ag24 Ty.sz24 hb22 (el_sub0 he22 rfl)) ?_))
  have h23 := (RIs.up h (Mod.up M13))
  refine wl (sca [pt ub 0, .agg #[I_ y22.node.t, I_ y22.node.w]] En.f53 (ofD_at h23 (Nat.le_trans hB M13.size) hF y22.node.t y22.node.w) ?_)
  rintro e w24 ⟨rfl, u25⟩
  refine ⟨_, rfl, ?_⟩
  have M27 := mtu hM1 u25
  refine wmv (v := .tuple #[S_ (ofB L ⟨y22.node.t, y22.node.w⟩), I_ (ofK L ⟨y22.node.t, y22.node.w⟩)]) (wlv (v := S_ (ofB L ⟨y22.node.t, y22.node.w⟩)) (xt [S_ (ofB L ⟨y22.node.t, y22.node.w⟩), I_ (ofK L ⟨y22.node.t, y22.node.w⟩)]) (wlv (v := I_ (ofK L ⟨y22.node.t, y22.node.w⟩)) (xt [S_ (ofB L ⟨y22.node.t, y22.node.w⟩), I_ (ofK L ⟨y22.node.t, y22.node.w⟩)]) (was (v := S_ (ofB L ⟨y22.node.t, y22.node.w⟩)) (was (v := I_ (ofK L ⟨y22.node.t, y22.node.w⟩)) (wnil (then_n (wp_seq (wp_seq (rg_lit (wmv (v := I_ (ofK L ⟨y22.node.t, y22.node.w⟩)) (wl (sb rfl (neI (ofK L ⟨y22.node.t, y22.node.w⟩) 0) fun _ k29 => wnil (then_n ?_)))))))))))))
  refine bcd k29 (fun v30 p31 => ?_) (fun v30 p31 => ?_)
  ·
   refine wp_cond_false (ebk v30) (wp_skip (then_n (wp_seq (rg_lit (was (v := I_ 1) (wnil (then_n (wp_seq ?_))))))))
   have h37 := (GRow.up hF1_2 u25)
   refine wp_cutA (R := fun a wq => ∃ (jz : Nat), (HasFr a 61 [(0, pt ub 0), (2, .slice none 0 0), (3, .slice oA on oc), (4, I_ kk), (5, S_ (ofB L ⟨y22.node.t, y22.node.w⟩)), (6, I_ (ofK L ⟨y22.node.t, y22.node.w⟩)), (7, N_ (jz + 1))] []) ∧ (Mod [] w24 wq) ∧ (jz ≤ D.length) ∧ (Hid (∀ (j : Nat) (y : ByteArray), j < jz → D[j]? = some y → ¬ lessB (ofB L ⟨y22.node.t, y22.node.w⟩) y = true)) ∧ (jz = D.length ∨ ∃ y, D[jz]? = some y ∧ lessB (ofB L ⟨y22.node.t, y22.node.w⟩) y = true)) ?_ ?_
   ·
    refine wp_block ?_
    refine lp (fun n a r2 => ∃ (jj : Nat), (n = D.length - jj) ∧ (HasFr a 61 [(0, pt ub 0), (2, .slice none 0 0), (3, .slice oA on oc), (4, I_ kk), (5, S_ (ofB L ⟨y22.node.t, y22.node.w⟩)), (6, I_ (ofK L ⟨y22.node.t, y22.node.w⟩)), (7, N_ (jj + 1))] []) ∧ (Mod [] w24 r2) ∧ (jj ≤ D.length) ∧ (Hid (∀ (j : Nat) (y : ByteArray), j < jj → D[j]? = some y → ¬ lessB (ofB L ⟨y22.node.t, y22.node.w⟩) y = true))) ⟨_, 0, rfl, hmk, Mod.refl _ _, (Nat.zero_le _), (fun j y hj => absurd hj (Nat.not_lt_zero _))⟩ ?_
    rintro _ _ r2 ⟨jj, rfl, h39, hM2, _, hF2_1⟩
    obtain ⟨_, rfl⟩ := h39
    have M42 := Mod.thin (Mod.refl [] w24) hM2 (by simp)
    refine wp_seq (wp_seq (rg_lit (wmv (v := N_ (jj + 1)) (wmv (v := .slice oA on oc) (wlv (v := I_ on) (ln oA on oc Ty.un69) (wl (sb rfl (ltI ((jj + 1 : Nat) : Int) on) fun b43 k44 => wmv (v := B_ b43) ?_)))))))
    refine bcd k44 (fun v45 p46 => ?_) (fun v45 p46 => ?_)
    ·
     iterate 7 refine wls rfl v45 ?_
     refine wlv (v := B_ false) (pkF (ebk v45)) (wnil (then_n (wp_cond_false (by kernel_rfl) (wp_exit (then_x (by nofun) (then_x (by nofun) (inb_hit (then_n ?_))))))))
     exact ⟨jj, hmk, M42, (by omega), hF2_1, (.inl (by omega))⟩
    refine wlw rfl v45 (v := S_ (ofB L ⟨y22.node.t, y22.node.w⟩)) (mv) (wlw rfl v45 (v := .slice oA on oc) (mv) (wlw rfl v45 (v := N_ (jj + 1)) (mv) ?_))
    have h47 := (GRow.up h37 (Mod.up M42))
    obtain ⟨y48, hy48⟩ : ∃ x, (⟨#[47]⟩ :: D)[jj + 1]? = some x := ⟨_, List.getElem?_eq_getElem (by rw [List.length_cons]; omega)⟩
    obtain ⟨g48, hA48, _, hc48⟩ := GRow.get enc_str h47 hy48
    refine wlw rfl v45 (v := pt g48 ((jj + 1) * 1)) (ixa on oc 1 ((jj + 1 : Nat) : Int) hA48 Ty.un69 Ty.sz9) (wlw rfl v45 (v := S_ y48) (r_loadc (by kernel_rfl) Ty.ag9 (hc48 0 _ rfl)) (wl (sc (wt (b := b43) rfl (by kernel_rfl) v45) (r_callv (caps := []) (all := [S_ (ofB L ⟨y22.node.t, y22.node.w⟩), S_ y48]) En.f93 (by kernel_rfl) (by kernel_rfl)) (lessD_at (ofB L ⟨y22.node.t, y22.node.w⟩) y48 (Nat.le_trans (ofB_size hF _) (by decide)) (Nat.le_trans (srt_size hF hF1_1 (List.mem_of_getElem? (show D[jj]? = some y48 from hy48))) (by decide))) ?_)))
    rintro e _ ⟨rfl, u50⟩
    refine ⟨_, rfl, ?_⟩
    refine wlw rfl v45 (v := B_ (!(lessB (ofB L ⟨y22.node.t, y22.node.w⟩) y48))) (r_not (b := (lessB (ofB L ⟨y22.node.t, y22.node.w⟩) y48)) (by kernel_rfl)) (wlv (v := B_ (!(lessB (ofB L ⟨y22.node.t, y22.node.w⟩) y48))) (pkT (ebk v45)) (wnil (then_n ?_)))
    refine bcase (lessB (ofB L ⟨y22.node.t, y22.node.w⟩) y48) (fun v55 => ?_) (fun v55 => ?_)
    ·
     refine wp_cond_true (ebk (bneg v55)) (wp_skip (then_n (wp_block (rg_lit (wmv (v := N_ (jj + 1)) (wlv (v := N_ (jj + 1 + 1)) (adN ((jj + 1 : Nat) : Int) 1) (was (v := N_ (jj + 1 + 1)) (wnil (inb_n (then_n ?_))))))))))
     refine ⟨D.length - (jj + 1), ?_, (jj + 1), rfl, hmk, (mtu hM2 u50), (by omega), (none_next (p := fun y : ByteArray => lessB (ofB L ⟨y22.node.t, y22.node.w⟩) y = true) hF2_1 (show D[jj]? = some y48 from hy48) (Bool.eq_false_iff.1 v55))⟩
     · omega
    refine wp_cond_false (ebk (bneg v55)) (wp_exit (then_x (by nofun) (then_x (by nofun) (inb_hit (then_n ?_)))))
    exact ⟨jj, hmk, (mtu M42 u50), (by omega), hF2_1, (.inr ⟨_, (show D[jj]? = some y48 from hy48), v55⟩)⟩
   rintro _ _ ⟨jz, h44, h40, _, h42, h43⟩
   obtain ⟨_, rfl⟩ := h44
   have M45 := Mod.thin (mtu M13 u25) h40 (by simp)
   have M46 := Mod.thin M27 h40 (by simp)
   refine rg_held [] (n := 13) (by kernel_rfl) rfl ?_
   intro w47 u48
   have M49 := mtu M45 u48
   have M50 := mtu M46 u48
   have h52 := md_ob M50 nin0 h4
   have h53 := (up_ob u48 (md_ob h40 nin0 (up_ob u25 hb22)))
   have h56 := (GRow.up h37 (up_up (Mod.up h40) u48))
   refine hvq (i := 1) (fuel := 12) rfl (fun _ _ _ h => h) (Mod.refl [] w47) rfl (v := .slice oA on oc) (fun _ _ => mv) ?_
   refine hvq (i := 2) (fuel := 11) rfl (fun _ _ _ h => h) (Mod.refl [] w47) rfl (v := N_ (jz + 1)) (fun _ _ => mv) ?_
   obtain ⟨hs58, hq58⟩ := GRow.headCut (P := Tryz.prog) (k := jz + 1) enc_str h56 (by omega) 69 9 Ty.un69 Ty.sz9
   refine hvq (i := 3) (fuel := 10) rfl (fun _ _ _ h => h) (Mod.refl [] w47) rfl (v := .slice oA (jz + 1) oc) (fun _ _ => hq58 _ _ _ _ _ _ _ _ _ (by kernel_rfl) (by kernel_rfl)) ?_
   refine hvq (i := 5) (fuel := 9) rfl (fun _ _ _ h => h) (Mod.refl [] w47) rfl (v := S_ (ofB L ⟨y22.node.t, y22.node.w⟩)) (fun _ _ => mv) ?_
   refine hvq (i := 8) (fuel := 8) rfl (fun _ _ _ h => h) (Mod.refl [] w47) rfl (v := .slice oA on oc) (fun _ _ => mv) ?_
   refine hvq (i := 9) (fuel := 7) rfl (fun _ _ _ h => h) (Mod.refl [] w47) rfl (v := N_ (jz + 1)) (fun _ _ => mv) ?_
   obtain ⟨A59, hs59, hq59⟩ := GRow.tailCut (P := Tryz.prog) (k := jz + 1) enc_str h56 (by omega) 69 9 Ty.un69 Ty.sz9
   refine hvq (i := 10) (fuel := 6) rfl (fun _ _ _ h => h) (Mod.refl [] w47) rfl (v := .slice A59 (on - (jz + 1) : Nat) (oc - (jz + 1) : Nat)) (fun _ _ => hq59 _ _ _ _ _ _ _ _ _ (by kernel_rfl) (by kernel_rfl)) ?_
   refine h2a 0 6 5 rfl rfl ?_ ?_
   ·
    refine litG rfl (f := strC) (base := w47.heap.size) Ty.un69 Ty.sz9 (Mod.refl [] w47).size fun b60 w61 e62 h63 h64 u65 => ?_
    have l66 := lsz e62 (md_ob M49 nin0 hvb)
    have l67 := lsz e62 h52
    have g69 := gsz e62 M49
    have g70 := gsz e62 M50
    have g71 := gsz e62 (Mod.refl [] w47)
    have M72 := mtu M49 u65
    have M73 := mtu M50 u65
    have M74 := mtu (Mod.refl [] w47) u65
    refine ⟨M74, ?_⟩
    refine h2a 4 6 4 rfl rfl ?_ ?_
    ·
     refine apG enc_str rfl (by kernel_rfl) (by kernel_rfl) h64 (GSub.up hs58 (Mod.up M74)) Ty.un69 M74.size (by (try simp only [List.length_append, List.length_cons, List.length_nil, List.length_take, List.length_drop]); omega) fun _ _ _ _ _ h81 g82 c83 => ?_
     have M86 := mtn M74 c83 g71
     obtain ⟨_, _, _, _, _, _⟩ := GRow.blk h81
     refine ⟨M86, ?_⟩
     refine h1a 6 3 rfl (sn rfl (cs := #[S_ (ofB L ⟨y22.node.t, y22.node.w⟩)]) (T := 9) (V := fun b => sl b 0 1 1) (r_buildSlice (n := 1) (ps := [(0, S_ (ofB L ⟨y22.node.t, y22.node.w⟩))]) Ty.un69 Ty.sz9 Ty.zv9 (by decide) (by decide) (by kernel_rfl) (by kernel_rfl)) fun _ _ e90 h91 u92 => ?_)
     have g100 := gsz e90 (mtn M72 c83 g69)
     have g102 := gsz e90 M86
     have M105 := mtu M86 u92
     refine ⟨M105, ?_⟩
     refine h1a 7 2 rfl (apG enc_str rfl (by kernel_rfl) (by kernel_rfl) (GRow.up h81 u92) (GSub.one (x := (ofB L ⟨y22.node.t, y22.node.w⟩)) h91 rfl) Ty.un69 M105.size (by (try simp only [List.length_append, List.length_cons, List.length_nil, List.length_take, List.length_drop]); omega) fun _ _ _ _ _ h113 g114 c115 => ?_)
     have M118 := mtn M105 c115 g82
     obtain ⟨_, _, _, _, _, _⟩ := GRow.blk h113
     refine ⟨M118, ?_⟩
     refine h1a 11 1 rfl (apG enc_str rfl (by kernel_rfl) (by kernel_rfl) h113 (GSub.up hs59 (Mod.up M118)) Ty.un69 M118.size (by (try simp only [List.length_append, List.length_cons, List.length_nil, List.length_take, List.length_drop]); omega) fun b121 n122 c123 _ _ h126 _ c128 => ?_)
     have M131 := mtn M118 c128 g114
     obtain ⟨_, _, _, _, _, _⟩ := GRow.blk h126
     refine ⟨M131, ?_⟩
     refine hvq (i := 12) (fuel := 0) rfl (fun _ _ _ h => h) M131 rfl (v := sl b121 0 n122 c123) (fun _ _ => r_assign (by kernel_rfl)) ?_
     refine hend (by kernel_rfl) ?_
     refine inb_n (then_n (rg_lit (wmv (v := I_ kk) (wlv (v := N_ (kk + 1)) (adN kk 1) (was (v := N_ (kk + 1)) (wnil (then_n ?_)))))))
     refine ⟨L.length - (kk + 1), ?_, (kk + 1), (some ⟨b121, 0, none⟩), n122, c123, (D.take jz ++ [(ofB L ⟨y22.node.t, y22.node.w⟩)] ++ D.drop jz), rfl, hmk, (mtn (mtn (mtu (mtn M73 c83 g70) u92) c115 (Nat.le_trans M50.size g82)) c128 (Nat.le_trans M50.size g114)), (by omega), (paths_yes' (srtB_ins hF1_1 h42 h43) hy22 p31), (GRow.base (GRow.to h126 (by simp)) M49.size)⟩
     · omega
    ·
     refine sn rfl (cs := #[S_ (ofB L ⟨y22.node.t, y22.node.w⟩)]) (T := 9) (V := fun b => sl b 0 1 1) (r_buildSlice (n := 1) (ps := [(0, S_ (ofB L ⟨y22.node.t, y22.node.w⟩))]) Ty.un69 Ty.sz9 Ty.zv9 (by decide) (by decide) (by kernel_rfl) (by kernel_rfl)) fun _ _ e77 h78 u79 => ?_
     have l81 := lsz e77 (md_ob M72 nin0 hvb)
     have l83 := lsz e77 (md_ob M73 nin0 h4)
     have l85 := lsz e77 (md_ob M74 nin0 h53)
     have l86 := lsz e77 h63
     have g87 := gsz e77 M72
     have g88 := gsz e77 M73
     have g89 := gsz e77 M74
     have M92 := mtu M74 u79
     refine ⟨M92, ?_⟩
     refine h1a 4 3 rfl (apG enc_str rfl (by kernel_rfl) (by kernel_rfl) (GRow.up h64 u79) (GSub.up hs58 (Mod.up M92)) Ty.un69 M92.size (by (try simp only [List.length_append, List.length_cons, List.length_nil, List.length_take, List.length_drop]); omega) fun _ _ _ _ _ h101 g102 c103 => ?_)
     have M106 := mtn M92 c103 g71
     obtain ⟨_, _, _, _, _, _⟩ := GRow.blk h101
     refine ⟨M106, ?_⟩
     refine h1a 7 2 rfl (apG enc_str rfl (by kernel_rfl) (by kernel_rfl) h101 (GSub.one (x := (ofB L ⟨y22.node.t, y22.node.w⟩)) (chg_ob c103 (Nat.ne_of_gt l86) h78) rfl) Ty.un69 M106.size (by (try simp only [List.length_append, List.length_cons, List.length_nil, List.length_take, List.length_drop]); omega) fun _ _ _ _ _ h114 g115 c116 => ?_)
     have M119 := mtn M106 c116 g102
     obtain ⟨_, _, _, _, _, _⟩ := GRow.blk h114
     refine ⟨M119, ?_⟩
     refine h1a 11 1 rfl (apG enc_str rfl (by kernel_rfl) (by kernel_rfl) h114 (GSub.up hs59 (Mod.up M119)) Ty.un69 M119.size (by (try simp only [List.length_append, List.length_cons, List.length_nil, List.length_take, List.length_drop]); omega) fun b122 n123 c124 _ _ h127 _ c129 => ?_)
     have M132 := mtn M119 c129 g115
     obtain ⟨_, _, _, _, _, _⟩ := GRow.blk h127
     refine ⟨M132, ?_⟩
     refine hvq (i := 12) (fuel := 0) rfl (fun _ _ _ h => h) M132 rfl (v := sl b122 0 n123 c124) (fun _ _ => r_assign (by kernel_rfl)) ?_
     refine hend (by kernel_rfl) ?_
     refine inb_n (then_n (rg_lit (wmv (v := I_ kk) (wlv (v := N_ (kk + 1)) (adN kk 1) (was (v := N_ (kk + 1)) (wnil (then_n ?_)))))))
     refine ⟨L.length - (kk + 1), ?_, (kk + 1), (some ⟨b122, 0, none⟩), n123, c124, (D.take jz ++ [(ofB L ⟨y22.node.t, y22.node.w⟩)] ++ D.drop jz), rfl, hmk, (mtn (mtn (mtn (mtu M73 u79) c103 g70) c116 (Nat.le_trans M50.size g102)) c129 (Nat.le_trans M50.size g115)), (by omega), (paths_yes' (srtB_ins hF1_1 h42 h43) hy22 p31), (GRow.base (GRow.to h127 (by simp)) M49.size)⟩
     · omega
   ·
    refine sn rfl (cs := #[S_ (ofB L ⟨y22.node.t, y22.node.w⟩)]) (T := 9) (V := fun b => sl b 0 1 1) (r_buildSlice (n := 1) (ps := [(0, S_ (ofB L ⟨y22.node.t, y22.node.w⟩))]) Ty.un69 Ty.sz9 Ty.zv9 (by decide) (by decide) (by kernel_rfl) (by kernel_rfl)) fun b60 w61 e62 h63 u64 => ?_
    have l66 := lsz e62 h52
    have l67 := lsz e62 h53
    have g69 := gsz e62 M50
    have g70 := gsz e62 (Mod.refl [] w47)
    have M71 := mtu M49 u64
    have M72 := mtu M50 u64
    have M73 := mtu (Mod.refl [] w47) u64
    refine ⟨M73, ?_⟩
    refine h1a 0 4 rfl (litG rfl (f := strC) (base := w47.heap.size) Ty.un69 Ty.sz9 M73.size fun _ _ e76 _ h78 u79 => ?_)
    have l81 := lsz e76 (md_ob M71 nin0 hvb)
    have l83 := lsz e76 (md_ob M72 nin0 h4)
    have l85 := lsz e76 (md_ob M73 nin0 h53)
    have l86 := lsz e76 h63
    have g87 := gsz e76 M71
    have g88 := gsz e76 M72
    have g89 := gsz e76 M73
    have M92 := mtu M73 u79
    refine ⟨M92, ?_⟩
    refine h1a 4 3 rfl (apG enc_str rfl (by kernel_rfl) (by kernel_rfl) h78 (GSub.up hs58 (Mod.up M92)) Ty.un69 M92.size (by (try simp only [List.length_append, List.length_cons, List.length_nil, List.length_take, List.length_drop]); omega) fun _ _ _ _ _ h99 g100 c101 => ?_)
    have M104 := mtn M92 c101 g89
    obtain ⟨_, _, _, _, _, _⟩ := GRow.blk h99
    refine ⟨M104, ?_⟩
    refine h1a 7 2 rfl (apG enc_str rfl (by kernel_rfl) (by kernel_rfl) h99 (GSub.one (x := (ofB L ⟨y22.node.t, y22.node.w⟩)) (chg_ob c101 (Nat.ne_of_lt l86) (up_ob u79 h63)) rfl) Ty.un69 M104.size (by (try simp only [List.length_append, List.length_cons, List.length_nil, List.length_take, List.length_drop]); omega) fun _ _ _ _ _ h112 g113 c114 => ?_)
    have M117 := mtn M104 c114 g100
    obtain ⟨_, _, _, _, _, _⟩ := GRow.blk h112
    refine ⟨M117, ?_⟩
    refine h1a 11 1 rfl (apG enc_str rfl (by kernel_rfl) (by kernel_rfl) h112 (GSub.up hs59 (Mod.up M117)) Ty.un69 M117.size (by (try simp only [List.length_append, List.length_cons, List.length_nil, List.length_take, List.length_drop]); omega) fun b120 n121 c122 _ _ h125 _ c127 => ?_)
    have M130 := mtn M117 c127 g113
    obtain ⟨_, _, _, _, _, _⟩ := GRow.blk h125
    refine ⟨M130, ?_⟩
    refine hvq (i := 12) (fuel := 0) rfl (fun _ _ _ h => h) M130 rfl (v := sl b120 0 n121 c122) (fun _ _ => r_assign (by kernel_rfl)) ?_
    refine hend (by kernel_rfl) ?_
    refine inb_n (then_n (rg_lit (wmv (v := I_ kk) (wlv (v := N_ (kk + 1)) (adN kk 1) (was (v := N_ (kk + 1)) (wnil (then_n ?_)))))))
    refine ⟨L.length - (kk + 1), ?_, (kk + 1), (some ⟨b120, 0, none⟩), n121, c122, (D.take jz ++ [(ofB L ⟨y22.node.t, y22.node.w⟩)] ++ D.drop jz), rfl, hmk, (mtn (mtn (mtn (mtu M72 u79) c101 g88) c114 (Nat.le_trans M50.size g100)) c127 (Nat.le_trans M50.size g113)), (by omega), (paths_yes' (srtB_ins hF1_1 h42 h43) hy22 p31), (GRow.base (GRow.to h125 (by simp)) M49.size)⟩
    · omega
  refine wp_cond_true (ebk v30) (wp_exit (then_x (by nofun) (inb_hit (then_n (rg_lit (wmv (v := I_ kk) (wlv (v := N_ (kk + 1)) (adN kk 1) (was (v := N_ (kk + 1)) (wnil (then_n ?_))))))))))
  refine ⟨L.length - (kk + 1), ?_, (kk + 1), oA, on, oc, D, rfl, hmk, M27, (by omega), (paths_no' hF1_1 hy22 p31), (GRow.up hF1_2 u25)⟩
  · omega
end Go.Proofs.YtefhfoioeoijlaaGreatDoor
set_option linter.unusedVariables false
set_option linter.unusedSimpArgs false
namespace Go.Proofs.YtefhfoioeoijlaaGreatDoor
open Go Go.RowKit Go.Sort
set_option maxRecDepth 20000 in
set_option maxHeartbeats 2000000 in
theorem pall_at {B : Nat} {w : World} {tb r : Nat} {L : List Item} (h : TreeIs B w tb r L) (hB : B ≤ w.heap.size) (hF : Fit L) (htab : Tab w) : Calls Tryz.prog 54 #[trP tb] w fun e w' => ∃ xA c, e = .returned (.tuple #[.slice xA (allB L).length c, .int .i64 0]) ∧ SSRow w' (.slice xA (allB L).length c) (allB L) ∧ Up w w' := by
  go_enter Tryz.func54, Tryz.ntmps54
  refine wp_seq (rg_lit (was (v := .slice none 0 0) (was (v := I_ 0) (wnil (then_n (wp_seq (wp_seq (rg_lit (wmv (v := pt tb 0) (wl (sv (w' := w) rfl (v := B_ false) (by kernel_rfl) (wnil (then_n (wp_cond_false (by kernel_rfl) (wp_skip (then_n (wp_seq (rg_lit ?_))))))))))))))))))
  refine wl (sn rfl (cs := #[S_ (⟨#[47]⟩)]) (T := 9) (V := fun b => sl b 0 1 1) (r_buildSlice (n := 1) (ps := [(0, S_ (⟨#[47]⟩))]) Ty.un69 Ty.sz9 Ty.zv9 (by decide) (by decide) (by kernel_rfl) (by kernel_rfl)) fun b1 _ e3 h4 u5 => ?_)
  have g7 := gsz e3 (Mod.refl [] w)
  have M8 := mtu (Mod.refl [] w) u5
  refine was (v := sl b1 0 1 1) (wnil (then_n (wp_seq (wp_seq (rg_lit (wmv (v := pt tb 0) ?_))))))
  have h15 := (TreeIs.up h (Mod.up M8))
  refine wl (sca [pt tb 0] En.f41 (row_sl (all_at h15 (Nat.le_trans hB M8.size))) ?_)
  rintro e w9 ⟨A10, c11, rfl, h12, u13⟩
  refine ⟨_, rfl, ?_⟩
  have M16 := mtu M8 u13
  refine wlv (v := I_ L.length) (ln A10 L.length c11 Ty.un74) (wmv (v := I_ 0) (wnil (then_n (wp_block ?_))))
  have hL300 := hF.len
  have hb0 : w.heap.size ≤ w9.heap.size := M16.size
  refine lp (fun n a r1 => ∃ (k : Nat) (out : List ByteArray) (oA : Option Addr) (oc : Nat), (n = L.length - k) ∧ (HasFr a 37 [(0, pt tb 0), (2, .slice none 0 0), (3, I_ 0), (4, .slice oA out.length oc), (13, .slice A10 L.length c11), (14, I_ L.length), (15, I_ k)] []) ∧ (Mod [] w9 r1) ∧ (k ≤ L.length) ∧ (out.length ≤ k + 1) ∧ (out = ⟨#[47]⟩ :: pathsI L (L.take k)) ∧ (ARow w.heap.size w9.heap.size r1 (.slice oA out.length oc) out)) ⟨_, 0, [⟨#[47]⟩], (some ⟨b1, 0, none⟩), 1, rfl, hmk, Mod.refl _ _, (Nat.zero_le _), (by decide), rfl, .inr ⟨b1, ⟨#[47]⟩, rfl, rfl, g7, (up_ob u13 h4)⟩⟩ ?_
  rintro _ _ r1 ⟨k, out, oA, oc, rfl, h20, hM1, _, _, hF1_2, hF1_3⟩
  obtain ⟨_, rfl⟩ := h20
  have M21 := Mod.thin M16 hM1 (by simp)
  refine wp_seq (rg_lit (wl (sb rfl (ltI k L.length) fun _ k23 => wnil (then_n (wp_seq ?_)))))
  refine bcd k23 (fun v24 p25 => ?_) (fun v24 p25 => ?_)
  ·
   refine wp_cond_false (ebk v24) (wp_exit (then_x (by nofun) (then_x (by nofun) (inb_hit (then_n (wp_seq (rg_lit (wmv (v := .slice oA out.length oc) ?_))))))))
   have z26 := SSRow.capq (BRow.ss (ARow.low hF1_3))
   have z27 : 1 ≤ out.length := by rw [hF1_2]; simp
   refine wlv (v := .slice (tailA oA oc) ((out.drop 1).length) (oc - 1)) (r_slTail (A := oA) (n := out.length) (c := oc) (m := (out.drop 1).length) (by kernel_rfl) (by kernel_rfl) (by rw [List.length_drop]) (by omega) (by omega) Ty.un69 Ty.sz9) ?_
   have hoe : out = ⟨#[47]⟩ :: pathsI L L := hF1_2.trans (by rw [List.take_of_length_le (by omega)])
   refine wl (sca [.slice (tailA oA oc) ((out.drop 1).length) (oc - 1)] En.f112 (sortA_at hoe hF.len hF1_3) ?_)
   rintro e _ ⟨rfl, _, h30, h31, u32, h33⟩
   refine ⟨_, rfl, ?_⟩
   refine wnil (then_n (wp_seq (rg_lit (wmv (v := .slice oA out.length oc) (was (v := .slice oA out.length oc) (was (v := I_ 0) (wnil (then_n (wp_ret ?_)))))))))
   refine br2 (v := .slice oA out.length oc) (u := I_ 0) rfl ?_
   rw [h31]
   exact ⟨_, _, rfl, h30, (Mod.up (Mod.trans' M21 u32 (fun k hk => Nat.le_trans (Nat.le_refl _) (h33.own k hk).1)))⟩
  have q27 : k < L.length := by omega
  refine wp_cond_true (ebk v24) (wp_skip (then_n (wp_seq (wp_block (wp_seq (rg_lit ?_))))))
  have h28 := (IRow.up (IRow.base h12 M8.size) (Mod.up hM1))
  obtain ⟨y29, hy29⟩ : ∃ x, L[k]? = some x := ⟨_, List.getElem?_eq_getElem q27⟩
  obtain ⟨g29, _, cu29, dA29, dn29, dc29, hA29, _, hb29, he29, _⟩ := h28.get hy29
  injection hA29 with hA29 _ _
  replace he29 : (cu29.toList.drop (0 + k * 10)).take 10 = (itC y29 (.slice dA29 dn29 dc29)) := by rw [Nat.zero_add]; exact he29
  refine wlv (v := pt g29 (0 + k * 10)) (ixa L.length c11 10 k hA29 Ty.un74 Ty.sz42) (wlv (v := itV y29 (.slice dA29 dn29 dc29)) (r_loads (k := 0 + k * 10) (by kernel_rfl) Ty.ag42 Ty.sz42 hb29 (el_sub0 he29 rfl)) (wl (sn rfl (cs := #[I_ 0, I_ 0, I_ 0, I_ 0, S_ (⟨#[]⟩), B_ false, B_ false, .slice none 0 0, I_ 0, I_ 0]) (T := 42) (V := fun b => pt b 0) (r_alloc Ty.zv42 rfl) fun b30 _ e32 h33 u34 => ?_)))
  have g40 := gsz e32 M21
  have g41 := gsz e32 hM1
  refine wl (ss rfl (k := 0) (v := itV y29 (.slice dA29 dn29 dc29)) (vs := (itC y29 (.slice dA29 dn29 dc29))) (cs' := (itC y29 (.slice dA29 dn29 dc29))) (by kernel_rfl) (by kernel_rfl) rfl Ty.sz42 h33 rfl (Nat.le_of_ble_eq_true rfl) rfl fun _ h45 c46 => ?_)
  have M47 := mtn (mtu M21 u34) c46 g40
  refine wnil (then_n (wp_seq (rg_lit (wmv (v := pt tb 0) (wlv (v := pt b30 0) (fa (pt b30 0)) (wlv (v := .agg #[I_ y29.node.t, I_ y29.node.w]) (lds 0 Ty.ag24 Ty.sz24 h45) ?_))))))
  have h49 := (TreeIs.up h (Mod.up M47))
  refine wl (sca [pt tb 0, .agg #[I_ y29.node.t, I_ y29.node.w]] En.f42 (of_at h49 (Nat.le_trans hB M47.size) hF (TabIs.up htab (Mod.up M47)) y29.node.t y29.node.w) ?_)
  rintro e _ ⟨rfl, u51⟩
  refine ⟨_, rfl, ?_⟩
  have M53 := mtu (mtn (mtu hM1 u34) c46 g41) u51
  refine wmv (v := .tuple #[S_ (ofB L ⟨y29.node.t, y29.node.w⟩), I_ (ofK L ⟨y29.node.t, y29.node.w⟩)]) (wlv (v := S_ (ofB L ⟨y29.node.t, y29.node.w⟩)) (xt [S_ (ofB L ⟨y29.node.t, y29.node.w⟩), I_ (ofK L ⟨y29.node.t, y29.node.w⟩)]) (wlv (v := I_ (ofK L ⟨y29.node.t, y29.node.w⟩)) (xt [S_ (ofB L ⟨y29.node.t, y29.node.w⟩), I_ (ofK L ⟨y29.node.t, y29.node.w⟩)]) (was (v := S_ (ofB L ⟨y29.node.t, y29.node.w⟩)) (was (v := I_ (ofK L ⟨y29.node.t, y29.node.w⟩)) (wnil (then_n (wp_seq (rg_lit (wmv (v := I_ (ofK L ⟨y29.node.t, y29.node.w⟩)) (wl (sb rfl (eqI (ofK L ⟨y29.node.t, y29.node.w⟩) 0) fun _ k55 => wnil (then_n ?_))))))))))))
  refine bcd k55 (fun v56 p57 => ?_) (fun v56 p57 => ?_)
  ·
   refine wp_cond_false (ebk v56) (wp_skip (inb_n (then_n (rg_lit (wlv (v := N_ (k + 1)) (adN k 1) (wmv (v := N_ (k + 1)) (wnil (then_n ?_))))))))
   have h58 := (ARow.up hF1_3 (up_up (up_chgn u34 c46 (by rw [e32]; exact Nat.le_refl _)) u51))
   refine ⟨L.length - (k + 1), ?_, (k + 1), out, oA, oc, rfl, hmk, M53, (by omega), (by (try simp only [List.length_append, List.length_cons, List.length_nil]); omega), (hF1_2.trans (by rw [paths_no hy29 p57])), h58⟩
   · omega
  refine wp_cond_true (ebk v56) (rg_lit (wmv (v := .slice oA out.length oc) (wmv (v := S_ (ofB L ⟨y29.node.t, y29.node.w⟩)) (wl (sn rfl (cs := #[S_ (ofB L ⟨y29.node.t, y29.node.w⟩)]) (T := 9) (V := fun b => sl b 0 1 1) (r_buildSlice (n := 1) (ps := [(0, S_ (ofB L ⟨y29.node.t, y29.node.w⟩))]) Ty.un69 Ty.sz9 Ty.zv9 (by decide) (by decide) (by kernel_rfl) (by kernel_rfl)) fun _ _ _ h61 u62 => ?_)))))
  have M74 := mtu M53 u62
  have h75 := (ARow.up hF1_3 (up_up (up_up (up_chgn u34 c46 (by rw [e32]; exact Nat.le_refl _)) u51) u62))
  refine wl (snA rfl (L := out) (x := (ofB L ⟨y29.node.t, y29.node.w⟩)) (by kernel_rfl) (by kernel_rfl) h75 Ty.un69 h61 M74.size hb0 (by omega) fun A76 c77 w78 b79 h80 u81 h82 => was (v := .slice A76 ((out ++ [(ofB L ⟨y29.node.t, y29.node.w⟩)]).length) c77) (wnil (inb_n (then_n (rg_lit (wlv (v := N_ (k + 1)) (adN k 1) (wmv (v := N_ (k + 1)) (wnil (then_n ?_)))))))))
  refine ⟨L.length - (k + 1), ?_, (k + 1), (out ++ [(ofB L ⟨y29.node.t, y29.node.w⟩)]), A76, c77, rfl, hmk, (Mod.trans' M74 u81 (fun k hk => Nat.le_trans (Nat.le_refl _) (h82.own k hk).1)), (by omega), (by (try simp only [List.length_append, List.length_cons, List.length_nil]); omega), (by rw [hF1_2]; exact paths_yes hy29 p57), h80⟩
  · omega
end Go.Proofs.YtefhfoioeoijlaaGreatDoor

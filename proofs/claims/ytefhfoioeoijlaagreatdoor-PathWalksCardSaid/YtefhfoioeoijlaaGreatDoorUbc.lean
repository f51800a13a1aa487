/- DH -/
import Derived.Test.YtefhfoioeoijlaaGreatDoorUah
import Derived.Test.YtefhfoioeoijlaaGreatDoorUaq
import Derived.Test.YtefhfoioeoijlaaGreatDoorUat
import Derived.Test.YtefhfoioeoijlaaGreatDoorUau
import Derived.Test.YtefhfoioeoijlaaGreatDoorUay
import Derived.Test.YtefhfoioeoijlaaGreatDoorUaz
import Derived.Test.YtefhfoioeoijlaaGreatDoorUbb
set_option linter.unusedVariables false
set_option linter.unusedSimpArgs false
namespace Go.Proofs.YtefhfoioeoijlaaGreatDoor
open Go Go.RowKit Go.Sort
theorem textsS_at {w : World} {l : List ByteArray} {xA yA : Option Addr} {xc yc : Nat} (hl : SSRow w (.slice xA l.length xc) l) (hm : SSRow w (.slice yA l.length yc) l) (hln : l.length ≤ 1000000) : Calls Tryz.prog 33 #[.slice xA l.length xc, .slice yA l.length yc] w fun e w' => e = .returned (.bool true) ∧ Up w w' :=
  (texts_at hl hm hln hln).mono fun e w' ⟨h1, h2⟩ => ⟨by rw [h1, decide_eq_true rfl], h2⟩
set_option maxRecDepth 20000 in
set_option maxHeartbeats 2000000 in
theorem pathWalks_at {B : Nat} {w : World} {lA : Option Addr} {lc : Nat} {os : List OpD} (h0 : OpRow0 w lA os) (hfull : Small os → OpRow B w lA os) (hB : B ≤ w.heap.size) (hn : os.length ≤ 9223372036854775807) (htab : Tab w) (hmx : Mx w) (s : ByteArray) (hs9 : s.size ≤ 9223372036854775807) (m1 m2 : Int) :
    Calls Tryz.prog 11 #[.slice lA os.length lc, .string s, .agg #[.int .i64 m1, .int .i64 m2]] w fun e w' => e = .returned (.bool true) ∧ Up w w' := by
  go_enter Tryz.func11, Tryz.ntmps11
  refine wp_seq (rg_lit (wl (sn rfl (cs := #[I_ m1, I_ m2]) (T := 24) (V := fun b => pt b 0) (r_box (v := .agg #[I_ m1, I_ m2]) (by kernel_rfl) rfl) fun _ _ _ h4 u5 => ?_)))
  have M7 := mtu (Mod.refl [] w) u5
  refine was (v := B_ false) (wnil (then_n (wp_seq (wp_seq (rg_lit (wmv (v := .slice lA os.length lc) (wl (sca [.slice lA os.length lc, I_ 30] En.f13 (light2_at (OpRow0.up h0 (Mod.up M7)) hn 30) ?_))))))))
  rintro e _ ⟨lb9, rfl, h10, u11⟩
  refine ⟨_, rfl, ?_⟩
  have M12 := mtu M7 u11
  refine wlv (v := B_ (!lb9)) (r_not (b := lb9) (by kernel_rfl)) (wmv (v := B_ (!lb9)) ?_)
  refine bcase lb9 (fun v13 => ?_) (fun v13 => ?_)
  ·
   iterate 3 refine wls rfl (bneg v13) ?_
   refine wlv (v := B_ true) (pkT (ebk (bneg v13))) (wnil (then_n (wp_cond_true (by kernel_rfl) (wp_seq (rg_lit (wl (sca [] En.f40 (alive19_at (TabIs.up htab (Mod.up M12)) (Mx.up hmx (Mod.up M12))) ?_)))))))
   rintro e _ ⟨rfl, u15⟩
   refine ⟨_, rfl, ?_⟩
   refine was (v := B_ true) (wnil (then_n (wp_ret (then_x (by nofun) ?_))))
   refine br1 (v := B_ true) rfl ?_
   exact ⟨rfl, (Mod.up (mtu M12 u15))⟩
  obtain ⟨hsm14, _⟩ := h10 v13
  have hops := hfull hsm14
  refine wlw rfl (bneg v13) (v := S_ s) (mv) (wlw rfl (bneg v13) (v := I_ s.size) (r_lens Ty.un9 (s := s) (by kernel_rfl)) (wl (sb (wt (b := !lb9) rfl (by kernel_rfl) (bneg v13)) (r_gt (k := .i64) (m := (s.size : Int)) (n := 600) (by kernel_rfl) (by kernel_rfl)) fun b15 k16 => wlv (v := B_ b15) (pkF (ebk (bneg v13))) (wnil (then_n ?_)))))
  refine bcd k16 (fun v17 p18 => ?_) (fun v17 p18 => ?_)
  ·
   refine wp_cond_false (ebk v17) (wp_skip (then_n (wp_seq (rg_lit (wmv (v := .slice lA os.length lc) ?_)))))
   have h19 := (OpRow.up hops (Mod.up M12))
   refine wl (sca [.slice lA os.length lc] En.f15 (build_at h19 (Nat.le_trans hB M12.size) (by omega)) ?_)
   rintro e _ ⟨tb, r, rfl, h21, u22, _, _⟩
   refine ⟨_, rfl, ?_⟩
   have M28 := mtu M12 u22
   obtain ⟨hwf, hlen⟩ := buildI_wf os
   obtain ⟨L0, hL0⟩ : ∃ L, buildI os = L := ⟨_, rfl⟩
   rw [hL0] at hwf hlen h21
   obtain ⟨_, _, _, _, _⟩ := h21.2.2.2.1
   have hF : Fit L0 := by rw [← hL0]; exact fit_build os
   have hNm : Named L0 := by rw [← hL0]; exact named_build os
   refine wmv (v := .slice lA os.length lc) ?_
   have h30 := (OpRow.up hops (Mod.up M28))
   refine wl (sca [.slice lA os.length lc] En.f28 (rbuild_at h30 (Nat.le_trans hB M28.size) (by omega)) ?_)
   rintro e _ ⟨ub, rfl, h32, u33, _⟩
   refine ⟨_, rfl, ?_⟩
   rw [hL0] at h32
   have M35 := mtu M28 u33
   refine was (v := pt tb 0) (was (v := pt ub 0) (wnil (then_n (wp_seq (rg_lit (wmv (v := pt tb 0) (wmv (v := S_ s) ?_)))))))
   have h36 := (TreeIs.up h21 u33)
   refine wl (sca [pt tb 0, S_ s] En.f43 (walk_at h36 (Nat.le_trans hB M35.size) hF (TabIs.up htab (Mod.up M35)) (Mx.up hmx (Mod.up M35)) s (by omega)) ?_)
   rintro e _ ⟨rfl, u38⟩
   refine ⟨_, rfl, ?_⟩
   have M39 := mtu M35 u38
   refine wmv (v := .tuple #[.agg #[I_ ((walkS L0 s).t), I_ ((walkS L0 s).w)], I_ (walkK L0 s)]) (wlv (v := .agg #[I_ ((walkS L0 s).t), I_ ((walkS L0 s).w)]) (xt [.agg #[I_ ((walkS L0 s).t), I_ ((walkS L0 s).w)], I_ (walkK L0 s)]) (wlv (v := I_ (walkK L0 s)) (xt [.agg #[I_ ((walkS L0 s).t), I_ ((walkS L0 s).w)], I_ (walkK L0 s)]) (wl (sn rfl (cs := #[I_ 0, I_ 0]) (T := 24) (V := fun b => pt b 0) (r_alloc Ty.zv24 rfl) fun _ _ e42 h43 u44 => ?_))))
   have h45 := (up_ob u38 (up_ob u33 (up_ob u22 (up_ob u11 h4))))
   have l46 := lsz e42 h45
   have g51 := gsz e42 M39
   refine wl (ss rfl (k := 0) (v := .agg #[I_ ((walkS L0 s).t), I_ ((walkS L0 s).w)]) (vs := [I_ ((walkS L0 s).t), I_ ((walkS L0 s).w)]) (cs' := [I_ ((walkS L0 s).t), I_ ((walkS L0 s).w)]) (by kernel_rfl) (by kernel_rfl) rfl Ty.sz24 h43 rfl (Nat.le_of_ble_eq_true rfl) rfl fun _ h54 c55 => ?_)
   have M56 := mtn (mtu M39 u44) c55 g51
   refine was (v := I_ (walkK L0 s)) (wnil (then_n (wp_seq (rg_lit (wmv (v := pt ub 0) (wmv (v := S_ s) ?_))))))
   have h57 := (RIs.up h32 (up_chgn (up_up u38 u44) c55 (by rw [e42]; exact u38.size)))
   refine wl (sca [pt ub 0, S_ s] En.f52 (walkD_at h57 (Nat.le_trans hB M56.size) hF s (by omega)) ?_)
   rintro e _ ⟨rfl, u59⟩
   refine ⟨_, rfl, ?_⟩
   have M60 := mtu M56 u59
   refine wmv (v := .tuple #[.agg #[I_ ((walkS L0 s).t), I_ ((walkS L0 s).w)], I_ (walkK L0 s)]) (wlv (v := .agg #[I_ ((walkS L0 s).t), I_ ((walkS L0 s).w)]) (xt [.agg #[I_ ((walkS L0 s).t), I_ ((walkS L0 s).w)], I_ (walkK L0 s)]) (wlv (v := I_ (walkK L0 s)) (xt [.agg #[I_ ((walkS L0 s).t), I_ ((walkS L0 s).w)], I_ (walkK L0 s)]) (wl (sn rfl (cs := #[I_ 0, I_ 0]) (T := 24) (V := fun b => pt b 0) (r_alloc Ty.zv24 rfl) fun _ _ e63 h64 u65 => ?_))))
   have h66 := (up_ob u59 (chg_ob c55 (Nat.ne_of_lt l46) (up_ob u44 h45)))
   have l67 := lsz e63 h66
   have h72 := (up_ob u59 h54)
   have l73 := lsz e63 h72
   have g74 := gsz e63 M60
   refine wl (ss rfl (k := 0) (v := .agg #[I_ ((walkS L0 s).t), I_ ((walkS L0 s).w)]) (vs := [I_ ((walkS L0 s).t), I_ ((walkS L0 s).w)]) (cs' := [I_ ((walkS L0 s).t), I_ ((walkS L0 s).w)]) (by kernel_rfl) (by kernel_rfl) rfl Ty.sz24 h64 rfl (Nat.le_of_ble_eq_true rfl) rfl fun _ h77 c78 => ?_)
   have M79 := mtn (mtu M60 u65) c78 g74
   refine was (v := I_ (walkK L0 s)) (wnil (then_n (wp_seq (rg_lit (wmv (v := pt tb 0) ?_)))))
   have h80 := (chg_ob c78 (Nat.ne_of_lt l67) (up_ob u65 h66))
   refine wlv (v := .agg #[I_ m1, I_ m2]) (lds 0 Ty.ag24 Ty.sz24 h80) ?_
   have h81 := (TreeIs.up h36 (up_chgn (up_up (up_up (up_chgn (up_up u38 u44) c55 (by rw [e42]; exact u38.size)) u59) u65) c78 (by rw [e63]; exact (up_up (up_chgn (up_up u38 u44) c55 (by rw [e42]; exact u38.size)) u59).size)))
   refine wl (sca [pt tb 0, .agg #[I_ m1, I_ m2]] En.f42 (of_at h81 (Nat.le_trans hB M79.size) hF (TabIs.up htab (Mod.up M79)) m1 m2) ?_)
   rintro e _ ⟨rfl, u83⟩
   refine ⟨_, rfl, ?_⟩
   have M84 := mtu M79 u83
   refine wmv (v := .tuple #[S_ (ofB L0 ⟨m1, m2⟩), I_ (ofK L0 ⟨m1, m2⟩)]) (wlv (v := S_ (ofB L0 ⟨m1, m2⟩)) (xt [S_ (ofB L0 ⟨m1, m2⟩), I_ (ofK L0 ⟨m1, m2⟩)]) (wlv (v := I_ (ofK L0 ⟨m1, m2⟩)) (xt [S_ (ofB L0 ⟨m1, m2⟩), I_ (ofK L0 ⟨m1, m2⟩)]) (was (v := S_ (ofB L0 ⟨m1, m2⟩)) (was (v := I_ (ofK L0 ⟨m1, m2⟩)) (wnil (then_n (wp_seq (rg_lit (wmv (v := pt ub 0) (wlv (v := .agg #[I_ m1, I_ m2]) (lds 0 Ty.ag24 Ty.sz24 (up_ob u83 h80)) ?_))))))))))
   have h86 := (RIs.up h57 (up_up (up_chgn (up_up u59 u65) c78 (by rw [e63]; exact u59.size)) u83))
   refine wl (sca [pt ub 0, .agg #[I_ m1, I_ m2]] En.f53 (ofD_at h86 (Nat.le_trans hB M84.size) hF m1 m2) ?_)
   rintro e _ ⟨rfl, u88⟩
   refine ⟨_, rfl, ?_⟩
   have M89 := mtu M84 u88
   refine wmv (v := .tuple #[S_ (ofB L0 ⟨m1, m2⟩), I_ (ofK L0 ⟨m1, m2⟩)]) (wlv (v := S_ (ofB L0 ⟨m1, m2⟩)) (xt [S_ (ofB L0 ⟨m1, m2⟩), I_ (ofK L0 ⟨m1, m2⟩)]) (wlv (v := I_ (ofK L0 ⟨m1, m2⟩)) (xt [S_ (ofB L0 ⟨m1, m2⟩), I_ (ofK L0 ⟨m1, m2⟩)]) (was (v := S_ (ofB L0 ⟨m1, m2⟩)) (was (v := I_ (ofK L0 ⟨m1, m2⟩)) (wnil (then_n (wp_seq (rg_lit (wmv (v := pt tb 0) ?_)))))))))
   have h95 := (TreeIs.up h81 (up_up u83 u88))
   refine wl (sca [pt tb 0] En.f54 (pall_at h95 (Nat.le_trans hB M89.size) hF (TabIs.up htab (Mod.up M89))) ?_)
   rintro e w90 ⟨A91, c92, rfl, h93, u94⟩
   have hal := allB_len hF.len
   have hap : 1 ≤ (allB L0).length := by simp [allB]
   refine ⟨_, rfl, ?_⟩
   have M96 := mtu M89 u94
   refine wmv (v := .tuple #[.slice A91 ((allB L0).length) c92, I_ 0]) (wlv (v := .slice A91 ((allB L0).length) c92) (xt [.slice A91 ((allB L0).length) c92, I_ 0]) (wlv (v := I_ 0) (xt [.slice A91 ((allB L0).length) c92, I_ 0]) (was (v := .slice A91 ((allB L0).length) c92) (was (v := I_ 0) (wnil (then_n (wp_seq (rg_lit (wlv (v := .agg #[I_ ((walkS L0 s).t), I_ ((walkS L0 s).w)]) (lds 0 Ty.ag24 Ty.sz24 (up_ob u94 (up_ob u88 (up_ob u83 (chg_ob c78 (Nat.ne_of_lt l73) (up_ob u65 h72)))))) (wlv (v := .agg #[I_ ((walkS L0 s).t), I_ ((walkS L0 s).w)]) (lds 0 Ty.ag24 Ty.sz24 (up_ob u94 (up_ob u88 (up_ob u83 h77)))) (wlv (v := B_ true) (dec_true rfl (r_eqS (a := ((walkS L0 s).t)) (b := ((walkS L0 s).w)) (c := ((walkS L0 s).t)) (e := ((walkS L0 s).w)) (by kernel_rfl) (by kernel_rfl))) ?_)))))))))))
   refine wmv (v := B_ true) ?_
   iterate 2 refine wl (sv (by kernel_rfl) (v := I_ (walkK L0 s)) (mv) ?_)
   refine wl (sv (by kernel_rfl) (v := B_ true) (dec_true rfl (eqI (walkK L0 s) (walkK L0 s))) (wlv (v := B_ true) (pkT (by kernel_rfl)) (wmv (v := B_ true) ?_)))
   iterate 2 refine wl (sv (by kernel_rfl) (v := S_ (ofB L0 ⟨m1, m2⟩)) (mv) ?_)
   refine wl (sv (by kernel_rfl) (v := B_ true) (dec_true rfl (r_eqs (m := (ofB L0 ⟨m1, m2⟩)) (n := (ofB L0 ⟨m1, m2⟩)) (by kernel_rfl) (by kernel_rfl))) (wlv (v := B_ true) (pkT (by kernel_rfl)) (wmv (v := B_ true) ?_)))
   iterate 2 refine wl (sv (by kernel_rfl) (v := I_ (ofK L0 ⟨m1, m2⟩)) (mv) ?_)
   refine wl (sv (by kernel_rfl) (v := B_ true) (dec_true rfl (eqI (ofK L0 ⟨m1, m2⟩) (ofK L0 ⟨m1, m2⟩))) (wlv (v := B_ true) (pkT (by kernel_rfl)) (wmv (v := B_ true) (wl (sv (by kernel_rfl) (v := I_ 0) (mv) (wl (sv (w' := w90) (by kernel_rfl) (v := B_ true) (by kernel_rfl) (wlv (v := B_ true) (pkT (by kernel_rfl)) (wmv (v := B_ true) (wl (sv (by kernel_rfl) (v := .slice A91 ((allB L0).length) c92) (mv) (wl (sv (by kernel_rfl) (v := pt ub 0) (mv) ?_)))))))))))))
   have h104 := (RIs.up h86 (up_up u88 u94))
   refine wl (sc (by kernel_rfl) (r_callv (caps := []) (all := [pt ub 0]) En.f55 (by kernel_rfl) (by kernel_rfl)) (allD_at h104 (Nat.le_trans hB M96.size) hF) ?_)
   rintro e _ ⟨A100, c101, rfl, h102, u103⟩
   refine ⟨_, rfl, ?_⟩
   have h106 := (SSRow.up h93 u103)
   refine wl (sc (by kernel_rfl) (r_callv (caps := []) (all := [.slice A91 ((allB L0).length) c92, .slice A100 ((allB L0).length) c101]) En.f33 (by kernel_rfl) (by kernel_rfl)) (textsS_at h106 (BRow.ss (BRow.g.2 h102)) (by omega)) ?_)
   rintro e _ ⟨rfl, u108⟩
   refine ⟨_, rfl, ?_⟩
   have M109 := mtu (mtu M96 u103) u108
   refine wlv (v := B_ true) (pkT (by kernel_rfl)) (wmv (v := B_ true) (wl (sc (by kernel_rfl) (r_callv (caps := []) (all := []) En.f40 (by kernel_rfl) (by kernel_rfl)) (alive19_at (TabIs.up htab (Mod.up M109)) (Mx.up hmx (Mod.up M109))) ?_)))
   rintro e _ ⟨rfl, u111⟩
   refine ⟨_, rfl, ?_⟩
   refine wlv (v := B_ true) (pkT (by kernel_rfl)) (was (v := B_ true) (wnil (then_n (wp_ret ?_))))
   refine br1 (v := B_ true) rfl ?_
   exact ⟨rfl, (Mod.up (mtu M109 u111))⟩
  refine wp_cond_true (ebk v17) (wp_seq (rg_lit (wl (sca [] En.f40 (alive19_at (TabIs.up htab (Mod.up M12)) (Mx.up hmx (Mod.up M12))) ?_))))
  rintro e _ ⟨rfl, u20⟩
  refine ⟨_, rfl, ?_⟩
  refine was (v := B_ true) (wnil (then_n (wp_ret (then_x (by nofun) ?_))))
  refine br1 (v := B_ true) rfl ?_
  exact ⟨rfl, (Mod.up (mtu M12 u20))⟩
end Go.Proofs.YtefhfoioeoijlaaGreatDoor

/- PG -/
import Derived.Test.YtefhfoioeoijlaaGreatDoorUah
import Derived.Test.YtefhfoioeoijlaaGreatDoorUau
set_option linter.unusedVariables false
set_option linter.unusedSimpArgs false
namespace Go.Proofs.YtefhfoioeoijlaaGreatDoor
open Go Go.RowKit Go.Sort
set_option maxHeartbeats 2000000 in
theorem cutD_at {w : World} (s : ByteArray) (c : UInt8) (hs : s.size ≤ 100000) : Calls Tryz.prog 105 #[.string s, .int .u8 ((c.toNat : Nat) : Int)] w fun e w' => ∃ xA xc, e = .returned (.slice xA (cutL c s).length xc) ∧ SSRow w' (.slice xA (cutL c s).length xc) (cutL c s) ∧ NewS w.heap.size (.slice xA (cutL c s).length xc) ∧ Up w w' := by
  go_enter Tryz.func105, Tryz.ntmps105
  refine wp_seq (rg_lit (was (v := .slice none 0 0) (wnil (then_n (wp_seq (rg_lit (was (v := .slice none 0 0) (wnil (then_n (wp_seq (rg_lit (was (v := I_ 0) (wnil (then_n (wp_seq (wp_seq (rg_lit (was (v := I_ 0) (wnil (then_n (wp_block ?_)))))))))))))))))))))
  refine lp (fun n a r1 => ∃ (k : Nat) (fr : Nat) (out : List ByteArray) (oA : Option Addr) (oc : Nat), (n = s.size + 1 - k) ∧ (HasFr a 35 [(0, S_ s), (1, .int .u8 ((c.toNat : Nat) : Int)), (4, .slice none 0 0), (5, .slice oA out.length oc), (6, I_ fr), (7, I_ k)] []) ∧ (Mod [] w r1) ∧ (k ≤ s.size + 1) ∧ (out.length ≤ k) ∧ (CutI c s k fr out) ∧ (BRow w.heap.size r1 (.slice oA out.length oc) out)) ⟨_, 0, 0, [], none, 0, rfl, hmk, Mod.refl _ _, (Nat.zero_le _), (Nat.zero_le _), (CutI.start c s), (BRow.nil _ _)⟩ ?_
  rintro _ _ r1 ⟨k, fr, out, oA, oc, rfl, h1, hM1, _, _, hF1_2, hF1_3⟩
  obtain ⟨_, rfl⟩ := h1
  have M2 := Mod.thin (Mod.refl [] w) hM1 (by simp)
  refine wp_seq (wp_seq (rg_lit (wmv (v := I_ k) (wmv (v := S_ s) (wlv (v := I_ s.size) (r_lens Ty.un9 (s := s) (by kernel_rfl)) (wl (sb rfl (r_le (k := .i64) (m := (k : Int)) (n := (s.size : Int)) (by kernel_rfl) (by kernel_rfl)) fun _ k4 => wnil (then_n ?_))))))))
  refine bcd k4 (fun v5 p6 => ?_) (fun v5 p6 => ?_)
  ·
   refine wp_cond_false (ebk v5) (wp_exit (then_x (by nofun) (then_x (by nofun) (inb_hit (then_n (wp_seq (rg_lit (wmv (v := .slice oA out.length oc) (was (v := .slice oA out.length oc) (wnil (then_n (wp_ret ?_))))))))))))
   refine br1 (v := .slice oA out.length oc) rfl ?_
   have hdo : cutL c s = out := CutI.done hF1_2 (by omega)
   rw [hdo]
   exact ⟨oA, oc, rfl, BRow.ss hF1_3, fun k hk => (by first | exact (BRow.own hF1_3 k hk).1 | exact Nat.le_trans (by first | exact up_sz (Mod.up M2) | exact (Mod.up M2).size) (BRow.own hF1_3 k hk).1), (Mod.up M2)⟩
  refine wp_cond_true (ebk v5) (wp_skip (then_n (wp_seq (wp_block (wp_seq (rg_lit (wmv (v := I_ k) (wmv (v := S_ s) (wlv (v := I_ s.size) (r_lens Ty.un9 (s := s) (by kernel_rfl)) (wl (sb rfl (eqI k s.size) fun b7 k8 => wmv (v := B_ b7) ?_)))))))))))
  refine bcd k8 (fun v9 p10 => ?_) (fun v9 p10 => ?_)
  ·
   refine wlw rfl v9 (v := S_ s) (mv) (wlw rfl v9 (v := I_ k) (mv) ?_)
   obtain ⟨y11, hy11⟩ : ∃ x, s.data.toList[k]? = some x := ⟨_, List.getElem?_eq_getElem (by rw [← sz_len]; omega)⟩
   refine wlw rfl v9 (v := .int .u8 ((y11.toNat : Nat) : Int)) (r_strix (s := s) (k := k) (c := y11) (by kernel_rfl) (by kernel_rfl) hy11 Tryz.underlying9) (wlw rfl v9 (v := .int .u8 ((c.toNat : Nat) : Int)) (mv) (wl (sb (wt (b := b7) rfl (by kernel_rfl) v9) (r_eq (k := .u8) (m := ((y11.toNat : Nat) : Int)) (n := ((c.toNat : Nat) : Int)) (by kernel_rfl) (by kernel_rfl)) fun b12 k13 => wlv (v := B_ b12) (pkF (ebk v9)) (wnil (then_n ?_)))))
   refine bcd k13 (fun v14 p15 => ?_) (fun v14 p15 => ?_)
   ·
    refine wp_cond_false (ebk v14) (wp_skip (inb_n (then_n (rg_lit (wmv (v := I_ k) (wlv (v := N_ (k + 1)) (adN k 1) (was (v := N_ (k + 1)) (wnil (then_n ?_)))))))))
    refine ⟨s.size + 1 - (k + 1), ?_, (k + 1), fr, out, oA, oc, rfl, hmk, hM1, (by omega), (by (try simp only [List.length_append, List.length_cons, List.length_nil]); omega), (CutI.miss hF1_2 hy11 p15), hF1_3⟩
    · omega
   refine wp_cond_true (ebk v14) (wp_seq (rg_lit (wmv (v := .slice oA out.length oc) (wmv (v := S_ s) (wmv (v := I_ fr) (wmv (v := I_ k) ?_))))))
   have h16 := CutI.fr hF1_2 (by omega)
   refine wlv (v := S_ (s.extract fr k)) (r_strsl (s := s) (a := fr) (b := k) (by kernel_rfl) (by kernel_rfl) (by kernel_rfl) (by omega) (by omega) Tryz.underlying9) (wl (sn rfl (cs := #[S_ (s.extract fr k)]) (T := 9) (V := fun b => sl b 0 1 1) (r_buildSlice (n := 1) (ps := [(0, S_ (s.extract fr k))]) Ty.un69 Ty.sz9 Ty.zv9 (by decide) (by decide) (by kernel_rfl) (by kernel_rfl)) fun _ _ _ h20 u21 => ?_))
   have M25 := mtu hM1 u21
   have h26 := (BRow.up hF1_3 u21)
   refine wl (snB rfl (L := out) (x := (s.extract fr k)) (by kernel_rfl) (by kernel_rfl) h26 Ty.un69 h20 M25.size (by omega) fun A27 c28 w29 h30 u31 => was (v := .slice A27 ((out ++ [(s.extract fr k)]).length) c28) (wnil (then_n (rg_lit (wmv (v := I_ k) (wlv (v := N_ (k + 1)) (adN k 1) (was (v := N_ (k + 1)) (wnil (inb_n (then_n (rg_lit (wmv (v := I_ k) (wlv (v := N_ (k + 1)) (adN k 1) ?_)))))))))))))
   refine was (v := N_ (k + 1)) (wnil (then_n ?_))
   refine ⟨s.size + 1 - (k + 1), ?_, (k + 1), k + 1, (out ++ [(s.extract fr k)]), A27, c28, rfl, hmk, (Mod.trans' M25 u31 (fun k hk => Nat.le_trans (Nat.le_refl _) (h26.own k hk).1)), (by omega), (by (try simp only [List.length_append, List.length_cons, List.length_nil]); omega), (CutI.hit hF1_2 (by rw [hy11, u8_of p15])), h30⟩
   · omega
  iterate 5 refine wls rfl v9 ?_
  refine wlv (v := B_ true) (pkT (ebk v9)) (wnil (then_n (wp_cond_true (by kernel_rfl) (wp_seq (rg_lit (wmv (v := .slice oA out.length oc) (wmv (v := S_ s) (wmv (v := I_ fr) (wmv (v := I_ k) ?_)))))))))
  have h11 := CutI.fr hF1_2 (by omega)
  refine wlv (v := S_ (s.extract fr k)) (r_strsl (s := s) (a := fr) (b := k) (by kernel_rfl) (by kernel_rfl) (by kernel_rfl) (by omega) (by omega) Tryz.underlying9) (wl (sn rfl (cs := #[S_ (s.extract fr k)]) (T := 9) (V := fun b => sl b 0 1 1) (r_buildSlice (n := 1) (ps := [(0, S_ (s.extract fr k))]) Ty.un69 Ty.sz9 Ty.zv9 (by decide) (by decide) (by kernel_rfl) (by kernel_rfl)) fun b12 _ _ h15 u16 => ?_))
  have M20 := mtu hM1 u16
  have h21 := (BRow.up hF1_3 u16)
  refine wl (snB rfl (L := out) (x := (s.extract fr k)) (by kernel_rfl) (by kernel_rfl) h21 Ty.un69 h15 M20.size (by omega) fun A22 c23 w24 h25 u26 => was (v := .slice A22 ((out ++ [(s.extract fr k)]).length) c23) (wnil (then_n (rg_lit (wmv (v := I_ k) (wlv (v := N_ (k + 1)) (adN k 1) (was (v := N_ (k + 1)) (wnil (inb_n (then_n (rg_lit (wmv (v := I_ k) (wlv (v := N_ (k + 1)) (adN k 1) ?_)))))))))))))
  refine was (v := N_ (k + 1)) (wnil (then_n ?_))
  refine ⟨s.size + 1 - (k + 1), ?_, (k + 1), k + 1, (out ++ [(s.extract fr k)]), A22, c23, rfl, hmk, (Mod.trans' M20 u26 (fun k hk => Nat.le_trans (Nat.le_refl _) (h21.own k hk).1)), (by omega), (by (try simp only [List.length_append, List.length_cons, List.length_nil]); omega), (CutI.last hF1_2 (by omega)), h25⟩
  · omega
set_option maxHeartbeats 2000000 in
theorem digD_at {w : World} (s : ByteArray) (dd : Int) (hs : s.size ≤ 100000) : Calls Tryz.prog 158 #[.string s, .int .i64 dd] w fun e w' => e = .returned (.bool (digB dd s)) ∧ Up w w' := by
  go_enter Tryz.func158, Tryz.ntmps158
  refine wp_seq (rg_lit (was (v := B_ false) (wnil (then_n (wp_seq (wp_seq (rg_lit (was (v := I_ 0) (wnil (then_n (wp_block ?_)))))))))))
  refine lp (fun n a r1 => ∃ (k : Nat), (n = s.size - k) ∧ (HasFr a 31 [(0, S_ s), (1, I_ dd), (5, I_ k)] []) ∧ (Mod [] w r1) ∧ (k ≤ s.size) ∧ (Hid (∀ (j : Nat) (y : UInt8), j < k → s.data.toList[j]? = some y → ¬ ¬ (48 ≤ y.toNat ∧ y.toNat ≤ 57)))) ⟨_, 0, rfl, hmk, Mod.refl _ _, (Nat.zero_le _), (fun j y hj => absurd hj (Nat.not_lt_zero _))⟩ ?_
  rintro _ _ r1 ⟨k, rfl, h1, hM1, _, hF1_1⟩
  obtain ⟨_, rfl⟩ := h1
  have M2 := Mod.thin (Mod.refl [] w) hM1 (by simp)
  refine wp_seq (wp_seq (rg_lit (wmv (v := I_ k) (wmv (v := S_ s) (wlv (v := I_ s.size) (r_lens Ty.un9 (s := s) (by kernel_rfl)) (wl (sb rfl (ltI k s.size) fun _ k4 => wnil (then_n ?_))))))))
  refine bcd k4 (fun v5 p6 => ?_) (fun v5 p6 => ?_)
  ·
   refine wp_cond_false (ebk v5) (wp_exit (then_x (by nofun) (then_x (by nofun) (inb_hit (then_n (wp_seq (rg_lit (wmv (v := S_ s) (wlv (v := I_ s.size) (r_lens Ty.un9 (s := s) (by kernel_rfl)) (wl (sb rfl (r_ge (k := .i64) (m := (s.size : Int)) (n := 1) (by kernel_rfl) (by kernel_rfl)) fun b7 k8 => wmv (v := B_ b7) ?_)))))))))))
   refine bcd k8 (fun v9 p10 => ?_) (fun v9 p10 => ?_)
   ·
    iterate 4 refine wls rfl v9 ?_
    refine wlv (v := B_ false) (pkF (ebk v9)) (was (v := B_ false) (wnil (then_n (wp_ret ?_))))
    refine br1 (v := B_ false) rfl ?_
    exact ⟨by rw [dig_1 p10], (Mod.up M2)⟩
   refine wlw rfl v9 (v := S_ s) (mv) (wlw rfl v9 (v := I_ s.size) (r_lens Ty.un9 (s := s) (by kernel_rfl)) (wlw rfl v9 (v := I_ dd) (mv) (wl (sb (wt (b := b7) rfl (by kernel_rfl) v9) (r_le (k := .i64) (m := (s.size : Int)) (n := dd) (by kernel_rfl) (by kernel_rfl)) fun b11 k12 => wlv (v := B_ b11) (pkT (ebk v9)) (was (v := B_ b11) (wnil (then_n (wp_ret ?_))))))))
   refine br1 (v := B_ b11) rfl ?_
   have hall : ∀ x ∈ s.data.toList, 48 ≤ x.toNat ∧ x.toNat ≤ 57 := fun x hx => by obtain ⟨j, hj⟩ := List.mem_iff_getElem?.1 hx; exact Decidable.not_not.1 (none_end (p := fun c : UInt8 => ¬ (48 ≤ c.toNat ∧ c.toNat ≤ 57)) hF1_1 (by rw [← sz_len]; omega) j x hj)
   exact ⟨ret_bool (by rw [dig_all hall, decide_eq_true p10, Bool.true_and]; first | exact k12 | exact (k12).symm), (Mod.up M2)⟩
  refine wp_cond_true (ebk v5) (wp_skip (then_n (wp_seq (wp_block (wp_seq (rg_lit (wmv (v := S_ s) (wmv (v := I_ k) ?_))))))))
  obtain ⟨y9, hy9⟩ : ∃ x, s.data.toList[k]? = some x := ⟨_, List.getElem?_eq_getElem (by rw [← sz_len]; omega)⟩
  refine wlv (v := .int .u8 ((y9.toNat : Nat) : Int)) (r_strix (s := s) (k := k) (c := y9) (by kernel_rfl) (by kernel_rfl) hy9 Tryz.underlying9) (wl (sb rfl (r_lt (k := .u8) (m := ((y9.toNat : Nat) : Int)) (n := 48) (by kernel_rfl) (by kernel_rfl)) fun b10 k11 => wmv (v := B_ b10) ?_))
  refine bcd k11 (fun v12 p13 => ?_) (fun v12 p13 => ?_)
  ·
   refine wlw rfl v12 (v := S_ s) (mv) (wlw rfl v12 (v := I_ k) (mv) (wlw rfl v12 (v := .int .u8 ((y9.toNat : Nat) : Int)) (r_strix (s := s) (k := k) (c := y9) (by kernel_rfl) (by kernel_rfl) hy9 Tryz.underlying9) (wl (sb (wt (b := b10) rfl (by kernel_rfl) v12) (r_gt (k := .u8) (m := ((y9.toNat : Nat) : Int)) (n := 57) (by kernel_rfl) (by kernel_rfl)) fun b15 k16 => wlv (v := B_ b15) (pkF (ebk v12)) (wnil (then_n ?_))))))
   refine bcd k16 (fun v17 p18 => ?_) (fun v17 p18 => ?_)
   ·
    refine wp_cond_false (ebk v17) (wp_skip (inb_n (then_n (rg_lit (wmv (v := I_ k) (wlv (v := N_ (k + 1)) (adN k 1) (was (v := N_ (k + 1)) (wnil (then_n ?_)))))))))
    refine ⟨s.size - (k + 1), ?_, (k + 1), rfl, hmk, hM1, (by omega), (none_next (p := fun c : UInt8 => ¬ (48 ≤ c.toNat ∧ c.toNat ≤ 57)) hF1_1 hy9 (by have q1 := p13; have q2 := p18; omega))⟩
    · omega
   refine wp_cond_true (ebk v17) (wp_seq (rg_lit (was (v := B_ false) (wnil (then_n (wp_ret (inb_r (then_x (by nofun) (then_x (by nofun) (inb_r (then_x (by nofun) ?_)))))))))))
   refine br1 (v := B_ false) rfl ?_
   exact ⟨by rw [dig_no (List.mem_of_getElem? hy9) (by have q1 := p18; omega)], (Mod.up M2)⟩
  iterate 4 refine wls rfl v12 ?_
  refine wlv (v := B_ true) (pkT (ebk v12)) (wnil (then_n (wp_cond_true (by kernel_rfl) (wp_seq (rg_lit (was (v := B_ false) (wnil (then_n (wp_ret (inb_r (then_x (by nofun) (then_x (by nofun) (inb_r (then_x (by nofun) ?_))))))))))))))
  refine br1 (v := B_ false) rfl ?_
  exact ⟨by rw [dig_no (List.mem_of_getElem? hy9) (by have q1 := p13; omega)], (Mod.up M2)⟩
set_option maxHeartbeats 2000000 in
theorem partD_at {w : World} (s : ByteArray) (hs : s.size ≤ 100000) : Calls Tryz.prog 109 #[.string s] w fun e w' => e = .returned (.bool (partB s)) ∧ Up w w' := by
  go_enter Tryz.func109, Tryz.ntmps109
  refine wp_seq (rg_lit (was (v := B_ false) (wnil (then_n (wp_seq (rg_lit (wmv (v := S_ s) (wl (sca [S_ s, .int .u8 126] En.f105 (cutD_at s 126 (by omega)) ?_)))))))))
  rintro e _ ⟨A2, c3, rfl, h4, _, u6⟩
  refine ⟨_, rfl, ?_⟩
  have z7 := cutL_pos 126 s
  have z8 := cutL_count 126 s
  have M9 := mtu (Mod.refl [] w) u6
  refine was (v := .slice A2 ((cutL 126 s).length) c3) (wnil (then_n (wp_seq (wp_seq (rg_lit (wmv (v := .slice A2 ((cutL 126 s).length) c3) (wlv (v := I_ (((cutL 126 s).length) : Int)) (ln A2 ((cutL 126 s).length) c3 Ty.un69) (wl (sb rfl (eqI (((cutL 126 s).length) : Int) 1) fun _ k11 => wnil (then_n ?_))))))))))
  refine bcd k11 (fun v12 p13 => ?_) (fun v12 p13 => ?_)
  ·
   refine wp_cond_false (ebk v12) (wp_skip (then_n (wp_seq (wp_seq (rg_lit (wmv (v := .slice A2 ((cutL 126 s).length) c3) (wlv (v := I_ (((cutL 126 s).length) : Int)) (ln A2 ((cutL 126 s).length) c3 Ty.un69) (wl (sb rfl (neI (((cutL 126 s).length) : Int) 2) fun _ k15 => wnil (then_n ?_))))))))))
   refine bcd k15 (fun v16 p17 => ?_) (fun v16 p17 => ?_)
   ·
    refine wp_cond_false (ebk v16) (wp_skip (then_n (wp_seq (rg_lit (wmv (v := .slice A2 ((cutL 126 s).length) c3) ?_)))))
    obtain ⟨y18, hy18⟩ : ∃ x, (cutL 126 s)[1]? = some x := ⟨_, List.getElem?_eq_getElem (by omega)⟩
    obtain ⟨g18, f18, hA18, _, hc18⟩ := SSRow.get h4 hy18
    refine wlv (v := pt g18 (f18 + 1)) (ixa ((cutL 126 s).length) c3 1 1 hA18 Ty.un69 Ty.sz9) (wlv (v := S_ y18) (r_loadc (by kernel_rfl) Ty.ag9 hc18) (wl (sca [S_ y18, .int .u8 46] En.f105 (cutD_at y18 46 (by have q0 := cutL_size (List.mem_of_getElem? hy18); omega)) ?_)))
    rintro e _ ⟨A20, c21, rfl, h22, _, u24⟩
    refine ⟨_, rfl, ?_⟩
    have z25 := cutL_pos 46 y18
    have z26 := cutL_count 46 y18
    refine was (v := .slice A20 ((cutL 46 y18).length) c21) (wnil (then_n (wp_seq (rg_lit (wmv (v := .slice A2 ((cutL 126 s).length) c3) ?_)))))
    have h28 := (SSRow.up h4 u24)
    obtain ⟨y29, hy29⟩ : ∃ x, (cutL 126 s)[0]? = some x := ⟨_, List.getElem?_eq_getElem (by omega)⟩
    obtain ⟨g29, f29, hA29, _, hc29⟩ := SSRow.get h28 hy29
    refine wlv (v := pt g29 (f29 + 0)) (ixa ((cutL 126 s).length) c3 1 0 hA29 Ty.un69 Ty.sz9) (wlv (v := S_ y29) (r_loadc (by kernel_rfl) Ty.ag9 hc29) (wl (sca [S_ y29] En.f88 (r15n_up y29 (by have q0 := cutL_size (List.mem_of_getElem? hy18); have q1 := cutL_size (List.mem_of_getElem? hy29); omega)) ?_)))
    rintro e _ ⟨rfl, u31⟩
    refine ⟨_, rfl, ?_⟩
    have M32 := mtu (mtu M9 u24) u31
    refine wmv (v := B_ (nameB y29)) ?_
    refine bcase (nameB y29) (fun v33 => ?_) (fun v33 => ?_)
    ·
     iterate 3 refine wls rfl v33 ?_
     refine wlv (v := B_ false) (pkF (ebk v33)) (wmv (v := B_ false) ?_)
     iterate 4 refine wsp ?_
     refine wlv (v := B_ false) (pkF (by kernel_rfl)) (wmv (v := B_ false) ?_)
     iterate 4 refine wsp ?_
     refine wlv (v := B_ false) (pkF (by kernel_rfl)) (was (v := B_ false) (wnil (then_n (wp_ret ?_))))
     refine br1 (v := B_ false) rfl ?_
     exact ⟨by rw [partD_name (by omega) hy29 hy18 v33], (Mod.up M32)⟩
    refine wlw rfl v33 (v := .slice A20 ((cutL 46 y18).length) c21) (mv) (wlw rfl v33 (v := I_ (((cutL 46 y18).length) : Int)) (ln A20 ((cutL 46 y18).length) c21 Ty.un69) (wl (sb (wt (b := (nameB y29)) rfl (by kernel_rfl) v33) (eqI (((cutL 46 y18).length) : Int) 2) fun b34 k35 => wlv (v := B_ b34) (pkT (ebk v33)) (wmv (v := B_ b34) ?_))))
    refine bcd k35 (fun v36 p37 => ?_) (fun v36 p37 => ?_)
    ·
     iterate 4 refine wls rfl v36 ?_
     refine wlv (v := B_ false) (pkF (ebk v36)) (wmv (v := B_ false) ?_)
     iterate 4 refine wsp ?_
     refine wlv (v := B_ false) (pkF (by kernel_rfl)) (was (v := B_ false) (wnil (then_n (wp_ret ?_))))
     refine br1 (v := B_ false) rfl ?_
     exact ⟨by rw [partD_len (by omega) hy29 hy18 (by omega)], (Mod.up M32)⟩
    refine wlw rfl v36 (v := .slice A20 ((cutL 46 y18).length) c21) (mv) ?_
    have h38 := (SSRow.up h22 u31)
    obtain ⟨y39, hy39⟩ : ∃ x, (cutL 46 y18)[0]? = some x := ⟨_, List.getElem?_eq_getElem (by omega)⟩
    obtain ⟨g39, f39, hA39, _, hc39⟩ := SSRow.get h38 hy39
    refine wlw rfl v36 (v := pt g39 (f39 + 0)) (ixa ((cutL 46 y18).length) c21 1 0 hA39 Ty.un69 Ty.sz9) (wlw rfl v36 (v := S_ y39) (r_loadc (by kernel_rfl) Ty.ag9 hc39) (wl (sc (wt (b := b34) rfl (by kernel_rfl) v36) (r_callv (caps := []) (all := [S_ y39, I_ 13]) En.f158 (by kernel_rfl) (by kernel_rfl)) (digD_at y39 13 (by have q0 := cutL_size (List.mem_of_getElem? hy18); have q1 := cutL_size (List.mem_of_getElem? hy29); have q2 := cutL_size (List.mem_of_getElem? hy39); omega)) ?_)))
    rintro e _ ⟨rfl, u41⟩
    refine ⟨_, rfl, ?_⟩
    have M42 := mtu M32 u41
    refine wlv (v := B_ (digB 13 y39)) (pkT (ebk v36)) (wmv (v := B_ (digB 13 y39)) ?_)
    refine bcase (digB 13 y39) (fun v43 => ?_) (fun v43 => ?_)
    ·
     iterate 4 refine wls rfl v43 ?_
     refine wlv (v := B_ false) (pkF (ebk v43)) (was (v := B_ false) (wnil (then_n (wp_ret ?_))))
     refine br1 (v := B_ false) rfl ?_
     obtain ⟨_, hz1⟩ : ∃ x, (cutL 46 y18)[1]? = some x := ⟨_, List.getElem?_eq_getElem (by omega)⟩
     exact ⟨by rw [partD_dig (by omega) hy29 hy18 v33 (by omega) hy39 hz1, v43, Bool.false_and], (Mod.up M42)⟩
    refine wlw rfl v43 (v := .slice A20 ((cutL 46 y18).length) c21) (mv) ?_
    have h44 := (SSRow.up h38 u41)
    obtain ⟨y45, hy45⟩ : ∃ x, (cutL 46 y18)[1]? = some x := ⟨_, List.getElem?_eq_getElem (by omega)⟩
    obtain ⟨g45, f45, hA45, _, hc45⟩ := SSRow.get h44 hy45
    refine wlw rfl v43 (v := pt g45 (f45 + 1)) (ixa ((cutL 46 y18).length) c21 1 1 hA45 Ty.un69 Ty.sz9) (wlw rfl v43 (v := S_ y45) (r_loadc (by kernel_rfl) Ty.ag9 hc45) (wl (sc (wt (b := (digB 13 y39)) rfl (by kernel_rfl) v43) (r_callv (caps := []) (all := [S_ y45, I_ 2]) En.f158 (by kernel_rfl) (by kernel_rfl)) (digD_at y45 2 (by have q0 := cutL_size (List.mem_of_getElem? hy18); have q1 := cutL_size (List.mem_of_getElem? hy29); have q2 := cutL_size (List.mem_of_getElem? hy39); have q3 := cutL_size (List.mem_of_getElem? hy45); omega)) ?_)))
    rintro e _ ⟨rfl, u47⟩
    refine ⟨_, rfl, ?_⟩
    refine wlv (v := B_ (digB 2 y45)) (pkT (ebk v43)) (was (v := B_ (digB 2 y45)) (wnil (then_n (wp_ret ?_))))
    refine br1 (v := B_ (digB 2 y45)) rfl ?_
    exact ⟨by rw [partD_dig (by omega) hy29 hy18 v33 (by omega) hy39 hy45, v43, Bool.true_and], (Mod.up (mtu M42 u47))⟩
   refine wp_cond_true (ebk v16) (wp_seq (rg_lit (was (v := B_ false) (wnil (then_n (wp_ret (then_x (by nofun) ?_)))))))
   refine br1 (v := B_ false) rfl ?_
   exact ⟨by rw [partD_2 (by omega) (by omega)], (Mod.up M9)⟩
  refine wp_cond_true (ebk v12) (wp_seq (rg_lit (wmv (v := S_ s) (wl (sca [S_ s] En.f88 (r15n_up s (by omega)) ?_)))))
  rintro e _ ⟨rfl, u15⟩
  refine ⟨_, rfl, ?_⟩
  refine was (v := B_ (nameB s)) (wnil (then_n (wp_ret (then_x (by nofun) ?_))))
  refine br1 (v := B_ (nameB s)) rfl ?_
  exact ⟨by rw [partD_1 (by omega)], (Mod.up (mtu M9 u15))⟩
set_option maxHeartbeats 2000000 in
theorem showD_at {w : World} {l : List ByteArray} {xA : Option Addr} {xc : Nat} (hl : SSRow w (.slice xA l.length xc) l) (hsz : ∀ x ∈ l, x.size ≤ 100000) (hj : (joinB l).size ≤ 1000000) : Calls Tryz.prog 47 #[.slice xA l.length xc] w fun e w' => e = .returned (.tuple #[.string (showB l), .int .i64 (showK l)]) ∧ Up w w' := by
  go_enter Tryz.func47, Tryz.ntmps47
  refine wp_seq (rg_lit (was (v := S_ (⟨#[]⟩)) (was (v := I_ 0) (wnil (then_n (wp_seq (wp_seq (rg_lit (wmv (v := .slice xA l.length xc) (wlv (v := I_ l.length) (ln xA l.length xc Ty.un69) (wl (sb rfl (r_gt (k := .i64) (m := (l.length : Int)) (n := 16) (by kernel_rfl) (by kernel_rfl)) fun _ k2 => wnil (then_n ?_)))))))))))))
  refine bcd k2 (fun v3 p4 => ?_) (fun v3 p4 => ?_)
  ·
   refine wp_cond_false (ebk v3) (wp_skip (then_n (wp_seq (rg_lit (was (v := S_ (⟨#[]⟩)) (wnil (then_n (wp_seq (wp_seq (rg_lit (was (v := I_ 0) (wnil (then_n (wp_block ?_))))))))))))))
   refine lp (fun n a r1 => ∃ (k : Nat) (acc : ByteArray), (n = l.length - k) ∧ (HasFr a 31 [(0, .slice xA l.length xc), (4, S_ acc), (5, I_ k)] []) ∧ (Mod [] w r1) ∧ (k ≤ l.length) ∧ (acc = slashL (l.take k)) ∧ (Hid (∀ (j : Nat) (y : ByteArray), j < k → l[j]? = some y → ¬ partB y = false))) ⟨_, 0, ⟨#[]⟩, rfl, hmk, Mod.refl _ _, (Nat.zero_le _), rfl, (fun j y hj => absurd hj (Nat.not_lt_zero _))⟩ ?_
   rintro _ _ r1 ⟨k, acc, rfl, h5, hM1, _, hF1_1, hF1_2⟩
   obtain ⟨_, rfl⟩ := h5
   have M6 := Mod.thin (Mod.refl [] w) hM1 (by simp)
   refine wp_seq (wp_seq (rg_lit (wmv (v := I_ k) (wmv (v := .slice xA l.length xc) (wlv (v := I_ l.length) (ln xA l.length xc Ty.un69) (wl (sb rfl (ltI k l.length) fun _ k8 => wnil (then_n ?_))))))))
   refine bcd k8 (fun v9 p10 => ?_) (fun v9 p10 => ?_)
   ·
    refine wp_cond_false (ebk v9) (wp_exit (then_x (by nofun) (then_x (by nofun) (inb_hit (then_n (wp_seq (wp_seq (rg_lit (wmv (v := S_ acc) (wl (sb rfl (r_eqs (m := acc) (n := (⟨#[]⟩)) (by kernel_rfl) (by kernel_rfl)) fun _ k12 => wnil (then_n ?_))))))))))))
    refine bcd k12 (fun v13 p14 => ?_) (fun v13 p14 => ?_)
    ·
     refine wp_cond_false (ebk v13) (wp_skip (then_n (wp_seq (rg_lit (wmv (v := S_ acc) (was (v := S_ acc) (was (v := I_ 0) (wnil (then_n (wp_ret ?_))))))))))
     refine br2 (v := S_ acc) (u := I_ 0) rfl ?_
     exact ⟨show_ret (show_e2 (by omega) (idx_no (none_end hF1_2 (by omega))) (slash_all hF1_1 (by omega)) p14), (Mod.up M6)⟩
    refine wp_cond_true (ebk v13) (rg_lit (was (v := S_ (⟨#[47]⟩)) (wnil (then_n (wp_seq (rg_lit (wmv (v := S_ (⟨#[47]⟩)) (was (v := S_ (⟨#[47]⟩)) (was (v := I_ 0) (wnil (then_n (wp_ret ?_))))))))))))
    refine br2 (v := S_ (⟨#[47]⟩)) (u := I_ 0) rfl ?_
    exact ⟨show_ret (show_e1 (by omega) (idx_no (none_end hF1_2 (by omega))) (slash_all hF1_1 (by omega)) p14), (Mod.up M6)⟩
   refine wp_cond_true (ebk v9) (wp_skip (then_n (wp_seq (wp_block (wp_seq (wp_seq (rg_lit (wmv (v := .slice xA l.length xc) (wmv (v := I_ k) ?_)))))))))
   have h13 := (SSRow.up hl (Mod.up M6))
   obtain ⟨y14, hy14⟩ : ∃ x, l[k]? = some x := ⟨_, List.getElem?_eq_getElem (by omega)⟩
   obtain ⟨g14, f14, hA14, _, hc14⟩ := SSRow.get h13 hy14
   refine wlv (v := pt g14 (f14 + k)) (ixa l.length xc 1 k hA14 Ty.un69 Ty.sz9) (wlv (v := S_ y14) (r_loadc (by kernel_rfl) Ty.ag9 hc14) (wl (sca [S_ y14] En.f109 (partD_at y14 (by have hzg := hsz _ (List.mem_of_getElem? hy14); omega)) ?_)))
   rintro e _ ⟨rfl, u16⟩
   refine ⟨_, rfl, ?_⟩
   have M17 := mtu M6 u16
   refine wlv (v := B_ (!(partB y14))) (r_not (b := (partB y14)) (by kernel_rfl)) (wnil (then_n ?_))
   refine bcase (partB y14) (fun v19 => ?_) (fun v19 => ?_)
   ·
    refine wp_cond_true (ebk (bneg v19)) (wp_seq (rg_lit (was (v := S_ (⟨#[]⟩)) (was (v := I_ 17) (wnil (then_n (wp_ret (then_x (by nofun) (inb_r (then_x (by nofun) (then_x (by nofun) (inb_r (then_x (by nofun) ?_)))))))))))))
    refine br2 (v := S_ (⟨#[]⟩)) (u := I_ 17) rfl ?_
    exact ⟨show_ret (show_2 (idx_yes hy14 v19)), (Mod.up M17)⟩
   refine wp_cond_false (ebk (bneg v19)) (wp_skip (then_n (rg_lit (wmv (v := S_ acc) (wlv (v := S_ (acc ++ (⟨#[47]⟩ : ByteArray))) (r_adds (m := acc) (n := (⟨#[47]⟩)) (by kernel_rfl) (by kernel_rfl) (by have q1 := slash_le hF1_1 hj; have q2 : (⟨#[47]⟩ : ByteArray).size = 1 := rfl; have q3 := hsz _ (List.mem_of_getElem? hy14); (try simp only [ByteArray.size_append]); omega)) (wmv (v := .slice xA l.length xc) (wmv (v := I_ k) ?_)))))))
   have h20 := (SSRow.up hl (Mod.up M17))
   obtain ⟨g21, f21, hA21, _, hc21⟩ := SSRow.get h20 hy14
   refine wlv (v := pt g21 (f21 + k)) (ixa l.length xc 1 k hA21 Ty.un69 Ty.sz9) (wlv (v := S_ y14) (r_loadc (by kernel_rfl) Ty.ag9 hc21) (wlv (v := S_ ((acc ++ (⟨#[47]⟩ : ByteArray)) ++ y14)) (r_adds (m := (acc ++ (⟨#[47]⟩ : ByteArray))) (n := y14) (by kernel_rfl) (by kernel_rfl) (by have q1 := slash_le hF1_1 hj; have q2 : (⟨#[47]⟩ : ByteArray).size = 1 := rfl; have q3 := hsz _ (List.mem_of_getElem? hy14); (try simp only [ByteArray.size_append]); omega)) (was (v := S_ ((acc ++ (⟨#[47]⟩ : ByteArray)) ++ y14)) (wnil (inb_n (then_n (rg_lit (wmv (v := I_ k) (wlv (v := N_ (k + 1)) (adN k 1) (was (v := N_ (k + 1)) (wnil (then_n ?_))))))))))))
   refine ⟨l.length - (k + 1), ?_, (k + 1), ((acc ++ (⟨#[47]⟩ : ByteArray)) ++ y14), rfl, hmk, (mtu hM1 u16), (by omega), (by rw [hF1_1]; exact slashL_next hy14), (none_next (p := fun y => partB y = false) hF1_2 hy14 (by rw [v19]; decide))⟩
   · omega
  refine wp_cond_true (ebk v3) (wp_seq (rg_lit (was (v := S_ (⟨#[]⟩)) (was (v := I_ 17) (wnil (then_n (wp_ret (then_x (by nofun) ?_))))))))
  refine br2 (v := S_ (⟨#[]⟩)) (u := I_ 17) rfl ?_
  exact ⟨show_ret (show_1 (by omega)), (Mod.up (Mod.refl [] w))⟩
set_option maxHeartbeats 2000000 in
theorem texts_at {w : World} {l m : List ByteArray} {xA yA : Option Addr} {xc yc : Nat} (hl : SSRow w (.slice xA l.length xc) l) (hm : SSRow w (.slice yA m.length yc) m) (hln : l.length ≤ 1000000) (hmn : m.length ≤ 1000000) : Calls Tryz.prog 33 #[.slice xA l.length xc, .slice yA m.length yc] w fun e w' => e = .returned (.bool (decide (l = m))) ∧ Up w w' := by
  go_enter Tryz.func33, Tryz.ntmps33
  refine wp_seq (rg_lit (was (v := B_ false) (wnil (then_n (wp_seq (wp_seq (rg_lit (wmv (v := .slice xA l.length xc) (wlv (v := I_ l.length) (ln xA l.length xc Ty.un69) (wmv (v := .slice yA m.length yc) (wlv (v := I_ m.length) (ln yA m.length yc Ty.un69) (wl (sb rfl (neI l.length m.length) fun _ k2 => wnil (then_n ?_))))))))))))))
  refine bcd k2 (fun v3 p4 => ?_) (fun v3 p4 => ?_)
  ·
   refine wp_cond_false (ebk v3) (wp_skip (then_n (wp_seq (wp_seq (rg_lit (was (v := I_ 0) (wnil (then_n (wp_block ?_)))))))))
   refine lp (fun n a r1 => ∃ (k : Nat), (n = l.length - k) ∧ (HasFr a 26 [(0, .slice xA l.length xc), (1, .slice yA m.length yc), (5, I_ k)] []) ∧ (Mod [] w r1) ∧ (k ≤ l.length) ∧ (Hid (∀ (j : Nat) (x y : ByteArray), j < k → l[j]? = some x → m[j]? = some y → x = y))) ⟨_, 0, rfl, hmk, Mod.refl _ _, (Nat.zero_le _), (fun j x y hj => absurd hj (Nat.not_lt_zero _))⟩ ?_
   rintro _ _ r1 ⟨k, rfl, h5, hM1, _, hF1_1⟩
   obtain ⟨_, rfl⟩ := h5
   have M6 := Mod.thin (Mod.refl [] w) hM1 (by simp)
   refine wp_seq (wp_seq (rg_lit (wmv (v := I_ k) (wmv (v := .slice xA l.length xc) (wlv (v := I_ l.length) (ln xA l.length xc Ty.un69) (wl (sb rfl (ltI k l.length) fun _ k8 => wnil (then_n ?_))))))))
   refine bcd k8 (fun v9 p10 => ?_) (fun v9 p10 => ?_)
   ·
    refine wp_cond_false (ebk v9) (wp_exit (then_x (by nofun) (then_x (by nofun) (inb_hit (then_n (wp_seq (rg_lit (was (v := B_ true) (wnil (then_n (wp_ret ?_)))))))))))
    refine br1 (v := B_ true) rfl ?_
    exact ⟨by rw [txt_end hF1_1 (by omega) (by omega)], (Mod.up M6)⟩
   refine wp_cond_true (ebk v9) (wp_skip (then_n (wp_seq (wp_block (wp_seq ?_)))))
   refine rg_all (by kernel_rfl) (by kernel_rfl) ?_
   refine qmv (v := .slice xA l.length xc) (qmv (v := I_ k) ?_)
   have h13 := (SSRow.up hl (Mod.up M6))
   obtain ⟨y14, hy14⟩ : ∃ x, l[k]? = some x := ⟨_, List.getElem?_eq_getElem (by omega)⟩
   obtain ⟨g14, f14, hA14, hl14, hc14⟩ := SSRow.get h13 hy14
   refine qv rfl (v := pt g14 (f14 + k)) (fun _ _ => ixa l.length xc 1 k hA14 Ty.un69 Ty.sz9) (qv rfl (v := S_ y14) (fun _ uz => r_loadc (by kernel_rfl) Ty.ag9 ((uz.cell (p := ⟨g14, f14 + k, none⟩) hl14).trans hc14)) (qmv (v := .slice yA m.length yc) (qmv (v := I_ k) ?_)))
   have h15 := (SSRow.up hm (Mod.up M6))
   obtain ⟨y16, hy16⟩ : ∃ x, m[k]? = some x := ⟨_, List.getElem?_eq_getElem (by omega)⟩
   obtain ⟨g16, f16, hA16, hl16, hc16⟩ := SSRow.get h15 hy16
   refine qv rfl (v := pt g16 (f16 + k)) (fun _ _ => ixa m.length yc 1 k hA16 Ty.un69 Ty.sz9) (qv rfl (v := S_ y16) (fun _ uz => r_loadc (by kernel_rfl) Ty.ag9 ((uz.cell (p := ⟨g16, f16 + k, none⟩) hl16).trans hc16)) ?_)
   refine qb rfl (fun _ _ => r_nes (m := y14) (n := y16) (by kernel_rfl) (by kernel_rfl)) fun _ k18 => ?_
   refine qnil fun _ u20 => ?_
   refine then_n ?_
   refine bcd k18 (fun v23 p24 => ?_) (fun v23 p24 => ?_)
   ·
    refine wp_cond_false (ebk v23) (wp_skip (inb_n (then_n (rg_lit (wmv (v := I_ k) (wlv (v := N_ (k + 1)) (adN k 1) (was (v := N_ (k + 1)) (wnil (then_n ?_)))))))))
    refine ⟨l.length - (k + 1), ?_, (k + 1), rfl, hmk, (mtu hM1 u20), (by omega), (txt_next hF1_1 hy14 hy16 (Decidable.not_not.1 p24))⟩
    · omega
   refine wp_cond_true (ebk v23) (wp_seq (rg_lit (was (v := B_ false) (wnil (then_n (wp_ret (inb_r (then_x (by nofun) (then_x (by nofun) (inb_r (then_x (by nofun) ?_)))))))))))
   refine br1 (v := B_ false) rfl ?_
   exact ⟨by rw [txt_no hy14 hy16 p24], (Mod.up (mtu M6 u20))⟩
  refine wp_cond_true (ebk v3) (wp_seq (rg_lit (was (v := B_ false) (wnil (then_n (wp_ret (then_x (by nofun) ?_)))))))
  refine br1 (v := B_ false) rfl ?_
  exact ⟨by rw [txt_len p4], (Mod.up (Mod.refl [] w))⟩
set_option maxHeartbeats 2000000 in
theorem parseD_at {w : World} (s : ByteArray) (hs : s.size ≤ 100000) : Calls Tryz.prog 45 #[.string s] w fun e w' => ∃ xA c, e = .returned (.tuple #[.slice xA (parseL s).length c, .int .i64 (parseK s)]) ∧ SSRow w' (.slice xA (parseL s).length c) (parseL s) ∧ NewS w.heap.size (.slice xA (parseL s).length c) ∧ Up w w' := by
  have hz1 := restB_size s
  have hzp := rest_parts (s := s) hs
  go_enter Tryz.func45, Tryz.ntmps45
  refine wp_seq (rg_lit (was (v := .slice none 0 0) (was (v := I_ 0) (wnil (then_n (wp_seq (wp_seq (rg_lit (wmv (v := S_ s) (wl (sb rfl (r_eqs (m := s) (n := (⟨#[47]⟩)) (by kernel_rfl) (by kernel_rfl)) fun _ k2 => wnil (then_n ?_))))))))))))
  refine bcd k2 (fun v3 p4 => ?_) (fun v3 p4 => ?_)
  ·
   refine wp_cond_false (ebk v3) (wp_skip (then_n (wp_seq (rg_lit (wmv (v := S_ s) (wl (sca [S_ s, .int .u8 47] En.f105 (cutD_at s 47 (by omega)) ?_)))))))
   rintro e _ ⟨A6, c7, rfl, h8, h9, u10⟩
   refine ⟨_, rfl, ?_⟩
   have z11 := cutL_pos 47 s
   have z12 := cutL_count 47 s
   have M13 := mtu (Mod.refl [] w) u10
   refine was (v := .slice A6 ((cutL 47 s).length) c7) (wnil (then_n (wp_seq (wp_seq (rg_lit (wmv (v := .slice A6 ((cutL 47 s).length) c7) (wlv (v := I_ (((cutL 47 s).length) : Int)) (ln A6 ((cutL 47 s).length) c7 Ty.un69) (wl (sb rfl (ltI (((cutL 47 s).length) : Int) 2) fun b14 k15 => wmv (v := B_ b14) ?_)))))))))
   refine bcd k15 (fun v16 p17 => ?_) (fun v16 p17 => ?_)
   ·
    refine wlw rfl v16 (v := .slice A6 ((cutL 47 s).length) c7) (mv) ?_
    obtain ⟨y18, hy18⟩ : ∃ x, (cutL 47 s)[0]? = some x := ⟨_, List.getElem?_eq_getElem (by omega)⟩
    obtain ⟨g18, f18, hA18, _, hc18⟩ := SSRow.get h8 hy18
    refine wlw rfl v16 (v := pt g18 (f18 + 0)) (ixa ((cutL 47 s).length) c7 1 0 hA18 Ty.un69 Ty.sz9) (wlw rfl v16 (v := S_ y18) (r_loadc (by kernel_rfl) Ty.ag9 hc18) (wl (sb (wt (b := b14) rfl (by kernel_rfl) v16) (r_nes (m := y18) (n := (⟨#[]⟩)) (by kernel_rfl) (by kernel_rfl)) fun b19 k20 => wlv (v := B_ b19) (pkF (ebk v16)) (wnil (then_n ?_)))))
    refine bcd k20 (fun v21 p22 => ?_) (fun v21 p22 => ?_)
    ·
     refine wp_cond_false (ebk v21) (wp_skip (then_n (wp_seq (wp_seq (rg_lit (wmv (v := .slice A6 ((cutL 47 s).length) c7) ?_))))))
     have h23 := SSRow.tail h8 (by omega)
     have z24 := SSRow.capq h8
     refine wlv (v := .slice (tailA A6 c7) (((cutL 47 s).drop 1).length) (c7 - 1)) (r_slTail (A := A6) (n := ((cutL 47 s).length)) (c := c7) (m := ((cutL 47 s).drop 1).length) (by kernel_rfl) (by kernel_rfl) (by rw [List.length_drop]) (by omega) (by omega) Ty.un69 Ty.sz9) ?_
     have htl := tail_is (slash_yes (s := s) (by omega) hy18 (Decidable.not_not.1 p22))
     have hzd : (∀ x ∈ ((cutL 47 s).drop 1), x.size ≤ 100000) ∧ (joinB ((cutL 47 s).drop 1)).size ≤ 1000000 := by rw [htl]; exact ⟨fun x hx => by have := splB_size hx; have := restB_size s; omega, hzp.2.2⟩
     refine wl (sca [.slice (tailA A6 c7) (((cutL 47 s).drop 1).length) (c7 - 1)] En.f47 (showD_at (l := ((cutL 47 s).drop 1)) h23 hzd.1 hzd.2) ?_)
     rintro e _ ⟨rfl, u27⟩
     refine ⟨_, rfl, ?_⟩
     have M28 := mtu M13 u27
     refine wmv (v := .tuple #[S_ (showB ((cutL 47 s).drop 1)), I_ (showK ((cutL 47 s).drop 1))]) (wlv (v := S_ (showB ((cutL 47 s).drop 1))) (xt [S_ (showB ((cutL 47 s).drop 1)), I_ (showK ((cutL 47 s).drop 1))]) (wlv (v := I_ (showK ((cutL 47 s).drop 1))) (xt [S_ (showB ((cutL 47 s).drop 1)), I_ (showK ((cutL 47 s).drop 1))]) (was (v := S_ (showB ((cutL 47 s).drop 1))) (was (v := I_ (showK ((cutL 47 s).drop 1))) (wnil (then_n (wp_seq (rg_lit (wmv (v := I_ (showK ((cutL 47 s).drop 1))) (wl (sb rfl (neI (showK ((cutL 47 s).drop 1)) 0) fun _ k30 => wnil (then_n ?_))))))))))))
     refine bcd k30 (fun v31 p32 => ?_) (fun v31 p32 => ?_)
     ·
      refine wp_cond_false (ebk v31) (wp_skip (then_n (wp_seq (rg_lit (wmv (v := .slice A6 ((cutL 47 s).length) c7) ?_)))))
      have h33 := (SSRow.up h8 u27)
      have h34 := SSRow.tail h33 (by omega)
      have z35 := SSRow.capq h33
      refine wlv (v := .slice (tailA A6 c7) (((cutL 47 s).drop 1).length) (c7 - 1)) (r_slTail (A := A6) (n := ((cutL 47 s).length)) (c := c7) (m := ((cutL 47 s).drop 1).length) (by kernel_rfl) (by kernel_rfl) (by rw [List.length_drop]) (by omega) (by omega) Ty.un69 Ty.sz9) (was (v := .slice (tailA A6 c7) (((cutL 47 s).drop 1).length) (c7 - 1)) (was (v := I_ 0) (wnil (then_n (wp_ret ?_)))))
      refine br2 (v := .slice (tailA A6 c7) (((cutL 47 s).drop 1).length) (c7 - 1)) (u := I_ 0) rfl ?_
      have hk1 := Decidable.not_not.1 p32
      rw [htl] at hk1
      exact parse_fin (by have := parse_4 (slash_yes (s := s) (by omega) hy18 (Decidable.not_not.1 p22)) (rest_ne (slash_yes (s := s) (by omega) hy18 (Decidable.not_not.1 p22)) p4) hk1; rwa [← htl] at this) h34 (NewS.old (NewS.tail (m' := ((cutL 47 s).drop 1).length) (c' := c7 - 1) h9) (by first | exact Nat.le_refl _ | exact (Mod.refl [] w).size)) (Mod.up M28)
     refine wp_cond_true (ebk v31) (wp_seq (rg_lit (wmv (v := I_ (showK ((cutL 47 s).drop 1))) (was (v := .slice none 0 0) (was (v := I_ (showK ((cutL 47 s).drop 1))) (wnil (then_n (wp_ret (then_x (by nofun) ?_)))))))))
     refine br2 (v := .slice none 0 0) (u := I_ (showK ((cutL 47 s).drop 1))) rfl ?_
     have hk1 := p32
     rw [htl] at hk1
     exact parse_fin (l := []) (A := none) (c := 0) (by have := parse_3 (slash_yes (s := s) (by omega) hy18 (Decidable.not_not.1 p22)) (rest_ne (slash_yes (s := s) (by omega) hy18 (Decidable.not_not.1 p22)) p4) hk1; rwa [← htl] at this) (SSRow.zero _) NewS.nil (Mod.up M28)
    refine wp_cond_true (ebk v21) (wp_seq (rg_lit (was (v := .slice none 0 0) (was (v := I_ 17) (wnil (then_n (wp_ret (then_x (by nofun) ?_))))))))
    refine br2 (v := .slice none 0 0) (u := I_ 17) rfl ?_
    exact parse_fin (l := []) (A := none) (c := 0) (parse_1 (slash_head hy18 p22)) (SSRow.zero _) NewS.nil (Mod.up M13)
   iterate 4 refine wls rfl v16 ?_
   refine wlv (v := B_ true) (pkT (ebk v16)) (wnil (then_n (wp_cond_true (by kernel_rfl) (wp_seq (rg_lit (was (v := .slice none 0 0) (was (v := I_ 17) (wnil (then_n (wp_ret (then_x (by nofun) ?_)))))))))))
   refine br2 (v := .slice none 0 0) (u := I_ 17) rfl ?_
   exact parse_fin (l := []) (A := none) (c := 0) (parse_1 (slash_no (by omega))) (SSRow.zero _) NewS.nil (Mod.up M13)
  refine wp_cond_true (ebk v3) (wp_seq (rg_lit (was (v := .slice none 0 0) (was (v := I_ 0) (wnil (then_n (wp_ret (then_x (by nofun) ?_))))))))
  refine br2 (v := .slice none 0 0) (u := I_ 0) rfl ?_
  exact parse_fin (l := []) (A := none) (c := 0) (parseD_1 p4) (SSRow.zero _) NewS.nil (Mod.up (Mod.refl [] w))
end Go.Proofs.YtefhfoioeoijlaaGreatDoor

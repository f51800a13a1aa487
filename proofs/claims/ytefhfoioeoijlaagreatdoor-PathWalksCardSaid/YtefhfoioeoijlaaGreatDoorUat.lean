/- PC, Pth4, PD, Pth5, Pth6 -/
import Derived.Test.YtefhfoioeoijlaaGreatDoorUah
import Derived.Test.YtefhfoioeoijlaaGreatDoorUar
import Derived.Test.YtefhfoioeoijlaaGreatDoorUas
set_option linter.unusedVariables false
set_option linter.unusedSimpArgs false
namespace Go.Proofs.YtefhfoioeoijlaaGreatDoor
open Go Go.RowKit Go.Sort
set_option maxHeartbeats 2000000 in
theorem parse_at {w : World} (hmx : Mx w) (s : ByteArray) (hs : s.size ≤ 100000) : Calls Tryz.prog 44 #[.string s] w fun e w' => ∃ xA c, e = .returned (.tuple #[.slice xA (parseL s).length c, .int .i64 (parseK s)]) ∧ SSRow w' (.slice xA (parseL s).length c) (parseL s) ∧ NewS w.heap.size (.slice xA (parseL s).length c) ∧ Up w w' := by
  have hz1 := restB_size s
  have hzp := rest_parts hs
  go_enter Tryz.func44, Tryz.ntmps44
  refine wp_seq (rg_lit (was (v := .slice none 0 0) (was (v := I_ 0) (wnil (then_n (wp_seq (rg_lit (wmv (v := S_ s) (wl (sca [S_ s, S_ (⟨#[47]⟩)] En.f103 (cutPrefix_at s _) ?_))))))))))
  rintro e _ ⟨rfl, u2⟩
  refine ⟨_, rfl, ?_⟩
  have M3 := mtu (Mod.refl [] w) u2
  refine wmv (v := .tuple #[S_ (restB s), B_ (slashB s)]) (wlv (v := S_ (restB s)) (xt [S_ (restB s), B_ (slashB s)]) (wlv (v := B_ (slashB s)) (xt [S_ (restB s), B_ (slashB s)]) (was (v := S_ (restB s)) (was (v := B_ (slashB s)) (wnil (then_n (wp_seq (wp_block (wp_seq (rg_lit (wmv (v := B_ (slashB s)) (wlv (v := B_ (!(slashB s))) (r_not (b := (slashB s)) (by kernel_rfl)) (was (v := B_ (!(slashB s))) ?_)))))))))))))
  refine wnil (then_n ?_)
  refine bcase (slashB s) (fun v4 => ?_) (fun v4 => ?_)
  ·
   refine wp_cond_true (ebk (bneg v4)) (wp_seq (rg_lit (was (v := .slice none 0 0) (was (v := I_ 17) (wnil (then_n (wp_ret (inb_r (then_x (by nofun) ?_)))))))))
   refine br2 (v := .slice none 0 0) (u := I_ 17) rfl ?_
   exact parse_fin (l := []) (A := none) (c := 0) (parse_1 v4) (SSRow.zero _) NewS.nil (Mod.up M3)
  refine wp_cond_false (ebk (bneg v4)) (wp_seq (rg_lit (wmv (v := S_ (restB s)) (wl (sb rfl (r_eqs (m := (restB s)) (n := (⟨#[]⟩)) (by kernel_rfl) (by kernel_rfl)) fun b5 k6 => was (v := B_ b5) (wnil (then_n ?_)))))))
  refine bcd k6 (fun v7 p8 => ?_) (fun v7 p8 => ?_)
  ·
   refine wp_cond_false (ebk v7) (wp_skip (inb_n (then_n (wp_seq (rg_lit (wmv (v := S_ (restB s)) (wl (sca [S_ (restB s), S_ (⟨#[47]⟩)] En.f104 (split_at (Mx.up hmx (Mod.up M3)) (restB s) (by omega)) ?_))))))))
   rintro e _ ⟨A10, rfl, h11, h12, u13⟩
   refine ⟨_, rfl, ?_⟩
   have M14 := mtu M3 u13
   refine was (v := .slice A10 ((splB (restB s)).length) ((splB (restB s)).length)) (wnil (then_n (wp_seq (wp_seq (rg_lit (wmv (v := .slice A10 ((splB (restB s)).length) ((splB (restB s)).length)) (wl (sca [.slice A10 ((splB (restB s)).length) ((splB (restB s)).length)] En.f46 (showP_at (l := (splB (restB s))) h11 (Mx.up hmx (Mod.up M14)) hzp.1 hzp.2.1 hzp.2.2) ?_))))))))
   rintro e _ ⟨rfl, u16⟩
   refine ⟨_, rfl, ?_⟩
   have M17 := mtu M14 u16
   refine wmv (v := .tuple #[S_ (showB (splB (restB s))), I_ (showK (splB (restB s)))]) (wlv (v := S_ (showB (splB (restB s)))) (xt [S_ (showB (splB (restB s))), I_ (showK (splB (restB s)))]) (wlv (v := I_ (showK (splB (restB s)))) (xt [S_ (showB (splB (restB s))), I_ (showK (splB (restB s)))]) (was (v := S_ (showB (splB (restB s)))) (was (v := I_ (showK (splB (restB s)))) (wnil (then_n (wp_seq (rg_lit (wmv (v := I_ (showK (splB (restB s)))) (wl (sb rfl (neI (showK (splB (restB s))) 0) fun _ k19 => wnil (then_n ?_))))))))))))
   refine bcd k19 (fun v20 p21 => ?_) (fun v20 p21 => ?_)
   ·
    refine wp_cond_false (ebk v20) (wp_skip (then_n (wp_seq (rg_lit (wmv (v := .slice A10 ((splB (restB s)).length) ((splB (restB s)).length)) (was (v := .slice A10 ((splB (restB s)).length) ((splB (restB s)).length)) (was (v := I_ 0) (wnil (then_n (wp_ret ?_))))))))))
    refine br2 (v := .slice A10 ((splB (restB s)).length) ((splB (restB s)).length)) (u := I_ 0) rfl ?_
    exact parse_fin (parse_4 v4 p8 (Decidable.not_not.1 p21)) (SSRow.up h11 u16) (NewS.old h12 M3.size) (Mod.up M17)
   refine wp_cond_true (ebk v20) (wp_seq (rg_lit (wmv (v := I_ (showK (splB (restB s)))) (was (v := .slice none 0 0) (was (v := I_ (showK (splB (restB s)))) (wnil (then_n (wp_ret (then_x (by nofun) ?_)))))))))
   refine br2 (v := .slice none 0 0) (u := I_ (showK (splB (restB s)))) rfl ?_
   exact parse_fin (l := []) (A := none) (c := 0) (parse_3 v4 p8 p21) (SSRow.zero _) NewS.nil (Mod.up M17)
  refine wp_cond_true (ebk v7) (wp_seq (rg_lit (was (v := .slice none 0 0) (was (v := I_ 0) (wnil (then_n (wp_ret (inb_r (then_x (by nofun) ?_)))))))))
  refine br2 (v := .slice none 0 0) (u := I_ 0) rfl ?_
  exact parse_fin (l := []) (A := none) (c := 0) (parse_2 v4 p8) (SSRow.zero _) NewS.nil (Mod.up M3)
set_option maxHeartbeats 2000000 in
theorem clean_at {w : World} (hmx : Mx w) (s : ByteArray) (hs : s.size ≤ 100000) : Calls Tryz.prog 50 #[.string s] w fun e w' => e = .returned (.tuple #[.string (cleanB s), .int .i64 (cleanK s)]) ∧ Up w w' := by
  have hz1 := restB_size s
  have hzp := rest_parts hs
  have hzl : (splB (restB s)).length ≤ 100001 := by have := splB_len (restB s); omega
  go_enter Tryz.func50, Tryz.ntmps50
  refine wp_seq (rg_lit (was (v := S_ (⟨#[]⟩)) (was (v := I_ 0) (wnil (then_n (wp_seq (rg_lit (wmv (v := S_ s) (wl (sca [S_ s, S_ (⟨#[47]⟩)] En.f103 (cutPrefix_at s _) ?_))))))))))
  rintro e _ ⟨rfl, u2⟩
  refine ⟨_, rfl, ?_⟩
  have M3 := mtu (Mod.refl [] w) u2
  refine wmv (v := .tuple #[S_ (restB s), B_ (slashB s)]) (wlv (v := S_ (restB s)) (xt [S_ (restB s), B_ (slashB s)]) (wlv (v := B_ (slashB s)) (xt [S_ (restB s), B_ (slashB s)]) (was (v := S_ (restB s)) (was (v := B_ (slashB s)) (wnil (then_n (wp_seq (wp_seq (rg_lit (wmv (v := B_ (slashB s)) (wlv (v := B_ (!(slashB s))) (r_not (b := (slashB s)) (by kernel_rfl)) (wnil (then_n ?_)))))))))))))
  refine bcase (slashB s) (fun v4 => ?_) (fun v4 => ?_)
  ·
   refine wp_cond_true (ebk (bneg v4)) (wp_seq (rg_lit (was (v := S_ (⟨#[]⟩)) (was (v := I_ 17) (wnil (then_n (wp_ret (then_x (by nofun) ?_))))))))
   refine br2 (v := S_ (⟨#[]⟩)) (u := I_ 17) rfl ?_
   exact ⟨clean_ret (clean_1 v4), (Mod.up M3)⟩
  refine wp_cond_false (ebk (bneg v4)) (wp_skip (then_n (wp_seq (rg_lit (was (v := .slice none 0 0) (wnil (then_n (wp_seq (wp_seq (rg_lit (wmv (v := S_ (restB s)) (wl (sca [S_ (restB s), S_ (⟨#[47]⟩)] En.f104 (split_at (Mx.up hmx (Mod.up M3)) (restB s) (by omega)) ?_)))))))))))))
  rintro e w5 ⟨A6, rfl, h7, _, u9⟩
  refine ⟨_, rfl, ?_⟩
  refine wlv (v := I_ (((splB (restB s)).length) : Int)) (ln A6 ((splB (restB s)).length) ((splB (restB s)).length) Ty.un69) (wmv (v := I_ 0) (wnil (then_n (wp_block ?_))))
  refine lp (fun n a r1 => ∃ (k : Nat) (out : List ByteArray) (oA : Option Addr) (oc : Nat), (n = (splB (restB s)).length - k) ∧ (HasFr a 44 [(0, S_ s), (2, S_ (⟨#[]⟩)), (3, I_ 0), (4, S_ (restB s)), (5, B_ (slashB s)), (6, .slice oA out.length oc), (17, .slice A6 ((splB (restB s)).length) ((splB (restB s)).length)), (18, I_ (((splB (restB s)).length) : Int)), (19, I_ k)] []) ∧ (Mod [] w5 r1) ∧ (k ≤ (splB (restB s)).length) ∧ (out.length ≤ k) ∧ (((splB (restB s)).drop k).foldl cleanS out = (splB (restB s)).foldl cleanS []) ∧ (BRow w5.heap.size r1 (.slice oA out.length oc) out)) ⟨_, 0, [], none, 0, rfl, hmk, Mod.refl _ _, (Nat.zero_le _), (Nat.zero_le _), rfl, (BRow.nil _ _)⟩ ?_
  rintro _ _ r1 ⟨k, out, oA, oc, rfl, h11, hM1, _, _, hF1_2, hF1_3⟩
  obtain ⟨_, rfl⟩ := h11
  have M12 := Mod.thin (mtu M3 u9) hM1 (by simp)
  refine wp_seq (rg_lit (wl (sb rfl (ltI k (((splB (restB s)).length) : Int)) fun _ k14 => wnil (then_n (wp_seq ?_)))))
  refine bcd k14 (fun v15 p16 => ?_) (fun v15 p16 => ?_)
  ·
   refine wp_cond_false (ebk v15) (wp_exit (then_x (by nofun) (then_x (by nofun) (inb_hit (then_n (wp_seq (rg_lit (wmv (v := .slice oA out.length oc) ?_))))))))
   have hoe : out = cleanO s := clean_end (by omega) hF1_2
   have hzq := clean_out hs hoe
   refine wl (sca [.slice oA out.length oc] En.f46 (showP_at (l := out) (BRow.ss hF1_3) (Mx.up hmx (Mod.up M12)) hzq.1 hzq.2.1 hzq.2.2) ?_)
   rintro e _ ⟨rfl, u18⟩
   refine ⟨_, rfl, ?_⟩
   refine wlv (v := S_ (showB out)) (xt [S_ (showB out), I_ (showK out)]) (wlv (v := I_ (showK out)) (xt [S_ (showB out), I_ (showK out)]) (was (v := S_ (showB out)) (was (v := I_ (showK out)) (wnil (then_n (wp_ret ?_))))))
   refine br2 (v := S_ (showB out)) (u := I_ (showK out)) rfl ?_
   exact ⟨clean_ret (clean_show v4 hoe), (Mod.up (mtu M12 u18))⟩
  refine wp_cond_true (ebk v15) (wp_skip (then_n (wp_seq (wp_block (wp_seq (rg_lit ?_))))))
  have h17 := (SSRow.up h7 (Mod.up hM1))
  obtain ⟨y18, hy18⟩ : ∃ x, (splB (restB s))[k]? = some x := ⟨_, List.getElem?_eq_getElem (by omega)⟩
  obtain ⟨g18, f18, hA18, _, hc18⟩ := SSRow.get h17 hy18
  refine wlv (v := pt g18 (f18 + k)) (ixa ((splB (restB s)).length) ((splB (restB s)).length) 1 k hA18 Ty.un69 Ty.sz9) (wlv (v := S_ y18) (r_loadc (by kernel_rfl) Ty.ag9 hc18) (was (v := S_ y18) (wnil (then_n (wp_seq (rg_lit (wmv (v := S_ y18) (wnil (then_n (wp_block (wp_seq (wp_seq (rg_lit (wl (sb rfl (r_eqs (m := y18) (n := (⟨#[]⟩)) (by kernel_rfl) (by kernel_rfl)) fun b19 k20 => was (v := B_ b19) (wnil (then_n ?_)))))))))))))))))
  refine bcd k20 (fun v21 p22 => ?_) (fun v21 p22 => ?_)
  ·
   refine wp_cond_false (ebk v21) (rg_lit (wl (sb rfl (r_eqs (m := y18) (n := (⟨#[46]⟩)) (by kernel_rfl) (by kernel_rfl)) fun b23 k24 => was (v := B_ b23) (wnil (then_n ?_)))))
   refine bcd k24 (fun v25 p26 => ?_) (fun v25 p26 => ?_)
   ·
    refine wp_cond_false (ebk v25) (wp_seq (rg_lit (wl (sb rfl (r_eqs (m := y18) (n := (⟨#[46, 46]⟩)) (by kernel_rfl) (by kernel_rfl)) fun b27 k28 => was (v := B_ b27) (wnil (then_n ?_))))))
    refine bcd k28 (fun v29 p30 => ?_) (fun v29 p30 => ?_)
    ·
     refine wp_cond_false (ebk v29) (rg_lit (wmv (v := .slice oA out.length oc) (wmv (v := S_ y18) (wl (sn rfl (cs := #[S_ y18]) (T := 9) (V := fun b => sl b 0 1 1) (r_buildSlice (n := 1) (ps := [(0, S_ y18)]) Ty.un69 Ty.sz9 Ty.zv9 (by decide) (by decide) (by kernel_rfl) (by kernel_rfl)) fun _ _ _ h34 u35 => ?_)))))
     have M39 := mtu hM1 u35
     have h40 := (BRow.up hF1_3 u35)
     refine wl (snB rfl (L := out) (x := y18) (by kernel_rfl) (by kernel_rfl) h40 Ty.un69 h34 M39.size (by omega) fun A41 c42 w43 h44 u45 => was (v := .slice A41 ((out ++ [y18]).length) c42) (wnil (inb_n (inb_n (then_n (rg_lit (wlv (v := N_ (k + 1)) (adN k 1) (wmv (v := N_ (k + 1)) (wnil (then_n ?_))))))))))
     refine ⟨(splB (restB s)).length - (k + 1), ?_, (k + 1), (out ++ [y18]), A41, c42, rfl, hmk, (Mod.trans' M39 u45 (fun k hk => Nat.le_trans (Nat.le_refl _) (h40.own k hk).1)), (by omega), (by (try simp only [List.length_append, List.length_cons, List.length_nil, List.length_take]); omega), (clean_nx hy18 hF1_2 (clS_d p22 p26 p30)), h44⟩
     · omega
    refine wp_cond_true (ebk v29) (rg_lit ?_)
    iterate 2 refine wmv (v := .slice oA out.length oc) ?_
    refine wlv (v := I_ out.length) (ln oA out.length oc Ty.un69) (wlv (v := I_ ((out.length : Int) - 1)) (sbN out.length 1) (wlv (v := N_ (out.length - 1)) (r_max0 (a := ((out.length : Int) - 1)) (b := 0) (m := (out.length - 1)) (by kernel_rfl) (by kernel_rfl) (by split <;> omega)) ?_))
    have h31 := BRow.pre (k := out.length - 1) hF1_3 (by omega)
    have z32 : (out.take (out.length - 1)).length = out.length - 1 := by rw [List.length_take]; omega
    refine wlv (v := .slice oA ((out.take (out.length - 1)).length) oc) ((show _ = _ from by rw [z32]; exact r_slHi (w := r1) (t := 69) (k := out.length - 1) (L := out) (j := ((out.length - 1 : Nat) : Int)) (BRow.ss hF1_3) (by kernel_rfl) (by kernel_rfl) rfl Ty.un69 Ty.sz9 (by omega))) (was (v := .slice oA ((out.take (out.length - 1)).length) oc) (wnil (inb_n (inb_n (then_n (rg_lit (wlv (v := N_ (k + 1)) (adN k 1) (wmv (v := N_ (k + 1)) (wnil (then_n ?_))))))))))
    refine ⟨(splB (restB s)).length - (k + 1), ?_, (k + 1), (out.take (out.length - 1)), oA, oc, rfl, hmk, hM1, (by omega), (by (try simp only [List.length_append, List.length_cons, List.length_nil, List.length_take]); omega), (clean_nx hy18 hF1_2 (clS_c p30)), h31⟩
    · omega
   refine wp_cond_true (ebk v25) (wp_skip (inb_n (inb_n (then_n (rg_lit (wlv (v := N_ (k + 1)) (adN k 1) (wmv (v := N_ (k + 1)) (wnil (then_n ?_)))))))))
   refine ⟨(splB (restB s)).length - (k + 1), ?_, (k + 1), out, oA, oc, rfl, hmk, hM1, (by omega), (by (try simp only [List.length_append, List.length_cons, List.length_nil, List.length_take]); omega), (clean_nx hy18 hF1_2 (clS_b p26)), hF1_3⟩
   · omega
  refine wp_cond_true (ebk v21) (wp_skip (then_n (wp_cond_true (ebk v21) (wp_skip (inb_n (inb_n (then_n (rg_lit (wlv (v := N_ (k + 1)) (adN k 1) (wmv (v := N_ (k + 1)) (wnil (then_n ?_))))))))))))
  refine ⟨(splB (restB s)).length - (k + 1), ?_, (k + 1), out, oA, oc, rfl, hmk, hM1, (by omega), (by (try simp only [List.length_append, List.length_cons, List.length_nil, List.length_take]); omega), (clean_nx hy18 hF1_2 (clS_a p22)), hF1_3⟩
  · omega
set_option maxRecDepth 20000 in
set_option maxHeartbeats 2000000 in
theorem walk_at {B : Nat} {w : World} {tb r : Nat} {L : List Item} (h : TreeIs B w tb r L) (hB : B ≤ w.heap.size) (hF : Fit L) (htab : Tab w) (hmx : Mx w) (s : ByteArray) (hs : s.size ≤ 100000) : Calls Tryz.prog 43 #[trP tb, .string s] w fun e w' => e = .returned (.tuple #[.agg #[.int .i64 (walkS L s).t, .int .i64 (walkS L s).w], .int .i64 (walkK L s)]) ∧ Up w w' := by
  have hzp := parse_parts hs
  go_enter Tryz.func43, Tryz.ntmps43
  refine wp_seq (rg_lit (wl (sn rfl (cs := #[I_ 0, I_ 0]) (T := 24) (V := fun b => pt b 0) (r_alloc Ty.zv24 rfl) fun pb w1 e2 h3 u4 => ?_)))
  have g6 := gsz e2 (Mod.refl [] w)
  have M7 := mtu (Mod.refl [] w) u4
  refine was (v := I_ 0) (wnil (then_n (wp_seq (rg_lit (wmv (v := S_ s) (wl (sca [S_ s] En.f44 (parse_at (Mx.up hmx (Mod.up M7)) s (by omega)) ?_)))))))
  rintro e w8 ⟨A9, c10, rfl, h11, h12, u13⟩
  refine ⟨_, rfl, ?_⟩
  have M17 := mtu M7 u13
  refine wmv (v := .tuple #[.slice A9 ((parseL s).length) c10, I_ (parseK s)]) (wlv (v := .slice A9 ((parseL s).length) c10) (xt [.slice A9 ((parseL s).length) c10, I_ (parseK s)]) (wlv (v := I_ (parseK s)) (xt [.slice A9 ((parseL s).length) c10, I_ (parseK s)]) (was (v := .slice A9 ((parseL s).length) c10) (was (v := I_ (parseK s)) (wnil (then_n (wp_seq (wp_block (wp_seq (rg_lit (wmv (v := I_ (parseK s)) (wl (sb rfl (neI (parseK s) 0) fun b18 k19 => was (v := B_ b18) ?_)))))))))))))
  refine wnil (then_n ?_)
  refine bcd k19 (fun v20 p21 => ?_) (fun v20 p21 => ?_)
  ·
   refine wp_cond_false (ebk v20) (wp_seq (rg_lit (wmv (v := pt tb 0) (wl (sv (w' := w8) rfl (v := B_ false) (by kernel_rfl) (was (v := B_ false) (wnil (then_n (wp_cond_false (by kernel_rfl) (wp_skip (inb_n (then_n (wp_seq (wp_seq (rg_lit (wmv (v := .slice A9 ((parseL s).length) c10) ?_))))))))))))))))
   refine wlv (v := I_ (((parseL s).length) : Int)) (ln A9 ((parseL s).length) c10 Ty.un69) (wmv (v := I_ 0) (wnil (then_n (wp_block ?_))))
   refine lp (fun n a r1 => ∃ (k : Nat) (s1 : Int) (s2 : Int), (n = (parseL s).length - k) ∧ (HasFr a 46 [(0, pt tb 0), (1, S_ s), (4, pt pb 0), (6, .slice A9 ((parseL s).length) c10), (25, .slice A9 ((parseL s).length) c10), (26, I_ (((parseL s).length) : Int)), (27, I_ k)] []) ∧ (Mod [pb] w8 r1) ∧ (r1.heap[pb]? = some (.cells #[I_ s1, I_ s2] 24 (0, 0))) ∧ (k ≤ (parseL s).length) ∧ (wkS L ((parseL s).drop k) ⟨s1, s2⟩ = wkS L (parseL s) ⟨0, 0⟩)) ⟨_, 0, 0, 0, rfl, hmk, Mod.refl _ _, (up_ob u13 h3), (Nat.zero_le _), rfl⟩ ?_
   rintro _ _ r1 ⟨k, s1, s2, rfl, h25, hM1, hX1pb, _, hF1_1⟩
   obtain ⟨_, rfl⟩ := h25
   have M26 := Mod.thin M17 hM1 (fun y hy => by simp only [List.mem_cons, List.not_mem_nil, or_false] at hy; subst hy; exact .inr g6)
   refine wp_seq (rg_lit (wl (sb rfl (ltI k (((parseL s).length) : Int)) fun _ k28 => wnil (then_n (wp_seq ?_)))))
   refine bcd k28 (fun v29 p30 => ?_) (fun v29 p30 => ?_)
   ·
    refine wp_cond_false (ebk v29) (wp_exit (then_x (by nofun) (then_x (by nofun) (inb_hit (then_n (wp_seq (rg_lit (wlv (v := .agg #[I_ s1, I_ s2]) (lds 0 Ty.ag24 Ty.sz24 hX1pb) (wl (ss rfl (k := 0) (v := .agg #[I_ s1, I_ s2]) (vs := [I_ s1, I_ s2]) (cs' := [I_ s1, I_ s2]) (by kernel_rfl) (by kernel_rfl) rfl Ty.sz24 hX1pb rfl (Nat.le_of_ble_eq_true rfl) rfl fun _ h32 c33 => was (v := I_ 0) (wnil (then_n (wp_ret ?_)))))))))))))
    refine bodyPost_ret (v := .tuple #[.agg #[I_ s1, I_ s2], I_ 0]) (res2 rfl (rv_c (p := ⟨pb, 0, none⟩) (by kernel_rfl) (run_loadVars (vs := [I_ s1, I_ s2]) Ty.ag24 Ty.sz24 h32 (by kernel_rfl))) (rv_t (by kernel_rfl))) (by kernel_rfl) ?_
    exact ⟨walk_ret (walk_is (Decidable.not_not.1 p21) (hF1_1.symm.trans (wk_end (by omega)))), (Mod.up (mtn M26 c33 g6))⟩
   refine wp_cond_true (ebk v29) (wp_skip (then_n (wp_seq (wp_block (wp_seq (rg_lit ?_))))))
   have h31 := (SSRow.chgm h11 (Mod.chg hM1) (NewS.ne h12 (lt_ob h3)))
   obtain ⟨y32, hy32⟩ : ∃ x, (parseL s)[k]? = some x := ⟨_, List.getElem?_eq_getElem (by omega)⟩
   obtain ⟨g32, f32, hA32, _, hc32⟩ := SSRow.get h31 hy32
   refine wlv (v := pt g32 (f32 + k)) (ixa ((parseL s).length) c10 1 k hA32 Ty.un69 Ty.sz9) (wlv (v := S_ y32) (r_loadc (by kernel_rfl) Ty.ag9 hc32) (was (v := S_ y32) (wnil (then_n (wp_seq (rg_lit (wmv (v := pt tb 0) (wlv (v := .agg #[I_ s1, I_ s2]) (lds 0 Ty.ag24 Ty.sz24 hX1pb) (wmv (v := S_ y32) ?_)))))))))
   have h35 := (TreeIs.up h (Mod.up M26))
   refine wl (sca [pt tb 0, .agg #[I_ s1, I_ s2], S_ y32] En.f18 (find18_at h35 (Nat.le_trans hB M26.size) hF (TabIs.up htab (Mod.up M26)) s1 s2 y32) ?_)
   rintro e _ ⟨rfl, u34⟩
   refine ⟨_, rfl, ?_⟩
   have M36 := mtu M26 u34
   have M37 := mtu hM1 u34
   refine wmv (v := .tuple #[.agg #[S_ ((findE L ⟨s1, s2⟩ y32).name), I_ ((findE L ⟨s1, s2⟩ y32).node.t), I_ ((findE L ⟨s1, s2⟩ y32).node.w), B_ ((findE L ⟨s1, s2⟩ y32).dir), I_ ((findE L ⟨s1, s2⟩ y32).size)], I_ (findK L ⟨s1, s2⟩ y32)]) (wlv (v := .agg #[S_ ((findE L ⟨s1, s2⟩ y32).name), I_ ((findE L ⟨s1, s2⟩ y32).node.t), I_ ((findE L ⟨s1, s2⟩ y32).node.w), B_ ((findE L ⟨s1, s2⟩ y32).dir), I_ ((findE L ⟨s1, s2⟩ y32).size)]) (xt [.agg #[S_ ((findE L ⟨s1, s2⟩ y32).name), I_ ((findE L ⟨s1, s2⟩ y32).node.t), I_ ((findE L ⟨s1, s2⟩ y32).node.w), B_ ((findE L ⟨s1, s2⟩ y32).dir), I_ ((findE L ⟨s1, s2⟩ y32).size)], I_ (findK L ⟨s1, s2⟩ y32)]) (wlv (v := I_ (findK L ⟨s1, s2⟩ y32)) (xt [.agg #[S_ ((findE L ⟨s1, s2⟩ y32).name), I_ ((findE L ⟨s1, s2⟩ y32).node.t), I_ ((findE L ⟨s1, s2⟩ y32).node.w), B_ ((findE L ⟨s1, s2⟩ y32).dir), I_ ((findE L ⟨s1, s2⟩ y32).size)], I_ (findK L ⟨s1, s2⟩ y32)]) (wl (sn rfl (cs := #[S_ (⟨#[]⟩), I_ 0, I_ 0, B_ false, I_ 0]) (T := 35) (V := fun b => pt b 0) (r_alloc Ty.zv35 rfl) fun b38 _ e40 h41 u42 => ?_))))
   have h45 := (up_ob u34 hX1pb)
   have l46 := lsz e40 h45
   have g47 := gsz e40 M36
   have g48 := gsz e40 M37
   refine wl (ss rfl (k := 0) (v := .agg #[S_ ((findE L ⟨s1, s2⟩ y32).name), I_ ((findE L ⟨s1, s2⟩ y32).node.t), I_ ((findE L ⟨s1, s2⟩ y32).node.w), B_ ((findE L ⟨s1, s2⟩ y32).dir), I_ ((findE L ⟨s1, s2⟩ y32).size)]) (vs := [S_ ((findE L ⟨s1, s2⟩ y32).name), I_ ((findE L ⟨s1, s2⟩ y32).node.t), I_ ((findE L ⟨s1, s2⟩ y32).node.w), B_ ((findE L ⟨s1, s2⟩ y32).dir), I_ ((findE L ⟨s1, s2⟩ y32).size)]) (cs' := [S_ ((findE L ⟨s1, s2⟩ y32).name), I_ ((findE L ⟨s1, s2⟩ y32).node.t), I_ ((findE L ⟨s1, s2⟩ y32).node.w), B_ ((findE L ⟨s1, s2⟩ y32).dir), I_ ((findE L ⟨s1, s2⟩ y32).size)]) (by kernel_rfl) (by kernel_rfl) rfl Ty.sz35 h41 rfl (Nat.le_of_ble_eq_true rfl) rfl fun _ h52 c53 => was (v := I_ (findK L ⟨s1, s2⟩ y32)) (wnil (then_n (wp_seq (wp_seq (rg_lit (wmv (v := I_ (findK L ⟨s1, s2⟩ y32)) (wl (sb rfl (neI (findK L ⟨s1, s2⟩ y32) 0) fun _ k57 => wnil (then_n ?_))))))))))
   refine bcd k57 (fun v58 p59 => ?_) (fun v58 p59 => ?_)
   ·
    refine wp_cond_false (ebk v58) (wp_skip (then_n (rg_lit (wlv (v := pt b38 1) (fa (pt b38 0)) (wlv (v := .agg #[I_ ((findE L ⟨s1, s2⟩ y32).node.t), I_ ((findE L ⟨s1, s2⟩ y32).node.w)]) (lds 1 Ty.ag24 Ty.sz24 h52) (wl (ss rfl (k := 0) (v := .agg #[I_ ((findE L ⟨s1, s2⟩ y32).node.t), I_ ((findE L ⟨s1, s2⟩ y32).node.w)]) (vs := [I_ ((findE L ⟨s1, s2⟩ y32).node.t), I_ ((findE L ⟨s1, s2⟩ y32).node.w)]) (cs' := [I_ ((findE L ⟨s1, s2⟩ y32).node.t), I_ ((findE L ⟨s1, s2⟩ y32).node.w)]) (by kernel_rfl) (by kernel_rfl) rfl Ty.sz24 (chg_ob c53 (Nat.ne_of_lt l46) (up_ob u42 h45)) rfl (Nat.le_of_ble_eq_true rfl) rfl fun w61 h62 c63 => wnil (inb_n (then_n (rg_lit (wlv (v := N_ (k + 1)) (adN k 1) (wmv (v := N_ (k + 1)) (wnil (then_n ?_))))))))))))))
    refine ⟨(parseL s).length - (k + 1), ?_, (k + 1), (findE L ⟨s1, s2⟩ y32).node.t, (findE L ⟨s1, s2⟩ y32).node.w, rfl, hmk, (mtx (mtn (mtu M37 u42) c53 g48) c63), h62, (by omega), ((wk_go hy32 (Decidable.not_not.1 p59)).symm.trans hF1_1)⟩
    · omega
   refine wp_cond_true (ebk v58) (wp_seq (rg_lit (wlv (v := .agg #[I_ 0, I_ 0]) (r_build (ps := []) (cs := [I_ 0, I_ 0]) Ty.un24 Ty.zv24 Ty.pl24 (by kernel_rfl) (by kernel_rfl)) (wmv (v := I_ (findK L ⟨s1, s2⟩ y32)) (wl (ss rfl (k := 0) (v := .agg #[I_ 0, I_ 0]) (vs := [I_ 0, I_ 0]) (cs' := [I_ 0, I_ 0]) (by kernel_rfl) (by kernel_rfl) rfl Ty.sz24 (chg_ob c53 (Nat.ne_of_lt l46) (up_ob u42 h45)) rfl (Nat.le_of_ble_eq_true rfl) rfl fun w61 h62 c63 => was (v := I_ (findK L ⟨s1, s2⟩ y32)) (wnil (then_n (wp_ret (then_x (by nofun) (inb_r (then_x (by nofun) (then_x (by nofun) (inb_r (then_x (by nofun) ?_)))))))))))))))
   refine bodyPost_ret (v := .tuple #[.agg #[I_ 0, I_ 0], I_ (findK L ⟨s1, s2⟩ y32)]) (res2 rfl (rv_c (p := ⟨pb, 0, none⟩) (by kernel_rfl) (run_loadVars (vs := [I_ 0, I_ 0]) Ty.ag24 Ty.sz24 h62 (by kernel_rfl))) (rv_t (by kernel_rfl))) (by kernel_rfl) ?_
   exact ⟨walk_ret (walk_is (Decidable.not_not.1 p21) (hF1_1.symm.trans (wk_no hy32 p59))), (Mod.up (mtn (mtn (mtu M36 u42) c53 g47) c63 g6))⟩
  refine wp_cond_true (ebk v20) (wp_seq (rg_lit ?_))
  have h22 := (up_ob u13 h3)
  refine wlv (v := .agg #[I_ 0, I_ 0]) (lds 0 Ty.ag24 Ty.sz24 h22) (wmv (v := I_ (parseK s)) (wl (ss rfl (k := 0) (v := .agg #[I_ 0, I_ 0]) (vs := [I_ 0, I_ 0]) (cs' := [I_ 0, I_ 0]) (by kernel_rfl) (by kernel_rfl) rfl Ty.sz24 h22 rfl (Nat.le_of_ble_eq_true rfl) rfl fun _ h24 c25 => was (v := I_ (parseK s)) (wnil (then_n (wp_ret (inb_r (then_x (by nofun) ?_))))))))
  refine bodyPost_ret (v := .tuple #[.agg #[I_ 0, I_ 0], I_ (parseK s)]) (res2 rfl (rv_c (p := ⟨pb, 0, none⟩) (by kernel_rfl) (run_loadVars (vs := [I_ 0, I_ 0]) Ty.ag24 Ty.sz24 h24 (by kernel_rfl))) (rv_t (by kernel_rfl))) (by kernel_rfl) ?_
  exact ⟨walk_ret (walk_bad p21), (Mod.up (mtn M17 c25 g6))⟩
end Go.Proofs.YtefhfoioeoijlaaGreatDoor
set_option linter.unusedVariables false
set_option linter.unusedSimpArgs false
namespace Go.Proofs.YtefhfoioeoijlaaGreatDoor
open Go Go.RowKit Go.Sort
def po1 : OpD := ⟨1, ⟨1, 1⟩, ⟨1, 1⟩, ⟨0, 0⟩, true, ⟨#[120]⟩, []⟩
def po2 : OpD := ⟨1, ⟨2, 1⟩, ⟨2, 1⟩, ⟨1, 1⟩, false, ⟨#[121]⟩, []⟩
theorem p_clean : cleanB ⟨#[47, 97, 47, 46, 46, 47, 98, 47, 47, 99]⟩ = ⟨#[47, 98, 47, 99]⟩ := by kernel_rfl
theorem p_cleanK : cleanK ⟨#[47, 97, 47, 46, 46, 47, 98, 47, 47, 99]⟩ = 0 := by kernel_rfl
theorem p_of : ofB (buildI [po1, po2]) ⟨2, 1⟩ = ⟨#[47, 120, 47, 121]⟩ := by kernel_rfl
theorem p_ofK : ofK (buildI [po1, po2]) ⟨2, 1⟩ = 0 := by kernel_rfl
theorem p_walk : walkS (buildI [po1, po2]) ⟨#[47, 120, 47, 121]⟩ = ⟨2, 1⟩ := by kernel_rfl
theorem p_walkK : walkK (buildI [po1, po2]) ⟨#[47, 120, 47, 121]⟩ = 0 := by kernel_rfl
theorem two_rowP {B : Nat} {w : World} {g : Nat} (h : w.heap[g]? = some (.cells ((opC po1 (.slice none 0 0) ++ opC po2 (.slice none 0 0)).toArray) 49 (0, 0))) : OpRow B w (some ⟨g, 0, none⟩) [po1, po2] := fun i o hi => by
  have hlt : g < w.heap.size := lt_ob h
  match i, hi with
  | 0, hi =>
    simp at hi; subst hi
    refine ⟨g, 0, none, 0, 0, rfl, hlt, fun j v hj => ?_, Dat.nil B w, by decide⟩
    have hj10 : j < 10 := (List.getElem?_eq_some_iff.1 hj).1
    simp only [World.cell?, h, Nat.zero_add, Nat.zero_mul]
    rw [List.getElem?_toArray, List.getElem?_append_left (by exact hj10)]
    exact hj
  | 1, hi =>
    simp at hi; subst hi
    refine ⟨g, 0, none, 0, 0, rfl, hlt, fun j v hj => ?_, Dat.nil B w, by decide⟩
    have hj10 : j < 10 := (List.getElem?_eq_some_iff.1 hj).1
    simp only [World.cell?, h, Nat.zero_add, Nat.one_mul]
    rw [List.getElem?_toArray, List.getElem?_append_right (by show 10 ≤ 10 + j; omega)]
    have e : 10 + j - (opC po1 (.slice none 0 0)).length = j := by show 10 + j - 10 = j; omega
    rw [e]; exact hj
  | i + 2, hi => simp at hi
theorem build2P_at {B : Nat} {w : World} {g : Nat} (h : w.heap[g]? = some (.cells ((opC po1 (.slice none 0 0) ++ opC po2 (.slice none 0 0)).toArray) 49 (0, 0))) (hB : B ≤ w.heap.size) :
    Calls Tryz.prog 15 #[.slice (some ⟨g, 0, none⟩) 2 2] w fun e w' => ∃ tb r, e = .returned (trP tb) ∧ TreeIs B w' tb r (buildI [po1, po2]) ∧ Up w w' ∧ w.heap.size ≤ tb ∧ w.heap.size ≤ r := build_at (two_rowP h) hB (by decide)
theorem of2_at {B : Nat} {w : World} {tb r : Nat} (h : TreeIs B w tb r (buildI [po1, po2])) (hB : B ≤ w.heap.size) (htab : Tab w) : Calls Tryz.prog 42 #[trP tb, .agg #[.int .i64 2, .int .i64 1]] w fun e w' => e = .returned (.tuple #[.string ⟨#[47, 120, 47, 121]⟩, .int .i64 0]) ∧ Up w w' := by
  refine (of_at h hB (fit_build _) htab 2 1).mono ?_
  rintro e w' ⟨rfl, u⟩
  rw [p_of, p_ofK]; exact ⟨rfl, u⟩
theorem walk2_at {B : Nat} {w : World} {tb r : Nat} (h : TreeIs B w tb r (buildI [po1, po2])) (hB : B ≤ w.heap.size) (htab : Tab w) (hmx : Mx w) : Calls Tryz.prog 43 #[trP tb, .string ⟨#[47, 120, 47, 121]⟩] w fun e w' => e = .returned (.tuple #[.agg #[.int .i64 2, .int .i64 1], .int .i64 0]) ∧ Up w w' := by
  refine (walk_at h hB (fit_build _) htab hmx ⟨#[47, 120, 47, 121]⟩ (by decide)).mono ?_
  rintro e w' ⟨rfl, u⟩
  rw [p_walk, p_walkK]; exact ⟨rfl, u⟩
theorem clean2_at {w : World} (hmx : Mx w) : Calls Tryz.prog 50 #[.string ⟨#[47, 97, 47, 46, 46, 47, 98, 47, 47, 99]⟩] w fun e w' => e = .returned (.tuple #[.string ⟨#[47, 98, 47, 99]⟩, .int .i64 0]) ∧ Up w w' := by
  refine (clean_at hmx ⟨#[47, 97, 47, 46, 46, 47, 98, 47, 47, 99]⟩ (by decide)).mono ?_
  rintro e w' ⟨rfl, u⟩
  rw [p_clean, p_cleanK]; exact ⟨rfl, u⟩
end Go.Proofs.YtefhfoioeoijlaaGreatDoor
set_option linter.unusedVariables false
set_option linter.unusedSimpArgs false
namespace Go.Proofs.YtefhfoioeoijlaaGreatDoor
open Go Go.RowKit Go.Sort
set_option maxHeartbeats 2000000 in
theorem alive19_at {w : World} (htab : Tab w) (hmx : Mx w) : Calls Tryz.prog 40 #[] w fun e w' => e = .returned (.bool true) ∧ Up w w' := by
  obtain ⟨B, hBe⟩ : ∃ B, B = w.heap.size := ⟨_, rfl⟩
  have hB : B ≤ w.heap.size := Nat.le_of_eq hBe
  go_enter Tryz.func40, Tryz.ntmps40
  refine wp_seq (rg_lit (was (v := B_ false) (wnil (then_n (wp_seq (rg_lit (wlv (v := .agg #[I_ 1, I_ 1]) (r_build (ps := [(0, I_ 1), (1, I_ 1)]) (cs := [I_ 1, I_ 1]) Ty.un24 Ty.zv24 Ty.pl24 (by kernel_rfl) (by kernel_rfl)) (wlv (v := .agg #[I_ 2, I_ 1]) (r_build (ps := [(0, I_ 2), (1, I_ 1)]) (cs := [I_ 2, I_ 1]) Ty.un24 Ty.zv24 Ty.pl24 (by kernel_rfl) (by kernel_rfl)) (wl (sn rfl (cs := #[I_ 0, I_ 0]) (T := 24) (V := fun b => pt b 0) (r_alloc Ty.zv24 rfl) fun _ _ e3 h4 u5 => ?_))))))))))
  have g6 := gsz e3 (Mod.refl [] w)
  have M7 := mtu (Mod.refl [] w) u5
  refine wl (sn rfl (cs := #[I_ 0, I_ 0]) (T := 24) (V := fun b => pt b 0) (r_alloc Ty.zv24 rfl) fun _ _ e10 h11 u12 => ?_)
  have l13 := lsz e10 h4
  have g14 := gsz e10 M7
  refine wl (ss rfl (k := 0) (v := .agg #[I_ 1, I_ 1]) (vs := [I_ 1, I_ 1]) (cs' := [I_ 1, I_ 1]) (by kernel_rfl) (by kernel_rfl) rfl Ty.sz24 (up_ob u12 h4) rfl (Nat.le_of_ble_eq_true rfl) rfl fun _ h18 c19 => wl (ss rfl (k := 0) (v := .agg #[I_ 2, I_ 1]) (vs := [I_ 2, I_ 1]) (cs' := [I_ 2, I_ 1]) (by kernel_rfl) (by kernel_rfl) rfl Ty.sz24 (chg_ob c19 (Nat.ne_of_gt l13) h11) rfl (Nat.le_of_ble_eq_true rfl) rfl fun _ h23 c24 => wnil (then_n (wp_seq (rg_lit ?_)))))
  have h26 := (chg_ob c24 (Nat.ne_of_lt l13) h18)
  iterate 2 refine wlv (v := .agg #[I_ 1, I_ 1]) (lds 0 Ty.ag24 Ty.sz24 h26) ?_
  refine wlv (v := .agg #[I_ 1, I_ 1, I_ 1, I_ 1, I_ 1, I_ 0, I_ 0, B_ true, S_ (⟨#[120]⟩), .slice none 0 0]) (r_build (ps := [(0, I_ 1), (1, .agg #[I_ 1, I_ 1]), (2, .agg #[I_ 1, I_ 1]), (4, B_ true), (5, S_ (⟨#[120]⟩))]) (cs := [I_ 1, I_ 1, I_ 1, I_ 1, I_ 1, I_ 0, I_ 0, B_ true, S_ (⟨#[120]⟩), .slice none 0 0]) Ty.un49 Ty.zv49 Ty.pl49 (by kernel_rfl) (by kernel_rfl)) ?_
  iterate 2 refine wlv (v := .agg #[I_ 2, I_ 1]) (lds 0 Ty.ag24 Ty.sz24 h23) ?_
  refine wlv (v := .agg #[I_ 1, I_ 1]) (lds 0 Ty.ag24 Ty.sz24 h26) (wlv (v := .agg #[I_ 1, I_ 2, I_ 1, I_ 2, I_ 1, I_ 1, I_ 1, B_ false, S_ (⟨#[121]⟩), .slice none 0 0]) (r_build (ps := [(0, I_ 1), (1, .agg #[I_ 2, I_ 1]), (2, .agg #[I_ 2, I_ 1]), (3, .agg #[I_ 1, I_ 1]), (5, S_ (⟨#[121]⟩))]) (cs := [I_ 1, I_ 2, I_ 1, I_ 2, I_ 1, I_ 1, I_ 1, B_ false, S_ (⟨#[121]⟩), .slice none 0 0]) Ty.un49 Ty.zv49 Ty.pl49 (by kernel_rfl) (by kernel_rfl)) (wl (sn rfl (cs := #[I_ 1, I_ 1, I_ 1, I_ 1, I_ 1, I_ 0, I_ 0, B_ true, S_ (⟨#[120]⟩), .slice none 0 0, I_ 1, I_ 2, I_ 1, I_ 2, I_ 1, I_ 1, I_ 1, B_ false, S_ (⟨#[121]⟩), .slice none 0 0]) (T := 49) (V := fun b => sl b 0 2 2) (r_buildSlice (n := 2) (ps := [(0, .agg #[I_ 1, I_ 1, I_ 1, I_ 1, I_ 1, I_ 0, I_ 0, B_ true, S_ (⟨#[120]⟩), .slice none 0 0]), (1, .agg #[I_ 1, I_ 2, I_ 1, I_ 2, I_ 1, I_ 1, I_ 1, B_ false, S_ (⟨#[121]⟩), .slice none 0 0])]) Ty.un22 Ty.sz49 Ty.zv49 (by decide) (by decide) (by kernel_rfl) (by kernel_rfl)) fun b27 _ _ h30 u31 => ?_)))
  have M35 := mtu (mtn (mtn (mtu M7 u12) c19 g6) c24 g14) u31
  refine wl (sca [sl b27 0 2 2] En.f15 (build2P_at h30 (Nat.le_trans hB M35.size)) ?_)
  rintro e _ ⟨tb, r, rfl, h37, u38, _, _⟩
  refine ⟨_, rfl, ?_⟩
  have M43 := mtu M35 u38
  refine was (v := pt tb 0) (wnil (then_n (wp_seq (rg_lit (wl (sca [S_ (⟨#[47, 97, 47, 46, 46, 47, 98, 47, 47, 99]⟩)] En.f50 (clean2_at (Mx.up hmx (Mod.up M43))) ?_))))))
  rintro e _ ⟨rfl, u45⟩
  refine ⟨_, rfl, ?_⟩
  have M46 := mtu M43 u45
  refine wmv (v := .tuple #[S_ (⟨#[47, 98, 47, 99]⟩), I_ 0]) (wlv (v := S_ (⟨#[47, 98, 47, 99]⟩)) (xt [S_ (⟨#[47, 98, 47, 99]⟩), I_ 0]) (wlv (v := I_ 0) (xt [S_ (⟨#[47, 98, 47, 99]⟩), I_ 0]) (was (v := S_ (⟨#[47, 98, 47, 99]⟩)) (was (v := I_ 0) (wnil (then_n (wp_seq (rg_lit (wmv (v := pt tb 0) ?_)))))))))
  have h47 := (up_ob u45 (up_ob u38 (up_ob u31 h23)))
  refine wlv (v := .agg #[I_ 2, I_ 1]) (lds 0 Ty.ag24 Ty.sz24 h47) ?_
  have h48 := (TreeIs.up h37 u45)
  refine wl (sca [pt tb 0, .agg #[I_ 2, I_ 1]] En.f42 (of2_at h48 (Nat.le_trans hB M46.size) (TabIs.up htab (Mod.up M46))) ?_)
  rintro e _ ⟨rfl, u50⟩
  refine ⟨_, rfl, ?_⟩
  have M51 := mtu M46 u50
  refine wmv (v := .tuple #[S_ (⟨#[47, 120, 47, 121]⟩), I_ 0]) (wlv (v := S_ (⟨#[47, 120, 47, 121]⟩)) (xt [S_ (⟨#[47, 120, 47, 121]⟩), I_ 0]) (wlv (v := I_ 0) (xt [S_ (⟨#[47, 120, 47, 121]⟩), I_ 0]) (was (v := S_ (⟨#[47, 120, 47, 121]⟩)) (was (v := I_ 0) (wnil (then_n (wp_seq (rg_lit (wmv (v := pt tb 0) ?_)))))))))
  have h52 := (TreeIs.up h48 u50)
  refine wl (sca [pt tb 0, S_ (⟨#[47, 120, 47, 121]⟩)] En.f43 (walk2_at h52 (Nat.le_trans hB M51.size) (TabIs.up htab (Mod.up M51)) (Mx.up hmx (Mod.up M51))) ?_)
  rintro e _ ⟨rfl, u54⟩
  refine ⟨_, rfl, ?_⟩
  have M55 := mtu M51 u54
  refine wmv (v := .tuple #[.agg #[I_ 2, I_ 1], I_ 0]) (wlv (v := .agg #[I_ 2, I_ 1]) (xt [.agg #[I_ 2, I_ 1], I_ 0]) (wlv (v := I_ 0) (xt [.agg #[I_ 2, I_ 1], I_ 0]) (wl (sn rfl (cs := #[I_ 0, I_ 0]) (T := 24) (V := fun b => pt b 0) (r_alloc Ty.zv24 rfl) fun _ _ e58 h59 u60 => ?_))))
  have h63 := (up_ob u54 (up_ob u50 h47))
  have l64 := lsz e58 h63
  have g67 := gsz e58 M55
  refine wl (ss rfl (k := 0) (v := .agg #[I_ 2, I_ 1]) (vs := [I_ 2, I_ 1]) (cs' := [I_ 2, I_ 1]) (by kernel_rfl) (by kernel_rfl) rfl Ty.sz24 h59 rfl (Nat.le_of_ble_eq_true rfl) rfl fun w69 h70 c71 => was (v := I_ 0) (wnil (then_n (wp_seq (rg_lit (wmv (v := I_ 0) (wl (sv (w' := w69) rfl (v := B_ true) (by kernel_rfl) (wmv (v := B_ true) (wl (sv (by kernel_rfl) (v := S_ (⟨#[47, 98, 47, 99]⟩)) (mv) (wl (sv (w' := w69) (by kernel_rfl) (v := B_ true) (by kernel_rfl) (wlv (v := B_ true) (pkT (by kernel_rfl)) ?_))))))))))))))
  refine wmv (v := B_ true) (wl (sv (by kernel_rfl) (v := I_ 0) (mv) (wl (sv (w' := w69) (by kernel_rfl) (v := B_ true) (by kernel_rfl) (wlv (v := B_ true) (pkT (by kernel_rfl)) (wmv (v := B_ true) (wl (sv (by kernel_rfl) (v := S_ (⟨#[47, 120, 47, 121]⟩)) (mv) (wl (sv (w' := w69) (by kernel_rfl) (v := B_ true) (by kernel_rfl) (wlv (v := B_ true) (pkT (by kernel_rfl)) (wmv (v := B_ true) ?_))))))))))))
  refine wl (sv (by kernel_rfl) (v := I_ 0) (mv) (wl (sv (w' := w69) (by kernel_rfl) (v := B_ true) (by kernel_rfl) (wlv (v := B_ true) (pkT (by kernel_rfl)) (wmv (v := B_ true) (wl (sv (by kernel_rfl) (v := .agg #[I_ 2, I_ 1]) (lds 0 Ty.ag24 Ty.sz24 h70) (wl (sv (by kernel_rfl) (v := .agg #[I_ 2, I_ 1]) (lds 0 Ty.ag24 Ty.sz24 (chg_ob c71 (Nat.ne_of_lt l64) (up_ob u60 h63))) (wl (sv (w' := w69) (by kernel_rfl) (v := B_ true) (by kernel_rfl) (wlv (v := B_ true) (pkT (by kernel_rfl)) (was (v := B_ true) ?_)))))))))))))
  refine wnil (then_n (wp_ret ?_))
  refine br1 (v := B_ true) rfl ?_
  exact ⟨rfl, (Mod.up (mtn (mtu M55 u60) c71 g67))⟩
end Go.Proofs.YtefhfoioeoijlaaGreatDoor
set_option linter.unusedVariables false
set_option linter.unusedSimpArgs false
namespace Go.Proofs.YtefhfoioeoijlaaGreatDoor
open Go Go.RowKit Go.Sort
theorem slash_is {s : ByteArray} (h : slashB s = true) : s = (⟨#[47]⟩ : ByteArray) ++ restB s := by
  apply ba_ext
  have h1 : ([47] : List UInt8).isPrefixOf s.data.toList = true := h
  have h2 : (restB s).data.toList = if ([47] : List UInt8).isPrefixOf s.data.toList then s.data.toList.drop 1 else s.data.toList := rfl
  rw [if_pos h1] at h2
  rw [show ((⟨#[47]⟩ : ByteArray) ++ restB s).data.toList = [47] ++ (restB s).data.toList by simp, h2]
  cases e : s.data.toList with
  | nil => rw [e] at h1; simp at h1
  | cons b l => rw [e] at h1; simp at h1; rw [← h1]; rfl
theorem join_oneB (x : ByteArray) : joinB [x] = x := by
  apply ba_ext; show Lib.join [x.data.toList] [47] = _; rw [Lib.join_one]
end Go.Proofs.YtefhfoioeoijlaaGreatDoor
set_option linter.unusedVariables false
set_option linter.unusedSimpArgs false
namespace Go.Proofs.YtefhfoioeoijlaaGreatDoor
open Go Go.RowKit Go.Sort
theorem index1_miss {c : UInt8} : ∀ {s : List UInt8}, c ∉ s → Lib.index s [c] = -1
  | [], _ => rfl
  | b :: l, h => by
    have ih := index1_miss (c := c) (s := l) (fun e => h (by simp [e]))
    have hb : c ≠ b := fun e => h (by simp [e])
    rw [Lib.index, ih]; simp [List.isPrefixOf, hb]
theorem index1_hit {c : UInt8} : ∀ {x : List UInt8} (l : List UInt8), c ∉ x → Lib.index (x ++ c :: l) [c] = x.length
  | [], l, _ => by simp [Lib.index, List.isPrefixOf]
  | b :: x, l, h => by
    have ih := index1_hit (c := c) (x := x) l (fun e => h (by simp [e]))
    have hb : c ≠ b := fun e => h (by simp [e])
    have hn : ¬ ((x.length : Nat) : Int) = -1 := by omega
    rw [List.cons_append, Lib.index, ih]; simp [List.isPrefixOf, hb, hn]
theorem cut_none {s : ByteArray} {c : UInt8} (h : c ∉ s.data.toList) : cutA s c = s ∧ cutB s c = false := by
  have e : Lib.cut s.data.toList [c] = (s.data.toList, [], false) := by
    unfold Lib.cut; rw [index1_miss h, if_neg (by decide)]
  unfold cutA cutB; rw [e]
  exact ⟨bys_of s, rfl⟩
theorem cut_some {s : ByteArray} {c : UInt8} {x l : List UInt8} (e : s.data.toList = x ++ c :: l) (h : c ∉ x) : cutA s c = bys x ∧ cutZ s c = bys l ∧ cutB s c = true := by
  have e2 : Lib.cut s.data.toList [c] = (x, l, true) := by
    unfold Lib.cut
    rw [e, index1_hit l h, if_pos (by omega)]
    have h1 : ((x.length : Nat) : Int).toNat = x.length := Int.toNat_natCast _
    rw [h1, List.take_left, List.drop_append]
    simp
  unfold cutA cutZ cutB; rw [e2]
  exact ⟨rfl, rfl, rfl⟩
theorem dig_in {c : UInt8} (h : 48 ≤ c.toNat ∧ c.toNat ≤ 57) : digs.data.toList.contains c = true := by
  have h2 : c.toNat = 48 ∨ c.toNat = 49 ∨ c.toNat = 50 ∨ c.toNat = 51 ∨ c.toNat = 52 ∨ c.toNat = 53 ∨ c.toNat = 54 ∨ c.toNat = 55 ∨ c.toNat = 56 ∨ c.toNat = 57 := by omega
  have key : ∀ k : Nat, c.toNat = k → c = UInt8.ofNat k := fun k e => by rw [← e]; simp
  rcases h2 with e | e | e | e | e | e | e | e | e | e <;> rw [key _ e] <;> decide
theorem drop_all {p : UInt8 → Bool} : ∀ {l : List UInt8}, (∀ c ∈ l, p c = true) → l.dropWhile p = []
  | [], _ => rfl
  | b :: l, h => by rw [List.dropWhile_cons, if_pos (h b (by simp))]; exact drop_all (fun c hc => h c (by simp [hc]))
theorem drop_none {p : UInt8 → Bool} : ∀ {l : List UInt8}, l.dropWhile p = [] → ∀ c ∈ l, p c = true
  | [], _, c, hc => absurd hc (by simp)
  | b :: l, h, c, hc => by
    rw [List.dropWhile_cons] at h
    split at h
    · rename_i hb
      rcases List.mem_cons.1 hc with rfl | hc
      · exact hb
      · exact drop_none h c hc
    · cases h
def Named (L : List Item) : Prop := ∀ x ∈ L, nameB x.name = true
theorem named_do {L : List Item} (h : Fit L) (hn : Named L) (o : OpD) : Named (doI L o).2 := by
  unfold doI
  split
  · exact hn
  · split
    · exact hn
    · rename_i h1 h2
      show ∀ x ∈ (if (nowI L (gotI L o.node) o).2 = true then putI (nowI L (gotI L o.node) o).1 L else L), nameB x.name = true
      split
      · rename_i h3
        intro x hx
        rcases mem_put h.wf.srt hx with rfl | ⟨hx, _⟩
        · have hr : rightB o = true := by simpa using h1
          have hs : stR o.node = true := by unfold rightB at hr; simp only [Bool.and_eq_true] at hr; exact hr.2.1
          have hb : bodyB o = true := by unfold rightB at hr; simp only [Bool.and_eq_true] at hr; exact hr.2.2.2.2
          have hnn : o.node ≠ nilS := by intro e; rw [e] at hs; cases hs
          have same : (gotI L o.node).node = o.node → nameB (gotI L o.node).name = true := fun e => hn _ (getI_some (got_some hnn e)).1
          unfold nowI at h3 ⊢
          by_cases k1 : o.kind = 1
          · rw [if_pos k1] at h3 ⊢
            unfold bodyB at hb
            rw [if_pos k1] at hb
            simp only [Bool.and_eq_true] at hb
            exact hb.2.1
          · rw [if_neg k1] at h3 ⊢
            by_cases k2 : o.kind = 2
            · rw [if_pos k2] at h3 ⊢
              unfold bodyB at hb
              rw [if_neg k1, if_pos k2] at hb
              simp only [Bool.and_eq_true] at hb
              exact hb.2
            · rw [if_neg k2] at h3 ⊢
              by_cases k3 : o.kind = 3
              · rw [if_pos k3] at h3 ⊢
                exact same (of_decide_eq_true h3)
              · rw [if_neg k3] at h3 ⊢
                simp only [Bool.and_eq_true, decide_eq_true_eq] at h3
                exact same h3.1
        · exact hn x hx
      · exact hn
theorem named_fold : ∀ {l : List OpD} {L : List Item}, Fit L → Named L → Named (l.foldl playI L)
  | [], _, _, hn => hn
  | o :: l, _, h, hn => named_fold (l := l) (fit_do h o) (named_do h hn o)
theorem named_build (os : List OpD) : Named (buildI os) := named_fold ⟨Wf.nil, by simp, by simp⟩ (fun x hx => absurd hx (by simp))
end Go.Proofs.YtefhfoioeoijlaaGreatDoor

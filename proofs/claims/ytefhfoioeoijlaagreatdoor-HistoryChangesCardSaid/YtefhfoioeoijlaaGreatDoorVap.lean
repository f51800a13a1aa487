/- HB, Side, GQN, OT, ChR, BEq, HC -/
import Derived.Test.YtefhfoioeoijlaaGreatDoorVaf
import Derived.Test.YtefhfoioeoijlaaGreatDoorVah
import Derived.Test.YtefhfoioeoijlaaGreatDoorVal
import Derived.Test.YtefhfoioeoijlaaGreatDoorVam
import Derived.Test.YtefhfoioeoijlaaGreatDoorVan
import Derived.Test.YtefhfoioeoijlaaGreatDoorVao
set_option linter.unusedVariables false
set_option linter.unusedSimpArgs false
namespace Go.Proofs.YtefhfoioeoijlaaGreatDoor
open Go Go.RowKit Go.Sort
set_option maxHeartbeats 2000000 in
theorem growI_at {B : Nat} {w : World} (nn : Nat) (hn : nn ≤ 100000) : Calls Tryz.prog 132 #[.slice none 0 0, .int .i64 (nn : Int)] w fun e w' => ∃ A c, e = .returned (.slice A 0 c) ∧ IRow 42 B w.heap.size w' (.slice A 0 c) [] ∧ Up w w' := by
  go_enter Tryz.func132, Tryz.ntmps132
  refine wp_seq (rg_lit (was (v := .slice none 0 0) (wnil (then_n (wp_seq (wp_seq (rg_lit (wmv (v := I_ nn) (wl (sb rfl (ltI nn 0) fun b1 k2 => wnil (then_n ?_)))))))))))
  refine bcd k2 (fun v3 p4 => ?_) (fun v3 p4 => ?_)
  ·
   refine wp_cond_false (eb v3) (wp_skip (then_n (wp_seq (wp_seq (rg_lit (wmv (v := I_ nn) (wmv (v := .slice none 0 0) (wl (sv (w' := w) rfl (v := I_ 0) (by kernel_rfl) (wmv (v := .slice none 0 0) (wlv (v := I_ 0) (ln none 0 0 Ty.un74) (wl (sv (w' := w) rfl (v := I_ 0) (by kernel_rfl) (wlv (v := I_ ((nn - 0 : Nat) : Int)) (r_sub (k := .i64) (m := (nn : Int)) (n := 0) (c := ((nn - 0 : Nat) : Int)) (by kernel_rfl) (by kernel_rfl) ((IntWalk.i64_in _ (by omega)).trans (by omega))) ?_))))))))))))))
   refine was (v := I_ ((nn - 0 : Nat) : Int)) (wnil (then_n (wp_seq (rg_lit (wmv (v := I_ ((nn - 0 : Nat) : Int)) (wl (sb rfl (r_gt (k := .i64) (m := ((nn - 0 : Nat) : Int)) (n := 0) (by kernel_rfl) (by kernel_rfl)) fun b5 k6 => wnil (then_n ?_))))))))
   refine bcd k6 (fun v7 p8 => ?_) (fun v7 p8 => ?_)
   ·
    refine wp_cond_false (eb v7) (wp_skip (then_n (wp_seq (rg_lit (wmv (v := .slice none 0 0) (was (v := .slice none 0 0) (wnil (then_n (wp_ret ?_)))))))))
    refine br1 (v := .slice none 0 0) rfl ?_
    exact ⟨none, 0, rfl, IRow.nil _ _ _ _, (Mod.up (Mod.refl [] w))⟩
   refine wp_cond_true (eb v7) (rg_lit ?_)
   iterate 2 refine wmv (v := .slice none 0 0) ?_
   refine wl (sv (w' := w) rfl (v := I_ 0) (by kernel_rfl) (wlv (v := .slice none 0 0) (r_slNil (by kernel_rfl) (by kernel_rfl) Ty.un74 Ty.sz42) (wmv (v := I_ ((nn - 0 : Nat) : Int)) (wl (snGZ rfl (n := (nn - 0)) (by kernel_rfl) (by kernel_rfl) (by omega) (by omega) Ty.un74 Tryz.underlying3 fun g9 c10 r11 w12 h13 h14 h15 h16 h17 u18 => ?_)))))
   have M19 := mtu (Mod.refl [] w) u18
   refine wmv (v := .slice none 0 0) (wlv (v := I_ 0) (ln none 0 0 Ty.un74) (wlv (v := .slice (some ⟨g9, 0, none⟩) 0 c10) (r_sliceHi (b := g9) (o := 0) (n := (nn - 0)) (c := c10) (k := 0) (by kernel_rfl) (by kernel_rfl) Ty.un74 Ty.sz42 (by omega)) (was (v := .slice (some ⟨g9, 0, none⟩) 0 c10) (wnil (then_n (wp_seq (rg_lit (wmv (v := .slice (some ⟨g9, 0, none⟩) 0 c10) (was (v := .slice (some ⟨g9, 0, none⟩) 0 c10) (wnil (then_n (wp_ret ?_))))))))))))
   refine br1 (v := .slice (some ⟨g9, 0, none⟩) 0 c10) rfl ?_
   exact ⟨_, _, rfl, IRow.room h16 (by omega) h15 h17, (Mod.up M19)⟩
  exact absurd p4 (by omega)
set_option maxHeartbeats 2000000 in
theorem concatI_at {B base : Nat} {w : World} {bv nn : Nat} {vs : List Value} {Ls : List (List Item)} (hB : B ≤ w.heap.size) (hbv : w.heap[bv]? = some (.cells vs.toArray 74 (0, 0))) (hnn : nn = Ls.length) (hR : RowsI B base w vs Ls) (hn : nn ≤ 1000) (hsum : Ls.flatten.length ≤ 100000) :
    Calls Tryz.prog 73 #[.slice (some ⟨bv, 0, none⟩) nn nn] w fun e w' => ∃ A c, e = .returned (.slice A Ls.flatten.length c) ∧ IRow 42 B w.heap.size w' (.slice A Ls.flatten.length c) Ls.flatten ∧ Up w w' := by
  go_enter Tryz.func73, Tryz.ntmps73
  refine wp_seq (rg_lit (was (v := .slice none 0 0) (wnil (then_n (wp_seq (rg_lit (was (v := I_ 0) (wnil (then_n (wp_seq (wp_seq (rg_lit (wmv (v := .slice (some ⟨bv, 0, none⟩) nn nn) (wlv (v := I_ nn) (ln (some ⟨bv, 0, none⟩) nn nn Ty.un177) (wmv (v := I_ 0) (wnil (then_n (wp_block ?_))))))))))))))))))
  refine lp (fun n a r1 => ∃ (k : Nat) (m : Nat), (n = nn - k) ∧ (HasFr a 36 [(0, .slice (some ⟨bv, 0, none⟩) nn nn), (2, .slice none 0 0), (3, I_ m), (9, .slice (some ⟨bv, 0, none⟩) nn nn), (10, I_ nn), (11, I_ k)] []) ∧ (Mod [] w r1) ∧ (k ≤ nn) ∧ (m = (Ls.take k).flatten.length)) ⟨_, 0, 0, rfl, hmk, Mod.refl _ _, (Nat.zero_le _), rfl⟩ ?_
  rintro _ _ r1 ⟨k, m, rfl, h1, hM1, hF1_0, hF1_1⟩
  obtain ⟨Y41, rfl⟩ := h1
  have M2 := Mod.thin (Mod.refl [] w) hM1 (by simp)
  have hm1 := hF1_1
  have hm2 := flat_le (Ls := Ls) k
  refine wp_seq (rg_lit (wl (sb rfl (ltI k nn) fun b3 k4 => wnil (then_n (wp_seq ?_)))))
  refine bcd k4 (fun v5 p6 => ?_) (fun v5 p6 => ?_)
  ·
   refine wp_cond_false (eb v5) (wp_exit (then_x (by nofun) (then_x (by nofun) (inb_hit (then_n (wp_seq (rg_lit (wmv (v := I_ m) (wl (sca [.slice none 0 0, I_ m] En.f132 (growI_at (B := B) m (by omega)) ?_))))))))))
   rintro e w7 ⟨A8, c9, rfl, h10, u11⟩
   have h12 := IRow.base h10 M2.size
   refine ⟨_, rfl, ?_⟩
   have M13 := mtu M2 u11
   refine was (v := .slice A8 0 c9) (wnil (then_n (wp_seq (wp_seq (rg_lit (wmv (v := .slice (some ⟨bv, 0, none⟩) nn nn) (wlv (v := I_ nn) (ln (some ⟨bv, 0, none⟩) nn nn Ty.un177) (wmv (v := I_ 0) (wnil (then_n (wp_block ?_)))))))))))
   refine lp (fun n a r2 => ∃ (k2 : Nat) (out : List Item) (oA : Option Addr) (oc : Nat), (n = nn - k2) ∧ (HasFr a 36 [(0, .slice (some ⟨bv, 0, none⟩) nn nn), (2, .slice none 0 0), (3, I_ m), (6, .slice oA out.length oc), (9, .slice (some ⟨bv, 0, none⟩) nn nn), (10, I_ nn), (11, I_ k), (12, B_ b3), (25, .slice (some ⟨bv, 0, none⟩) nn nn), (26, I_ nn), (27, I_ k2)] []) ∧ (Mod [] w r2) ∧ (k2 ≤ nn) ∧ (out = (Ls.take k2).flatten) ∧ (IRow 42 B w.heap.size r2 (.slice oA out.length oc) out)) ⟨_, 0, [], A8, c9, rfl, hmk, M13, (Nat.zero_le _), rfl, h12⟩ ?_
   rintro _ _ r2 ⟨k2, out, oA, oc, rfl, h15, hM2, hF2_0, hF2_1, hF2_2⟩
   obtain ⟨Y42, rfl⟩ := h15
   have ho1 := hF2_1
   have ho2 := flat_le (Ls := Ls) k2
   have ho3 := congrArg List.length ho1
   rw [← ho1] at ho2
   refine wp_seq (rg_lit (wl (sb rfl (ltI k2 nn) fun b18 k19 => wnil (then_n (wp_seq ?_)))))
   refine bcd k19 (fun v20 p21 => ?_) (fun v20 p21 => ?_)
   ·
    refine wp_cond_false (eb v20) (wp_exit (then_x (by nofun) (then_x (by nofun) (inb_hit (then_n (wp_seq (rg_lit (wmv (v := .slice oA out.length oc) (was (v := .slice oA out.length oc) (wnil (then_n (wp_ret ?_))))))))))))
    refine br1 (v := .slice oA out.length oc) rfl ?_
    have hoe : out = Ls.flatten := by rw [ho1, List.take_of_length_le (by omega)]
    rw [← hoe]
    exact ⟨_, _, rfl, hF2_2, (Mod.up hM2)⟩
   refine wp_cond_true (eb v20) (wp_skip (then_n (wp_seq (wp_block (wp_seq (rg_lit ?_))))))
   obtain ⟨L22, hL22⟩ : ∃ x, Ls[k2]? = some x := ⟨_, List.getElem?_eq_getElem (by omega)⟩
   obtain ⟨A22, c22, hv22, hI22⟩ := hR.2 _ _ hL22
   have hc22 := ((Mod.up hM2).cell (p := ⟨bv, 0 + k2, none⟩) (lt_ob hbv)).trans (cell_vs hbv hv22)
   have hl22 := Nat.lt_of_lt_of_le (lt_ob hbv) hM2.size
   have hfn22 := congrArg List.length (flat_next hL22)
   rw [List.length_append] at hfn22
   have hfl22 := flat_le (Ls := Ls) (k2 + 1)
   refine wlv (v := pt bv (0 + k2)) (ixa (A := (some ⟨bv, 0, none⟩)) nn nn 1 k2 rfl Ty.un177 Ty.sz74) (wlv (v := .slice A22 L22.length c22) (r_loadc (by kernel_rfl) Ty.ag74 hc22) (was (v := .slice A22 L22.length c22) (wnil (then_n (rg_lit (wmv (v := .slice oA out.length oc) (wmv (v := .slice A22 L22.length c22) (wl (snIR rfl (L := out) (M := L22) (by kernel_rfl) (by kernel_rfl) hF2_2 (IRow.up hI22 (Mod.up hM2)) Ty.un74 hB hM2.size (by omega) fun A23 c24 w25 h26 u27 => ?_)))))))))
   have M29 := Mod.trans' hM2 u27 (fun k hk => Nat.le_trans (Nat.le_refl _) (hF2_2.own k hk).1)
   refine was (v := .slice A23 ((out ++ L22).length) c24) (wnil (inb_n (then_n (rg_lit (wlv (v := I_ ((k2 + 1 : Nat) : Int)) (adI (c := ((k2 + 1 : Nat) : Int)) k2 1 ((IntWalk.i64_in _ (by omega)).trans (by omega))) (wmv (v := I_ ((k2 + 1 : Nat) : Int)) (wnil (then_n ?_))))))))
   refine ⟨nn - (k2 + 1), ?_, (k2 + 1), (out ++ L22), A23, c24, rfl, hmk, M29, (by omega), (by rw [flat_next hL22, ← ho1]), h26⟩
   · omega
  refine wp_cond_true (eb v5) (wp_skip (then_n (wp_seq (wp_block (wp_seq (rg_lit ?_))))))
  obtain ⟨L7, hL7⟩ : ∃ x, Ls[k]? = some x := ⟨_, List.getElem?_eq_getElem (by omega)⟩
  obtain ⟨A7, c7, hv7, hI7⟩ := hR.2 _ _ hL7
  have hc7 := ((Mod.up M2).cell (p := ⟨bv, 0 + k, none⟩) (lt_ob hbv)).trans (cell_vs hbv hv7)
  have hl7 := Nat.lt_of_lt_of_le (lt_ob hbv) M2.size
  have hfn7 := congrArg List.length (flat_next hL7)
  rw [List.length_append] at hfn7
  have hfl7 := flat_le (Ls := Ls) (k + 1)
  refine wlv (v := pt bv (0 + k)) (ixa (A := (some ⟨bv, 0, none⟩)) nn nn 1 k rfl Ty.un177 Ty.sz74) (wlv (v := .slice A7 L7.length c7) (r_loadc (by kernel_rfl) Ty.ag74 hc7) (was (v := .slice A7 L7.length c7) (wnil (then_n (wp_seq (rg_lit (wmv (v := I_ m) (wmv (v := .slice A7 L7.length c7) (wlv (v := I_ L7.length) (ln A7 L7.length c7 Ty.un74) (wlv (v := I_ ((m + L7.length : Nat) : Int)) (adI (c := ((m + L7.length : Nat) : Int)) m L7.length ((IntWalk.i64_in _ (by omega)).trans (by omega))) (was (v := I_ ((m + L7.length : Nat) : Int)) ?_)))))))))))
  refine wnil (then_n (wp_seq (rg_lit (wmv (v := I_ ((m + L7.length : Nat) : Int)) (wl (sb rfl (ltI ((m + L7.length : Nat) : Int) 0) fun b8 k9 => wnil (then_n ?_)))))))
  refine bcd k9 (fun v10 p11 => ?_) (fun v10 p11 => ?_)
  ·
   refine wp_cond_false (eb v10) (wp_skip (inb_n (then_n (rg_lit (wlv (v := I_ ((k + 1 : Nat) : Int)) (adI (c := ((k + 1 : Nat) : Int)) k 1 ((IntWalk.i64_in _ (by omega)).trans (by omega))) (wmv (v := I_ ((k + 1 : Nat) : Int)) (wnil (then_n ?_))))))))
   refine ⟨nn - (k + 1), ?_, (k + 1), (m + L7.length), rfl, hmk, hM1, (by omega), (by rw [hfn7, hm1])⟩
   · omega
  exact absurd p11 (by omega)
end Go.Proofs.YtefhfoioeoijlaaGreatDoor
set_option linter.unusedVariables false
set_option linter.unusedSimpArgs false
namespace Go.Proofs.YtefhfoioeoijlaaGreatDoor
open Go Go.RowKit Go.Sort
theorem compactAny_at {base : Nat} {w : World} {v : Value} {zs : List Stamp} (hm : MRow base w v zs) (hs : StSorted zs) (hl : zs.length ≤ 1000) :
    Calls Tryz.prog 134 #[v] w fun e w' => ∃ A m c D, e = .returned (.slice A m c) ∧ MRow base w' (.slice A m c) D ∧ Thn zs D ∧ w.grownBy w' v.ownBlock := by
  rcases hm.2 with ⟨rfl, h0⟩ | ⟨g, cap, cur, rfl, hb, hg, hc, hm2, hcs, htk⟩
  · have hz : zs = [] := List.length_eq_zero_iff.1 h0
    subst hz
    refine compactM0_at.mono ?_
    rintro e w' ⟨rfl, u⟩
    exact ⟨none, 0, 0, [], rfl, MRow.nil _ _, Thn.small (by decide), ⟨u.os, u.tape, u.output, u.size, fun k hk _ => u.block k hk⟩⟩
  · exact (compactM_at hm hs (by omega)).mono fun e w' ⟨A, m, D, h1, h2, h3, h4⟩ => ⟨A, m, cap, D, h1, h2, h3, h4⟩
theorem stampSort_at {base : Nat} {w : World} {A : Option Addr} {c : Nat} {ks : List Stamp} (hrd : MRow base w (.slice A ks.length c) ks) (hlen : ks.length ≤ 1000) :
    Calls Tryz.prog 75 #[.slice A ks.length c] w fun e w' => ∃ A' m c' D, e = .returned (.slice A' m c') ∧ MRow w.heap.size w' (.slice A' m c') D ∧ Thn ks D ∧ Up w w' := by
  have k1 := Lib.hid (values_at (w := w) A ks.length c)
  go_enter Tryz.func75, Tryz.ntmps75
  go_wp2_with fail
  refine k1.out.mono ?_
  rintro e w1 ⟨b, rfl, hb, u1⟩
  go_wp2_with fail
  refine (sortedV_at hb (hrd.up u1) hlen).mono ?_
  rintro e w2 ⟨v, zs, rfl, hp, hs, hm, u2⟩
  go_wp2_with fail
  refine (compactAny_at hm hs (by rw [hp.length_eq]; exact hlen)).mono ?_
  rintro e w3 ⟨A', m, c', D, rfl, hD, hT, hU⟩
  go_wp2_with fail
  go_ret
  have hu3 : Up w1 w3 := Mod.up (Mod.trans' (Mod.of_up u2) hU (fun i hi => (hm.own i hi).1))
  refine ⟨A', m, c', D, rfl, ?_, hT.perm hp, up_trans u1 hu3⟩
  obtain ⟨h1, h2⟩ := hD
  refine ⟨h1, ?_⟩
  rcases h2 with hn | ⟨g, cap, cur, hv, hbg, rest⟩
  · exact .inl hn
  · exact .inr ⟨g, cap, cur, hv, Nat.le_trans u1.size hbg, rest⟩
structure SideP where
  x : Item
  hangs : Bool
  path : ByteArray
def sideP (L : List Item) (m : Stamp) : SideP := ⟨gotI L m, hangsI L 301 m, ofB L m⟩
def kindP (a b : SideP) : Int :=
  if a.hangs = false ∧ b.hangs = false then 0 else if a.hangs = false then 1 else if b.hangs = false then 2 else if a.path ≠ b.path then 3
  else if a.x.by_ ≠ b.x.by_ ∨ a.x.data ≠ b.x.data then 4 else 0
structure ChgD where
  kind : Int
  node : Stamp
  fr : ByteArray
  tt : ByteArray
  deriving DecidableEq
def chg1 (La Lb : List Item) (m : Stamp) : List ChgD := if kindP (sideP La m) (sideP Lb m) = 0 then [] else [⟨kindP (sideP La m) (sideP Lb m), m, (sideP La m).path, (sideP Lb m).path⟩]
def chgs (La Lb : List Item) (D : List Stamp) : List ChgD := D.flatMap (chg1 La Lb)
def nodesI (L : List Item) : List Stamp := L.map (·.node)
end Go.Proofs.YtefhfoioeoijlaaGreatDoor
set_option linter.unusedVariables false
set_option linter.unusedSimpArgs false
namespace Go.Proofs.YtefhfoioeoijlaaGreatDoor
open Go Go.RowKit Go.Sort
set_option maxHeartbeats 2000000 in
theorem tget_nil {w : World} (m1 m2 : Int) : Calls Tryz.prog 20 #[.pointer none, .agg #[.int .i64 m1, .int .i64 m2]] w fun e w' => e = .returned (.tuple #[.agg #[.int .i64 0, .int .i64 0, .int .i64 0, .int .i64 0, .string ⟨#[]⟩, .bool false, .bool false, .slice none 0 0, .int .i64 0, .int .i64 0], .bool false]) ∧ Up w w' := by
  go_enter Tryz.func20, Tryz.ntmps20
  refine wp_seq (rg_lit (wl (sn rfl (cs := #[I_ m1, I_ m2]) (T := 24) (V := fun b => pt b 0) (r_box (v := .agg #[I_ m1, I_ m2]) (by kernel_rfl) rfl) fun b1 w2 e3 h4 u5 => ?_)))
  have M7 := mtu (Mod.refl [] w) u5
  refine wl (sn rfl (cs := #[I_ 0, I_ 0, I_ 0, I_ 0, S_ (⟨#[]⟩), B_ false, B_ false, .slice none 0 0, I_ 0, I_ 0]) (T := 42) (V := fun b => pt b 0) (r_alloc Ty.zv42 rfl) fun b8 w9 e10 h11 u12 => ?_)
  have g14 := gsz e10 M7
  have M15 := mtu M7 u12
  refine was (v := B_ false) (wnil (then_n (wp_seq (wp_seq (rg_lit (wmv (v := .pointer none) (wl (sv (w' := w9) rfl (v := B_ true) (by kernel_rfl) (wnil (then_n (wp_cond_true (by kernel_rfl) (wp_seq (rg_lit (wlv (v := .agg #[I_ 0, I_ 0, I_ 0, I_ 0, S_ (⟨#[]⟩), B_ false, B_ false, .slice none 0 0, I_ 0, I_ 0]) (r_build (ps := []) (cs := [I_ 0, I_ 0, I_ 0, I_ 0, S_ (⟨#[]⟩), B_ false, B_ false, .slice none 0 0, I_ 0, I_ 0]) Ty.un42 Ty.zv42 Ty.pl42 (by kernel_rfl) (by kernel_rfl)) (wl (ss rfl (k := 0) (v := .agg #[I_ 0, I_ 0, I_ 0, I_ 0, S_ (⟨#[]⟩), B_ false, B_ false, .slice none 0 0, I_ 0, I_ 0]) (vs := [I_ 0, I_ 0, I_ 0, I_ 0, S_ (⟨#[]⟩), B_ false, B_ false, .slice none 0 0, I_ 0, I_ 0]) (cs' := [I_ 0, I_ 0, I_ 0, I_ 0, S_ (⟨#[]⟩), B_ false, B_ false, .slice none 0 0, I_ 0, I_ 0]) (by kernel_rfl) (by kernel_rfl) rfl Ty.sz42 h11 rfl (Nat.le_of_ble_eq_true rfl) rfl fun w16 h17 c18 => ?_))))))))))))))))
  have M19 := mtn M15 c18 g14
  refine was (v := B_ false) (wnil (then_n (wp_ret (then_x (by nofun) ?_))))
  refine bodyPost_ret (v := .tuple #[.agg #[I_ 0, I_ 0, I_ 0, I_ 0, S_ (⟨#[]⟩), B_ false, B_ false, .slice none 0 0, I_ 0, I_ 0], B_ false]) (res2 rfl (rv_c (p := ⟨b8, 0, none⟩) (by kernel_rfl) (run_loadVars (vs := [I_ 0, I_ 0, I_ 0, I_ 0, S_ (⟨#[]⟩), B_ false, B_ false, .slice none 0 0, I_ 0, I_ 0]) Ty.ag42 Ty.sz42 h17 (by kernel_rfl))) (rv_t (by kernel_rfl))) (by kernel_rfl) ?_
  exact ⟨rfl, (Mod.up M19)⟩
set_option maxHeartbeats 2000000 in
theorem tsome_nil1 {w : World}  : Calls Tryz.prog 97 #[.pointer none, .func (.func 100) #[] #[]] w fun e w' => e = .returned (.slice none 0 0) ∧ Up w w' := by
  go_enter Tryz.func97, Tryz.ntmps97
  refine wp_seq (rg_lit (was (v := .slice none 0 0) (wnil (then_n (wp_seq (wp_seq (rg_lit (wmv (v := .pointer none) (wl (sv (w' := w) rfl (v := B_ true) (by kernel_rfl) (wnil (then_n (wp_cond_true (by kernel_rfl) (wp_seq (rg_lit (was (v := .slice none 0 0) ?_))))))))))))))))
  refine wnil (then_n (wp_ret (then_x (by nofun) ?_)))
  refine br1 (v := .slice none 0 0) rfl ?_
  exact ⟨rfl, (Mod.up (Mod.refl [] w))⟩
set_option maxHeartbeats 2000000 in
theorem tall_nil {w : World}  : Calls Tryz.prog 41 #[.pointer none] w fun e w' => e = .returned (.slice none 0 0) ∧ Up w w' := by
  go_enter Tryz.func41, Tryz.ntmps41
  refine wp_seq (rg_lit (was (v := .slice none 0 0) (wnil (then_n (wp_seq (rg_lit (wmv (v := .pointer none) (wl (sca [.pointer none, .func (.func 100) #[] #[]] En.f97 (tsome_nil1) ?_)))))))))
  rintro e w1 ⟨rfl, u2⟩
  refine ⟨_, rfl, ?_⟩
  have M3 := mtu (Mod.refl [] w) u2
  refine was (v := .slice none 0 0) (wnil (then_n (wp_ret ?_)))
  refine br1 (v := .slice none 0 0) rfl ?_
  exact ⟨rfl, (Mod.up M3)⟩
set_option maxHeartbeats 2000000 in
theorem thangs_nil {w : World} (m1 m2 : Int) : Calls Tryz.prog 39 #[.pointer none, .agg #[.int .i64 m1, .int .i64 m2]] w fun e w' => e = .returned (.bool false) ∧ Up w w' := by
  go_enter Tryz.func39, Tryz.ntmps39
  refine wp_seq (rg_lit (wl (sn rfl (cs := #[I_ m1, I_ m2]) (T := 24) (V := fun b => pt b 0) (r_box (v := .agg #[I_ m1, I_ m2]) (by kernel_rfl) rfl) fun b1 w2 e3 h4 u5 => ?_)))
  have M7 := mtu (Mod.refl [] w) u5
  refine was (v := B_ false) (wnil (then_n (wp_seq (wp_seq (rg_lit (wmv (v := .pointer none) (wl (sv (w' := w2) rfl (v := B_ true) (by kernel_rfl) (wnil (then_n (wp_cond_true (by kernel_rfl) (wp_seq (rg_lit (was (v := B_ false) (wnil (then_n (wp_ret (then_x (by nofun) ?_))))))))))))))))))
  refine br1 (v := B_ false) rfl ?_
  exact ⟨rfl, (Mod.up M7)⟩
end Go.Proofs.YtefhfoioeoijlaaGreatDoor
set_option linter.unusedVariables false
set_option linter.unusedSimpArgs false
namespace Go.Proofs.YtefhfoioeoijlaaGreatDoor
open Go Go.RowKit Go.Sort
def OT (B : Nat) (w : World) (p : Option Addr) (L : List Item) : Prop := (∃ tb r, p = some ⟨tb, 0, none⟩ ∧ TreeIs B w tb r L) ∨ (p = none ∧ L = [])
theorem OT.up {B : Nat} {w w' : World} {p : Option Addr} {L : List Item} (h : OT B w p L) (u : Up w w') : OT B w' p L := by
  rcases h with ⟨tb, r, e, h⟩ | h
  · exact .inl ⟨tb, r, e, h.up u⟩
  · exact .inr h
theorem OT.of {B : Nat} {w : World} {tb r : Nat} {L : List Item} (h : TreeIs B w tb r L) : OT B w (some ⟨tb, 0, none⟩) L := .inl ⟨tb, r, rfl, h⟩
theorem allO_at {B : Nat} {w : World} {p : Option Addr} {L : List Item} (h : OT B w p L) (hB : B ≤ w.heap.size) : Calls Tryz.prog 41 #[.pointer p] w fun e w' => ∃ A c, e = .returned (.slice A L.length c) ∧ IRow 42 B w.heap.size w' (.slice A L.length c) L ∧ Up w w' := by
  rcases h with ⟨tb, r, rfl, h⟩ | ⟨rfl, rfl⟩
  · refine (all_at h hB).mono ?_
    rintro e w' ⟨v, rfl, hr, u⟩
    obtain ⟨A, c, rfl⟩ := hr.form
    exact ⟨A, c, rfl, hr, u⟩
  · refine tall_nil.mono ?_
    rintro e w' ⟨rfl, u⟩
    exact ⟨none, 0, rfl, IRow.nil _ _ _ _, u⟩
theorem getO_at {B : Nat} {w : World} {p : Option Addr} {L : List Item} (h : OT B w p L) (m1 m2 : Int) : Calls Tryz.prog 20 #[.pointer p, .agg #[.int .i64 m1, .int .i64 m2]] w fun e w' =>
    ∃ A k c, e = .returned (.tuple #[itV (gotI L ⟨m1, m2⟩) (.slice A k c), .bool (hasI L ⟨m1, m2⟩)]) ∧ Dat B w' (.slice A k c) (gotI L ⟨m1, m2⟩).data ∧ Up w w' := by
  rcases h with ⟨tb, r, rfl, h⟩ | ⟨rfl, rfl⟩
  · exact get_x h ⟨m1, m2⟩ rfl rfl
  · refine (tget_nil m1 m2).mono ?_
    rintro e w' ⟨rfl, u⟩
    exact ⟨none, 0, 0, rfl, Dat.nil B w', u⟩
theorem hangsO_no (m : Stamp) (hm : m ≠ nilS) : hangsI [] 301 m = false := by
  show hangsI [] (300 + 1) m = false
  rw [hangsI, if_neg hm]; rfl
theorem hangsO_at {B : Nat} {w : World} {p : Option Addr} {L : List Item} (h : OT B w p L) (m1 m2 : Int) (hm : (⟨m1, m2⟩ : Stamp) ≠ nilS) : Calls Tryz.prog 39 #[.pointer p, .agg #[.int .i64 m1, .int .i64 m2]] w fun e w' => e = .returned (.bool (hangsI L 301 ⟨m1, m2⟩)) ∧ Up w w' := by
  rcases h with ⟨tb, r, rfl, h⟩ | ⟨rfl, rfl⟩
  · exact hangs_at h m1 m2
  · rw [hangsO_no _ hm]; exact thangs_nil m1 m2
end Go.Proofs.YtefhfoioeoijlaaGreatDoor
set_option linter.unusedVariables false
set_option linter.unusedSimpArgs false
namespace Go.Proofs.YtefhfoioeoijlaaGreatDoor
open Go Go.RowKit Go.Sort
def chC (x : ChgD) : List Value := [.int .i64 x.kind, .int .i64 x.node.t, .int .i64 x.node.w, .string x.fr, .string x.tt]
def chV (x : ChgD) : Value := .agg #[.int .i64 x.kind, .int .i64 x.node.t, .int .i64 x.node.w, .string x.fr, .string x.tt]
def flatC (L : List ChgD) : List Value := L.flatMap chC
def CRow (T : TypeId) (base : Nat) (w : World) (v : Value) (L : List ChgD) : Prop := w.ownsRow base T 5 v L.length (flatC L)
theorem CRow.nil (T : TypeId) (base : Nat) (w : World) : CRow T base w (.slice none 0 0) [] := World.ownsRow_nil w base _ 5
theorem CRow.keep {T : TypeId} {base : Nat} {w w' : World} {v : Value} {L : List ChgD} (h : CRow T base w v L) {q : Option Nat} (hg : w.grownBy w' q) (hv : v.ownBlock = none ∨ v.ownBlock ≠ q) : CRow T base w' v L := World.ownsRow.kept h hg hv
theorem CRow.up {T : TypeId} {base : Nat} {w w' : World} {v : Value} {L : List ChgD} (h : CRow T base w v L) (hb : Up w w') : CRow T base w' v L :=
  h.keep (q := none) ⟨hb.os, hb.tape, hb.output, hb.size, fun k hk _ => hb.block k hk⟩ (by cases hv : v.ownBlock <;> simp)
theorem CRow.form {T : TypeId} {base : Nat} {w : World} {v : Value} {L : List ChgD} (h : CRow T base w v L) : ∃ A c, v = .slice A L.length c := by
  obtain ⟨_, ⟨rfl, h0⟩ | ⟨g, cap, cur, rfl, _⟩⟩ := h
  · exact ⟨none, 0, by rw [h0]⟩
  · exact ⟨_, cap, rfl⟩
theorem CRow.own {T : TypeId} {base : Nat} {w : World} {v : Value} {L : List ChgD} (h : CRow T base w v L) : ∀ k, v.ownBlock = some k → base ≤ k ∧ k < w.heap.size := World.ownsRow.lt h
theorem CRow.ne_old {T : TypeId} {base b : Nat} {w : World} {v : Value} {L : List ChgD} (h : CRow T base w v L) (e : b < base) : v.ownBlock ≠ some b := fun hh => by have := (h.own _ hh).1; omega
theorem CRow.base {T : TypeId} {base base' : Nat} {w : World} {v : Value} {L : List ChgD} (h : CRow T base w v L) (hb : base' ≤ base) : CRow T base' w v L := by
  obtain ⟨h1, h2⟩ := h
  refine ⟨h1, ?_⟩
  rcases h2 with hn | ⟨g, cap, cur, hv, hbg, rest⟩
  · exact .inl hn
  · exact .inr ⟨g, cap, cur, hv, Nat.le_trans hb hbg, rest⟩
def Ch5 (T : TypeId) : Prop := ∃ i z, Tryz.prog.info? T = some i ∧ i.zero = some z ∧ i.size = 5 ∧ i.bytes = 56 ∧ z.cells.size = 5
theorem ch5_a : Ch5 61 := by
  have h : (Tryz.prog.info? 61).map (fun i => (i.zero.map (·.cells.size), i.size, i.bytes)) = some (some 5, 5, 56) := by kernel_rfl
  unfold Ch5
  cases hi : Tryz.prog.info? 61 with
  | none => rw [hi] at h; cases h
  | some i =>
    rw [hi] at h; simp at h
    obtain ⟨⟨z, hz, h1⟩, h2, h3⟩ := h
    exact ⟨i, z, rfl, hz, h2, h3, h1⟩
theorem ch5_b : Ch5 117 := by
  have h : (Tryz.prog.info? 117).map (fun i => (i.zero.map (·.cells.size), i.size, i.bytes)) = some (some 5, 5, 56) := by kernel_rfl
  unfold Ch5
  cases hi : Tryz.prog.info? 117 with
  | none => rw [hi] at h; cases h
  | some i =>
    rw [hi] at h; simp at h
    obtain ⟨⟨z, hz, h1⟩, h2, h3⟩ := h
    exact ⟨i, z, rfl, hz, h2, h3, h1⟩
theorem flatC_app (L M : List ChgD) : flatC (L ++ M) = flatC L ++ flatC M := by simp [flatC]
theorem CRow.snoc {T : TypeId} {base : Nat} {w : World} {v : Value} {L : List ChgD} (h5 : Ch5 T) (h : CRow T base w v L) {t ty : TypeId} (ht : Tryz.prog.underlying t = some (.slice T)) {b : Nat} {x : ChgD} (hb : w.heap[b]? = some (.cells #[.int .i64 x.kind, .int .i64 x.node.t, .int .i64 x.node.w, .string x.fr, .string x.tt] T (0, 0))) (hbase : base ≤ w.heap.size) (hlen : L.length ≤ 100000) :
    ∃ v' w', (Builtin.append_ #[t, t] ty #[v, .slice (some ⟨b, 0, none⟩) 1 1]).run Tryz.prog w = .ok v' w' ∧ CRow T base w' v' (L ++ [x]) ∧ w.grownBy w' v.ownBlock := by
  obtain ⟨i, z, hi, hz, hsize, hby, hzs⟩ := h5
  obtain ⟨v', w', h1, h2, h3, h4⟩ := run_append_own (P := Tryz.prog) w base t ty T i z 5 56 ht hi hz hsize hby hzs (by decide) v L.length (flatC L) h ⟨b, 0, none⟩ 1 1 (chC x) (by simp [chC])
    (fun j u hj => by
      rw [add_at, Nat.zero_add]
      simp only [World.cell?, hb]; simpa [chC] using hj) (by intro u hu; simp [chC] at hu; rcases hu with rfl | rfl | rfl | rfl | rfl <;> rfl) (by unfold maxLen; omega) (by omega) hbase
  refine ⟨v', w', h1, ?_, h3⟩
  unfold CRow
  rw [flatC_app]
  simpa [flatC] using h2
theorem snC {ops : Array Oper} {Q : Exit → Act → World → Prop} {a : Act} {w : World} {J : Act → World → Prop} {d : Option Tmp} {ty : TypeId} {pos : String} {af : Array Edge} {g : Option (Nat × Bool)}
    {T : TypeId} {base : Nat} {v : Value} {L : List ChgD} {t : TypeId} {s p : Operand} {b : Nat} {x : ChgD} (h5 : Ch5 T)
    (hw : Region.wanted (⟨d, .call ⟨.builtin .append, #[s, p], #[t, t]⟩, ty, pos, af, g⟩ : Oper) (yielded ops a.tmps) = true) (hs : a.eval s = v) (hy : a.eval p = .slice (some ⟨b, 0, none⟩) 1 1)
    (h : CRow T base w v L) (ht : Tryz.prog.underlying t = some (.slice T)) (hb : w.heap[b]? = some (.cells #[.int .i64 x.kind, .int .i64 x.node.t, .int .i64 x.node.w, .string x.fr, .string x.tt] T (0, 0))) (hbase : base ≤ w.heap.size) (hlen : L.length ≤ 100000)
    (k : ∀ A c w', CRow T base w' (.slice A (L ++ [x]).length c) (L ++ [x]) → w.grownBy w' v.ownBlock → J (a.put d (.slice A (L ++ [x]).length c)) w') : St1 Tryz.prog ops Q ⟨d, .call ⟨.builtin .append, #[s, p], #[t, t]⟩, ty, pos, af, g⟩ J a w := by
  obtain ⟨v', w', h1, h2, h3⟩ := h.snoc (ty := ty) h5 ht hb hbase hlen
  obtain ⟨A, c, rfl⟩ := h2.form
  refine sv hw ?_ (k A c w' h2 h3)
  simp [execOp, resolve, invoke, builtin, hs, hy, h1]
theorem flatC_get : ∀ {L : List ChgD} {i k : Nat} {x : ChgD}, L[i]? = some x → k < 5 → (flatC L)[i * 5 + k]? = (chC x)[k]?
  | y :: L, 0, k, x, h, hk => by simp at h; subst h; show (chC y ++ flatC L)[0 * 5 + k]? = _; rw [List.getElem?_append_left (by simp [chC]; omega), Nat.zero_mul, Nat.zero_add]
  | y :: L, i + 1, k, x, h, hk => by
    have ih := flatC_get (L := L) (i := i) (k := k) (x := x) (by simpa using h) hk
    show (chC y ++ flatC L)[(i + 1) * 5 + k]? = _
    rw [List.getElem?_append_right (by simp [chC]; omega), show (i + 1) * 5 + k - (chC y).length = i * 5 + k by simp [chC]; omega]
    exact ih
theorem CRow.get {T : TypeId} {base : Nat} {w : World} {A : Option Addr} {n c i : Nat} {L : List ChgD} {x : ChgD} (h : CRow T base w (.slice A n c) L) (hx : L[i]? = some x) :
    ∃ g, A = some ⟨g, 0, none⟩ ∧ g < w.heap.size ∧ (∀ k u, (chC x)[k]? = some u → w.cell? ⟨g, i * 5 + k, none⟩ = some u) ∧ ∃ cur, w.heap[g]? = some (.cells cur T (0, 0)) ∧ (cur.toList.drop (i * 5)).take 5 = chC x := by
  obtain ⟨hl, ⟨e, h0⟩ | ⟨g, cap, cur, e, hb, hg, hc, hm, hcs, htk⟩⟩ := h
  · have := (List.getElem?_eq_some_iff.1 hx).1; omega
  · injection e with e1 _ e3
    have hil := (List.getElem?_eq_some_iff.1 hx).1
    have hget : ∀ k, k < 5 → cur.toList[i * 5 + k]? = (chC x)[k]? := fun k hk => by
      have h1 := flatC_get hx hk
      rw [← htk, List.getElem?_take, if_pos (by omega)] at h1
      exact h1
    refine ⟨g, e1, lt_ob hg, fun k u hu => ?_, cur, hg, ?_⟩
    · have hk : k < 5 := by have := (List.getElem?_eq_some_iff.1 hu).1; simpa [chC] using this
      simp only [World.cell?, hg]
      rw [← Array.getElem?_toList, hget k hk, hu]; rfl
    · refine List.ext_getElem? fun k => ?_
      by_cases hk : k < 5
      · rw [List.getElem?_take, if_pos hk, List.getElem?_drop, hget k hk]
      · rw [List.getElem?_eq_none (by rw [List.length_take]; omega), List.getElem?_eq_none (by simp [chC]; omega)]
def LookAt (w : World) (v : Value) (p : Option Addr) : Prop := ∃ b1 b2 b3, v = .func (.func 133) #[] #[.pointer (some ⟨b1, 0, none⟩), .pointer (some ⟨b2, 0, none⟩), .pointer (some ⟨b3, 0, none⟩)] ∧
  w.heap[b1]? = some (.cells #[.func (.func 20) #[.pointer p] #[]] 44 (0, 0)) ∧ w.heap[b2]? = some (.cells #[.pointer p] 27 (0, 0)) ∧ w.heap[b3]? = some (.cells #[.func (.func 39) #[.pointer p] #[]] 76 (0, 0))
def sdV (s : SideP) (d : Value) : Value := .agg #[.int .i64 s.x.node.t, .int .i64 s.x.node.w, .int .i64 s.x.parent.t, .int .i64 s.x.parent.w, .string s.x.name, .bool s.x.dir, .bool s.x.gone, d, .int .i64 s.x.by_.t, .int .i64 s.x.by_.w, .bool s.hangs, .string s.path]
theorem kind_0 {a b : SideP} (h1 : a.hangs = false) (h2 : b.hangs = false) : kindP a b = 0 := by simp [kindP, h1, h2]
theorem kind_1 {a b : SideP} (h1 : a.hangs = false) (h2 : b.hangs = true) : kindP a b = 1 := by simp [kindP, h1, h2]
theorem kind_2 {a b : SideP} (h1 : a.hangs = true) (h2 : b.hangs = false) : kindP a b = 2 := by simp [kindP, h1, h2]
theorem kind_3 {a b : SideP} (h1 : a.hangs = true) (h2 : b.hangs = true) (h3 : a.path ≠ b.path) : kindP a b = 3 := by simp [kindP, h1, h2, h3]
theorem kind_4 {a b : SideP} (h1 : a.hangs = true) (h2 : b.hangs = true) (h3 : a.path = b.path) (h4 : a.x.by_ ≠ b.x.by_ ∨ a.x.data ≠ b.x.data) : kindP a b = 4 := by
  simp only [kindP, h1, h2, h3]; simp [h4]
theorem kind_5 {a b : SideP} (h1 : a.hangs = true) (h2 : b.hangs = true) (h3 : a.path = b.path) (h4 : a.x.by_ = b.x.by_) (h5 : a.x.data = b.x.data) : kindP a b = 0 := by simp [kindP, h1, h2, h3, h4, h5]
end Go.Proofs.YtefhfoioeoijlaaGreatDoor
set_option linter.unusedVariables false
set_option linter.unusedSimpArgs false
namespace Go.Proofs.YtefhfoioeoijlaaGreatDoor
open Go Go.RowKit Go.Sort
theorem bytes_eqV {xs ys : List Int} (hx : ∀ x ∈ xs, 0 ≤ x ∧ x < 256) (hy : ∀ x ∈ ys, 0 ≤ x ∧ x < 256) : (Lib.bytesOf xs == Lib.bytesOf ys) = decide (xs = ys) := by
  rw [Bool.eq_iff_iff]; simp only [beq_iff_eq, decide_eq_true_eq]
  refine ⟨fun h => ?_, fun h => by rw [h]⟩
  unfold Lib.bytesOf at h
  induction xs generalizing ys with
  | nil => cases ys with
    | nil => rfl
    | cons _ _ => cases h
  | cons x xs ih => cases ys with
    | nil => cases h
    | cons y ys =>
      simp only [List.map_cons, List.cons.injEq] at h
      have h1 := hx x (by simp)
      have h2 := hy y (by simp)
      have h3 : x.toNat % 256 = y.toNat % 256 := by have := congrArg UInt8.toNat h.1; simpa using this
      rw [ih (fun z hz => hx z (by simp [hz])) (fun z hz => hy z (by simp [hz])) h.2, show x = y by omega]
theorem Dat.bytesInV {B : Nat} {w : World} {A : Option Addr} {n c : Nat} {xs : List Int} (h : Dat B w (.slice A n c) xs) : Lib.BytesIn w A n xs ∧ ∀ x ∈ xs, 0 ≤ x ∧ x < 256 := by
  obtain ⟨A', n', c', e, h1, h2, h3, h4, h5⟩ := h
  injection e with e1 e2 e3
  subst e1; subst e2; subst e3
  refine ⟨?_, h4⟩
  cases A with
  | none =>
    have : n = 0 := by
      rcases Nat.eq_zero_or_pos n with h0 | h0
      · exact h0
      · obtain ⟨b, o, e, _⟩ := h5 h0; cases e
    subst this
    obtain rfl : xs = [] := List.eq_nil_of_length_eq_zero h1
    exact Lib.BytesIn.nil _ _ _
  | some p =>
    refine Lib.BytesIn.of_cells fun i hi => ?_
    obtain ⟨b, o, e, _, _, hc⟩ := h5 (by omega)
    injection e with e; subst e
    rw [add_at]; exact hc i hi
theorem bequalV_at {B B' : Nat} {w : World} {A A' : Option Addr} {n c m c' : Nat} {xs ys : List Int} (hx : Dat B w (.slice A n c) xs) (hy : Dat B' w (.slice A' m c') ys) :
    Calls Tryz.prog 138 #[.slice A n c, .slice A' m c'] w fun e w' => e = .returned (.bool (decide (xs = ys))) ∧ Up w w' := by
  have h1 := hx.bytesInV
  have h2 := hy.bytesInV
  refine (Tryz.bytes_Equal_all A A' n c m c' xs ys w hx.len.1 hy.len.1 h1.1 h2.1).mono ?_
  rintro e w' ⟨rfl, rfl⟩
  exact ⟨by rw [bytes_eqV h1.2 h2.2], Below.refl _ _⟩
end Go.Proofs.YtefhfoioeoijlaaGreatDoor
set_option linter.unusedVariables false
set_option linter.unusedSimpArgs false
namespace Go.Proofs.YtefhfoioeoijlaaGreatDoor
open Go Go.RowKit Go.Sort
set_option maxHeartbeats 2000000 in
theorem ofNo_at {w : World} (m1 m2 : Int) : Calls Tryz.prog 42 #[.pointer none, .agg #[.int .i64 m1, .int .i64 m2]] w fun e w' => e = .returned (.tuple #[.string ⟨#[]⟩, .int .i64 23]) ∧ Up w w' := by
  go_enter Tryz.func42, Tryz.ntmps42
  refine wp_seq (rg_lit (wl (sn rfl (cs := #[I_ m1, I_ m2]) (T := 24) (V := fun b => pt b 0) (r_box (v := .agg #[I_ m1, I_ m2]) (by kernel_rfl) rfl) fun pb w1 e2 h3 u4 => ?_)))
  have M6 := mtu (Mod.refl [] w) u4
  refine was (v := S_ (⟨#[]⟩)) (was (v := I_ 0) (wnil (then_n (wp_seq (wp_block (wp_seq (rg_lit (wmv (v := .pointer none) (wl (sv (w' := w1) rfl (v := B_ true) (by kernel_rfl) (was (v := B_ true) (wnil (then_n (wp_cond_true (by kernel_rfl) (wp_seq (rg_lit ?_))))))))))))))))
  refine was (v := S_ (⟨#[]⟩)) (was (v := I_ 23) (wnil (then_n (wp_ret (inb_r (then_x (by nofun) ?_))))))
  refine br2 (v := S_ (⟨#[]⟩)) (u := I_ 23) rfl ?_
  exact ⟨rfl, (Mod.up M6)⟩
theorem ofO_at {B : Nat} {w : World} {p : Option Addr} {L : List Item} (h : OT B w p L) (hB : B ≤ w.heap.size) (hF : Fit L) (htab : Tab w) (m1 m2 : Int) (hm : (⟨m1, m2⟩ : Stamp) ≠ nilS) :
    Calls Tryz.prog 42 #[.pointer p, .agg #[.int .i64 m1, .int .i64 m2]] w fun e w' => ∃ k : Int, e = .returned (.tuple #[.string (ofB L ⟨m1, m2⟩), .int .i64 k]) ∧ Up w w' := by
  rcases h with ⟨tb, r, rfl, h⟩ | ⟨rfl, rfl⟩
  · exact (of_at h hB hF htab m1 m2).mono fun e w' ⟨h1, h2⟩ => ⟨_, h1, h2⟩
  · refine (ofNo_at m1 m2).mono fun e w' ⟨h1, h2⟩ => ⟨23, ?_, h2⟩
    rw [h1, (of_no (hangsO_no _ hm)).1]
set_option maxHeartbeats 2000000 in
theorem kind_at {B B' : Nat} {w : World} {a b : SideP} {A1 A2 : Option Addr} {n1 c1 n2 c2 : Nat} (hda : Dat B w (.slice A1 n1 c1) a.x.data) (hdb : Dat B' w (.slice A2 n2 c2) b.x.data) :
    Calls Tryz.prog 76 #[.agg #[.int .i64 a.x.node.t, .int .i64 a.x.node.w, .int .i64 a.x.parent.t, .int .i64 a.x.parent.w, .string a.x.name, .bool a.x.dir, .bool a.x.gone, .slice A1 n1 c1, .int .i64 a.x.by_.t, .int .i64 a.x.by_.w, .bool a.hangs, .string a.path], .agg #[.int .i64 b.x.node.t, .int .i64 b.x.node.w, .int .i64 b.x.parent.t, .int .i64 b.x.parent.w, .string b.x.name, .bool b.x.dir, .bool b.x.gone, .slice A2 n2 c2, .int .i64 b.x.by_.t, .int .i64 b.x.by_.w, .bool b.hangs, .string b.path]] w fun e w' => e = .returned (.int .i64 (kindP a b)) ∧ Up w w' := by
  go_enter Tryz.func76, Tryz.ntmps76
  refine wp_seq (rg_lit (wl (sn rfl (cs := #[I_ a.x.node.t, I_ a.x.node.w, I_ a.x.parent.t, I_ a.x.parent.w, S_ a.x.name, B_ a.x.dir, B_ a.x.gone, .slice A1 n1 c1, I_ a.x.by_.t, I_ a.x.by_.w, B_ a.hangs, S_ a.path]) (T := 123) (V := fun b => pt b 0) (r_box (v := .agg #[I_ a.x.node.t, I_ a.x.node.w, I_ a.x.parent.t, I_ a.x.parent.w, S_ a.x.name, B_ a.x.dir, B_ a.x.gone, .slice A1 n1 c1, I_ a.x.by_.t, I_ a.x.by_.w, B_ a.hangs, S_ a.path]) (by kernel_rfl) rfl) fun pb w1 e2 h3 u4 => ?_)))
  have M6 := mtu (Mod.refl [] w) u4
  refine wl (sn rfl (cs := #[I_ b.x.node.t, I_ b.x.node.w, I_ b.x.parent.t, I_ b.x.parent.w, S_ b.x.name, B_ b.x.dir, B_ b.x.gone, .slice A2 n2 c2, I_ b.x.by_.t, I_ b.x.by_.w, B_ b.hangs, S_ b.path]) (T := 123) (V := fun b => pt b 0) (r_box (v := .agg #[I_ b.x.node.t, I_ b.x.node.w, I_ b.x.parent.t, I_ b.x.parent.w, S_ b.x.name, B_ b.x.dir, B_ b.x.gone, .slice A2 n2 c2, I_ b.x.by_.t, I_ b.x.by_.w, B_ b.hangs, S_ b.path]) (by kernel_rfl) rfl) fun pc w7 e8 h9 u10 => ?_)
  have M13 := mtu M6 u10
  refine was (v := I_ 0) (wnil (then_n (wp_seq (wp_block (wp_seq (rg_lit (wlv (v := pt pb 10) (fa (pt pb 0)) ?_)))))))
  have h14 := (up_ob u10 h3)
  refine wlv (v := B_ a.hangs) (ld 10 Ty.ag4 h14) (wlv (v := B_ (!a.hangs)) (r_not (b := a.hangs) (by kernel_rfl)) (wmv (v := B_ (!a.hangs)) ?_))
  refine bcase a.hangs (fun v15 => ?_) (fun v15 => ?_)
  ·
   refine wlw rfl (bneg v15) (v := pt pc 10) (fa (pt pc 0)) (wlw rfl (bneg v15) (v := B_ b.hangs) (ld 10 Ty.ag4 h9) (wlw rfl (bneg v15) (v := B_ (!b.hangs)) (r_not (b := b.hangs) (by kernel_rfl)) (wlv (v := B_ (!b.hangs)) (pkT (eb (bneg v15))) (was (v := B_ (!b.hangs)) (wnil (then_n ?_))))))
   refine bcase b.hangs (fun v16 => ?_) (fun v16 => ?_)
   ·
    refine wp_cond_true (eb (bneg v16)) (wp_seq (rg_lit (was (v := I_ 0) (wnil (then_n (wp_ret (inb_r (then_x (by nofun) ?_))))))))
    refine br1 (v := I_ 0) rfl ?_
    exact ⟨by rw [kind_0 v15 v16], (Mod.up M13)⟩
   refine wp_cond_false (eb (bneg v16)) (wp_seq (rg_lit (wlv (v := pt pb 10) (fa (pt pb 0)) (wlv (v := B_ a.hangs) (ld 10 Ty.ag4 h14) (wlv (v := B_ (!a.hangs)) (r_not (b := a.hangs) (by kernel_rfl)) (was (v := B_ (!a.hangs)) (wnil (then_n (wp_cond_true (eb (bneg v15)) (wp_seq (rg_lit ?_)))))))))))
   refine was (v := I_ 1) (wnil (then_n (wp_ret (inb_r (then_x (by nofun) ?_)))))
   refine br1 (v := I_ 1) rfl ?_
   exact ⟨by rw [kind_1 v15 v16], (Mod.up M13)⟩
  iterate 3 refine wls rfl (bneg v15) ?_
  refine wlv (v := B_ false) (pkF (eb (bneg v15))) (was (v := B_ false) (wnil (then_n (wp_cond_false (by kernel_rfl) (wp_seq (rg_lit (wlv (v := pt pb 10) (fa (pt pb 0)) (wlv (v := B_ a.hangs) (ld 10 Ty.ag4 h14) (wlv (v := B_ (!a.hangs)) (r_not (b := a.hangs) (by kernel_rfl)) (was (v := B_ (!a.hangs)) ?_))))))))))
  refine wnil (then_n (wp_cond_false (eb (bneg v15)) (wp_seq (rg_lit (wlv (v := pt pc 10) (fa (pt pc 0)) (wlv (v := B_ b.hangs) (ld 10 Ty.ag4 h9) (wlv (v := B_ (!b.hangs)) (r_not (b := b.hangs) (by kernel_rfl)) (was (v := B_ (!b.hangs)) (wnil (then_n ?_))))))))))
  refine bcase b.hangs (fun v16 => ?_) (fun v16 => ?_)
  ·
   refine wp_cond_true (eb (bneg v16)) (wp_seq (rg_lit (was (v := I_ 2) (wnil (then_n (wp_ret (inb_r (then_x (by nofun) ?_))))))))
   refine br1 (v := I_ 2) rfl ?_
   exact ⟨by rw [kind_2 v15 v16], (Mod.up M13)⟩
  refine wp_cond_false (eb (bneg v16)) (wp_seq (rg_lit (wlv (v := pt pb 11) (fa (pt pb 0)) (wlv (v := S_ a.path) (ld 11 Ty.ag9 h14) (wlv (v := pt pc 11) (fa (pt pc 0)) (wlv (v := S_ b.path) (ld 11 Ty.ag9 h9) (wl (sb rfl (r_nes (m := a.path) (n := b.path) (by kernel_rfl) (by kernel_rfl)) fun b17 k18 => was (v := B_ b17) (wnil (then_n ?_))))))))))
  refine bcd k18 (fun v19 p20 => ?_) (fun v19 p20 => ?_)
  ·
   refine wp_cond_false (eb v19) (wp_seq (rg_lit (wlv (v := pt pb 0) (fa (pt pb 0)) (wlv (v := pt pb 8) (fa (pt pb 0)) (wlv (v := .agg #[I_ a.x.by_.t, I_ a.x.by_.w]) (lds 8 Ty.ag24 Ty.sz24 h14) (wlv (v := pt pc 0) (fa (pt pc 0)) (wlv (v := pt pc 8) (fa (pt pc 0)) (wlv (v := .agg #[I_ b.x.by_.t, I_ b.x.by_.w]) (lds 8 Ty.ag24 Ty.sz24 h9) (wl (sb rfl (r_neS2 (a := a.x.by_.t) (b := a.x.by_.w) (c := b.x.by_.t) (e := b.x.by_.w) (by kernel_rfl) (by kernel_rfl)) fun b21 k22 => ?_))))))))))
   refine wmv (v := B_ b21) ?_
   refine bcd k22 (fun v23 p24 => ?_) (fun v23 p24 => ?_)
   ·
    refine wlw rfl v23 (v := pt pb 0) (fa (pt pb 0)) (wlw rfl v23 (v := pt pb 7) (fa (pt pb 0)) (wlw rfl v23 (v := .slice A1 n1 c1) (ld 7 Ty.ag40 h14) (wlw rfl v23 (v := pt pc 0) (fa (pt pc 0)) (wlw rfl v23 (v := pt pc 7) (fa (pt pc 0)) (wlw rfl v23 (v := .slice A2 n2 c2) (ld 7 Ty.ag40 h9) ?_)))))
    have h25 := (Dat.up hda (Mod.up M13))
    have h26 := (Dat.up hdb (Mod.up M13))
    refine wl (sc (wt (b := b21) rfl (by kernel_rfl) v23) (r_callv (caps := []) (all := [.slice A1 n1 c1, .slice A2 n2 c2]) En.f138 (by kernel_rfl) (by kernel_rfl)) (bequalV_at h25 h26) ?_)
    rintro e w27 ⟨rfl, u28⟩
    refine ⟨_, rfl, ?_⟩
    have M29 := mtu M13 u28
    refine wlw rfl v23 (v := B_ (!(decide (a.x.data = b.x.data)))) (r_not (b := (decide (a.x.data = b.x.data))) (by kernel_rfl)) (wlv (v := B_ (!(decide (a.x.data = b.x.data)))) (pkF (eb v23)) (was (v := B_ (!(decide (a.x.data = b.x.data)))) (wnil (then_n ?_))))
    refine bcase (decide (a.x.data = b.x.data)) (fun v30 => ?_) (fun v30 => ?_)
    ·
     refine wp_cond_true (eb (bneg v30)) (wp_seq (rg_lit (was (v := I_ 4) (wnil (then_n (wp_ret (inb_r (then_x (by nofun) ?_))))))))
     refine br1 (v := I_ 4) rfl ?_
     exact ⟨by rw [kind_4 v15 v16 (Decidable.not_not.1 p20) (.inr (of_decide_eq_false v30))], (Mod.up M29)⟩
    refine wp_cond_false (eb (bneg v30)) (wp_skip (inb_n (then_n (wp_seq (rg_lit (was (v := I_ 0) (wnil (then_n (wp_ret ?_)))))))))
    refine br1 (v := I_ 0) rfl ?_
    exact ⟨by rw [kind_5 v15 v16 (Decidable.not_not.1 p20) (Decidable.not_not.1 p24) (of_decide_eq_true v30)], (Mod.up M29)⟩
   iterate 8 refine wls rfl v23 ?_
   refine wlv (v := B_ true) (pkT (eb v23)) (was (v := B_ true) (wnil (then_n (wp_cond_true (by kernel_rfl) (wp_seq (rg_lit (was (v := I_ 4) (wnil (then_n (wp_ret (inb_r (then_x (by nofun) ?_))))))))))))
   refine br1 (v := I_ 4) rfl ?_
   exact ⟨by rw [kind_4 v15 v16 (Decidable.not_not.1 p20) (.inl p24)], (Mod.up M13)⟩
  refine wp_cond_true (eb v19) (wp_seq (rg_lit (was (v := I_ 3) (wnil (then_n (wp_ret (inb_r (then_x (by nofun) ?_))))))))
  refine br1 (v := I_ 3) rfl ?_
  exact ⟨by rw [kind_3 v15 v16 p20], (Mod.up M13)⟩
set_option maxHeartbeats 2000000 in
theorem look_at {w : World} (p : Option Addr) : Calls Tryz.prog 74 #[.pointer p] w fun e w' => ∃ v, e = .returned v ∧ LookAt w' v p ∧ Up w w' := by
  go_enter Tryz.func74, Tryz.ntmps74
  refine wp_seq (rg_lit (wl (sn rfl (cs := #[.pointer p]) (T := 27) (V := fun b => pt b 0) (r_box (v := .pointer p) (by kernel_rfl) rfl) fun pb w1 e2 h3 u4 => ?_)))
  have M6 := mtu (Mod.refl [] w) u4
  refine was (v := .nilFunc) (wnil (then_n (wp_seq ?_)))
  refine rg_held [] (n := 8) (by kernel_rfl) rfl ?_
  intro w7 u8
  have M9 := mtu M6 u8
  have h10 := (up_ob u8 h3)
  refine hqk 0 7 rfl rfl (v := .pointer p) (fun _ uz => ld 0 Ty.ag27 (md_ob uz nin0 h10)) (hqk 1 6 rfl rfl (v := .func (.func 20) #[.pointer p] #[]) (fun _ _ => r_makeFunc (us := [.pointer p]) (vs := []) (by kernel_rfl) rfl) (hqk 2 5 rfl rfl (v := .pointer p) (fun _ uz => ld 0 Ty.ag27 (md_ob uz nin0 h10)) (hqk 3 4 rfl rfl (v := .func (.func 39) #[.pointer p] #[]) (fun _ _ => r_makeFunc (us := [.pointer p]) (vs := []) (by kernel_rfl) rfl) ?_)))
  refine h2a 4 5 3 rfl rfl ?_ ?_
  ·
   refine sn rfl (cs := #[.nilFunc]) (T := 44) (V := fun b => pt b 0) (r_alloc Ty.zv44 rfl) fun b11 w12 e13 h14 u15 => ?_
   have l16 := lsz e13 h10
   have g17 := gsz e13 M9
   have M18 := mtu M9 u15
   refine hxy u15 e13 (h1a 5 2 rfl (sn rfl (cs := #[.nilFunc]) (T := 76) (V := fun b => pt b 0) (r_alloc Ty.zv76 rfl) fun b19 w20 e21 h22 u23 => ?_))
   have h24 := (up_ob u15 h10)
   have l25 := lsz e21 h24
   have l26 := lsz e21 h14
   have g27 := gsz e21 M18
   have M28 := mtu M18 u23
   refine hxy u23 e21 ?_
   have h29 := (up_ob u23 h14)
   refine h1a 6 1 rfl (ss rfl (k := 0) (v := .func (.func 20) #[.pointer p] #[]) (vs := [.func (.func 20) #[.pointer p] #[]]) (cs' := [.func (.func 20) #[.pointer p] #[]]) (by kernel_rfl) (by kernel_rfl) rfl Ty.sz44 h29 rfl (Nat.le_of_ble_eq_true rfl) rfl fun w30 h31 c32 => ?_)
   have M33 := mtn M28 c32 g17
   refine hxc c32 ?_
   have h34 := (chg_ob c32 (Nat.ne_of_gt l26) h22)
   refine h1a 7 0 rfl (ss rfl (k := 0) (v := .func (.func 39) #[.pointer p] #[]) (vs := [.func (.func 39) #[.pointer p] #[]]) (cs' := [.func (.func 39) #[.pointer p] #[]]) (by kernel_rfl) (by kernel_rfl) rfl Ty.sz76 h34 rfl (Nat.le_of_ble_eq_true rfl) rfl fun w35 h36 c37 => ?_)
   have M38 := mtn M33 c37 g27
   refine hxc c37 ?_
   refine hend (by kernel_rfl) ?_
   refine then_n (wp_seq (rg_lit (wlv (v := .func (.func 133) #[] #[pt b11 0, pt pb 0, pt b19 0]) (r_makeFunc (us := []) (vs := [pt b11 0, pt pb 0, pt b19 0]) rfl (by kernel_rfl)) (was (v := .func (.func 133) #[] #[pt b11 0, pt pb 0, pt b19 0]) (wnil (then_n (wp_ret ?_)))))))
   refine br1 (v := .func (.func 133) #[] #[pt b11 0, pt pb 0, pt b19 0]) rfl ?_
   have h39 := (chg_ob c37 (Nat.ne_of_lt l26) h31)
   have h40 := (chg_ob c37 (Nat.ne_of_lt l25) (chg_ob c32 (Nat.ne_of_lt l16) (up_ob u23 h24)))
   exact ⟨_, rfl, ⟨b11, pb, b19, rfl, h39, h40, h36⟩, (Mod.up M38)⟩
  ·
   refine sn rfl (cs := #[.nilFunc]) (T := 76) (V := fun b => pt b 0) (r_alloc Ty.zv76 rfl) fun b11 w12 e13 h14 u15 => ?_
   have l16 := lsz e13 h10
   have g17 := gsz e13 M9
   have M18 := mtu M9 u15
   refine hxy u15 e13 (h1a 4 2 rfl (sn rfl (cs := #[.nilFunc]) (T := 44) (V := fun b => pt b 0) (r_alloc Ty.zv44 rfl) fun b19 w20 e21 h22 u23 => ?_))
   have h24 := (up_ob u15 h10)
   have l25 := lsz e21 h24
   have l26 := lsz e21 h14
   have g27 := gsz e21 M18
   have M28 := mtu M18 u23
   refine hxy u23 e21 (h1a 6 1 rfl (ss rfl (k := 0) (v := .func (.func 20) #[.pointer p] #[]) (vs := [.func (.func 20) #[.pointer p] #[]]) (cs' := [.func (.func 20) #[.pointer p] #[]]) (by kernel_rfl) (by kernel_rfl) rfl Ty.sz44 h22 rfl (Nat.le_of_ble_eq_true rfl) rfl fun w29 h30 c31 => ?_))
   have M32 := mtn M28 c31 g27
   refine hxc c31 ?_
   have h33 := (chg_ob c31 (Nat.ne_of_lt l26) (up_ob u23 h14))
   refine h1a 7 0 rfl (ss rfl (k := 0) (v := .func (.func 39) #[.pointer p] #[]) (vs := [.func (.func 39) #[.pointer p] #[]]) (cs' := [.func (.func 39) #[.pointer p] #[]]) (by kernel_rfl) (by kernel_rfl) rfl Ty.sz76 h33 rfl (Nat.le_of_ble_eq_true rfl) rfl fun w34 h35 c36 => ?_)
   have M37 := mtn M32 c36 g17
   refine hxc c36 ?_
   refine hend (by kernel_rfl) ?_
   refine then_n (wp_seq (rg_lit (wlv (v := .func (.func 133) #[] #[pt b19 0, pt pb 0, pt b11 0]) (r_makeFunc (us := []) (vs := [pt b19 0, pt pb 0, pt b11 0]) rfl (by kernel_rfl)) (was (v := .func (.func 133) #[] #[pt b19 0, pt pb 0, pt b11 0]) (wnil (then_n (wp_ret ?_)))))))
   refine br1 (v := .func (.func 133) #[] #[pt b19 0, pt pb 0, pt b11 0]) rfl ?_
   have h38 := (chg_ob c36 (Nat.ne_of_gt l26) h30)
   have h39 := (chg_ob c36 (Nat.ne_of_lt l16) (chg_ob c31 (Nat.ne_of_lt l25) (up_ob u23 h24)))
   exact ⟨_, rfl, ⟨b19, pb, b11, rfl, h38, h39, h35⟩, (Mod.up M37)⟩
set_option maxHeartbeats 2000000 in
theorem look1b_at {B : Nat} {w : World} {p : Option Addr} {L : List Item} {b1 b2 b3 : Nat} (h : OT B w p L) (hB : B ≤ w.heap.size) (hF : Fit L) (htab : Tab w) (m1 m2 : Int) (hm : (⟨m1, m2⟩ : Stamp) ≠ nilS)
    (hb1 : w.heap[b1]? = some (.cells #[.func (.func 20) #[.pointer p] #[]] 44 (0, 0))) (hb2 : w.heap[b2]? = some (.cells #[.pointer p] 27 (0, 0))) (hb3 : w.heap[b3]? = some (.cells #[.func (.func 39) #[.pointer p] #[]] 76 (0, 0))) :
    Calls Tryz.prog 133 #[.agg #[.int .i64 m1, .int .i64 m2], .pointer (some ⟨b1, 0, none⟩), .pointer (some ⟨b2, 0, none⟩), .pointer (some ⟨b3, 0, none⟩)] w fun e w' => ∃ A n c, e = .returned (sdV (sideP L ⟨m1, m2⟩) (.slice A n c)) ∧ Dat B w' (.slice A n c) (sideP L ⟨m1, m2⟩).x.data ∧ Up w w' := by
  go_enter Tryz.func133, Tryz.ntmps133
  refine wp_seq (rg_lit (wl (sn rfl (cs := #[I_ m1, I_ m2]) (T := 24) (V := fun b => pt b 0) (r_box (v := .agg #[I_ m1, I_ m2]) (by kernel_rfl) rfl) fun pb w1 e2 h3 u4 => ?_)))
  have M9 := mtu (Mod.refl [] w) u4
  refine wl (sn rfl (cs := #[I_ 0, I_ 0, I_ 0, I_ 0, S_ (⟨#[]⟩), B_ false, B_ false, .slice none 0 0, I_ 0, I_ 0, B_ false, S_ (⟨#[]⟩)]) (T := 123) (V := fun b => pt b 0) (r_alloc Ty.zv123 rfl) fun b10 w11 e12 h13 u14 => ?_)
  have h19 := md_ob M9 nin0 hb3
  have l20 := lsz e12 h19
  have l21 := lsz e12 h3
  have g22 := gsz e12 M9
  have M23 := mtu M9 u14
  refine wnil (then_n (wp_seq (rg_lit ?_)))
  have h24 := md_ob M23 nin0 hb1
  refine wlv (v := .func (.func 20) #[.pointer p] #[]) (ld 0 Ty.ag44 h24) ?_
  have h25 := (up_ob u14 h3)
  refine wlv (v := .agg #[I_ m1, I_ m2]) (lds 0 Ty.ag24 Ty.sz24 h25) ?_
  have h26 := (OT.up h (Mod.up M23))
  refine wl (sc rfl (r_callb (us := [.pointer p]) (all := [.pointer p, .agg #[I_ m1, I_ m2]]) En.f20 (by kernel_rfl) (by kernel_rfl)) (getO_at h26 m1 m2) ?_)
  rintro e w27 ⟨A28, n29, c30, rfl, h31, u32⟩
  refine ⟨_, rfl, ?_⟩
  have M33 := mtu M23 u32
  refine wmv (v := .tuple #[itV (gotI L ⟨m1, m2⟩) (.slice A28 n29 c30), B_ (hasI L ⟨m1, m2⟩)]) (wlv (v := itV (gotI L ⟨m1, m2⟩) (.slice A28 n29 c30)) (xt [itV (gotI L ⟨m1, m2⟩) (.slice A28 n29 c30), B_ (hasI L ⟨m1, m2⟩)]) (wlv (v := B_ (hasI L ⟨m1, m2⟩)) (xt [itV (gotI L ⟨m1, m2⟩) (.slice A28 n29 c30), B_ (hasI L ⟨m1, m2⟩)]) (wl (sn rfl (cs := #[I_ 0, I_ 0, I_ 0, I_ 0, S_ (⟨#[]⟩), B_ false, B_ false, .slice none 0 0, I_ 0, I_ 0]) (T := 42) (V := fun b => pt b 0) (r_alloc Ty.zv42 rfl) fun b34 w35 e36 h37 u38 => ?_))))
  have h45 := (up_ob u32 h25)
  have l46 := lsz e36 h45
  have h47 := (up_ob u32 h13)
  have l48 := lsz e36 h47
  have g49 := gsz e36 M33
  have M50 := mtu M33 u38
  refine wl (ss rfl (k := 0) (v := itV (gotI L ⟨m1, m2⟩) (.slice A28 n29 c30)) (vs := (itC (gotI L ⟨m1, m2⟩) (.slice A28 n29 c30))) (cs' := (itC (gotI L ⟨m1, m2⟩) (.slice A28 n29 c30))) (by kernel_rfl) (by kernel_rfl) rfl Ty.sz42 h37 rfl (Nat.le_of_ble_eq_true rfl) rfl fun w51 h52 c53 => ?_)
  have M54 := mtn M50 c53 g49
  refine was (v := B_ (hasI L ⟨m1, m2⟩)) (wnil (then_n (wp_seq (rg_lit ?_))))
  have h55 := md_ob M54 nin0 hb2
  refine wlv (v := .pointer p) (ld 0 Ty.ag27 h55) ?_
  have h56 := (chg_ob c53 (Nat.ne_of_lt l46) (up_ob u38 h45))
  refine wlv (v := .agg #[I_ m1, I_ m2]) (lds 0 Ty.ag24 Ty.sz24 h56) ?_
  have h57 := (OT.up h (Mod.up M54))
  refine wl (sca [.pointer p, .agg #[I_ m1, I_ m2]] En.f42 (ofO_at h57 (Nat.le_trans hB M54.size) hF (TabIs.up htab (Mod.up M54)) m1 m2 hm) ?_)
  rintro e w58 ⟨k59, rfl, u60⟩
  refine ⟨_, rfl, ?_⟩
  have M61 := mtu M54 u60
  refine wmv (v := .tuple #[S_ (ofB L ⟨m1, m2⟩), I_ k59]) (wlv (v := S_ (ofB L ⟨m1, m2⟩)) (xt [S_ (ofB L ⟨m1, m2⟩), I_ k59]) (wlv (v := I_ k59) (xt [S_ (ofB L ⟨m1, m2⟩), I_ k59]) (was (v := S_ (ofB L ⟨m1, m2⟩)) (was (v := I_ k59) (wnil (then_n (wp_seq ?_)))))))
  refine rg_held [b10] (n := 7) (by kernel_rfl) rfl ?_
  intro w62 u63
  have M64 := mtu M61 u63
  have h65 := (up_ob u63 (up_ob u60 h52))
  refine hqk 0 6 rfl rfl (v := itV (gotI L ⟨m1, m2⟩) (.slice A28 n29 c30)) (fun _ uz => lds 0 Ty.ag42 Ty.sz42 (md_ob uz (nin1 (Nat.ne_of_gt l48)) h65)) ?_
  have h66 := md_ob M64 nin0 hb3
  refine hqk 1 5 rfl rfl (v := .func (.func 39) #[.pointer p] #[]) (fun _ uz => ld 0 Ty.ag76 (md_ob uz (nin1 (Nat.ne_of_lt l20)) h66)) ?_
  have h67 := (up_ob u63 (up_ob u60 h56))
  refine hqk 2 4 rfl rfl (v := .agg #[I_ m1, I_ m2]) (fun _ uz => lds 0 Ty.ag24 Ty.sz24 (md_ob uz (nin1 (Nat.ne_of_lt l21)) h67)) (hqk 4 3 rfl rfl (v := S_ (ofB L ⟨m1, m2⟩)) (fun _ _ => mv) ?_)
  have h68 := (OT.up h (Mod.up M64))
  refine h1a 3 2 rfl (sc rfl (r_callb (us := [.pointer p]) (all := [.pointer p, .agg #[I_ m1, I_ m2]]) En.f39 (by kernel_rfl) (by kernel_rfl)) (hangsO_at h68 m1 m2 hm) ?_)
  rintro e w69 ⟨rfl, u70⟩
  refine ⟨_, rfl, ?_⟩
  have M71 := mtu M64 u70
  refine hxu u70 (hqk 5 1 rfl rfl (v := .agg #[I_ ((gotI L ⟨m1, m2⟩).node.t), I_ ((gotI L ⟨m1, m2⟩).node.w), I_ ((gotI L ⟨m1, m2⟩).parent.t), I_ ((gotI L ⟨m1, m2⟩).parent.w), S_ ((gotI L ⟨m1, m2⟩).name), B_ ((gotI L ⟨m1, m2⟩).dir), B_ ((gotI L ⟨m1, m2⟩).gone), .slice A28 n29 c30, I_ ((gotI L ⟨m1, m2⟩).by_.t), I_ ((gotI L ⟨m1, m2⟩).by_.w), B_ (hangsI L 301 ⟨m1, m2⟩), S_ (ofB L ⟨m1, m2⟩)]) (fun _ _ => r_build (ps := [(0, itV (gotI L ⟨m1, m2⟩) (.slice A28 n29 c30)), (1, B_ (hangsI L 301 ⟨m1, m2⟩)), (2, S_ (ofB L ⟨m1, m2⟩))]) (cs := [I_ ((gotI L ⟨m1, m2⟩).node.t), I_ ((gotI L ⟨m1, m2⟩).node.w), I_ ((gotI L ⟨m1, m2⟩).parent.t), I_ ((gotI L ⟨m1, m2⟩).parent.w), S_ ((gotI L ⟨m1, m2⟩).name), B_ ((gotI L ⟨m1, m2⟩).dir), B_ ((gotI L ⟨m1, m2⟩).gone), .slice A28 n29 c30, I_ ((gotI L ⟨m1, m2⟩).by_.t), I_ ((gotI L ⟨m1, m2⟩).by_.w), B_ (hangsI L 301 ⟨m1, m2⟩), S_ (ofB L ⟨m1, m2⟩)]) Ty.un123 Ty.zv123 Ty.pl123 (by kernel_rfl) (by kernel_rfl)) ?_)
  have h72 := (up_ob u70 (up_ob u63 (up_ob u60 (chg_ob c53 (Nat.ne_of_lt l48) (up_ob u38 h47)))))
  refine h1a 6 0 rfl (ss rfl (k := 0) (v := .agg #[I_ ((gotI L ⟨m1, m2⟩).node.t), I_ ((gotI L ⟨m1, m2⟩).node.w), I_ ((gotI L ⟨m1, m2⟩).parent.t), I_ ((gotI L ⟨m1, m2⟩).parent.w), S_ ((gotI L ⟨m1, m2⟩).name), B_ ((gotI L ⟨m1, m2⟩).dir), B_ ((gotI L ⟨m1, m2⟩).gone), .slice A28 n29 c30, I_ ((gotI L ⟨m1, m2⟩).by_.t), I_ ((gotI L ⟨m1, m2⟩).by_.w), B_ (hangsI L 301 ⟨m1, m2⟩), S_ (ofB L ⟨m1, m2⟩)]) (vs := [I_ ((gotI L ⟨m1, m2⟩).node.t), I_ ((gotI L ⟨m1, m2⟩).node.w), I_ ((gotI L ⟨m1, m2⟩).parent.t), I_ ((gotI L ⟨m1, m2⟩).parent.w), S_ ((gotI L ⟨m1, m2⟩).name), B_ ((gotI L ⟨m1, m2⟩).dir), B_ ((gotI L ⟨m1, m2⟩).gone), .slice A28 n29 c30, I_ ((gotI L ⟨m1, m2⟩).by_.t), I_ ((gotI L ⟨m1, m2⟩).by_.w), B_ (hangsI L 301 ⟨m1, m2⟩), S_ (ofB L ⟨m1, m2⟩)]) (cs' := [I_ ((gotI L ⟨m1, m2⟩).node.t), I_ ((gotI L ⟨m1, m2⟩).node.w), I_ ((gotI L ⟨m1, m2⟩).parent.t), I_ ((gotI L ⟨m1, m2⟩).parent.w), S_ ((gotI L ⟨m1, m2⟩).name), B_ ((gotI L ⟨m1, m2⟩).dir), B_ ((gotI L ⟨m1, m2⟩).gone), .slice A28 n29 c30, I_ ((gotI L ⟨m1, m2⟩).by_.t), I_ ((gotI L ⟨m1, m2⟩).by_.w), B_ (hangsI L 301 ⟨m1, m2⟩), S_ (ofB L ⟨m1, m2⟩)]) (by kernel_rfl) (by kernel_rfl) rfl Ty.sz123 h72 rfl (Nat.le_of_ble_eq_true rfl) rfl fun w73 h74 c75 => ?_)
  have M76 := mtn M71 c75 g22
  refine hxc c75 ?_
  refine hend (by kernel_rfl) ?_
  refine then_n (wp_ret ?_)
  refine bodyPost_ret (v := .agg #[I_ ((gotI L ⟨m1, m2⟩).node.t), I_ ((gotI L ⟨m1, m2⟩).node.w), I_ ((gotI L ⟨m1, m2⟩).parent.t), I_ ((gotI L ⟨m1, m2⟩).parent.w), S_ ((gotI L ⟨m1, m2⟩).name), B_ ((gotI L ⟨m1, m2⟩).dir), B_ ((gotI L ⟨m1, m2⟩).gone), .slice A28 n29 c30, I_ ((gotI L ⟨m1, m2⟩).by_.t), I_ ((gotI L ⟨m1, m2⟩).by_.w), B_ (hangsI L 301 ⟨m1, m2⟩), S_ (ofB L ⟨m1, m2⟩)]) (res1 rfl (rv_c (p := ⟨b10, 0, none⟩) (by kernel_rfl) (run_loadVars (vs := [I_ ((gotI L ⟨m1, m2⟩).node.t), I_ ((gotI L ⟨m1, m2⟩).node.w), I_ ((gotI L ⟨m1, m2⟩).parent.t), I_ ((gotI L ⟨m1, m2⟩).parent.w), S_ ((gotI L ⟨m1, m2⟩).name), B_ ((gotI L ⟨m1, m2⟩).dir), B_ ((gotI L ⟨m1, m2⟩).gone), .slice A28 n29 c30, I_ ((gotI L ⟨m1, m2⟩).by_.t), I_ ((gotI L ⟨m1, m2⟩).by_.w), B_ (hangsI L 301 ⟨m1, m2⟩), S_ (ofB L ⟨m1, m2⟩)]) Ty.ag123 Ty.sz123 h74 (by kernel_rfl)))) (by kernel_rfl) ?_
  have h77 := (Dat.chg (Dat.up h31 (up_up (up_up (up_up (up_chgn u38 c53 (by rw [e36]; exact Nat.le_refl _)) u60) u63) u70)) c75 ⟨(Nat.le_trans hB g22), NotU8.of h72 (by decide)⟩)
  exact ⟨A28, n29, c30, rfl, h77, (Mod.up M76)⟩
end Go.Proofs.YtefhfoioeoijlaaGreatDoor

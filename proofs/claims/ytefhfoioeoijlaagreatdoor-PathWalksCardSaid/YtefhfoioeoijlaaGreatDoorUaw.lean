/- DA, Pw -/
import Derived.Test.YtefhfoioeoijlaaGreatDoorUah
import Derived.Test.YtefhfoioeoijlaaGreatDoorUau
import Derived.Test.YtefhfoioeoijlaaGreatDoorUav
set_option linter.unusedVariables false
set_option linter.unusedSimpArgs false
namespace Go.Proofs.YtefhfoioeoijlaaGreatDoor
open Go Go.RowKit Go.Sort
set_option maxHeartbeats 2000000 in
theorem decD1_at {w : World} {n : Int} (n0 : 0 ≤ n) (n1 : n ≤ 9223372036854775807) (IH : ∀ (k : Int) (W : World), 0 ≤ k → k < n → Calls Tryz.prog 96 #[.int .i64 k] W fun e w' => e = .returned (.string (decB k)) ∧ Up W w') : Calls Tryz.prog 96 #[.int .i64 n] w fun e w' => e = .returned (.string (decB n)) ∧ Up w w' := by
  have hq := dec_parts n0
  have hz1 := decB_len (n := n.tdiv 10) (by omega) (by omega)
  have hz2 : (byteB (48 + n.tmod 10)).size = 1 := rfl
  go_enter Tryz.func96, Tryz.ntmps96
  refine wp_seq (rg_lit (was (v := S_ (⟨#[]⟩)) (wnil (then_n (wp_seq (wp_seq (rg_lit (wmv (v := I_ n) (wl (sb rfl (ltI n 0) fun _ k2 => wnil (then_n ?_)))))))))))
  refine bcd k2 (fun v3 p4 => ?_) (fun v3 p4 => ?_)
  ·
   refine wp_cond_false (ebk v3) (wp_skip (then_n (wp_seq (wp_seq (rg_lit (wmv (v := I_ n) (wl (sb rfl (ltI n 10) fun _ k6 => wnil (then_n ?_)))))))))
   refine bcd k6 (fun v7 p8 => ?_) (fun v7 p8 => ?_)
   ·
    refine wp_cond_false (ebk v7) (wp_skip (then_n (wp_seq ?_)))
    refine rg_held [] (n := 11) (by kernel_rfl) rfl ?_
    intro w9 u10
    have M11 := mtu (Mod.refl [] w) u10
    refine hqm 0 10 rfl (v := I_ n) (hqk 1 9 rfl rfl (v := I_ (n.tdiv 10)) (fun _ _ => r_quo (m := n) (n := 10) (by kernel_rfl) (by kernel_rfl) (by decide) (by omega)) (hqm 3 8 rfl (v := I_ n) (hqk 4 7 rfl rfl (v := I_ (n.tmod 10)) (fun _ _ => r_rem (m := n) (n := 10) (by kernel_rfl) (by kernel_rfl) (by decide) rfl) (hqk 5 6 rfl rfl (v := I_ (48 + (n.tmod 10))) (fun _ _ => adN 48 (n.tmod 10)) (hqk 6 5 rfl rfl (v := .int .u8 (48 + (n.tmod 10))) (fun _ _ => r_toB (m := (48 + (n.tmod 10))) (by kernel_rfl) (by omega) (by omega)) ?_)))))
    refine h2a 2 7 4 rfl rfl ?_ ?_
    ·
     refine sca [I_ (n.tdiv 10)] En.f96 (IH (n.tdiv 10) _ (by omega) (by omega)) ?_
     rintro e _ ⟨rfl, u13⟩
     refine ⟨_, rfl, ?_⟩
     refine hxu u13 (h1a 7 3 rfl (sn rfl (cs := #[.int .u8 (48 + (n.tmod 10))]) (T := 5) (V := fun b => sl b 0 1 1) (r_buildSlice (n := 1) (ps := [(0, .int .u8 (48 + (n.tmod 10)))]) Ty.un40 Ty.sz5 Ty.zv5 (by decide) (by decide) (by kernel_rfl) (by kernel_rfl)) fun b15 _ _ h18 u19 => hxu u19 (hqk 8 2 rfl rfl (v := S_ (byteB (48 + (n.tmod 10)))) (fun _ uz => r_conv1 (b := b15) (v := (48 + (n.tmod 10))) (by kernel_rfl) (md_ob uz nin0 h18)) (hqk 9 1 rfl rfl (v := S_ ((decB (n.tdiv 10)) ++ (byteB (48 + (n.tmod 10))))) (fun _ _ => r_adds (m := (decB (n.tdiv 10))) (n := (byteB (48 + (n.tmod 10)))) (by kernel_rfl) (by kernel_rfl) (by (try simp only [ByteArray.size_append]); omega)) (hqk 10 0 rfl rfl (v := S_ ((decB (n.tdiv 10)) ++ (byteB (48 + (n.tmod 10))))) (fun _ _ => r_assign (by kernel_rfl)) ?_)))))
     refine hend (by kernel_rfl) ?_
     refine then_n (wp_ret ?_)
     refine br1 (v := S_ ((decB (n.tdiv 10)) ++ (byteB (48 + (n.tmod 10))))) rfl ?_
     exact ⟨by rw [dec_big n0 p8], (Mod.up (mtu (mtu M11 u13) u19))⟩
    ·
     refine sn rfl (cs := #[.int .u8 (48 + (n.tmod 10))]) (T := 5) (V := fun b => sl b 0 1 1) (r_buildSlice (n := 1) (ps := [(0, .int .u8 (48 + (n.tmod 10)))]) Ty.un40 Ty.sz5 Ty.zv5 (by decide) (by decide) (by kernel_rfl) (by kernel_rfl)) fun b12 _ _ h15 u16 => hxu u16 (hqk 8 3 rfl rfl (v := S_ (byteB (48 + (n.tmod 10)))) (fun _ uz => r_conv1 (b := b12) (v := (48 + (n.tmod 10))) (by kernel_rfl) (md_ob uz nin0 h15)) (h1a 2 2 rfl (sca [I_ (n.tdiv 10)] En.f96 (IH (n.tdiv 10) _ (by omega) (by omega)) ?_)))
     rintro e _ ⟨rfl, u20⟩
     refine ⟨_, rfl, ?_⟩
     refine hxu u20 (hqk 9 1 rfl rfl (v := S_ ((decB (n.tdiv 10)) ++ (byteB (48 + (n.tmod 10))))) (fun _ _ => r_adds (m := (decB (n.tdiv 10))) (n := (byteB (48 + (n.tmod 10)))) (by kernel_rfl) (by kernel_rfl) (by (try simp only [ByteArray.size_append]); omega)) (hqk 10 0 rfl rfl (v := S_ ((decB (n.tdiv 10)) ++ (byteB (48 + (n.tmod 10))))) (fun _ _ => r_assign (by kernel_rfl)) ?_))
     refine hend (by kernel_rfl) ?_
     refine then_n (wp_ret ?_)
     refine br1 (v := S_ ((decB (n.tdiv 10)) ++ (byteB (48 + (n.tmod 10))))) rfl ?_
     exact ⟨by rw [dec_big n0 p8], (Mod.up (mtu (mtu M11 u16) u20))⟩
   refine wp_cond_true (ebk v7) (wp_seq (rg_lit (wmv (v := I_ n) (wlv (v := I_ (48 + n)) (adN 48 n) (wlv (v := .int .u8 (48 + n)) (r_toB (m := (48 + n)) (by kernel_rfl) (by omega) (by omega)) (wl (sn rfl (cs := #[.int .u8 (48 + n)]) (T := 5) (V := fun b => sl b 0 1 1) (r_buildSlice (n := 1) (ps := [(0, .int .u8 (48 + n))]) Ty.un40 Ty.sz5 Ty.zv5 (by decide) (by decide) (by kernel_rfl) (by kernel_rfl)) fun b9 _ _ h12 u13 => wlv (v := S_ (byteB (48 + n))) (r_conv1 (b := b9) (v := (48 + n)) (by kernel_rfl) h12) (was (v := S_ (byteB (48 + n))) (wnil (then_n (wp_ret (then_x (by nofun) ?_))))))))))))
   refine br1 (v := S_ (byteB (48 + n))) rfl ?_
   exact ⟨by rw [dec_small n0 p8], (Mod.up (mtu (Mod.refl [] w) u13))⟩
  omega
theorem decD_at {w : World} {n : Int} (h0 : 0 ≤ n) (h1 : n ≤ 9223372036854775807) : Calls Tryz.prog 96 #[.int .i64 n] w fun e w' => e = .returned (.string (decB n)) ∧ Up w w' := by
  obtain ⟨m, rfl⟩ : ∃ m : Nat, n = (m : Int) := ⟨n.toNat, by omega⟩
  induction m using Nat.strongRecOn generalizing w with
  | _ m ih =>
    refine decD1_at h0 h1 fun k W hk hlt => ?_
    obtain ⟨j, rfl⟩ : ∃ j : Nat, k = (j : Int) := ⟨k.toNat, by omega⟩
    exact ih j (by omega) (by omega) (by omega)
set_option maxHeartbeats 2000000 in
theorem markD_at {w : World} (m1 m2 : Int) (hm1 : 0 ≤ m1 ∧ m1 ≤ 1099511627776) (hm2 : 0 ≤ m2 ∧ m2 ≤ 8) : Calls Tryz.prog 37 #[.agg #[.int .i64 m1, .int .i64 m2]] w fun e w' => e = .returned (.string (markB ⟨m1, m2⟩)) ∧ Up w w' := by
  have hz1 := decB_len (n := m1) (by omega) (by omega)
  have hz2 := decB_len (n := m2) (by omega) (by omega)
  have hz3 : (⟨#[126]⟩ : ByteArray).size = 1 := rfl
  have hz4 : (⟨#[46]⟩ : ByteArray).size = 1 := rfl
  go_enter Tryz.func37, Tryz.ntmps37
  refine wp_seq (rg_lit (wl (sn rfl (cs := #[I_ m1, I_ m2]) (T := 24) (V := fun b => pt b 0) (r_box (v := .agg #[I_ m1, I_ m2]) (by kernel_rfl) rfl) fun b1 _ _ h4 u5 => was (v := S_ (⟨#[]⟩)) (wnil (then_n (wp_seq ?_))))))
  refine rg_held [] (n := 10) (by kernel_rfl) rfl ?_
  intro w8 u9
  refine hqk 0 9 rfl rfl (v := pt b1 0) (fun _ _ => fa (pt b1 0)) ?_
  have h11 := (up_ob u9 h4)
  refine hqk 1 8 rfl rfl (v := I_ m1) (fun _ uz => ld 0 Ty.ag2 (md_ob uz nin0 h11)) (hqk 5 7 rfl rfl (v := pt b1 1) (fun _ _ => fa (pt b1 0)) (hqk 6 6 rfl rfl (v := I_ m2) (fun _ uz => ld 1 Ty.ag3 (md_ob uz nin0 h11)) (h1a 2 5 rfl (sca [I_ m1] En.f96 (decD_at (n := m1) (by omega) (by omega)) ?_))))
  rintro e _ ⟨rfl, u13⟩
  refine ⟨_, rfl, ?_⟩
  refine hxu u13 (hqk 3 4 rfl rfl (v := S_ ((⟨#[126]⟩ : ByteArray) ++ (decB m1))) (fun _ _ => r_adds (m := (⟨#[126]⟩)) (n := (decB m1)) (by kernel_rfl) (by kernel_rfl) (by (try simp only [ByteArray.size_append]); omega)) (hqk 4 3 rfl rfl (v := S_ (((⟨#[126]⟩ : ByteArray) ++ (decB m1)) ++ (⟨#[46]⟩ : ByteArray))) (fun _ _ => r_adds (m := ((⟨#[126]⟩ : ByteArray) ++ (decB m1))) (n := (⟨#[46]⟩)) (by kernel_rfl) (by kernel_rfl) (by (try simp only [ByteArray.size_append]); omega)) (h1a 7 2 rfl (sca [I_ m2] En.f96 (decD_at (n := m2) (by omega) (by omega)) ?_))))
  rintro e _ ⟨rfl, u16⟩
  refine ⟨_, rfl, ?_⟩
  refine hxu u16 (hqk 8 1 rfl rfl (v := S_ ((((⟨#[126]⟩ : ByteArray) ++ (decB m1)) ++ (⟨#[46]⟩ : ByteArray)) ++ (decB m2))) (fun _ _ => r_adds (m := (((⟨#[126]⟩ : ByteArray) ++ (decB m1)) ++ (⟨#[46]⟩ : ByteArray))) (n := (decB m2)) (by kernel_rfl) (by kernel_rfl) (by (try simp only [ByteArray.size_append]); omega)) (hqk 9 0 rfl rfl (v := S_ ((((⟨#[126]⟩ : ByteArray) ++ (decB m1)) ++ (⟨#[46]⟩ : ByteArray)) ++ (decB m2))) (fun _ _ => r_assign (by kernel_rfl)) ?_))
  refine hend (by kernel_rfl) ?_
  refine then_n (wp_ret ?_)
  refine br1 (v := S_ ((((⟨#[126]⟩ : ByteArray) ++ (decB m1)) ++ (⟨#[46]⟩ : ByteArray)) ++ (decB m2))) rfl ?_
  exact ⟨rfl, (Mod.up (mtu (mtu (mtu (mtu (Mod.refl [] w) u5) u9) u13) u16))⟩
set_option maxHeartbeats 2000000 in
theorem shownD1_at {B base : Nat} {w : World} {l : List Item} {lA : Option Addr} {lc i : Nat} {x : Item} (hl : IRow 127 B base w (.slice lA l.length lc) l) (hix : l[i]? = some x) (hOK : OKI x) (hln : l.length ≤ 300) :
    Calls Tryz.prog 144 #[.slice lA l.length lc, .int .i64 (i : Int)] w fun e w' => e = .returned (.string (nmAt l i x)) ∧ Up w w' := by
  have hi : i < l.length := (List.getElem?_eq_some_iff.1 hix).1
  go_enter Tryz.func144, Tryz.ntmps144
  refine wp_seq (rg_lit (was (v := S_ (⟨#[]⟩)) (wnil (then_n (wp_seq (wp_seq (rg_lit (was (v := I_ 0) (wnil (then_n (wp_block ?_)))))))))))
  refine lp (fun n a r1 => ∃ (k : Nat), (n = i - k) ∧ (HasFr a 39 [(0, .slice lA l.length lc), (1, I_ i), (5, I_ k)] []) ∧ (Mod [] w r1) ∧ (k ≤ i) ∧ (Hid (∀ (j : Nat) (y : Item), j < k → l[j]? = some y → ¬ y.name = x.name))) ⟨_, 0, rfl, hmk, Mod.refl _ _, (Nat.zero_le _), (fun j y hj => absurd hj (Nat.not_lt_zero _))⟩ ?_
  rintro _ _ r1 ⟨k, rfl, h1, hM1, _, hF1_1⟩
  obtain ⟨_, rfl⟩ := h1
  have M2 := Mod.thin (Mod.refl [] w) hM1 (by simp)
  refine wp_seq (wp_seq (rg_lit (wmv (v := I_ k) (wmv (v := I_ i) (wl (sb rfl (ltI k i) fun _ k4 => wnil (then_n ?_)))))))
  refine bcd k4 (fun v5 p6 => ?_) (fun v5 p6 => ?_)
  ·
   refine wp_cond_false (ebk v5) (wp_exit (then_x (by nofun) (then_x (by nofun) (inb_hit (then_n (wp_seq (rg_lit (wmv (v := .slice lA l.length lc) (wmv (v := I_ i) ?_)))))))))
   have h7 := (IRow.up hl (Mod.up M2))
   obtain ⟨g8, _, cu8, dA8, dn8, dc8, hA8, _, hb8, he8, _⟩ := h7.get hix
   injection hA8 with hA8 _ _
   replace he8 : (cu8.toList.drop (0 + i * 10)).take 10 = (itC x (.slice dA8 dn8 dc8)) := by rw [Nat.zero_add]; exact he8
   refine wlv (v := pt g8 (0 + i * 10)) (ixa l.length lc 10 i hA8 Ty.un64 Ty.sz127) (wlv (v := pt g8 (0 + i * 10 + 4)) (fa (pt g8 (0 + i * 10))) (wlv (v := S_ x.name) (r_load (k := 0 + i * 10 + 4) (v := S_ x.name) (by kernel_rfl) Ty.ag9 hb8 (el_get he8 4 rfl)) (was (v := S_ x.name) (wnil (then_n (wp_ret ?_))))))
   refine br1 (v := S_ x.name) rfl ?_
   exact ⟨by rw [nm_no (by rw [show i = k by omega]; exact hF1_1)], (Mod.up M2)⟩
  have q8 : k < l.length := by omega
  refine wp_cond_true (ebk v5) (wp_skip (then_n (wp_seq (wp_block (wp_seq ?_)))))
  refine rg_all (by kernel_rfl) (by kernel_rfl) ?_
  refine qmv (v := .slice lA l.length lc) (qmv (v := I_ k) ?_)
  have h9 := (IRow.up hl (Mod.up M2))
  obtain ⟨y10, hy10⟩ : ∃ x, l[k]? = some x := ⟨_, List.getElem?_eq_getElem q8⟩
  obtain ⟨g10, _, cu10, dA10, dn10, dc10, hA10, _, hb10, he10, _⟩ := h9.get hy10
  injection hA10 with hA10 _ _
  replace he10 : (cu10.toList.drop (0 + k * 10)).take 10 = (itC y10 (.slice dA10 dn10 dc10)) := by rw [Nat.zero_add]; exact he10
  refine qv rfl (v := pt g10 (0 + k * 10)) (fun _ _ => ixa l.length lc 10 k hA10 Ty.un64 Ty.sz127) (qv rfl (v := pt g10 (0 + k * 10 + 4)) (fun _ _ => fa (pt g10 (0 + k * 10))) (qv rfl (v := S_ y10.name) (fun _ uz => r_load (k := 0 + k * 10 + 4) (v := S_ y10.name) (by kernel_rfl) Ty.ag9 (up_ob uz hb10) (el_get he10 4 rfl)) (qmv (v := .slice lA l.length lc) (qmv (v := I_ i) ?_))))
  obtain ⟨g11, _, cu11, dA11, dn11, dc11, hA11, _, hb11, he11, _⟩ := h9.get hix
  injection hA11 with hA11 _ _
  replace he11 : (cu11.toList.drop (0 + i * 10)).take 10 = (itC x (.slice dA11 dn11 dc11)) := by rw [Nat.zero_add]; exact he11
  refine qv rfl (v := pt g11 (0 + i * 10)) (fun _ _ => ixa l.length lc 10 i hA11 Ty.un64 Ty.sz127) (qv rfl (v := pt g11 (0 + i * 10 + 4)) (fun _ _ => fa (pt g11 (0 + i * 10))) (qv rfl (v := S_ x.name) (fun _ uz => r_load (k := 0 + i * 10 + 4) (v := S_ x.name) (by kernel_rfl) Ty.ag9 (up_ob uz hb11) (el_get he11 4 rfl)) ?_))
  refine qb rfl (fun _ _ => r_eqs (m := y10.name) (n := x.name) (by kernel_rfl) (by kernel_rfl)) fun _ k13 => ?_
  refine qnil fun _ u15 => ?_
  refine then_n ?_
  refine bcd k13 (fun v18 p19 => ?_) (fun v18 p19 => ?_)
  ·
   refine wp_cond_false (ebk v18) (wp_skip (inb_n (then_n (rg_lit (wmv (v := I_ k) (wlv (v := N_ (k + 1)) (adN k 1) (was (v := N_ (k + 1)) (wnil (then_n ?_)))))))))
   refine ⟨i - (k + 1), ?_, (k + 1), rfl, hmk, (mtu hM1 u15), (by omega), (none_next (p := fun y : Item => y.name = x.name) hF1_1 hy10 p19)⟩
   · omega
  refine wp_cond_true (ebk v18) (wp_seq ?_)
  refine rg_held [] (n := 13) (by kernel_rfl) rfl ?_
  intro w20 u21
  have M22 := mtu (mtu M2 u15) u21
  refine hqm 0 12 rfl (v := .slice lA l.length lc) (hqm 1 11 rfl (v := I_ i) ?_)
  have h24 := (IRow.up hl (Mod.up M22))
  obtain ⟨g25, _, cu25, dA25, dn25, dc25, hA25, _, hb25, he25, _⟩ := h24.get hix
  injection hA25 with hA25 _ _
  replace he25 : (cu25.toList.drop (0 + i * 10)).take 10 = (itC x (.slice dA25 dn25 dc25)) := by rw [Nat.zero_add]; exact he25
  refine hqk 2 10 rfl rfl (v := pt g25 (0 + i * 10)) (fun _ _ => ixa l.length lc 10 i hA25 Ty.un64 Ty.sz127) (hqk 3 9 rfl rfl (v := pt g25 (0 + i * 10 + 4)) (fun _ _ => fa (pt g25 (0 + i * 10))) (hqk 4 8 rfl rfl (v := S_ x.name) (fun _ uz => r_load (k := 0 + i * 10 + 4) (v := S_ x.name) (by kernel_rfl) Ty.ag9 (md_ob uz nin0 hb25) (el_get he25 4 rfl)) (hqm 5 7 rfl (v := .slice lA l.length lc) (hqm 6 6 rfl (v := I_ i) ?_))))
  obtain ⟨g26, _, cu26, dA26, dn26, dc26, hA26, _, hb26, he26, _⟩ := h24.get hix
  injection hA26 with hA26 _ _
  replace he26 : (cu26.toList.drop (0 + i * 10)).take 10 = (itC x (.slice dA26 dn26 dc26)) := by rw [Nat.zero_add]; exact he26
  refine hqk 7 5 rfl rfl (v := pt g26 (0 + i * 10)) (fun _ _ => ixa l.length lc 10 i hA26 Ty.un64 Ty.sz127) (hqk 8 4 rfl rfl (v := pt g26 (0 + i * 10)) (fun _ _ => fa (pt g26 (0 + i * 10))) (hqk 9 3 rfl rfl (v := .agg #[I_ x.node.t, I_ x.node.w]) (fun _ uz => r_loads (k := 0 + i * 10) (by kernel_rfl) Ty.ag24 Ty.sz24 (md_ob uz nin0 hb26) (el_sub0 he26 rfl)) (h1a 10 2 rfl (sca [.agg #[I_ x.node.t, I_ x.node.w]] En.f37 (markD_at x.node.t x.node.w (OKI.st hOK).1 (OKI.st hOK).2) ?_))))
  rintro e _ ⟨rfl, u28⟩
  refine ⟨_, rfl, ?_⟩
  refine hxu u28 (hqk 11 1 rfl rfl (v := S_ (x.name ++ (markB ⟨x.node.t, x.node.w⟩))) (fun _ _ => r_adds (m := x.name) (n := (markB ⟨x.node.t, x.node.w⟩)) (by kernel_rfl) (by kernel_rfl) (by have := mark_size hOK; omega)) (hqk 12 0 rfl rfl (v := S_ (x.name ++ (markB ⟨x.node.t, x.node.w⟩))) (fun _ _ => r_assign (by kernel_rfl)) ?_))
  refine hend (by kernel_rfl) ?_
  refine then_n (wp_ret (inb_r (then_x (by nofun) (then_x (by nofun) (inb_r (then_x (by nofun) ?_))))))
  refine br1 (v := S_ (x.name ++ (markB ⟨x.node.t, x.node.w⟩))) rfl ?_
  exact ⟨by rw [nm_yes (by omega) hy10 p19], (Mod.up (mtu M22 u28))⟩
set_option maxHeartbeats 2000000 in
theorem shownD_at {B : Nat} {w : World} {ub : Nat} {L : List Item} (h : RIs B w ub L) (hB : B ≤ w.heap.size) (hF : Fit L) (m1 m2 : Int) : Calls Tryz.prog 111 #[trP ub, .agg #[.int .i64 m1, .int .i64 m2]] w fun e w' => e = .returned (.tuple #[.string (shownB L ⟨m1, m2⟩), .int .i64 (shownK L ⟨m1, m2⟩)]) ∧ Up w w' := by
  obtain ⟨ii_r, iz_r, hi_r, hz_r, hs_r, hb_r, hc_r⟩ := info_ritem
  have hk3 := kids_300 hF ⟨(gotI L ⟨m1, m2⟩).parent.t, (gotI L ⟨m1, m2⟩).parent.w⟩
  go_enter Tryz.func111, Tryz.ntmps111
  refine wp_seq (rg_lit (wl (sn rfl (cs := #[I_ m1, I_ m2]) (T := 24) (V := fun b => pt b 0) (r_box (v := .agg #[I_ m1, I_ m2]) (by kernel_rfl) rfl) fun b1 _ _ h4 u5 => ?_)))
  have M7 := mtu (Mod.refl [] w) u5
  refine was (v := S_ (⟨#[]⟩)) (was (v := I_ 0) (wnil (then_n (wp_seq (rg_lit (wmv (v := pt ub 0) (wlv (v := .agg #[I_ m1, I_ m2]) (lds 0 Ty.ag24 Ty.sz24 h4) (wl (sca [pt ub 0, .agg #[I_ m1, I_ m2]] En.f79 (rget_x (RIs.up h (Mod.up M7)) m1 m2) ?_)))))))))
  rintro e _ ⟨A10, n11, c12, rfl, _, u14⟩
  refine ⟨_, rfl, ?_⟩
  have M15 := mtu M7 u14
  refine wmv (v := .tuple #[itV (gotI L ⟨m1, m2⟩) (.slice A10 n11 c12), B_ (hasI L ⟨m1, m2⟩)]) (wlv (v := itV (gotI L ⟨m1, m2⟩) (.slice A10 n11 c12)) (xt [itV (gotI L ⟨m1, m2⟩) (.slice A10 n11 c12), B_ (hasI L ⟨m1, m2⟩)]) (wlv (v := B_ (hasI L ⟨m1, m2⟩)) (xt [itV (gotI L ⟨m1, m2⟩) (.slice A10 n11 c12), B_ (hasI L ⟨m1, m2⟩)]) (wl (sn rfl (cs := #[I_ 0, I_ 0, I_ 0, I_ 0, S_ (⟨#[]⟩), B_ false, B_ false, .slice none 0 0, I_ 0, I_ 0]) (T := 127) (V := fun b => pt b 0) (r_alloc Ty.zv127 rfl) fun b16 _ e18 h19 u20 => ?_))))
  have h21 := (up_ob u14 h4)
  have l22 := lsz e18 h21
  have g23 := gsz e18 M15
  refine wl (ss rfl (k := 0) (v := itV (gotI L ⟨m1, m2⟩) (.slice A10 n11 c12)) (vs := (itC (gotI L ⟨m1, m2⟩) (.slice A10 n11 c12))) (cs' := (itC (gotI L ⟨m1, m2⟩) (.slice A10 n11 c12))) (by kernel_rfl) (by kernel_rfl) rfl Ty.sz127 h19 rfl (Nat.le_of_ble_eq_true rfl) rfl fun _ h26 c27 => ?_)
  have M28 := mtn (mtu M15 u20) c27 g23
  refine was (v := B_ (hasI L ⟨m1, m2⟩)) (wnil (then_n (wp_seq (wp_seq (rg_lit (wmv (v := B_ (hasI L ⟨m1, m2⟩)) (wlv (v := B_ (!(hasI L ⟨m1, m2⟩))) (r_not (b := (hasI L ⟨m1, m2⟩)) (by kernel_rfl)) (wmv (v := B_ (!(hasI L ⟨m1, m2⟩))) ?_))))))))
  refine bcase (hasI L ⟨m1, m2⟩) (fun v29 => ?_) (fun v29 => ?_)
  ·
   iterate 4 refine wls rfl (bneg v29) ?_
   refine wlv (v := B_ true) (pkT (ebk (bneg v29))) (wnil (then_n (wp_cond_true (by kernel_rfl) (wp_seq (rg_lit (was (v := S_ (⟨#[]⟩)) (was (v := I_ 12) (wnil (then_n (wp_ret (then_x (by nofun) ?_)))))))))))
   refine br2 (v := S_ (⟨#[]⟩)) (u := I_ 12) rfl ?_
   exact ⟨shown_ret (shown_no1 v29), (Mod.up M28)⟩
  refine wlw rfl (bneg v29) (v := pt ub 0) (mv) ?_
  have h30 := (chg_ob c27 (Nat.ne_of_lt l22) (up_ob u20 h21))
  refine wlw rfl (bneg v29) (v := .agg #[I_ m1, I_ m2]) (lds 0 Ty.ag24 Ty.sz24 h30) ?_
  have h31 := (RIs.up h (Mod.up M28))
  refine wl (sc (wt (b := !(hasI L ⟨m1, m2⟩)) rfl (by kernel_rfl) (bneg v29)) (r_callv (caps := []) (all := [pt ub 0, .agg #[I_ m1, I_ m2]]) En.f78 (by kernel_rfl) (by kernel_rfl)) (rhangs_at h31 m1 m2) ?_)
  rintro e _ ⟨rfl, u33⟩
  refine ⟨_, rfl, ?_⟩
  have M34 := mtu M28 u33
  refine wlw rfl (bneg v29) (v := B_ (!(hangsI L 301 ⟨m1, m2⟩))) (r_not (b := (hangsI L 301 ⟨m1, m2⟩)) (by kernel_rfl)) (wlv (v := B_ (!(hangsI L 301 ⟨m1, m2⟩))) (pkF (ebk (bneg v29))) (wnil (then_n ?_)))
  refine bcase (hangsI L 301 ⟨m1, m2⟩) (fun v35 => ?_) (fun v35 => ?_)
  ·
   refine wp_cond_true (ebk (bneg v35)) (wp_seq (rg_lit (was (v := S_ (⟨#[]⟩)) (was (v := I_ 12) (wnil (then_n (wp_ret (then_x (by nofun) ?_))))))))
   refine br2 (v := S_ (⟨#[]⟩)) (u := I_ 12) rfl ?_
   exact ⟨shown_ret (shown_no2 v35), (Mod.up M34)⟩
  refine wp_cond_false (ebk (bneg v35)) (wp_skip (then_n (wp_seq (rg_lit (wmv (v := pt ub 0) (wlv (v := pt b16 2) (fa (pt b16 0)) (wlv (v := .agg #[I_ ((gotI L ⟨m1, m2⟩).parent.t), I_ ((gotI L ⟨m1, m2⟩).parent.w)]) (lds 2 Ty.ag24 Ty.sz24 (up_ob u33 h26)) ?_)))))))
  have h43 := (RIs.up h (Mod.up M34))
  refine wl (sca [pt ub 0, .agg #[I_ ((gotI L ⟨m1, m2⟩).parent.t), I_ ((gotI L ⟨m1, m2⟩).parent.w)]] En.f87 (row_sl (rkids_at h43 (Nat.le_trans hB M34.size) ((gotI L ⟨m1, m2⟩).parent.t) ((gotI L ⟨m1, m2⟩).parent.w))) ?_)
  rintro e w37 ⟨A38, c39, rfl, h40, u41⟩
  have h42 := IRow.base h40 M34.size
  refine ⟨_, rfl, ?_⟩
  refine was (v := .slice A38 ((kidsI ⟨(gotI L ⟨m1, m2⟩).parent.t, (gotI L ⟨m1, m2⟩).parent.w⟩ L).length) c39) (wnil (then_n (wp_seq (wp_seq (rg_lit (was (v := I_ 0) (wnil (then_n (wp_block ?_)))))))))
  refine lp (fun n a r1 => ∃ (k : Nat), (n = (kidsI ⟨(gotI L ⟨m1, m2⟩).parent.t, (gotI L ⟨m1, m2⟩).parent.w⟩ L).length - k) ∧ (HasFr a 44 [(0, pt ub 0), (1, .agg #[I_ m1, I_ m2]), (3, pt b1 0), (6, pt b16 0), (7, B_ (hasI L ⟨m1, m2⟩)), (8, .slice A38 ((kidsI ⟨(gotI L ⟨m1, m2⟩).parent.t, (gotI L ⟨m1, m2⟩).parent.w⟩ L).length) c39), (9, I_ k)] []) ∧ (Mod [] w37 r1) ∧ (k ≤ (kidsI ⟨(gotI L ⟨m1, m2⟩).parent.t, (gotI L ⟨m1, m2⟩).parent.w⟩ L).length) ∧ (Hid (∀ (j : Nat) (y : Item), j < k → (kidsI ⟨(gotI L ⟨m1, m2⟩).parent.t, (gotI L ⟨m1, m2⟩).parent.w⟩ L)[j]? = some y → ¬ y.node = ⟨m1, m2⟩))) ⟨_, 0, rfl, hmk, Mod.refl _ _, (Nat.zero_le _), (fun j y hj => absurd hj (Nat.not_lt_zero _))⟩ ?_
  rintro _ _ r1 ⟨k, rfl, h49, hM1, _, hF1_1⟩
  obtain ⟨_, rfl⟩ := h49
  have M50 := Mod.thin (mtu M34 u41) hM1 (by simp)
  refine wp_seq (wp_seq (rg_lit (wmv (v := I_ k) (wmv (v := .slice A38 ((kidsI ⟨(gotI L ⟨m1, m2⟩).parent.t, (gotI L ⟨m1, m2⟩).parent.w⟩ L).length) c39) (wlv (v := I_ (((kidsI ⟨(gotI L ⟨m1, m2⟩).parent.t, (gotI L ⟨m1, m2⟩).parent.w⟩ L).length) : Int)) (ln A38 ((kidsI ⟨(gotI L ⟨m1, m2⟩).parent.t, (gotI L ⟨m1, m2⟩).parent.w⟩ L).length) c39 Ty.un64) (wl (sb rfl (ltI k (((kidsI ⟨(gotI L ⟨m1, m2⟩).parent.t, (gotI L ⟨m1, m2⟩).parent.w⟩ L).length) : Int)) fun _ k52 => wnil (then_n ?_))))))))
  refine bcd k52 (fun v53 p54 => ?_) (fun v53 p54 => ?_)
  ·
   refine wp_cond_false (ebk v53) (wp_exit (then_x (by nofun) (then_x (by nofun) (inb_hit (then_n (wp_seq (rg_lit (was (v := S_ (⟨#[]⟩)) (was (v := I_ 12) (wnil (then_n (wp_ret ?_))))))))))))
   refine br2 (v := S_ (⟨#[]⟩)) (u := I_ 12) rfl ?_
   exact ⟨shown_ret (shownD_miss (k := k) (show (kidsI ⟨(gotI L ⟨m1, m2⟩).parent.t, (gotI L ⟨m1, m2⟩).parent.w⟩ L).length ≤ k by omega) hF1_1), (Mod.up M50)⟩
  have q55 : k < (kidsI ⟨(gotI L ⟨m1, m2⟩).parent.t, (gotI L ⟨m1, m2⟩).parent.w⟩ L).length := by omega
  refine wp_cond_true (ebk v53) (wp_skip (then_n (wp_seq (wp_block (wp_seq ?_)))))
  refine rg_all (by kernel_rfl) (by kernel_rfl) ?_
  refine qmv (v := .slice A38 ((kidsI ⟨(gotI L ⟨m1, m2⟩).parent.t, (gotI L ⟨m1, m2⟩).parent.w⟩ L).length) c39) (qmv (v := I_ k) ?_)
  have h56 := (IRow.up h42 (Mod.up hM1))
  obtain ⟨y57, hy57⟩ : ∃ x, (kidsI ⟨(gotI L ⟨m1, m2⟩).parent.t, (gotI L ⟨m1, m2⟩).parent.w⟩ L)[k]? = some x := ⟨_, List.getElem?_eq_getElem q55⟩
  obtain ⟨g57, _, cu57, dA57, dn57, dc57, hA57, _, hb57, he57, _⟩ := h56.get hy57
  injection hA57 with hA57 _ _
  replace he57 : (cu57.toList.drop (0 + k * 10)).take 10 = (itC y57 (.slice dA57 dn57 dc57)) := by rw [Nat.zero_add]; exact he57
  refine qv rfl (v := pt g57 (0 + k * 10)) (fun _ _ => ixa ((kidsI ⟨(gotI L ⟨m1, m2⟩).parent.t, (gotI L ⟨m1, m2⟩).parent.w⟩ L).length) c39 10 k hA57 Ty.un64 Ty.sz127) (qv rfl (v := pt g57 (0 + k * 10)) (fun _ _ => fa (pt g57 (0 + k * 10))) (qv rfl (v := .agg #[I_ y57.node.t, I_ y57.node.w]) (fun _ uz => r_loads (k := 0 + k * 10) (by kernel_rfl) Ty.ag24 Ty.sz24 (up_ob uz hb57) (el_sub0 he57 rfl)) (qv rfl (v := .agg #[I_ m1, I_ m2]) (fun _ uz => lds 0 Ty.ag24 Ty.sz24 (up_ob uz (md_ob hM1 nin0 (up_ob u41 (up_ob u33 h30))))) ?_)))
  refine qb rfl (fun _ _ => r_eqS (a := y57.node.t) (b := y57.node.w) (c := m1) (e := m2) (by kernel_rfl) (by kernel_rfl)) fun _ k60 => ?_
  refine qnil fun _ u62 => ?_
  have M64 := mtu hM1 u62
  refine then_n ?_
  refine bcd k60 (fun v65 p66 => ?_) (fun v65 p66 => ?_)
  ·
   refine wp_cond_false (ebk v65) (wp_skip (inb_n (then_n (rg_lit (wmv (v := I_ k) (wlv (v := I_ ((k : Int) + 1)) (adN k 1) (was (v := I_ ((k : Int) + 1)) (wnil (then_n ?_)))))))))
   refine ⟨(kidsI ⟨(gotI L ⟨m1, m2⟩).parent.t, (gotI L ⟨m1, m2⟩).parent.w⟩ L).length - (k + 1), ?_, (k + 1), rfl, hmk, M64, (by omega), (none_next (p := fun y : Item => y.node = ⟨m1, m2⟩) hF1_1 hy57 p66)⟩
   · omega
  refine wp_cond_true (ebk v65) (wp_seq (rg_lit (wmv (v := .slice A38 ((kidsI ⟨(gotI L ⟨m1, m2⟩).parent.t, (gotI L ⟨m1, m2⟩).parent.w⟩ L).length) c39) (wmv (v := I_ k) ?_))))
  have h69 := (IRow.up h42 (Mod.up M64))
  refine wl (sca [.slice A38 ((kidsI ⟨(gotI L ⟨m1, m2⟩).parent.t, (gotI L ⟨m1, m2⟩).parent.w⟩ L).length) c39, I_ k] En.f144 (shownD1_at h69 hy57 ((Fit.kids hF _).1 _ (List.mem_of_getElem? hy57)) (kids_300 hF _)) ?_)
  rintro e _ ⟨rfl, u68⟩
  refine ⟨_, rfl, ?_⟩
  refine was (v := S_ (nmAt (kidsI ⟨(gotI L ⟨m1, m2⟩).parent.t, (gotI L ⟨m1, m2⟩).parent.w⟩ L) k y57)) (was (v := I_ 0) (wnil (then_n (wp_ret (inb_r (then_x (by nofun) (then_x (by nofun) (inb_r (then_x (by nofun) ?_)))))))))
  refine br2 (v := S_ (nmAt (kidsI ⟨(gotI L ⟨m1, m2⟩).parent.t, (gotI L ⟨m1, m2⟩).parent.w⟩ L) k y57)) (u := I_ 0) rfl ?_
  exact ⟨shown_ret (shownD_hit hF v29 v35 hy57 p66), (Mod.up (mtu (mtu M50 u62) u68))⟩
set_option maxRecDepth 20000 in
set_option maxHeartbeats 2000000 in
theorem ofD_at {B : Nat} {w : World} {ub : Nat} {L : List Item} (h : RIs B w ub L) (hB : B ≤ w.heap.size) (hF : Fit L) (m1 m2 : Int) : Calls Tryz.prog 53 #[trP ub, .agg #[.int .i64 m1, .int .i64 m2]] w fun e w' => e = .returned (.tuple #[.string (ofB L ⟨m1, m2⟩), .int .i64 (ofK L ⟨m1, m2⟩)]) ∧ Up w w' := by
  go_enter Tryz.func53, Tryz.ntmps53
  refine wp_seq (rg_lit (wl (sn rfl (cs := #[I_ m1, I_ m2]) (T := 24) (V := fun b => pt b 0) (r_box (v := .agg #[I_ m1, I_ m2]) (by kernel_rfl) rfl) fun pb w1 e2 h3 u4 => ?_)))
  have g5 := gsz e2 (Mod.refl [] w)
  have M6 := mtu (Mod.refl [] w) u4
  refine was (v := S_ (⟨#[]⟩)) (was (v := I_ 0) (wnil (then_n (wp_seq (wp_seq (rg_lit (wmv (v := pt ub 0) (wlv (v := .agg #[I_ m1, I_ m2]) (lds 0 Ty.ag24 Ty.sz24 h3) ?_))))))))
  have h7 := (RIs.up h (Mod.up M6))
  refine wl (sca [pt ub 0, .agg #[I_ m1, I_ m2]] En.f78 (rhangs_at h7 m1 m2) ?_)
  rintro e w8 ⟨rfl, u9⟩
  refine ⟨_, rfl, ?_⟩
  have M10 := mtu M6 u9
  refine wlv (v := B_ (!(hangsI L 301 ⟨m1, m2⟩))) (r_not (b := (hangsI L 301 ⟨m1, m2⟩)) (by kernel_rfl)) (wnil (then_n ?_))
  refine bcase (hangsI L 301 ⟨m1, m2⟩) (fun v11 => ?_) (fun v11 => ?_)
  ·
   refine wp_cond_true (ebk (bneg v11)) (wp_seq (rg_lit (was (v := S_ (⟨#[]⟩)) (was (v := I_ 12) (wnil (then_n (wp_ret (then_x (by nofun) ?_))))))))
   refine br2 (v := S_ (⟨#[]⟩)) (u := I_ 12) rfl ?_
   exact ⟨of_ret (of_no v11), (Mod.up M10)⟩
  refine wp_cond_false (ebk (bneg v11)) (wp_skip (then_n (wp_seq (rg_lit (was (v := S_ (⟨#[]⟩)) (wnil (then_n (wp_seq (wp_seq (rg_lit (was (v := I_ 0) (wnil (then_n (wp_block ?_))))))))))))))
  refine lp (fun n a r1 => ∃ (k : Nat) (s1 : Int) (s2 : Int) (acc : List ByteArray) (sx : ByteArray), (n = 17 - k) ∧ (HasFr a 44 [(0, pt ub 0), (1, .agg #[I_ m1, I_ m2]), (3, pt pb 0), (6, S_ sx), (7, I_ k)] []) ∧ (Mod [pb] w8 r1) ∧ (r1.heap[pb]? = some (.cells #[I_ s1, I_ s2] 24 (0, 0))) ∧ (k ≤ 16) ∧ (acc.length = k) ∧ (ofL L (16 - k) ⟨s1, s2⟩ acc = ofL L 16 ⟨m1, m2⟩ []) ∧ (Shorts acc) ∧ (sx = slashL acc.reverse)) ⟨_, 0, m1, m2, [], ⟨#[]⟩, rfl, hmk, Mod.refl _ _, (up_ob u9 h3), (Nat.zero_le _), rfl, rfl, (fun x hx => absurd hx (by simp)), rfl⟩ ?_
  rintro _ _ r1 ⟨k, s1, s2, acc, sx, rfl, h14, hM1, hX1pb, _, _, hF1_2, hF1_3, hF1_4⟩
  obtain ⟨_, rfl⟩ := h14
  have M15 := Mod.thin M10 hM1 (fun y hy => by simp only [List.mem_cons, List.not_mem_nil, or_false] at hy; subst hy; exact .inr g5)
  refine wp_seq (wp_seq (rg_lit (wlv (v := .agg #[I_ s1, I_ s2]) (lds 0 Ty.ag24 Ty.sz24 hX1pb) (wlv (v := .agg #[I_ 0, I_ 0]) (r_build (ps := []) (cs := [I_ 0, I_ 0]) Ty.un24 Ty.zv24 Ty.pl24 (by kernel_rfl) (by kernel_rfl)) (wl (sb rfl (r_neS2 (a := s1) (b := s2) (c := 0) (e := 0) (by kernel_rfl) (by kernel_rfl)) fun _ k17 => wnil (then_n ?_)))))))
  refine bcd k17 (fun v18 p19 => ?_) (fun v18 p19 => ?_)
  ·
   refine wp_cond_false (ebk v18) (wp_exit (then_x (by nofun) (then_x (by nofun) (inb_hit (then_n (wp_seq (wp_seq (rg_lit (wmv (v := S_ sx) (wl (sb rfl (r_eqs (m := sx) (n := (⟨#[]⟩)) (by kernel_rfl) (by kernel_rfl)) fun b20 k21 => wnil (then_n ?_))))))))))))
   refine bcd k21 (fun v22 p23 => ?_) (fun v22 p23 => ?_)
   ·
    refine wp_cond_false (ebk v22) (wp_skip (then_n (wp_seq (rg_lit (wmv (v := S_ sx) (was (v := S_ sx) (was (v := I_ 0) (wnil (then_n (wp_ret ?_))))))))))
    refine br2 (v := S_ sx) (u := I_ 0) rfl ?_
    have hz0 : ofL L 16 ⟨m1, m2⟩ [] = some acc := by rw [← hF1_2, Decidable.not_not.1 p19]; exact ofL_nil
    have hze := p23
    rw [hF1_4] at hze
    exact ⟨of_ret (b := sx) ⟨(of_yes v11 hz0).1.trans ((slashR_n hze).trans hF1_4.symm), (of_yes v11 hz0).2⟩, (Mod.up M15)⟩
   refine wp_cond_true (ebk v22) (rg_lit (was (v := S_ (⟨#[47]⟩)) (wnil (then_n (wp_seq (rg_lit (wmv (v := S_ (⟨#[47]⟩)) (was (v := S_ (⟨#[47]⟩)) (was (v := I_ 0) (wnil (then_n (wp_ret ?_))))))))))))
   refine br2 (v := S_ (⟨#[47]⟩)) (u := I_ 0) rfl ?_
   have hz0 : ofL L 16 ⟨m1, m2⟩ [] = some acc := by rw [← hF1_2, Decidable.not_not.1 p19]; exact ofL_nil
   have hze := p23
   rw [hF1_4] at hze
   exact ⟨of_ret (b := ⟨#[47]⟩) ⟨(of_yes v11 hz0).1.trans (slashR_e hze), (of_yes v11 hz0).2⟩, (Mod.up M15)⟩
  refine wp_cond_true (ebk v18) (wp_skip (then_n (wp_seq (wp_block (wp_seq (wp_seq (rg_lit (wmv (v := I_ k) (wl (sb rfl (eqI k 16) fun b20 k21 => wnil (then_n ?_)))))))))))
  refine bcd k21 (fun v22 p23 => ?_) (fun v22 p23 => ?_)
  ·
   refine wp_cond_false (ebk v22) (wp_skip (then_n (wp_seq (rg_lit (wmv (v := pt ub 0) (wlv (v := .agg #[I_ s1, I_ s2]) (lds 0 Ty.ag24 Ty.sz24 hX1pb) (wl (sca [pt ub 0, .agg #[I_ s1, I_ s2]] En.f79 (rget_x (RIs.up h (Mod.up M15)) s1 s2) ?_))))))))
   rintro e _ ⟨A26, n27, c28, rfl, _, u30⟩
   refine ⟨_, rfl, ?_⟩
   have M31 := mtu M15 u30
   have M32 := mtu hM1 u30
   refine wmv (v := .tuple #[itV (gotI L ⟨s1, s2⟩) (.slice A26 n27 c28), B_ (hasI L ⟨s1, s2⟩)]) (wlv (v := itV (gotI L ⟨s1, s2⟩) (.slice A26 n27 c28)) (xt [itV (gotI L ⟨s1, s2⟩) (.slice A26 n27 c28), B_ (hasI L ⟨s1, s2⟩)]) (wlv (v := B_ (hasI L ⟨s1, s2⟩)) (xt [itV (gotI L ⟨s1, s2⟩) (.slice A26 n27 c28), B_ (hasI L ⟨s1, s2⟩)]) (wl (sn rfl (cs := #[I_ 0, I_ 0, I_ 0, I_ 0, S_ (⟨#[]⟩), B_ false, B_ false, .slice none 0 0, I_ 0, I_ 0]) (T := 127) (V := fun b => pt b 0) (r_alloc Ty.zv127 rfl) fun b33 _ e35 h36 u37 => ?_))))
   have h38 := (up_ob u30 hX1pb)
   have l39 := lsz e35 h38
   have g40 := gsz e35 M31
   have g41 := gsz e35 M32
   refine wl (ss rfl (k := 0) (v := itV (gotI L ⟨s1, s2⟩) (.slice A26 n27 c28)) (vs := (itC (gotI L ⟨s1, s2⟩) (.slice A26 n27 c28))) (cs' := (itC (gotI L ⟨s1, s2⟩) (.slice A26 n27 c28))) (by kernel_rfl) (by kernel_rfl) rfl Ty.sz127 h36 rfl (Nat.le_of_ble_eq_true rfl) rfl fun _ h45 c46 => ?_)
   have M47 := mtn (mtu M31 u37) c46 g40
   refine was (v := B_ (hasI L ⟨s1, s2⟩)) (wnil (then_n (wp_seq (rg_lit (wmv (v := pt ub 0) ?_)))))
   have h49 := (chg_ob c46 (Nat.ne_of_lt l39) (up_ob u37 h38))
   refine wlv (v := .agg #[I_ s1, I_ s2]) (lds 0 Ty.ag24 Ty.sz24 h49) ?_
   have h50 := (RIs.up h (Mod.up M47))
   refine wl (sca [pt ub 0, .agg #[I_ s1, I_ s2]] En.f111 (shownD_at h50 (Nat.le_trans hB M47.size) hF s1 s2) ?_)
   rintro e _ ⟨rfl, u52⟩
   refine ⟨_, rfl, ?_⟩
   refine wmv (v := .tuple #[S_ (shownB L ⟨s1, s2⟩), I_ (shownK L ⟨s1, s2⟩)]) (wlv (v := S_ (shownB L ⟨s1, s2⟩)) (xt [S_ (shownB L ⟨s1, s2⟩), I_ (shownK L ⟨s1, s2⟩)]) (wlv (v := I_ (shownK L ⟨s1, s2⟩)) (xt [S_ (shownB L ⟨s1, s2⟩), I_ (shownK L ⟨s1, s2⟩)]) (was (v := S_ (shownB L ⟨s1, s2⟩)) (was (v := I_ (shownK L ⟨s1, s2⟩)) (wnil (then_n (wp_seq (rg_lit (wmv (v := S_ (shownB L ⟨s1, s2⟩)) (wlv (v := S_ ((⟨#[47]⟩ : ByteArray) ++ (shownB L ⟨s1, s2⟩))) (r_adds (m := (⟨#[47]⟩)) (n := (shownB L ⟨s1, s2⟩)) (by kernel_rfl) (by kernel_rfl) (by have q1 := slashR_len hF1_3; have q2 : (⟨#[47]⟩ : ByteArray).size = 1 := rfl; rw [← hF1_4] at q1; have q3 := shown_short (L := L) hF ⟨s1, s2⟩; rw [← sz_len] at q3; (try simp only [ByteArray.size_append]); omega)) (wmv (v := S_ sx) ?_)))))))))))
   refine wlv (v := S_ (((⟨#[47]⟩ : ByteArray) ++ (shownB L ⟨s1, s2⟩)) ++ sx)) (r_adds (m := ((⟨#[47]⟩ : ByteArray) ++ (shownB L ⟨s1, s2⟩))) (n := sx) (by kernel_rfl) (by kernel_rfl) (by have q1 := slashR_len hF1_3; have q2 : (⟨#[47]⟩ : ByteArray).size = 1 := rfl; rw [← hF1_4] at q1; have q3 := shown_short (L := L) hF ⟨s1, s2⟩; rw [← sz_len] at q3; (try simp only [ByteArray.size_append]); omega)) (was (v := S_ (((⟨#[47]⟩ : ByteArray) ++ (shownB L ⟨s1, s2⟩)) ++ sx)) (wnil (then_n (rg_lit (wlv (v := pt b33 2) (fa (pt b33 0)) (wlv (v := .agg #[I_ ((gotI L ⟨s1, s2⟩).parent.t), I_ ((gotI L ⟨s1, s2⟩).parent.w)]) (lds 2 Ty.ag24 Ty.sz24 (up_ob u52 h45)) (wl (ss rfl (k := 0) (v := .agg #[I_ ((gotI L ⟨s1, s2⟩).parent.t), I_ ((gotI L ⟨s1, s2⟩).parent.w)]) (vs := [I_ ((gotI L ⟨s1, s2⟩).parent.t), I_ ((gotI L ⟨s1, s2⟩).parent.w)]) (cs' := [I_ ((gotI L ⟨s1, s2⟩).parent.t), I_ ((gotI L ⟨s1, s2⟩).parent.w)]) (by kernel_rfl) (by kernel_rfl) rfl Ty.sz24 (up_ob u52 h49) rfl (Nat.le_of_ble_eq_true rfl) rfl fun _ h58 c59 => wnil (inb_n (then_n (rg_lit (wmv (v := I_ k) (wlv (v := N_ (k + 1)) (adN k 1) ?_)))))))))))))
   refine was (v := N_ (k + 1)) (wnil (then_n ?_))
   refine ⟨17 - (k + 1), ?_, (k + 1), (gotI L ⟨s1, s2⟩).parent.t, (gotI L ⟨s1, s2⟩).parent.w, (acc ++ [(shownB L ⟨s1, s2⟩)]), (((⟨#[47]⟩ : ByteArray) ++ (shownB L ⟨s1, s2⟩)) ++ sx), rfl, hmk, (mtx (mtu (mtn (mtu M32 u37) c46 g41) u52) c59), h58, (by omega), (by simp only [List.length_append, List.length_cons, List.length_nil]; omega), ((ofL_go (by omega) p19).symm.trans hF1_2), (Shorts.snoc hF1_3 (shown_short hF _)), (by rw [slashR, ← hF1_4])⟩
   · omega
  refine wp_cond_true (ebk v22) (wp_seq (rg_lit (was (v := S_ (⟨#[]⟩)) (was (v := I_ 3) (wnil (then_n (wp_ret (then_x (by nofun) (inb_r (then_x (by nofun) (then_x (by nofun) (inb_r (then_x (by nofun) ?_)))))))))))))
  refine br2 (v := S_ (⟨#[]⟩)) (u := I_ 3) rfl ?_
  have hz0 : ofL L 16 ⟨m1, m2⟩ [] = none := by rw [← hF1_2, show 16 - k = 0 by omega]; exact ofL_stop p19
  exact ⟨of_ret (of_deep v11 hz0), (Mod.up M15)⟩
end Go.Proofs.YtefhfoioeoijlaaGreatDoor
set_option linter.unusedVariables false
set_option linter.unusedSimpArgs false
namespace Go.Proofs.YtefhfoioeoijlaaGreatDoor
open Go Go.RowKit Go.Sort
def lessB (a b : ByteArray) : Bool := Op.bytesLess a.data.toList b.data.toList
def LessI (a b : ByteArray) (k : Nat) : Prop := k ≤ a.size ∧ k ≤ b.size ∧ ∀ j, j < k → a.data.toList[j]? = b.data.toList[j]?
theorem LessI.zero (a b : ByteArray) : LessI a b 0 := ⟨Nat.zero_le _, Nat.zero_le _, fun j hj => absurd hj (Nat.not_lt_zero _)⟩
theorem less_drop : ∀ (k : Nat) (a b : List UInt8), k ≤ a.length → k ≤ b.length → (∀ j, j < k → a[j]? = b[j]?) → Op.bytesLess a b = Op.bytesLess (a.drop k) (b.drop k)
  | 0, a, b, _, _, _ => by simp
  | k + 1, x :: a, y :: b, h1, h2, h => by
    have e := h 0 (by omega)
    simp at e
    subst e
    have ih := less_drop k a b (by simpa using h1) (by simpa using h2) (fun j hj => by have := h (j + 1) (by omega); simpa using this)
    rw [List.drop_succ_cons, List.drop_succ_cons, ← ih]
    simp [Op.bytesLess]
  | k + 1, [], b, h1, _, _ => by simp at h1
  | k + 1, x :: a, [], _, h2, _ => by simp at h2
theorem u8_lt {x y : UInt8} : decide (x < y) = decide (((x.toNat : Nat) : Int) < ((y.toNat : Nat) : Int)) := by
  rw [decide_eq_decide, UInt8.lt_iff_toNat_lt]; omega
theorem LessI.next {a b : ByteArray} {k : Nat} {x y : UInt8} (h : LessI a b k) (hx : a.data.toList[k]? = some x) (hy : b.data.toList[k]? = some y) (e : ¬ ((x.toNat : Nat) : Int) ≠ ((y.toNat : Nat) : Int)) : LessI a b (k + 1) := by
  have e2 : x = y := UInt8.toNat_inj.1 (by omega)
  have h1 := (List.getElem?_eq_some_iff.1 hx).1
  have h2 := (List.getElem?_eq_some_iff.1 hy).1
  rw [← sz_len] at h1 h2
  refine ⟨h1, h2, fun j hj => ?_⟩
  rcases Nat.lt_or_ge j k with h3 | h3
  · exact h.2.2 j h3
  · obtain rfl : j = k := by omega
    rw [hx, hy, e2]
theorem LessI.hit {a b : ByteArray} {k : Nat} {x y : UInt8} (h : LessI a b k) (hx : a.data.toList[k]? = some x) (hy : b.data.toList[k]? = some y) (e : ((x.toNat : Nat) : Int) ≠ ((y.toNat : Nat) : Int)) : lessB a b = decide (((x.toNat : Nat) : Int) < ((y.toNat : Nat) : Int)) := by
  have h1 := (List.getElem?_eq_some_iff.1 hx)
  have h2 := (List.getElem?_eq_some_iff.1 hy)
  unfold lessB
  rw [less_drop k _ _ (Nat.le_of_lt h1.1) (Nat.le_of_lt h2.1) h.2.2, List.drop_eq_getElem_cons h1.1, List.drop_eq_getElem_cons h2.1, h1.2, h2.2, ← u8_lt]
  have hne : ¬ x = y := fun e2 => e (by rw [e2])
  simp [Op.bytesLess, hne]
theorem LessI.fin {a b : ByteArray} {k : Nat} (h : LessI a b k) (hk : ¬ ((k : Int) < ((a.size : Nat) : Int) ∧ (k : Int) < ((b.size : Nat) : Int))) : lessB a b = decide (((a.size : Nat) : Int) < ((b.size : Nat) : Int)) := by
  have ha := sz_len a
  have hb := sz_len b
  have h1 := h.1
  have h2 := h.2.1
  unfold lessB
  rw [less_drop k _ _ (by omega) (by omega) h.2.2]
  by_cases e : a.size ≤ k
  · rw [List.drop_eq_nil_of_le (by omega : a.data.toList.length ≤ k)]
    by_cases e2 : b.size ≤ k
    · rw [List.drop_eq_nil_of_le (by omega : b.data.toList.length ≤ k), decide_eq_false (by omega)]; rfl
    · rw [List.drop_eq_getElem_cons (by omega : k < b.data.toList.length), decide_eq_true (by omega)]; rfl
  · rw [List.drop_eq_nil_of_le (by omega : b.data.toList.length ≤ k), List.drop_eq_getElem_cons (by omega : k < a.data.toList.length), decide_eq_false (by omega)]; rfl
theorem lessB_lt {a b : ByteArray} : lessB a b = true ↔ a.data.toList < b.data.toList := by
  unfold lessB; rw [Go.Proofs.bytesLess_eq, decide_eq_true_eq]
theorem lessB_le {a b : ByteArray} (h : ¬ lessB a b = true) : b.data.toList ≤ a.data.toList := by
  rw [lessB_lt] at h; exact List.not_lt.1 h
theorem ltL_tr {a b c : List UInt8} (h : a < b) (k : b ≤ c) : a < c := by
  refine lt_of a c (List.le_trans (List.le_of_lt h) k) fun e => ?_
  subst e
  exact List.not_lt.2 k h
theorem info_entD : ∃ i z, Tryz.prog.info? 160 = some i ∧ i.zero = some z ∧ i.size = 5 ∧ i.bytes = 48 ∧ z.cells.size = 5 := by
  have h : (Tryz.prog.info? 160).map (fun i => (i.zero.map (·.cells.size), i.size, i.bytes)) = some (some 5, 5, 48) := by kernel_rfl
  cases hi : Tryz.prog.info? 160 with
  | none => rw [hi] at h; cases h
  | some i =>
    rw [hi] at h; simp at h
    obtain ⟨⟨z, hz, h1⟩, h2, h3⟩ := h
    exact ⟨i, z, rfl, hz, h2, h3, h1⟩
theorem enc_ent : Enc 160 enC 5 48 := ⟨fun x => by simp [enC], fun x u hu => by simp [enC] at hu; rcases hu with rfl | rfl | rfl | rfl | rfl <;> rfl, info_entD, by omega, by omega⟩
theorem name_size {L : List Item} (hF : Fit L) {n : Stamp} {k : Nat} {D : List EntD} (h : Listed (entsI ((kidsI n L).take k)) D) {y : EntD} (hy : y ∈ D) : y.name.size ≤ 100 := by
  have h1 := h.1.mem_iff.1 hy
  have h2 : ∀ z ∈ (kidsI n L).take k, OKI z := fun z hz => (Fit.kids hF n).1 z (List.mem_of_mem_take hz)
  have := ents_short h2 y h1
  rw [sz_len]; exact this
theorem nm_size {L : List Item} (hF : Fit L) {n : Stamp} {k : Nat} {x : Item} (hx : (kidsI n L)[k]? = some x) : (nmAt (kidsI n L) k x).size ≤ 100 := by
  have h2 := ents_short (Fit.kids hF n).1 _ (List.mem_of_getElem? (entsI_get hx))
  rw [sz_len]; exact h2
theorem ent_step {l : List Item} {k n : Nat} {y : Item} (hy : l[k]? = some y) (hd : y.data.length = n) : entsI (l.take (k + 1)) = entsI (l.take k) ++ [(⟨nmAt l k y, ⟨y.node.t, y.node.w⟩, y.dir, n⟩ : EntD)] := by
  subst hd; exact entsI_next hy
theorem listed_nil : Listed [] [] := ⟨List.Perm.refl _, by simp⟩
theorem pw_ins {α : Type} {R : α → α → Prop} {D : List α} {e : α} {k : Nat} (h : D.Pairwise R) (h1 : ∀ (j : Nat) (y : α), j < k → D[j]? = some y → R y e) (h2 : ∀ (j : Nat) (y : α), k ≤ j → D[j]? = some y → R e y) : (D.take k ++ [e] ++ D.drop k).Pairwise R := by
  have hs := h
  rw [← List.take_append_drop k D, List.pairwise_append] at hs
  obtain ⟨p1, p2, p3⟩ := hs
  have hl : ∀ a ∈ D.take k, R a e := fun a ha => by
    obtain ⟨j, hj⟩ := List.mem_iff_getElem?.1 ha
    rw [List.getElem?_take] at hj
    split at hj
    · exact h1 j a (by assumption) hj
    · cases hj
  have hr : ∀ b ∈ D.drop k, R e b := fun b hb => by
    obtain ⟨j, hj⟩ := List.mem_iff_getElem?.1 hb
    rw [List.getElem?_drop] at hj
    exact h2 _ b (by omega) hj
  rw [List.append_assoc, List.pairwise_append]
  refine ⟨p1, ?_, ?_⟩
  · rw [List.singleton_append, List.pairwise_cons]; exact ⟨hr, p2⟩
  · intro a ha b hb
    rw [List.singleton_append, List.mem_cons] at hb
    rcases hb with rfl | hb
    · exact hl a ha
    · exact p3 a ha b hb
theorem perm_ins {α : Type} {D E : List α} {e : α} {k : Nat} (h : D.Perm E) : (D.take k ++ [e] ++ D.drop k).Perm (E ++ [e]) := by
  have h1 : (D.take k ++ [e] ++ D.drop k).Perm (D.take k ++ D.drop k ++ [e]) := by
    rw [List.append_assoc, List.append_assoc]
    exact List.Perm.append_left _ List.perm_append_comm
  rw [List.take_append_drop] at h1
  exact h1.trans (h.append_right _)
theorem pw_from {α : Type} {R : α → α → Prop} {D : List α} {k : Nat} {y : α} (h : D.Pairwise R) (hy : D[k]? = some y) {j : Nat} {z : α} (hj : k ≤ j) (hz : D[j]? = some z) : z = y ∨ R y z := by
  rcases Nat.eq_or_lt_of_le hj with rfl | hj
  · rw [hy] at hz; injection hz with hz; exact .inl hz.symm
  · right
    have h1 := List.getElem?_eq_some_iff.1 hy
    have h2 := List.getElem?_eq_some_iff.1 hz
    have := List.pairwise_iff_getElem.1 h k j h1.1 h2.1 hj
    rwa [h1.2, h2.2] at this
theorem listed_ins {E D : List EntD} {e : EntD} {k : Nat} (h : Listed E D) (hne : ∀ y ∈ E, y.name ≠ e.name) (h1 : Hid (∀ (j : Nat) (y : EntD), j < k → D[j]? = some y → ¬ lessB e.name y.name = true)) (h2 : k = D.length ∨ ∃ y, D[k]? = some y ∧ lessB e.name y.name = true) : Listed (E ++ [e]) (D.take k ++ [e] ++ D.drop k) := by
  refine ⟨perm_ins h.1, pw_ins h.2 (fun j y hj hy => ?_) (fun j z hj hz => ?_)⟩
  · have hle := lessB_le (h1.out j y hj hy)
    have hn := hne y (h.1.mem_iff.1 (List.mem_of_getElem? hy))
    exact lessB_lt.2 (lt_of _ _ hle fun e2 => hn (by cases hyn : y.name; cases hen : e.name; rw [hyn, hen] at e2; congr 1; exact Array.toList_inj.1 e2))
  · rcases h2 with h2 | ⟨y, hy, hl⟩
    · have := (List.getElem?_eq_some_iff.1 hz).1; omega
    · have hl' := lessB_lt.1 hl
      rcases pw_from h.2 hy hj hz with rfl | hr
      · exact hl
      · exact lessB_lt.2 (ltL_tr hl' (List.le_of_lt (lessB_lt.1 hr)))
theorem ents_new {L : List Item} (hF : Fit L) {n : Stamp} {k m : Nat} {y : Item} (hy : (kidsI n L)[k]? = some y) (hd : y.data.length = m) : ∀ z ∈ entsI ((kidsI n L).take k), z.name ≠ nmAt (kidsI n L) k y := by
  intro z hz
  have h1 := hF.apart n
  have h3 : (entsI (kidsI n L)).take (k + 1) = entsI ((kidsI n L).take (k + 1)) := by
    refine List.ext_getElem? fun j => ?_
    rw [List.getElem?_take]
    split
    · rename_i hj
      have hlk := (List.getElem?_eq_some_iff.1 hy).1
      have hx : (kidsI n L)[j]? = some (kidsI n L)[j] := List.getElem?_eq_getElem (by omega)
      rw [entsI_get hx, entsI_get (l := (kidsI n L).take (k + 1)) (k := j) (x := (kidsI n L)[j]) (by rw [List.getElem?_take, if_pos hj]; exact hx)]
      rw [List.take_take, Nat.min_eq_left (by omega)]
    · rename_i hj
      rw [List.getElem?_eq_none]
      rw [entsI_len, List.length_take]; omega
  have h2 : entsI (kidsI n L) = entsI ((kidsI n L).take (k + 1)) ++ (entsI (kidsI n L)).drop (k + 1) := by rw [← h3, List.take_append_drop]
  rw [h2, ent_step hy hd, List.append_assoc, List.pairwise_append] at h1
  exact h1.2.2 z hz (⟨nmAt (kidsI n L) k y, ⟨y.node.t, y.node.w⟩, y.dir, m⟩ : EntD) (List.mem_append_left _ (List.mem_singleton_self _))
def SrtB (S D : List ByteArray) : Prop := D.Perm S ∧ D.Pairwise fun x y => x.data.toList ≤ y.data.toList
theorem srtB_nil : SrtB [] [] := ⟨List.Perm.refl _, by simp⟩
theorem srtB_ins {S D : List ByteArray} {e : ByteArray} {k : Nat} (h : SrtB S D) (h1 : Hid (∀ (j : Nat) (y : ByteArray), j < k → D[j]? = some y → ¬ lessB e y = true)) (h2 : k = D.length ∨ ∃ y, D[k]? = some y ∧ lessB e y = true) : SrtB (S ++ [e]) (D.take k ++ [e] ++ D.drop k) := by
  refine ⟨perm_ins h.1, pw_ins h.2 (fun j y hj hy => lessB_le (h1.out j y hj hy)) (fun j z hj hz => ?_)⟩
  rcases h2 with h2 | ⟨y, hy, hl⟩
  · have := (List.getElem?_eq_some_iff.1 hz).1; omega
  · have hl' := List.le_of_lt (lessB_lt.1 hl)
    rcases pw_from h.2 hy hj hz with rfl | hr
    · exact hl'
    · exact List.le_trans hl' hr
theorem srt_one : ∀ {D D' : List ByteArray}, D.Perm D' → D.Pairwise (fun x y => x.data.toList ≤ y.data.toList) → D'.Pairwise (fun x y => x.data.toList ≤ y.data.toList) → D = D'
  | [], D', hp, _, _ => (List.nil_perm.1 hp).symm
  | x :: D, [], hp, _, _ => by cases List.perm_nil.1 hp
  | x :: D, y :: D', hp, h1, h2 => by
    have q1 := List.pairwise_cons.1 h1
    have q2 := List.pairwise_cons.1 h2
    have e : x = y := by
      have hx := hp.mem_iff.1 (List.mem_cons_self (a := x) (l := D))
      have hy := hp.mem_iff.2 (List.mem_cons_self (a := y) (l := D'))
      rcases List.mem_cons.1 hx with e | hx
      · exact e
      · rcases List.mem_cons.1 hy with e | hy
        · exact e.symm
        · have a1 := q2.1 x hx
          have a2 := q1.1 y hy
          have a3 := List.le_antisymm a1 a2
          cases x; cases y; congr 1; exact (Array.toList_inj.1 a3).symm
    subst e
    rw [srt_one ((List.perm_cons x).1 hp) q1.2 q2.2]
theorem srtB_one {S D : List ByteArray} (h : SrtB S D) : D = sortB S := srt_one (h.1.trans (sortB_perm S).symm) h.2 (sortB_sorted S)
theorem paths_next {L : List Item} {k : Nat} {y : Item} (hy : L[k]? = some y) (h : ¬ ofK L y.node ≠ 0) : pathsI L (L.take (k + 1)) = pathsI L (L.take k) ++ [ofB L y.node] := by
  have := paths_yes (M := L) hy (Decidable.not_not.1 h)
  simpa using this.symm
end Go.Proofs.YtefhfoioeoijlaaGreatDoor
namespace Go.Proofs.YtefhfoioeoijlaaGreatDoor
open Go Go.RowKit Go.Sort
theorem listD_len {L : List Item} (hF : Fit L) {n : Stamp} {D : List EntD} (hl : kidK L n = 0 → Listed (entsI (kidsI n L)) D) (hz : kidK L n ≠ 0 → D = []) : D.length ≤ 300 := by
  by_cases h : kidK L n = 0
  · rw [(hl h).1.length_eq, entsI_len]; exact kids_300 hF n
  · rw [hz h]; exact Nat.zero_le _
theorem ofL_short {L : List Item} (hF : Fit L) : ∀ (f : Nat) (m : Stamp) (acc l : List ByteArray), ofL L f m acc = some l → Shorts acc → Shorts l ∧ l.length ≤ acc.length + f
  | 0, m, acc, l, h, hs => by
    unfold ofL at h
    split at h
    · injection h with h; subst h; exact ⟨hs, Nat.le_refl _⟩
    · cases h
  | f + 1, m, acc, l, h, hs => by
    unfold ofL at h
    split at h
    · injection h with h; subst h; exact ⟨hs, by omega⟩
    · obtain ⟨h1, h2⟩ := ofL_short hF f _ _ l h (hs.snoc (shown_short hF _))
      simp only [List.length_append, List.length_cons, List.length_nil] at h2
      exact ⟨h1, by omega⟩
theorem ofB_size {L : List Item} (hF : Fit L) (m : Stamp) : (ofB L m).size ≤ 2000 := by
  unfold ofB
  split
  · exact Nat.zero_le _
  · cases e : ofL L 16 m [] with
    | none => exact Nat.zero_le _
    | some l =>
      obtain ⟨h1, h2⟩ := ofL_short hF 16 m [] l e (fun x hx => absurd hx (by simp))
      have h3 := joinB_short h1 (by simpa using h2)
      show (pathB l).size ≤ 2000
      unfold pathB
      rw [ByteArray.size_append]
      have h4 : (⟨#[47]⟩ : ByteArray).size = 1 := rfl
      omega
theorem srt_size {L M : List Item} (hF : Fit L) {D : List ByteArray} (h : SrtB (pathsI L M) D) {y : ByteArray} (hy : y ∈ D) : y.size ≤ 2000 := by
  have h1 := h.1.mem_iff.1 hy
  simp only [pathsI, List.mem_flatMap] at h1
  obtain ⟨x, _, hx⟩ := h1
  unfold pathO at hx
  split at hx
  · simp only [List.mem_singleton] at hx; subst hx; exact ofB_size hF _
  · cases hx
theorem srtB_all {L : List Item} {k : Nat} {D : List ByteArray} (h : SrtB (pathsI L (L.take k)) D) (hk : L.length ≤ k) : (⟨#[47]⟩ : ByteArray) :: D = allB L := by
  rw [List.take_of_length_le hk] at h
  rw [srtB_one h]; rfl
theorem paths_no' {L : List Item} {k : Nat} {x : Item} {D : List ByteArray} (h : SrtB (pathsI L (L.take k)) D) (hx : L[k]? = some x) (e : ofK L x.node ≠ 0) : SrtB (pathsI L (L.take (k + 1))) D := by
  rw [← paths_no hx e]; exact h
theorem paths_yes' {L : List Item} {k : Nat} {x : Item} {D : List ByteArray} (h : SrtB (pathsI L (L.take k) ++ [ofB L x.node]) D) (hx : L[k]? = some x) (e : ¬ ofK L x.node ≠ 0) : SrtB (pathsI L (L.take (k + 1))) D := by
  rw [paths_next hx e]; exact h
theorem out_lit {base : Nat} {w : World} {b : Nat} {x : ByteArray} (h : w.heap[b]? = some (.cells #[.string x] 9 (0, 0))) (hb : base ≤ b) : GRow 9 strC 1 base w (.slice (some ⟨b, 0, none⟩) 1 1) [x] := BRow.g.1 (BRow.lit h hb)
end Go.Proofs.YtefhfoioeoijlaaGreatDoor
namespace Go.Proofs.YtefhfoioeoijlaaGreatDoor
open Go Go.RowKit Go.Sort
theorem SSRow.fresh {w : World} {v : Value} {L : List ByteArray} {b : Nat} (h : SSRow w v L) (e : b = w.heap.size) : L = [] ∨ v.ownBlock ≠ some b := by
  obtain ⟨A, cp, rfl, hc, h0 | ⟨g, f, rfl, hg, hcell⟩⟩ := h
  · exact .inl h0
  · refine .inr fun hh => ?_
    injection hh with hh
    have : g = b := hh
    omega
theorem SSRow.chgm2 {w w' : World} {b : Nat} {v : Value} {L : List ByteArray} (h : SSRow w v L) (c : Chg w w' b) (hn : L = [] ∨ v.ownBlock ≠ some b) : SSRow w' v L := by
  rcases hn with rfl | hn
  · obtain ⟨A, cp, rfl, hc, _⟩ := h
    exact ⟨A, cp, rfl, hc, .inl rfl⟩
  · exact h.chgm c hn
end Go.Proofs.YtefhfoioeoijlaaGreatDoor

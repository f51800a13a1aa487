/- Arg, OT, EqC, Turn, HY -/
import Derived.Below
import Derived.ChangeOld
import Derived.ChangeSame
import Derived.Deep.Fields
import Derived.Deep.Slices
import Derived.OpenShut
import Derived.ProofKit
import Derived.ShutString
import Derived.WalkKit
import Derived.WideShapes
import Derived.Test.YtefhfoioeoijlaaGreatDoorVaa
import Derived.Test.YtefhfoioeoijlaaGreatDoorVab
import Derived.Test.YtefhfoioeoijlaaGreatDoorVac
import Derived.Test.YtefhfoioeoijlaaGreatDoorVad
import Derived.Test.YtefhfoioeoijlaaGreatDoorVae
import Derived.Test.YtefhfoioeoijlaaGreatDoorVaf
import Derived.Test.YtefhfoioeoijlaaGreatDoorVag
import Derived.Test.YtefhfoioeoijlaaGreatDoorVah
import Derived.Test.YtefhfoioeoijlaaGreatDoorVai
import Derived.Test.YtefhfoioeoijlaaGreatDoorVaj
import Derived.Test.YtefhfoioeoijlaaGreatDoorVak
import Derived.Test.YtefhfoioeoijlaaGreatDoorVal
import Derived.Test.YtefhfoioeoijlaaGreatDoorVam
import Derived.Test.YtefhfoioeoijlaaGreatDoorVan
import Derived.Test.YtefhfoioeoijlaaGreatDoorVao
import Derived.Test.YtefhfoioeoijlaaGreatDoorVap
import Derived.Test.YtefhfoioeoijlaaGreatDoorVaq
import Derived.Test.YtefhfoioeoijlaaGreatDoorVar
import Derived.Test.YtefhfoioeoijlaaGreatDoorVas
import Derived.Test.YtefhfoioeoijlaaGreatDoorVat
set_option linter.unusedVariables false
set_option linter.unusedSimpArgs false
namespace Go.Proofs.YtefhfoioeoijlaaGreatDoor
open Go Go.RowKit Go.Sort Go.Shelf
section
variable {P : Program} {d : Option Tmp} {ty : TypeId} {pos : String} {af : Array Edge} {g : Option (Nat × Bool)} {ρ : Operand → Value} {w : World}
theorem dec_true {o : Oper} {p : Prop} [Decidable p] (hp : p) (h : (execOp ρ o).run P w = .ok (.value (.bool (decide p))) w) : (execOp ρ o).run P w = .ok (.value (.bool true)) w := by rw [h, decide_eq_true hp]
end
end Go.Proofs.YtefhfoioeoijlaaGreatDoor
set_option linter.unusedVariables false
set_option linter.unusedSimpArgs false
namespace Go.Proofs.YtefhfoioeoijlaaGreatDoor
open Go Go.RowKit Go.Sort
theorem OT.no {B : Nat} {w : World} : OT B w none [] := .inr ⟨rfl, rfl⟩
end Go.Proofs.YtefhfoioeoijlaaGreatDoor
set_option linter.unusedVariables false
set_option linter.unusedSimpArgs false
namespace Go.Proofs.YtefhfoioeoijlaaGreatDoor
open Go Go.RowKit Go.Sort
section
variable {ρ : Operand → Value} {w : World} {d : Option Tmp} {ty : TypeId} {pos : String} {af : Array Edge} {g : Option (Nat × Bool)}
theorem dec_false {P : Program} {o : Oper} {p : Prop} [Decidable p] (hp : ¬ p) (h : (execOp ρ o).run P w = .ok (.value (.bool (decide p))) w) : (execOp ρ o).run P w = .ok (.value (.bool false)) w := by rw [h, decide_eq_false hp]
end
def turnC (x : ChgD) : ChgD := ⟨if x.kind < 3 then 3 - x.kind else x.kind, x.node, x.tt, x.fr⟩
theorem turn_lt {x : ChgD} (h : x.kind < 3) : (turnC x).kind = 3 - x.kind := if_pos h
theorem turn_ge {x : ChgD} (h : ¬ x.kind < 3) : (turnC x).kind = x.kind := if_neg h
theorem kind_turn (a b : SideP) : kindP b a = if kindP a b = 0 then 0 else if kindP a b < 3 then 3 - kindP a b else kindP a b := by
  cases ha : a.hangs <;> cases hb : b.hangs
  · rw [kind_0 ha hb, kind_0 hb ha]; rfl
  · rw [kind_1 ha hb, kind_2 hb ha]; rfl
  · rw [kind_2 ha hb, kind_1 hb ha]; rfl
  · by_cases hp : a.path = b.path
    · by_cases hy : a.x.by_ ≠ b.x.by_ ∨ a.x.data ≠ b.x.data
      · rw [kind_4 ha hb hp hy, kind_4 hb ha hp.symm (hy.imp Ne.symm Ne.symm)]; rfl
      · have h1 : a.x.by_ = b.x.by_ := Decidable.byContradiction fun h => hy (.inl h)
        have h2 : a.x.data = b.x.data := Decidable.byContradiction fun h => hy (.inr h)
        rw [kind_5 ha hb hp h1 h2, kind_5 hb ha hp.symm h1.symm h2.symm]; rfl
    · rw [kind_3 ha hb hp, kind_3 hb ha (Ne.symm hp)]; rfl
theorem kind_pos {a b : SideP} (h : kindP a b ≠ 0) (h3 : kindP a b < 3) : kindP a b = 1 ∨ kindP a b = 2 := by
  cases ha : a.hangs <;> cases hb : b.hangs
  · rw [kind_0 ha hb] at h; exact absurd rfl h
  · rw [kind_1 ha hb]; exact .inl rfl
  · rw [kind_2 ha hb]; exact .inr rfl
  · exfalso
    by_cases hp : a.path = b.path
    · by_cases hy : a.x.by_ ≠ b.x.by_ ∨ a.x.data ≠ b.x.data
      · rw [kind_4 ha hb hp hy] at h3; omega
      · have h1 : a.x.by_ = b.x.by_ := Decidable.byContradiction fun h => hy (.inl h)
        have h2 : a.x.data = b.x.data := Decidable.byContradiction fun h => hy (.inr h)
        rw [kind_5 ha hb hp h1 h2] at h; exact absurd rfl h
    · rw [kind_3 ha hb hp] at h3; omega
theorem chg1_turn (La Lb : List Item) (m : Stamp) : chg1 Lb La m = (chg1 La Lb m).map turnC := by
  unfold chg1
  have h := kind_turn (sideP La m) (sideP Lb m)
  by_cases h0 : kindP (sideP La m) (sideP Lb m) = 0
  · rw [if_pos h0] at h; rw [if_pos h0, if_pos h]; rfl
  · rw [if_neg h0] at h
    have h1 : kindP (sideP Lb m) (sideP La m) ≠ 0 := by
      rw [h]; split
      · rename_i h3; rcases kind_pos h0 h3 with e | e <;> rw [e] <;> decide
      · exact h0
    rw [if_neg h0, if_neg h1, h]; rfl
theorem chgs_turn (La Lb : List Item) (D : List Stamp) : chgs Lb La D = (chgs La Lb D).map turnC := by
  unfold chgs; rw [List.map_flatMap]; congr 1; funext m; exact chg1_turn La Lb m
theorem nodes_swap (La Lb : List Item) : (nodesI (La ++ Lb)).Perm (nodesI (Lb ++ La)) := by
  unfold nodesI; rw [List.map_append, List.map_append]; exact List.perm_append_comm
theorem thn_swap {La Lb : List Item} {D D' : List Stamp} (h : Thn (nodesI (La ++ Lb)) D) (h' : Thn (nodesI (Lb ++ La)) D') : D' = D := (h'.one (h.perm (nodes_swap La Lb)))
theorem turn_get {X Y : List ChgD} {k : Nat} {x : ChgD} (h : Y = X.map turnC) (hx : X[k]? = some x) : Y[k]? = some (turnC x) := by rw [h, List.getElem?_map, hx]; rfl
theorem thn_none {D : List Stamp} (h : Thn (nodesI (([] : List Item) ++ [])) D) : D = [] := by
  cases D with
  | nil => rfl
  | cons x D => exact absurd ((h.mem x).1 (by simp)) (by simp [nodesI])
end Go.Proofs.YtefhfoioeoijlaaGreatDoor
set_option linter.unusedVariables false
set_option linter.unusedSimpArgs false
namespace Go.Proofs.YtefhfoioeoijlaaGreatDoor
open Go Go.RowKit Go.Sort
theorem fit_nil : Fit [] := ⟨Wf.nil, by simp, by simp⟩
theorem kind_range (a b : SideP) : 0 ≤ kindP a b ∧ kindP a b ≤ 4 := by
  unfold kindP
  split
  · decide
  · split
    · decide
    · split
      · decide
      · split
        · decide
        · split <;> decide
theorem chgs_kind {La Lb : List Item} {D : List Stamp} {X : List ChgD} (hX : X = chgs La Lb D) {k : Nat} {x : ChgD} (hx : X[k]? = some x) : 0 ≤ x.kind ∧ x.kind ≤ 4 := by
  have h := List.mem_of_getElem? hx
  rw [hX] at h
  simp only [chgs, List.mem_flatMap] at h
  obtain ⟨m, _, h⟩ := h
  unfold chg1 at h
  split at h
  · cases h
  · simp only [List.mem_singleton] at h
    subst h; exact kind_range _ _
theorem chgs_two {La Lb : List Item} {D D' : List Stamp} {X Y : List ChgD} (hX : X = chgs La Lb D) (hD : Thn (nodesI (La ++ Lb)) D) (hY : Y = chgs Lb La D') (hD' : Thn (nodesI (Lb ++ La)) D') : Y = X.map turnC := by
  obtain rfl := thn_swap hD hD'
  rw [hX, hY]; exact chgs_turn La Lb _
theorem chgs_none {D : List Stamp} {X : List ChgD} (hX : X = chgs [] [] D) (hD : Thn (nodesI (([] : List Item) ++ [])) D) : X = [] := by
  rw [hX, thn_none hD]; rfl
theorem chgs_one {La : List Item} {D D' : List Stamp} {X Y : List ChgD} (hX : X = chgs [] La D) (hD : Thn (nodesI ([] ++ La)) D) (hY : Y = chgs [] La D') (hD' : Thn (nodesI ([] ++ La)) D') : Y = X := by
  rw [hX, hY, hD'.one hD]
end Go.Proofs.YtefhfoioeoijlaaGreatDoor
set_option linter.unusedVariables false
set_option linter.unusedSimpArgs false
namespace Go.Proofs.YtefhfoioeoijlaaGreatDoor
open Go Go.RowKit Go.Sort
set_option maxRecDepth 20000 in
set_option maxHeartbeats 2000000 in
theorem historyTurns_at {B : Nat} {w : World} {lA : Option Addr} {lc : Nat} {os : List OpD} (h0 : OpRow0 w lA os) (hfull : Small os → OpRow B w lA os) (hB : B ≤ w.heap.size) (hn : os.length ≤ 9223372036854775807)
    {mA : Option Addr} {mc : Nat} {ps : List OpD} (g0 : OpRow0 w mA ps) (gfull : Small ps → OpRow B w mA ps) (hB' : B ≤ w.heap.size) (gn : ps.length ≤ 9223372036854775807) (htab : Tab w) :
    Calls Tryz.prog 5 #[.slice lA os.length lc, .slice mA ps.length mc] w fun e w' => e = .returned (.bool true) ∧ Up w w' := by
  go_enter Tryz.func5, Tryz.ntmps5
  refine wp_seq (rg_lit (was (v := B_ false) (wnil (then_n (wp_seq (wp_seq (rg_lit (wmv (v := .slice lA os.length lc) (wl (sca [.slice lA os.length lc, I_ 30] En.f13 (light2_at (OpRow0.up h0 (Mod.up (Mod.refl [] w))) hn 30) ?_))))))))))
  rintro e w1 ⟨lb2, rfl, h3, u4⟩
  refine ⟨_, rfl, ?_⟩
  have M5 := mtu (Mod.refl [] w) u4
  refine wlv (v := B_ (!lb2)) (r_not (b := lb2) (by kernel_rfl)) (wmv (v := B_ (!lb2)) ?_)
  refine bcase lb2 (fun v6 => ?_) (fun v6 => ?_)
  ·
   iterate 3 refine wls rfl (bneg v6) ?_
   refine wlv (v := B_ true) (pkT (eb (bneg v6))) (wnil (then_n (wp_cond_true (by kernel_rfl) (wp_seq (rg_lit (wl (sca [] En.f23 (alive20_at) ?_)))))))
   rintro e w7 ⟨rfl, u8⟩
   refine ⟨_, rfl, ?_⟩
   have M9 := mtu M5 u8
   refine was (v := B_ true) (wnil (then_n (wp_ret (then_x (by nofun) ?_))))
   refine br1 (v := B_ true) rfl ?_
   exact ⟨rfl, (Mod.up M9)⟩
  obtain ⟨hsma, hlea⟩ := h3 v6
  have hopsa := hfull hsma
  refine wlw rfl (bneg v6) (v := .slice mA ps.length mc) (mv) (wl (sc (wt (b := !lb2) rfl (by kernel_rfl) (bneg v6)) (r_callv (caps := []) (all := [.slice mA ps.length mc, I_ 30]) En.f13 (by kernel_rfl) (by kernel_rfl)) (light2_at (OpRow0.up g0 (Mod.up M5)) gn 30) ?_))
  rintro e w8 ⟨lb9, rfl, h10, u11⟩
  refine ⟨_, rfl, ?_⟩
  have M12 := mtu M5 u11
  refine wlw rfl (bneg v6) (v := B_ (!lb9)) (r_not (b := lb9) (by kernel_rfl)) (wlv (v := B_ (!lb9)) (pkF (eb (bneg v6))) (wnil (then_n ?_)))
  refine bcase lb9 (fun v13 => ?_) (fun v13 => ?_)
  ·
   refine wp_cond_true (eb (bneg v13)) (wp_seq (rg_lit (wl (sca [] En.f23 (alive20_at) ?_))))
   rintro e w14 ⟨rfl, u15⟩
   refine ⟨_, rfl, ?_⟩
   have M16 := mtu M12 u15
   refine was (v := B_ true) (wnil (then_n (wp_ret (then_x (by nofun) ?_))))
   refine br1 (v := B_ true) rfl ?_
   exact ⟨rfl, (Mod.up M16)⟩
  obtain ⟨hsmb, hleb⟩ := h10 v13
  have hopsb := gfull hsmb
  refine wp_cond_false (eb (bneg v13)) (wp_skip (then_n (wp_seq (rg_lit (wmv (v := .slice lA os.length lc) ?_)))))
  have h15 := (OpRow.up hopsa (Mod.up M12))
  refine wl (sca [.slice lA os.length lc] En.f15 (build_at h15 (Nat.le_trans hB M12.size) (by omega)) ?_)
  rintro e w16 ⟨ta, ra, rfl, h17, u18, z19, z20⟩
  refine ⟨_, rfl, ?_⟩
  have M22 := mtu M12 u18
  have hFa := fit_build os
  obtain ⟨La, hLa⟩ : ∃ L, buildI os = L := ⟨_, rfl⟩
  rw [hLa] at hFa h17
  have h21 := OT.of h17
  refine wmv (v := .slice mA ps.length mc) ?_
  have h23 := (OpRow.up hopsb (Mod.up M22))
  refine wl (sca [.slice mA ps.length mc] En.f15 (build_at h23 (Nat.le_trans hB M22.size) (by omega)) ?_)
  rintro e w24 ⟨tb, rb, rfl, h25, u26, z27, z28⟩
  refine ⟨_, rfl, ?_⟩
  have M30 := mtu M22 u26
  have hFb := fit_build ps
  obtain ⟨Lb, hLb⟩ : ∃ L, buildI ps = L := ⟨_, rfl⟩
  rw [hLb] at hFb h25
  have h29 := OT.of h25
  refine was (v := pt ta 0) (was (v := pt tb 0) (wnil (then_n (wp_seq (rg_lit (wmv (v := pt ta 0) (wmv (v := pt tb 0) ?_)))))))
  have h31 := (OT.up h21 u26)
  refine wl (sca [pt ta 0, pt tb 0] En.f26 (changesX_at h31 h29 (Nat.le_trans hB M30.size) hFa hFb (TabIs.up htab (Mod.up M30))) ?_)
  rintro e w32 ⟨Aab, cab, Dab, Xab, hXab, hDab, hlab, rfl, hCab, u33⟩
  refine ⟨_, rfl, ?_⟩
  have M34 := mtu M30 u33
  refine wmv (v := pt tb 0) (wmv (v := pt ta 0) ?_)
  have h35 := (OT.up h29 u33)
  have h36 := (OT.up h31 u33)
  refine wl (sca [pt tb 0, pt ta 0] En.f26 (changesX_at h35 h36 (Nat.le_trans hB M34.size) hFb hFa (TabIs.up htab (Mod.up M34))) ?_)
  rintro e w37 ⟨Aba, cba, Dba, Xba, hXba, hDba, hlba, rfl, hCba, u38⟩
  have hYX := chgs_two hXab hDab hXba hDba
  refine ⟨_, rfl, ?_⟩
  have M39 := mtu M34 u38
  refine was (v := .slice Aab Xab.length cab) (was (v := .slice Aba Xba.length cba) (wnil (then_n (wp_seq (wp_seq (rg_lit (wmv (v := .slice Aab Xab.length cab) (wlv (v := I_ Xab.length) (ln Aab Xab.length cab Ty.un54) (wmv (v := .slice Aba Xba.length cba) (wlv (v := I_ Xba.length) (ln Aba Xba.length cba Ty.un54) (wlv (v := B_ false) (dec_false (fun h9 => h9 (by rw [hYX, List.length_map])) (neI Xab.length Xba.length)) (wnil (then_n ?_)))))))))))))
  refine wp_cond_false (by kernel_rfl) (wp_skip (then_n (wp_seq (wp_seq (rg_lit (was (v := I_ 0) (wnil (then_n (wp_block ?_)))))))))
  have h42 := (OT.up h36 u38)
  have h44 := (CRow.up hCab u38)
  refine lp (fun n a r1 => ∃ (k : Nat), (n = Xab.length - k) ∧ (HasFr a 116 [(0, .slice lA os.length lc), (1, .slice mA ps.length mc), (5, pt ta 0), (6, pt tb 0), (7, .slice Aab Xab.length cab), (8, .slice Aba Xba.length cba), (9, I_ k), (18, B_ (!lb9)), (34, B_ false)] []) ∧ (Mod [] w37 r1) ∧ (k ≤ Xab.length)) ⟨_, 0, rfl, hmk, Mod.refl _ _, (Nat.zero_le _)⟩ ?_
  rintro _ _ r1 ⟨k, rfl, h45, hM1, hF1_0⟩
  obtain ⟨Y51, rfl⟩ := h45
  have M46 := Mod.thin M39 hM1 (by simp)
  refine wp_seq (wp_seq (rg_lit (wmv (v := I_ k) (wmv (v := .slice Aab Xab.length cab) (wlv (v := I_ Xab.length) (ln Aab Xab.length cab Ty.un54) (wl (sb rfl (ltI k Xab.length) fun b47 k48 => wnil (then_n ?_))))))))
  refine bcd k48 (fun v49 p50 => ?_) (fun v49 p50 => ?_)
  ·
   refine wp_cond_false (eb v49) (wp_exit (then_x (by nofun) (then_x (by nofun) (inb_hit (then_n (wp_seq (rg_lit (wl (sca [.pointer none] En.f29 (bytes20_at (OT.no (B := B)) (Nat.le_trans hB M46.size) fit_nil) ?_)))))))))
   rintro e w51 ⟨rfl, u52⟩
   refine ⟨_, rfl, ?_⟩
   have M53 := mtu M46 u52
   have M54 := mtu hM1 u52
   refine wlv (v := B_ true) (dec_true (by kernel_rfl) (eqI ((bytesI [] [] : Nat) : Int) 0)) (wmv (v := B_ true) (wl (sc (by kernel_rfl) (r_callv (caps := []) (all := [.pointer none, .pointer none]) En.f26 (by kernel_rfl) (by kernel_rfl)) (changesX_at (OT.no (B := B)) (OT.no (B := B)) (Nat.le_trans hB M53.size) fit_nil fit_nil (TabIs.up htab (Mod.up M53))) ?_)))
   rintro e w55 ⟨Ann, cnn, Dnn, Xnn, hXnn, hDnn, hlnn, rfl, hCnn, u56⟩
   obtain rfl := chgs_none hXnn hDnn
   refine ⟨_, rfl, ?_⟩
   have M57 := mtu M53 u56
   have M58 := mtu M54 u56
   refine wl (sv (by kernel_rfl) (v := I_ 0) (ln Ann 0 cnn Ty.un54) (wl (sv (by kernel_rfl) (v := B_ true) (dec_true (by kernel_rfl) (eqI 0 0)) (wlv (v := B_ true) (pkT (by kernel_rfl)) (wmv (v := B_ true) (wl (sv (by kernel_rfl) (v := pt ta 0) (mv) ?_)))))))
   have h59 := (OT.up h42 (Mod.up M58))
   refine wl (sc (by kernel_rfl) (r_callv (caps := []) (all := [.pointer none, pt ta 0]) En.f26 (by kernel_rfl) (by kernel_rfl)) (changesX_at (OT.no (B := B)) h59 (Nat.le_trans hB M57.size) fit_nil hFa (TabIs.up htab (Mod.up M57))) ?_)
   rintro e w60 ⟨Ana, cna, Dna, Xna, hXna, hDna, hlna, rfl, hCna, u61⟩
   refine ⟨_, rfl, ?_⟩
   have M62 := mtu M57 u61
   have M63 := mtu M58 u61
   refine wl (sc (by kernel_rfl) (r_callv (caps := []) (all := [.slice Ana Xna.length cna]) En.f25 (by kernel_rfl) (by kernel_rfl)) (back_at hCna hlna) ?_)
   rintro e w64 ⟨A65, c66, rfl, h67, u68⟩
   refine ⟨_, rfl, ?_⟩
   have M69 := mtu M62 u68
   have M70 := mtu M63 u68
   refine wl (sc (by kernel_rfl) (r_callv (caps := []) (all := []) En.f30 (by kernel_rfl) (by kernel_rfl)) (tnew_any (Nat.le_trans hB M69.size)) ?_)
   rintro e w71 ⟨tw, rw_, rfl, h72, u73, z74, z75⟩
   refine ⟨_, rfl, ?_⟩
   have M77 := mtu M69 u73
   have M78 := mtu M70 u73
   have h76 := OT.of h72
   refine wl (sv (by kernel_rfl) (v := pt ta 0) (mv) ?_)
   have h79 := (OT.up h42 (Mod.up M78))
   refine wl (sc (by kernel_rfl) (r_callv (caps := []) (all := [pt tw 0, pt ta 0]) En.f26 (by kernel_rfl) (by kernel_rfl)) (changesX_at h76 h79 (Nat.le_trans hB M77.size) fit_nil hFa (TabIs.up htab (Mod.up M77))) ?_)
   rintro e w80 ⟨Awa, cwa, Dwa, Xwa, hXwa, hDwa, hlwa, rfl, hCwa, u81⟩
   obtain rfl := (chgs_one hXna hDna hXwa hDwa).symm
   refine ⟨_, rfl, ?_⟩
   have M82 := mtu M77 u81
   refine wl (sc (by kernel_rfl) (r_callv (caps := []) (all := [.slice Awa Xna.length cwa]) En.f25 (by kernel_rfl) (by kernel_rfl)) (back_at hCwa hlna) ?_)
   rintro e w84 ⟨A85, c86, rfl, h87, u88⟩
   refine ⟨_, rfl, ?_⟩
   have M89 := mtu M82 u88
   have h91 := (CRow.up h67 (up_up (up_up u73 u81) u88))
   refine wl (sc (by kernel_rfl) (r_callv (caps := []) (all := [.slice A65 Xna.length c66, .slice A85 Xna.length c86]) En.f24 (by kernel_rfl) (by kernel_rfl)) (same20_at h91 h87 hlna) ?_)
   rintro e w92 ⟨rfl, u93⟩
   refine ⟨_, rfl, ?_⟩
   have M94 := mtu M89 u93
   refine wlv (v := B_ true) (pkT (by kernel_rfl)) (wmv (v := B_ true) (wl (sc (by kernel_rfl) (r_callv (caps := []) (all := []) En.f23 (by kernel_rfl) (by kernel_rfl)) (alive20_at) ?_)))
   rintro e w96 ⟨rfl, u97⟩
   refine ⟨_, rfl, ?_⟩
   have M98 := mtu M94 u97
   refine wlv (v := B_ true) (pkT (by kernel_rfl)) (was (v := B_ true) (wnil (then_n (wp_ret ?_))))
   refine br1 (v := B_ true) rfl ?_
   exact ⟨rfl, (Mod.up M98)⟩
  refine wp_cond_true (eb v49) (wp_skip (then_n (wp_seq (wp_block (wp_seq (rg_lit (wmv (v := .slice Aab Xab.length cab) (wmv (v := I_ k) ?_))))))))
  have h53 := (CRow.up h44 (Mod.up hM1))
  obtain ⟨y55, hy55⟩ : ∃ x, Xab[k]? = some x := ⟨_, List.getElem?_eq_getElem (by omega)⟩
  have hkr55 := chgs_kind hXab hy55
  have hyl55 := congrArg List.length hYX
  rw [List.length_map] at hyl55
  obtain ⟨g54, hA54, hl54, _, cu54, hb54, he54⟩ := CRow.get h53 hy55
  replace he54 : (cu54.toList.drop (0 + k * 5)).take 5 = chC y55 := by rw [Nat.zero_add]; exact he54
  refine wlv (v := pt g54 (0 + k * 5)) (ixa Xab.length cab 5 k hA54 Ty.un54 Ty.sz61) (wlv (v := pt g54 (0 + k * 5)) (fa (pt g54 (0 + k * 5))) (wlv (v := I_ y55.kind) (r_load (k := 0 + k * 5) (v := I_ y55.kind) (by kernel_rfl) Ty.ag3 hb54 (el_get he54 0 rfl)) (was (v := I_ y55.kind) (wnil (then_n (wp_seq (wp_seq (rg_lit (wmv (v := I_ y55.kind) (wl (sb rfl (ltI y55.kind 3) fun b56 k57 => wnil (then_n ?_))))))))))))
  refine bcd k57 (fun v58 p59 => ?_) (fun v58 p59 => ?_)
  ·
   refine wp_cond_false (eb v58) (wp_skip (then_n (wp_seq ?_)))
   refine rg_all (by kernel_rfl) (by kernel_rfl) ?_
   refine qmv (v := .slice Aba Xba.length cba) (qmv (v := I_ k) ?_)
   have h60 := (CRow.up hCba (Mod.up hM1))
   obtain ⟨g61, hA61, hl61, _, cu61, hb61, he61⟩ := CRow.get h60 (turn_get hYX hy55)
   replace he61 : (cu61.toList.drop (0 + k * 5)).take 5 = chC (turnC y55) := by rw [Nat.zero_add]; exact he61
   refine qv rfl (v := pt g61 (0 + k * 5)) (fun _ _ => ixa Xba.length cba 5 k hA61 Ty.un54 Ty.sz61) (qv rfl (v := pt g61 (0 + k * 5)) (fun _ _ => fa (pt g61 (0 + k * 5))) (qv rfl (v := I_ ((turnC y55).kind)) (fun _ uz => r_load (k := 0 + k * 5) (v := I_ ((turnC y55).kind)) (by kernel_rfl) Ty.ag3 (up_ob uz hb61) (el_get he61 0 rfl)) (qmv (v := I_ y55.kind) (qv rfl (v := B_ false) (fun _ _ => dec_false (fun h9 => h9 (turn_ge p59)) (neI ((turnC y55).kind) y55.kind)) (qmv (v := B_ false) (qv (by kernel_rfl) (v := .slice Aba Xba.length cba) (fun _ _ => mv) (qv (by kernel_rfl) (v := I_ k) (fun _ _ => mv) ?_)))))))
   obtain ⟨g62, hA62, hl62, _, cu62, hb62, he62⟩ := CRow.get h60 (turn_get hYX hy55)
   replace he62 : (cu62.toList.drop (0 + k * 5)).take 5 = chC (turnC y55) := by rw [Nat.zero_add]; exact he62
   refine qv (by kernel_rfl) (v := pt g62 (0 + k * 5)) (fun _ _ => ixa Xba.length cba 5 k hA62 Ty.un54 Ty.sz61) (qv (by kernel_rfl) (v := pt g62 (0 + k * 5 + 1)) (fun _ _ => fa (pt g62 (0 + k * 5))) (qv (by kernel_rfl) (v := .agg #[I_ ((turnC y55).node.t), I_ ((turnC y55).node.w)]) (fun _ uz => r_loads (k := 0 + k * 5 + 1) (by kernel_rfl) Ty.ag24 Ty.sz24 (up_ob uz hb62) (el_sub he62 1 rfl)) (qv (by kernel_rfl) (v := .slice Aab Xab.length cab) (fun _ _ => mv) (qv (by kernel_rfl) (v := I_ k) (fun _ _ => mv) ?_))))
   obtain ⟨g63, hA63, hl63, _, cu63, hb63, he63⟩ := CRow.get h53 hy55
   replace he63 : (cu63.toList.drop (0 + k * 5)).take 5 = chC y55 := by rw [Nat.zero_add]; exact he63
   refine qv (by kernel_rfl) (v := pt g63 (0 + k * 5)) (fun _ _ => ixa Xab.length cab 5 k hA63 Ty.un54 Ty.sz61) (qv (by kernel_rfl) (v := pt g63 (0 + k * 5 + 1)) (fun _ _ => fa (pt g63 (0 + k * 5))) (qv (by kernel_rfl) (v := .agg #[I_ y55.node.t, I_ y55.node.w]) (fun _ uz => r_loads (k := 0 + k * 5 + 1) (by kernel_rfl) Ty.ag24 Ty.sz24 (up_ob uz hb63) (el_sub he63 1 rfl)) (qv (by kernel_rfl) (v := B_ false) (fun _ _ => dec_false (fun h9 => h9 rfl) (r_neS2 (a := ((turnC y55).node.t)) (b := ((turnC y55).node.w)) (c := y55.node.t) (e := y55.node.w) (by kernel_rfl) (by kernel_rfl))) (qv rfl (v := B_ false) (fun _ _ => pkF (by kernel_rfl)) (qmv (v := B_ false) (qv (by kernel_rfl) (v := .slice Aba Xba.length cba) (fun _ _ => mv) (qv (by kernel_rfl) (v := I_ k) (fun _ _ => mv) ?_)))))))
   obtain ⟨g64, hA64, hl64, _, cu64, hb64, he64⟩ := CRow.get h60 (turn_get hYX hy55)
   replace he64 : (cu64.toList.drop (0 + k * 5)).take 5 = chC (turnC y55) := by rw [Nat.zero_add]; exact he64
   refine qv (by kernel_rfl) (v := pt g64 (0 + k * 5)) (fun _ _ => ixa Xba.length cba 5 k hA64 Ty.un54 Ty.sz61) (qv (by kernel_rfl) (v := pt g64 (0 + k * 5 + 3)) (fun _ _ => fa (pt g64 (0 + k * 5))) (qv (by kernel_rfl) (v := S_ ((turnC y55).fr)) (fun _ uz => r_load (k := 0 + k * 5 + 3) (v := S_ ((turnC y55).fr)) (by kernel_rfl) Ty.ag9 (up_ob uz hb64) (el_get he64 3 rfl)) (qv (by kernel_rfl) (v := .slice Aab Xab.length cab) (fun _ _ => mv) (qv (by kernel_rfl) (v := I_ k) (fun _ _ => mv) ?_))))
   obtain ⟨g65, hA65, hl65, _, cu65, hb65, he65⟩ := CRow.get h53 hy55
   replace he65 : (cu65.toList.drop (0 + k * 5)).take 5 = chC y55 := by rw [Nat.zero_add]; exact he65
   refine qv (by kernel_rfl) (v := pt g65 (0 + k * 5)) (fun _ _ => ixa Xab.length cab 5 k hA65 Ty.un54 Ty.sz61) (qv (by kernel_rfl) (v := pt g65 (0 + k * 5 + 4)) (fun _ _ => fa (pt g65 (0 + k * 5))) (qv (by kernel_rfl) (v := S_ y55.tt) (fun _ uz => r_load (k := 0 + k * 5 + 4) (v := S_ y55.tt) (by kernel_rfl) Ty.ag9 (up_ob uz hb65) (el_get he65 4 rfl)) (qv (by kernel_rfl) (v := B_ false) (fun _ _ => dec_false (fun h9 => h9 rfl) (r_nes (m := ((turnC y55).fr)) (n := y55.tt) (by kernel_rfl) (by kernel_rfl))) (qv rfl (v := B_ false) (fun _ _ => pkF (by kernel_rfl)) (qmv (v := B_ false) (qv (by kernel_rfl) (v := .slice Aba Xba.length cba) (fun _ _ => mv) (qv (by kernel_rfl) (v := I_ k) (fun _ _ => mv) ?_)))))))
   obtain ⟨g66, hA66, hl66, _, cu66, hb66, he66⟩ := CRow.get h60 (turn_get hYX hy55)
   replace he66 : (cu66.toList.drop (0 + k * 5)).take 5 = chC (turnC y55) := by rw [Nat.zero_add]; exact he66
   refine qv (by kernel_rfl) (v := pt g66 (0 + k * 5)) (fun _ _ => ixa Xba.length cba 5 k hA66 Ty.un54 Ty.sz61) (qv (by kernel_rfl) (v := pt g66 (0 + k * 5 + 4)) (fun _ _ => fa (pt g66 (0 + k * 5))) (qv (by kernel_rfl) (v := S_ ((turnC y55).tt)) (fun _ uz => r_load (k := 0 + k * 5 + 4) (v := S_ ((turnC y55).tt)) (by kernel_rfl) Ty.ag9 (up_ob uz hb66) (el_get he66 4 rfl)) (qv (by kernel_rfl) (v := .slice Aab Xab.length cab) (fun _ _ => mv) (qv (by kernel_rfl) (v := I_ k) (fun _ _ => mv) ?_))))
   obtain ⟨g67, hA67, hl67, _, cu67, hb67, he67⟩ := CRow.get h53 hy55
   replace he67 : (cu67.toList.drop (0 + k * 5)).take 5 = chC y55 := by rw [Nat.zero_add]; exact he67
   refine qv (by kernel_rfl) (v := pt g67 (0 + k * 5)) (fun _ _ => ixa Xab.length cab 5 k hA67 Ty.un54 Ty.sz61) (qv (by kernel_rfl) (v := pt g67 (0 + k * 5 + 3)) (fun _ _ => fa (pt g67 (0 + k * 5))) (qv (by kernel_rfl) (v := S_ y55.fr) (fun _ uz => r_load (k := 0 + k * 5 + 3) (v := S_ y55.fr) (by kernel_rfl) Ty.ag9 (up_ob uz hb67) (el_get he67 3 rfl)) (qv (by kernel_rfl) (v := B_ false) (fun _ _ => dec_false (fun h9 => h9 rfl) (r_nes (m := ((turnC y55).tt)) (n := y55.fr) (by kernel_rfl) (by kernel_rfl))) (qv rfl (v := B_ false) (fun _ _ => pkF (by kernel_rfl)) ?_))))
   refine qnil fun w68 u69 => ?_
   have M70 := mtu M46 u69
   have M71 := mtu hM1 u69
   refine then_n (wp_cond_false (by kernel_rfl) (wp_skip (inb_n (then_n (rg_lit (wmv (v := I_ k) (wlv (v := I_ ((k + 1 : Nat) : Int)) (adI (c := ((k + 1 : Nat) : Int)) k 1 ((IntWalk.i64_in _ (by omega)).trans (by omega))) (was (v := I_ ((k + 1 : Nat) : Int)) (wnil (then_n ?_))))))))))
   refine ⟨Xab.length - (k + 1), ?_, (k + 1), rfl, hmk, M71, (by omega)⟩
   · omega
  refine wp_cond_true (eb v58) (rg_lit (wmv (v := I_ y55.kind) (wlv (v := I_ (3 - y55.kind)) (r_sub (k := .i64) (m := 3) (n := y55.kind) (by kernel_rfl) (by kernel_rfl) (IntWalk.i64_in _ (by omega))) (was (v := I_ (3 - y55.kind)) (wnil (then_n (wp_seq ?_)))))))
  refine rg_all (by kernel_rfl) (by kernel_rfl) ?_
  refine qmv (v := .slice Aba Xba.length cba) (qmv (v := I_ k) ?_)
  have h60 := (CRow.up hCba (Mod.up hM1))
  obtain ⟨g61, hA61, hl61, _, cu61, hb61, he61⟩ := CRow.get h60 (turn_get hYX hy55)
  replace he61 : (cu61.toList.drop (0 + k * 5)).take 5 = chC (turnC y55) := by rw [Nat.zero_add]; exact he61
  refine qv rfl (v := pt g61 (0 + k * 5)) (fun _ _ => ixa Xba.length cba 5 k hA61 Ty.un54 Ty.sz61) (qv rfl (v := pt g61 (0 + k * 5)) (fun _ _ => fa (pt g61 (0 + k * 5))) (qv rfl (v := I_ ((turnC y55).kind)) (fun _ uz => r_load (k := 0 + k * 5) (v := I_ ((turnC y55).kind)) (by kernel_rfl) Ty.ag3 (up_ob uz hb61) (el_get he61 0 rfl)) (qmv (v := I_ (3 - y55.kind)) (qv rfl (v := B_ false) (fun _ _ => dec_false (fun h9 => h9 (turn_lt p59)) (neI ((turnC y55).kind) (3 - y55.kind))) (qmv (v := B_ false) (qv (by kernel_rfl) (v := .slice Aba Xba.length cba) (fun _ _ => mv) (qv (by kernel_rfl) (v := I_ k) (fun _ _ => mv) ?_)))))))
  obtain ⟨g62, hA62, hl62, _, cu62, hb62, he62⟩ := CRow.get h60 (turn_get hYX hy55)
  replace he62 : (cu62.toList.drop (0 + k * 5)).take 5 = chC (turnC y55) := by rw [Nat.zero_add]; exact he62
  refine qv (by kernel_rfl) (v := pt g62 (0 + k * 5)) (fun _ _ => ixa Xba.length cba 5 k hA62 Ty.un54 Ty.sz61) (qv (by kernel_rfl) (v := pt g62 (0 + k * 5 + 1)) (fun _ _ => fa (pt g62 (0 + k * 5))) (qv (by kernel_rfl) (v := .agg #[I_ ((turnC y55).node.t), I_ ((turnC y55).node.w)]) (fun _ uz => r_loads (k := 0 + k * 5 + 1) (by kernel_rfl) Ty.ag24 Ty.sz24 (up_ob uz hb62) (el_sub he62 1 rfl)) (qv (by kernel_rfl) (v := .slice Aab Xab.length cab) (fun _ _ => mv) (qv (by kernel_rfl) (v := I_ k) (fun _ _ => mv) ?_))))
  obtain ⟨g63, hA63, hl63, _, cu63, hb63, he63⟩ := CRow.get h53 hy55
  replace he63 : (cu63.toList.drop (0 + k * 5)).take 5 = chC y55 := by rw [Nat.zero_add]; exact he63
  refine qv (by kernel_rfl) (v := pt g63 (0 + k * 5)) (fun _ _ => ixa Xab.length cab 5 k hA63 Ty.un54 Ty.sz61) (qv (by kernel_rfl) (v := pt g63 (0 + k * 5 + 1)) (fun _ _ => fa (pt g63 (0 + k * 5))) (qv (by kernel_rfl) (v := .agg #[I_ y55.node.t, I_ y55.node.w]) (fun _ uz => r_loads (k := 0 + k * 5 + 1) (by kernel_rfl) Ty.ag24 Ty.sz24 (up_ob uz hb63) (el_sub he63 1 rfl)) (qv (by kernel_rfl) (v := B_ false) (fun _ _ => dec_false (fun h9 => h9 rfl) (r_neS2 (a := ((turnC y55).node.t)) (b := ((turnC y55).node.w)) (c := y55.node.t) (e := y55.node.w) (by kernel_rfl) (by kernel_rfl))) (qv rfl (v := B_ false) (fun _ _ => pkF (by kernel_rfl)) (qmv (v := B_ false) (qv (by kernel_rfl) (v := .slice Aba Xba.length cba) (fun _ _ => mv) (qv (by kernel_rfl) (v := I_ k) (fun _ _ => mv) ?_)))))))
  obtain ⟨g64, hA64, hl64, _, cu64, hb64, he64⟩ := CRow.get h60 (turn_get hYX hy55)
  replace he64 : (cu64.toList.drop (0 + k * 5)).take 5 = chC (turnC y55) := by rw [Nat.zero_add]; exact he64
  refine qv (by kernel_rfl) (v := pt g64 (0 + k * 5)) (fun _ _ => ixa Xba.length cba 5 k hA64 Ty.un54 Ty.sz61) (qv (by kernel_rfl) (v := pt g64 (0 + k * 5 + 3)) (fun _ _ => fa (pt g64 (0 + k * 5))) (qv (by kernel_rfl) (v := S_ ((turnC y55).fr)) (fun _ uz => r_load (k := 0 + k * 5 + 3) (v := S_ ((turnC y55).fr)) (by kernel_rfl) Ty.ag9 (up_ob uz hb64) (el_get he64 3 rfl)) (qv (by kernel_rfl) (v := .slice Aab Xab.length cab) (fun _ _ => mv) (qv (by kernel_rfl) (v := I_ k) (fun _ _ => mv) ?_))))
  obtain ⟨g65, hA65, hl65, _, cu65, hb65, he65⟩ := CRow.get h53 hy55
  replace he65 : (cu65.toList.drop (0 + k * 5)).take 5 = chC y55 := by rw [Nat.zero_add]; exact he65
  refine qv (by kernel_rfl) (v := pt g65 (0 + k * 5)) (fun _ _ => ixa Xab.length cab 5 k hA65 Ty.un54 Ty.sz61) (qv (by kernel_rfl) (v := pt g65 (0 + k * 5 + 4)) (fun _ _ => fa (pt g65 (0 + k * 5))) (qv (by kernel_rfl) (v := S_ y55.tt) (fun _ uz => r_load (k := 0 + k * 5 + 4) (v := S_ y55.tt) (by kernel_rfl) Ty.ag9 (up_ob uz hb65) (el_get he65 4 rfl)) (qv (by kernel_rfl) (v := B_ false) (fun _ _ => dec_false (fun h9 => h9 rfl) (r_nes (m := ((turnC y55).fr)) (n := y55.tt) (by kernel_rfl) (by kernel_rfl))) (qv rfl (v := B_ false) (fun _ _ => pkF (by kernel_rfl)) (qmv (v := B_ false) (qv (by kernel_rfl) (v := .slice Aba Xba.length cba) (fun _ _ => mv) (qv (by kernel_rfl) (v := I_ k) (fun _ _ => mv) ?_)))))))
  obtain ⟨g66, hA66, hl66, _, cu66, hb66, he66⟩ := CRow.get h60 (turn_get hYX hy55)
  replace he66 : (cu66.toList.drop (0 + k * 5)).take 5 = chC (turnC y55) := by rw [Nat.zero_add]; exact he66
  refine qv (by kernel_rfl) (v := pt g66 (0 + k * 5)) (fun _ _ => ixa Xba.length cba 5 k hA66 Ty.un54 Ty.sz61) (qv (by kernel_rfl) (v := pt g66 (0 + k * 5 + 4)) (fun _ _ => fa (pt g66 (0 + k * 5))) (qv (by kernel_rfl) (v := S_ ((turnC y55).tt)) (fun _ uz => r_load (k := 0 + k * 5 + 4) (v := S_ ((turnC y55).tt)) (by kernel_rfl) Ty.ag9 (up_ob uz hb66) (el_get he66 4 rfl)) (qv (by kernel_rfl) (v := .slice Aab Xab.length cab) (fun _ _ => mv) (qv (by kernel_rfl) (v := I_ k) (fun _ _ => mv) ?_))))
  obtain ⟨g67, hA67, hl67, _, cu67, hb67, he67⟩ := CRow.get h53 hy55
  replace he67 : (cu67.toList.drop (0 + k * 5)).take 5 = chC y55 := by rw [Nat.zero_add]; exact he67
  refine qv (by kernel_rfl) (v := pt g67 (0 + k * 5)) (fun _ _ => ixa Xab.length cab 5 k hA67 Ty.un54 Ty.sz61) (qv (by kernel_rfl) (v := pt g67 (0 + k * 5 + 3)) (fun _ _ => fa (pt g67 (0 + k * 5))) (qv (by kernel_rfl) (v := S_ y55.fr) (fun _ uz => r_load (k := 0 + k * 5 + 3) (v := S_ y55.fr) (by kernel_rfl) Ty.ag9 (up_ob uz hb67) (el_get he67 3 rfl)) (qv (by kernel_rfl) (v := B_ false) (fun _ _ => dec_false (fun h9 => h9 rfl) (r_nes (m := ((turnC y55).tt)) (n := y55.fr) (by kernel_rfl) (by kernel_rfl))) (qv rfl (v := B_ false) (fun _ _ => pkF (by kernel_rfl)) ?_))))
  refine qnil fun w68 u69 => ?_
  have M70 := mtu M46 u69
  have M71 := mtu hM1 u69
  refine then_n (wp_cond_false (by kernel_rfl) (wp_skip (inb_n (then_n (rg_lit (wmv (v := I_ k) (wlv (v := I_ ((k + 1 : Nat) : Int)) (adI (c := ((k + 1 : Nat) : Int)) k 1 ((IntWalk.i64_in _ (by omega)).trans (by omega))) (was (v := I_ ((k + 1 : Nat) : Int)) (wnil (then_n ?_))))))))))
  refine ⟨Xab.length - (k + 1), ?_, (k + 1), rfl, hmk, M71, (by omega)⟩
  · omega
end Go.Proofs.YtefhfoioeoijlaaGreatDoor

/- EntQ, EqC, HI, Ver, HM -/
import Derived.Test.YtefhfoioeoijlaaGreatDoorWan
import Derived.Test.YtefhfoioeoijlaaGreatDoorWat
set_option linter.unusedVariables false
set_option linter.unusedSimpArgs false
namespace Go.Proofs.YtefhfoioeoijlaaGreatDoor
open Go Go.RowKit Go.Sort
theorem stamp_eqIn (d : Nat) (s : Stamp) (w : World) : (Op.equalIn (d + 2) 24 (stV s) (stV s)).run Tryz.prog w = .ok true w := by
  unfold stV
  rw [show d + 2 = (d + 1) + 1 from rfl]
  unfold Op.equalIn
  simp only [run_underlying Tryz.underlying24, Sem.run_bind, program, Sem.run, Result.andThen_ok]
  have e1 := int64_equal d s.t s.t w
  have e2 := int_equal d s.w s.w w
  simp [part_t, part_w, e1, e2]
theorem string_eqIn (d : Nat) (s : ByteArray) (w : World) : (Op.equalIn (d + 1) 9 (.string s) (.string s)).run Tryz.prog w = .ok true w := by
  have e : (s == s) = true := by rw [beq_ba]; exact decide_eq_true rfl
  simp [Op.equalIn, run_underlying Tryz.underlying9, e]
end Go.Proofs.YtefhfoioeoijlaaGreatDoor
set_option linter.unusedVariables false
set_option linter.unusedSimpArgs false
namespace Go.Proofs.YtefhfoioeoijlaaGreatDoor
open Go Go.RowKit Go.Sort
theorem ch_equal (x : ChgD) (w : World) : (Op.equal 117 (chV x) (chV x)).run Tryz.prog w = .ok true w := by
  unfold Op.equal Op.maxDepth chV
  rw [show (10000 : Nat) = 9999 + 1 from rfl]
  unfold Op.equalIn
  simp only [run_underlying Tryz.underlying117, Sem.run_bind, program, Sem.run, Result.andThen_ok]
  have p1 : (part 3 #[.int .i64 x.kind, .int .i64 x.node.t, .int .i64 x.node.w, .string x.fr, .string x.tt] 0).run Tryz.prog w = .ok (.int .i64 x.kind) w := by kernel_rfl
  have p2 : (part 24 #[.int .i64 x.kind, .int .i64 x.node.t, .int .i64 x.node.w, .string x.fr, .string x.tt] 1).run Tryz.prog w = .ok (.agg #[.int .i64 x.node.t, .int .i64 x.node.w]) w := by kernel_rfl
  have p3 : (part 9 #[.int .i64 x.kind, .int .i64 x.node.t, .int .i64 x.node.w, .string x.fr, .string x.tt] 3).run Tryz.prog w = .ok (.string x.fr) w := by kernel_rfl
  have p4 : (part 9 #[.int .i64 x.kind, .int .i64 x.node.t, .int .i64 x.node.w, .string x.fr, .string x.tt] 4).run Tryz.prog w = .ok (.string x.tt) w := by kernel_rfl
  have e1 := int_equal 9998 x.kind x.kind w
  have e2 := stamp_eqIn 9997 x.node w
  have e3 := string_eqIn 9998 x.fr w
  have e4 := string_eqIn 9998 x.tt w
  unfold stV at e2
  simp [p1, p2, p3, p4, e1, e2, e3, e4]
section
variable {ρ : Operand → Value} {w : World} {d : Option Tmp} {ty : TypeId} {pos : String} {af : Array Edge} {g : Option (Nat × Bool)}
theorem ch_noguard {T : TypeId} (hT : T = 117) : Tryz.prog.eqGuardType Tryz.prog.depth T = false := by subst hT; kernel_rfl
theorem r_neC {T T' : TypeId} (hT : T = 117) {x z : Operand} {y : ChgD} (hx : ρ x = chV y) (hz : ρ z = chV y) : (execOp ρ ⟨d, .binOp .neq T x z T', ty, pos, af, g⟩).run Tryz.prog w = .ok (.value (.bool false)) w := by
  have hg := ch_noguard hT
  have e : (Op.equal T (chV y) (chV y)).run Tryz.prog w = .ok true w := by rw [hT]; exact ch_equal y w
  unfold chV at hx hz e
  simp [execOp, hx, hz, eqGuard, hg, binOp, e]
theorem dec_false {P : Program} {o : Oper} {p : Prop} [Decidable p] (hp : ¬ p) (h : (execOp ρ o).run P w = .ok (.value (.bool (decide p))) w) : (execOp ρ o).run P w = .ok (.value (.bool false)) w := by rw [h, decide_eq_false hp]
end
def blkL (v : Value) : List Nat := v.ownBlock.toList
theorem Mod.of_own {w w' : World} {v : Value} (h : w.grownBy w' v.ownBlock) : Mod (blkL v) w w' := ⟨h.os, h.tape, h.output, h.size, fun k hk hn => h.block k hk (fun e => hn (by unfold blkL; rw [← e]; simp))⟩
theorem blkL_ne {v : Value} {b : Nat} (h : v.ownBlock ≠ some b) : b ∉ blkL v := by
  unfold blkL; intro hm; exact h (by simpa using hm)
theorem ctake_next {X : List ChgD} {k : Nat} {y : ChgD} (h : X[k]? = some y) : X.take k ++ [⟨y.kind, y.node, y.fr, y.tt⟩] = X.take (k + 1) := by rw [List.take_add_one, h]; rfl
def bytesI (L M : List Item) : Nat := (M.map fun x => if hangsI L 301 x.node = true then x.data.length else 0).sum
theorem bytes_yes {L M : List Item} {k : Nat} {x : Item} (hx : M[k]? = some x) (h : hangsI L 301 x.node = true) : bytesI L (M.take k) + x.data.length = bytesI L (M.take (k + 1)) := by
  unfold bytesI; rw [List.take_add_one, hx]; simp [h]
theorem bytes_no {L M : List Item} {k : Nat} {x : Item} (hx : M[k]? = some x) (h : hangsI L 301 x.node = false) : bytesI L (M.take k) = bytesI L (M.take (k + 1)) := by
  unfold bytesI; rw [List.take_add_one, hx]; simp [h]
def turnC (x : ChgD) : ChgD := ⟨if x.kind < 3 then 3 - x.kind else x.kind, x.node, x.tt, x.fr⟩
theorem turn_lt {x : ChgD} (h : x.kind < 3) : (turnC x).kind = 3 - x.kind := if_pos h
theorem turn_ge {x : ChgD} (h : ¬ x.kind < 3) : (turnC x).kind = x.kind := if_neg h
theorem kind_turn (a b : SideP) : kindP b a = if kindP a b = 0 then 0 else if kindP a b < 3 then 3 - kindP a b else kindP a b := by
  cases ha : a.hangs <;> cases hb : b.hangs
  · rw [kind_0 ha hb, kind_0 hb ha]; rfl
  · rw [kind_1 ha hb, kind_2 hb ha]; rfl
  · rw [kind_2 ha hb, kind_1 hb ha]; rfl
  · by_cases hp : a.path = b.path
    · by_cases hy : a.x.by_ ≠ b.x.by_ ∨ a.x.data ≠ b.x.data
      · rw [kind_4 ha hb hp hy, kind_4 hb ha hp.symm (hy.imp Ne.symm Ne.symm)]; rfl
      · have h1 : a.x.by_ = b.x.by_ := Decidable.byContradiction fun h => hy (.inl h)
        have h2 : a.x.data = b.x.data := Decidable.byContradiction fun h => hy (.inr h)
        rw [kind_5 ha hb hp h1 h2, kind_5 hb ha hp.symm h1.symm h2.symm]; rfl
    · rw [kind_3 ha hb hp, kind_3 hb ha (Ne.symm hp)]; rfl
theorem kind_pos {a b : SideP} (h : kindP a b ≠ 0) (h3 : kindP a b < 3) : kindP a b = 1 ∨ kindP a b = 2 := by
  cases ha : a.hangs <;> cases hb : b.hangs
  · rw [kind_0 ha hb] at h; exact absurd rfl h
  · rw [kind_1 ha hb]; exact .inl rfl
  · rw [kind_2 ha hb]; exact .inr rfl
  · exfalso
    by_cases hp : a.path = b.path
    · by_cases hy : a.x.by_ ≠ b.x.by_ ∨ a.x.data ≠ b.x.data
      · rw [kind_4 ha hb hp hy] at h3; omega
      · have h1 : a.x.by_ = b.x.by_ := Decidable.byContradiction fun h => hy (.inl h)
        have h2 : a.x.data = b.x.data := Decidable.byContradiction fun h => hy (.inr h)
        rw [kind_5 ha hb hp h1 h2] at h; exact absurd rfl h
    · rw [kind_3 ha hb hp] at h3; omega
theorem chg1_turn (La Lb : List Item) (m : Stamp) : chg1 Lb La m = (chg1 La Lb m).map turnC := by
  unfold chg1
  have h := kind_turn (sideP La m) (sideP Lb m)
  by_cases h0 : kindP (sideP La m) (sideP Lb m) = 0
  · rw [if_pos h0] at h; rw [if_pos h0, if_pos h]; rfl
  · rw [if_neg h0] at h
    have h1 : kindP (sideP Lb m) (sideP La m) ≠ 0 := by
      rw [h]; split
      · rename_i h3; rcases kind_pos h0 h3 with e | e <;> rw [e] <;> decide
      · exact h0
    rw [if_neg h0, if_neg h1, h]; rfl
theorem chgs_turn (La Lb : List Item) (D : List Stamp) : chgs Lb La D = (chgs La Lb D).map turnC := by
  unfold chgs; rw [List.map_flatMap]; congr 1; funext m; exact chg1_turn La Lb m
theorem nodes_swap (La Lb : List Item) : (nodesI (La ++ Lb)).Perm (nodesI (Lb ++ La)) := by
  unfold nodesI; rw [List.map_append, List.map_append]; exact List.perm_append_comm
theorem thn_swap {La Lb : List Item} {D D' : List Stamp} (h : Thn (nodesI (La ++ Lb)) D) (h' : Thn (nodesI (Lb ++ La)) D') : D' = D := (h'.one (h.perm (nodes_swap La Lb)))
theorem turn_get {X Y : List ChgD} {k : Nat} {x : ChgD} (h : Y = X.map turnC) (hx : X[k]? = some x) : Y[k]? = some (turnC x) := by rw [h, List.getElem?_map, hx]; rfl
theorem thn_none {D : List Stamp} (h : Thn (nodesI (([] : List Item) ++ [])) D) : D = [] := by
  cases D with
  | nil => rfl
  | cons x D => exact absurd ((h.mem x).1 (by simp)) (by simp [nodesI])
end Go.Proofs.YtefhfoioeoijlaaGreatDoor
set_option linter.unusedVariables false
set_option linter.unusedSimpArgs false
namespace Go.Proofs.YtefhfoioeoijlaaGreatDoor
open Go Go.RowKit Go.Sort
set_option maxHeartbeats 2000000 in
theorem back_at {base : Nat} {w : World} {rA : Option Addr} {rc : Nat} {X : List ChgD} (h : CRow 61 base w (.slice rA X.length rc) X) (hX : X.length ≤ 600) :
    Calls Tryz.prog 25 #[.slice rA X.length rc] w fun e w' => ∃ A c, e = .returned (.slice A X.length c) ∧ CRow 117 w.heap.size w' (.slice A X.length c) X ∧ Up w w' := by
  go_enter Tryz.func25, Tryz.ntmps25
  refine wp_seq (rg_lit ?_)
  refine was (v := .slice none 0 0) ?_
  refine wnil (then_n (wp_seq (rg_lit ?_)))
  refine was (v := .slice none 0 0) ?_
  refine wnil (then_n (wp_seq (wp_seq (rg_lit ?_))))
  refine was (v := .int .i64 0) ?_
  refine wnil (then_n (wp_block ?_))
  refine lp (fun n a r1 => ∃ (k : Nat) (out : List ChgD) (oA : Option Addr) (oc : Nat) (Zk : Nat → Value), (n = X.length - k) ∧ (a = ⟨#[.slice rA X.length rc, undef, .slice none 0 0, .slice oA out.length oc, .int .i64 (k : Int), (Zk 5), (Zk 6), (Zk 7), (Zk 8), (Zk 9), (Zk 10), (Zk 11), (Zk 12), (Zk 13), (Zk 14), (Zk 15), (Zk 16), (Zk 17), (Zk 18), (Zk 19), (Zk 20), (Zk 21), (Zk 22), (Zk 23), (Zk 24), (Zk 25), (Zk 26), (Zk 27), (Zk 28), (Zk 29), (Zk 30), (Zk 31), (Zk 32), (Zk 33), (Zk 34), undef], []⟩) ∧ (Mod [] w r1) ∧ (k ≤ X.length) ∧ (out = X.take k) ∧ (CRow 117 w.heap.size r1 (.slice oA out.length oc) out)) ⟨_, 0, [], none, 0, tget [undef, undef, undef, undef, undef, undef, undef, undef, undef, undef, undef, undef, undef, undef, undef, undef, undef, undef, undef, undef, undef, undef, undef, undef, undef, undef, undef, undef, undef, undef, undef, undef, undef, undef, undef], rfl, (by kernel_rfl), Mod.refl _ _, (Nat.zero_le _), rfl, (CRow.nil _ _ _)⟩ ?_
  rintro _ _ r1 ⟨k, out, oA, oc, Zk, rfl, rfl, hM1, hF1_0, hF1_1, hF1_2⟩
  have M1 := Mod.thin (Mod.refl [] w) hM1 (by simp)
  have ho1 := hF1_1
  have ho2 : out.length ≤ 600 := by rw [ho1, List.length_take]; omega
  refine wp_seq (wp_seq (rg_lit ?_))
  refine wmv (v := .int .i64 (k : Int)) ?_
  refine wmv (v := .slice rA X.length rc) ?_
  refine wl (sv rfl (v := .int .i64 (X.length : Int)) (r_len Ty.un54 (ad := rA) (n := X.length) (c := rc) (by kernel_rfl)) ?_)
  refine wl (sb rfl (r_lt (k := .i64) (m := (k : Int)) (n := (X.length : Int)) (by kernel_rfl) (by kernel_rfl)) ?_)
  intro b2 k3
  refine wnil (then_n ?_)
  refine bcase b2 (fun v4 => ?_) (fun v4 => ?_)
  ·
   have p5 := of_decide_eq_false (k3.trans v4)
   refine wp_cond_false (ebool (b := b2) (by kernel_rfl) v4) ?_
   refine wp_exit (then_x (by nofun) (then_x (by nofun) (inb_hit (then_n (wp_seq (rg_lit ?_))))))
   refine wmv (v := .slice oA out.length oc) ?_
   refine was (v := .slice oA out.length oc) ?_
   refine wnil (then_n (wp_ret ?_))
   refine bodyPost_ret (v := .slice oA out.length oc) (res1 rfl (rv_t (by kernel_rfl))) (by kernel_rfl) ?_
   have hoe : out = X := by rw [ho1, List.take_of_length_le (by omega)]
   exact ⟨oA, oc, by rw [← hoe], (by rw [← hoe]; exact CRow.base hF1_2 (Mod.refl [] w).size), (Mod.up M1)⟩
  have p5 := of_decide_eq_true (k3.trans v4)
  have q6 : k < X.length := by omega
  have q7 : k < X.length := by omega
  refine wp_cond_true (ebool (b := b2) (by kernel_rfl) v4) ?_
  refine wp_skip (then_n (wp_seq (wp_block ?_)))
  refine rg_held (blkL (.slice oA out.length oc)) (n := 25) (by kernel_rfl) rfl ?_
  intro w8 u9
  have M10 := Mod.trans M1 (Mod.of_up u9)
  have M11 := Mod.trans hM1 (Mod.of_up u9)
  refine hvq (i := 0) (fuel := 24) rfl (fun _ _ _ h => h) (Mod.refl _ _) rfl (v := .slice oA out.length oc) (fun _ _ => r_move (by kernel_rfl)) ?_
  refine hvq (i := 1) (fuel := 23) rfl (fun _ _ _ h => h) (Mod.refl _ _) rfl (v := .slice rA X.length rc) (fun _ _ => r_move (by kernel_rfl)) ?_
  refine hvq (i := 2) (fuel := 22) rfl (fun _ _ _ h => h) (Mod.refl _ _) rfl (v := .int .i64 (k : Int)) (fun _ _ => r_move (by kernel_rfl)) ?_
  have h12 := (CRow.up h (Mod.up M10))
  obtain ⟨y13, hy13⟩ : ∃ x, X[k]? = some x := ⟨_, List.getElem?_eq_getElem (by omega)⟩
  obtain ⟨g13, hA13, hl13, _, cu13, hb13, he13⟩ := CRow.get h hy13
  replace hb13 := up_ob (Mod.up M10) hb13
  replace he13 : (cu13.toList.drop (0 + k * 5)).take 5 = chC y13 := by rw [Nat.zero_add]; exact he13
  refine hvq (i := 3) (fuel := 21) rfl (fun _ _ _ h => h) (Mod.refl _ _) rfl (v := .pointer (some ⟨g13, 0 + k * 5, none⟩)) (fun _ _ => r_ixaddr' (A := rA) (b := g13) (o := 0) (n := X.length) (c := rc) (sz := 5) (j := (k : Int)) (by kernel_rfl) hA13 (by kernel_rfl) Ty.un54 Ty.sz61 (by omega) (by omega) (by simp)) ?_
  refine hvq (i := 4) (fuel := 20) rfl (fun _ _ _ h => h) (Mod.refl _ _) rfl (v := .pointer (some ⟨g13, 0 + k * 5, none⟩)) (fun _ _ => r_fieldAddr (u := .pointer (some ⟨g13, 0 + k * 5, none⟩)) (by kernel_rfl) (fun _ => (by kernel_rfl))) ?_
  have h14 := (CRow.up hF1_2 u9)
  refine hvq (i := 5) (fuel := 19) rfl (fun _ _ _ h => h) (Mod.refl _ _) rfl (v := .int .i64 y13.kind) (fun _ uz => r_load (k := 0 + k * 5) (v := .int .i64 y13.kind) (by kernel_rfl) Ty.ag3 (md_ob uz (blkL_ne (CRow.ne_old h14 (Nat.lt_of_lt_of_le hl13 (Mod.refl [] w).size))) hb13) (el_get he13 0 rfl)) ?_
  refine hvq (i := 6) (fuel := 18) rfl (fun _ _ _ h => h) (Mod.refl _ _) rfl (v := .slice rA X.length rc) (fun _ _ => r_move (by kernel_rfl)) ?_
  refine hvq (i := 7) (fuel := 17) rfl (fun _ _ _ h => h) (Mod.refl _ _) rfl (v := .int .i64 (k : Int)) (fun _ _ => r_move (by kernel_rfl)) ?_
  obtain ⟨g15, hA15, hl15, _, cu15, hb15, he15⟩ := CRow.get h hy13
  replace hb15 := up_ob (Mod.up M10) hb15
  replace he15 : (cu15.toList.drop (0 + k * 5)).take 5 = chC y13 := by rw [Nat.zero_add]; exact he15
  refine hvq (i := 8) (fuel := 16) rfl (fun _ _ _ h => h) (Mod.refl _ _) rfl (v := .pointer (some ⟨g15, 0 + k * 5, none⟩)) (fun _ _ => r_ixaddr' (A := rA) (b := g15) (o := 0) (n := X.length) (c := rc) (sz := 5) (j := (k : Int)) (by kernel_rfl) hA15 (by kernel_rfl) Ty.un54 Ty.sz61 (by omega) (by omega) (by simp)) ?_
  refine hvq (i := 9) (fuel := 15) rfl (fun _ _ _ h => h) (Mod.refl _ _) rfl (v := .pointer (some ⟨g15, 0 + k * 5 + 1, none⟩)) (fun _ _ => r_fieldAddr (u := .pointer (some ⟨g15, 0 + k * 5, none⟩)) (by kernel_rfl) (fun _ => (by kernel_rfl))) ?_
  refine hvq (i := 10) (fuel := 14) rfl (fun _ _ _ h => h) (Mod.refl _ _) rfl (v := .agg #[.int .i64 y13.node.t, .int .i64 y13.node.w]) (fun _ uz => r_loads (k := 0 + k * 5 + 1) (by kernel_rfl) Ty.ag24 Ty.sz24 (md_ob uz (blkL_ne (CRow.ne_old h14 (Nat.lt_of_lt_of_le hl15 (Mod.refl [] w).size))) hb15) (el_sub he15 1 rfl)) ?_
  refine hvq (i := 11) (fuel := 13) rfl (fun _ _ _ h => h) (Mod.refl _ _) rfl (v := .slice rA X.length rc) (fun _ _ => r_move (by kernel_rfl)) ?_
  refine hvq (i := 12) (fuel := 12) rfl (fun _ _ _ h => h) (Mod.refl _ _) rfl (v := .int .i64 (k : Int)) (fun _ _ => r_move (by kernel_rfl)) ?_
  obtain ⟨g16, hA16, hl16, _, cu16, hb16, he16⟩ := CRow.get h hy13
  replace hb16 := up_ob (Mod.up M10) hb16
  replace he16 : (cu16.toList.drop (0 + k * 5)).take 5 = chC y13 := by rw [Nat.zero_add]; exact he16
  refine hvq (i := 13) (fuel := 11) rfl (fun _ _ _ h => h) (Mod.refl _ _) rfl (v := .pointer (some ⟨g16, 0 + k * 5, none⟩)) (fun _ _ => r_ixaddr' (A := rA) (b := g16) (o := 0) (n := X.length) (c := rc) (sz := 5) (j := (k : Int)) (by kernel_rfl) hA16 (by kernel_rfl) Ty.un54 Ty.sz61 (by omega) (by omega) (by simp)) ?_
  refine hvq (i := 14) (fuel := 10) rfl (fun _ _ _ h => h) (Mod.refl _ _) rfl (v := .pointer (some ⟨g16, 0 + k * 5 + 3, none⟩)) (fun _ _ => r_fieldAddr (u := .pointer (some ⟨g16, 0 + k * 5, none⟩)) (by kernel_rfl) (fun _ => (by kernel_rfl))) ?_
  refine hvq (i := 15) (fuel := 9) rfl (fun _ _ _ h => h) (Mod.refl _ _) rfl (v := .string y13.fr) (fun _ uz => r_load (k := 0 + k * 5 + 3) (v := .string y13.fr) (by kernel_rfl) Ty.ag9 (md_ob uz (blkL_ne (CRow.ne_old h14 (Nat.lt_of_lt_of_le hl16 (Mod.refl [] w).size))) hb16) (el_get he16 3 rfl)) ?_
  refine hvq (i := 16) (fuel := 8) rfl (fun _ _ _ h => h) (Mod.refl _ _) rfl (v := .slice rA X.length rc) (fun _ _ => r_move (by kernel_rfl)) ?_
  refine hvq (i := 17) (fuel := 7) rfl (fun _ _ _ h => h) (Mod.refl _ _) rfl (v := .int .i64 (k : Int)) (fun _ _ => r_move (by kernel_rfl)) ?_
  obtain ⟨g17, hA17, hl17, _, cu17, hb17, he17⟩ := CRow.get h hy13
  replace hb17 := up_ob (Mod.up M10) hb17
  replace he17 : (cu17.toList.drop (0 + k * 5)).take 5 = chC y13 := by rw [Nat.zero_add]; exact he17
  refine hvq (i := 18) (fuel := 6) rfl (fun _ _ _ h => h) (Mod.refl _ _) rfl (v := .pointer (some ⟨g17, 0 + k * 5, none⟩)) (fun _ _ => r_ixaddr' (A := rA) (b := g17) (o := 0) (n := X.length) (c := rc) (sz := 5) (j := (k : Int)) (by kernel_rfl) hA17 (by kernel_rfl) Ty.un54 Ty.sz61 (by omega) (by omega) (by simp)) ?_
  refine hvq (i := 19) (fuel := 5) rfl (fun _ _ _ h => h) (Mod.refl _ _) rfl (v := .pointer (some ⟨g17, 0 + k * 5 + 4, none⟩)) (fun _ _ => r_fieldAddr (u := .pointer (some ⟨g17, 0 + k * 5, none⟩)) (by kernel_rfl) (fun _ => (by kernel_rfl))) ?_
  refine hvq (i := 20) (fuel := 4) rfl (fun _ _ _ h => h) (Mod.refl _ _) rfl (v := .string y13.tt) (fun _ uz => r_load (k := 0 + k * 5 + 4) (v := .string y13.tt) (by kernel_rfl) Ty.ag9 (md_ob uz (blkL_ne (CRow.ne_old h14 (Nat.lt_of_lt_of_le hl17 (Mod.refl [] w).size))) hb17) (el_get he17 4 rfl)) ?_
  refine hvq (i := 21) (fuel := 3) rfl (fun _ _ _ h => h) (Mod.refl _ _) rfl (v := .agg #[.int .i64 y13.kind, .int .i64 y13.node.t, .int .i64 y13.node.w, .string y13.fr, .string y13.tt]) (fun _ _ => r_build (ps := [(0, .int .i64 y13.kind), (1, .agg #[.int .i64 y13.node.t, .int .i64 y13.node.w]), (2, .string y13.fr), (3, .string y13.tt)]) (cs := [.int .i64 y13.kind, .int .i64 y13.node.t, .int .i64 y13.node.w, .string y13.fr, .string y13.tt]) Ty.un117 Ty.zv117 Ty.pl117 (by kernel_rfl) (by kernel_rfl)) ?_
  refine h1 (i := 22) (fuel := 2) (by kernel_rfl) rfl (sn rfl (cs := #[.int .i64 y13.kind, .int .i64 y13.node.t, .int .i64 y13.node.w, .string y13.fr, .string y13.tt]) (T := 117) (V := fun b => .slice (some ⟨b, 0, none⟩) 1 1) (r_buildSlice (n := 1) (ps := [(0, .agg #[.int .i64 y13.kind, .int .i64 y13.node.t, .int .i64 y13.node.w, .string y13.fr, .string y13.tt])]) Ty.un52 Ty.sz117 Ty.zv117 (by decide) (by decide) (by kernel_rfl) (by kernel_rfl)) ?_)
  intro b18 w19 e20 h21 u22
  have l23 : g13 < b18 := by rw [e20]; exact lt_ob hb13
  have l24 : g15 < b18 := by rw [e20]; exact lt_ob hb15
  have l25 : g16 < b18 := by rw [e20]; exact lt_ob hb16
  have l26 : g17 < b18 := by rw [e20]; exact lt_ob hb17
  have g27 : w.heap.size ≤ b18 := by rw [e20]; exact M10.size
  have g28 : w.heap.size ≤ b18 := by rw [e20]; exact M11.size
  have M29 := Mod.trans M10 (Mod.of_up u22)
  have M30 := Mod.trans M11 (Mod.of_up u22)
  refine hx (Y := (blkL (.slice oA out.length oc))) (Mod.of_up u22) (fun y hy => .inl hy) ?_
  have h31 := (CRow.up h14 u22)
  refine h1 (i := 23) (fuel := 1) (by kernel_rfl) rfl (snC ch5_b rfl (L := out) (x := (⟨y13.kind, y13.node, y13.fr, y13.tt⟩ : ChgD)) (by kernel_rfl) (by kernel_rfl) h31 Ty.un52 h21 M30.size (by omega) ?_)
  intro A32 c33 w34 h35 u36
  have M37 := Mod.trans' M29 u36 (fun k hk => Nat.le_trans (Mod.refl [] w).size (h31.own k hk).1)
  have M38 := Mod.trans' M30 u36 (fun k hk => Nat.le_trans (Nat.le_refl _) (h31.own k hk).1)
  refine hx (Y := (blkL (.slice oA out.length oc))) (Mod.of_own u36) (fun y hy => .inl hy) ?_
  refine hvq (i := 24) (fuel := 0) rfl (fun _ _ _ h => h) (Mod.refl _ _) rfl (v := .slice A32 ((out ++ [(⟨y13.kind, y13.node, y13.fr, y13.tt⟩ : ChgD)]).length) c33) (fun _ _ => r_assign (by kernel_rfl)) ?_
  refine hend (by kernel_rfl) ?_
  refine inb_n (then_n (rg_lit ?_))
  refine wmv (v := .int .i64 (k : Int)) ?_
  refine wl (sv rfl (v := .int .i64 ((k + 1 : Nat) : Int)) (r_add (k := .i64) (m := (k : Int)) (n := 1) (c := ((k + 1 : Nat) : Int)) (by kernel_rfl) (by kernel_rfl) ((IntWalk.i64_in _ (by omega)).trans (by omega))) ?_)
  refine was (v := .int .i64 ((k + 1 : Nat) : Int)) ?_
  refine wnil (then_n ?_)
  refine ⟨X.length - (k + 1), ?_, (k + 1), (out ++ [(⟨y13.kind, y13.node, y13.fr, y13.tt⟩ : ChgD)]), A32, c33, tget [undef, undef, undef, undef, undef, .int .i64 (k : Int), .slice rA X.length rc, .int .i64 (X.length : Int), .bool b2, .int .i64 (k : Int), .int .i64 ((k + 1 : Nat) : Int), .slice oA out.length oc, .slice rA X.length rc, .int .i64 (k : Int), .pointer (some ⟨g13, 0 + k * 5, none⟩), .pointer (some ⟨g13, 0 + k * 5, none⟩), .int .i64 y13.kind, .slice rA X.length rc, .int .i64 (k : Int), .pointer (some ⟨g15, 0 + k * 5, none⟩), .pointer (some ⟨g15, 0 + k * 5 + 1, none⟩), .agg #[.int .i64 y13.node.t, .int .i64 y13.node.w], .slice rA X.length rc, .int .i64 (k : Int), .pointer (some ⟨g16, 0 + k * 5, none⟩), .pointer (some ⟨g16, 0 + k * 5 + 3, none⟩), .string y13.fr, .slice rA X.length rc, .int .i64 (k : Int), .pointer (some ⟨g17, 0 + k * 5, none⟩), .pointer (some ⟨g17, 0 + k * 5 + 4, none⟩), .string y13.tt, .agg #[.int .i64 y13.kind, .int .i64 y13.node.t, .int .i64 y13.node.w, .string y13.fr, .string y13.tt], .slice (some ⟨b18, 0, none⟩) 1 1, .slice A32 ((out ++ [(⟨y13.kind, y13.node, y13.fr, y13.tt⟩ : ChgD)]).length) c33], rfl, (by kernel_rfl), M38, (by omega), (by rw [ho1]; exact ctake_next hy13), h35⟩
  · omega
set_option maxHeartbeats 2000000 in
theorem same20_at {base base' : Nat} {w : World} {rA sA : Option Addr} {rc sc : Nat} {X : List ChgD} (h : CRow 117 base w (.slice rA X.length rc) X) (h' : CRow 117 base' w (.slice sA X.length sc) X) (hX : X.length ≤ 600) :
    Calls Tryz.prog 24 #[.slice rA X.length rc, .slice sA X.length sc] w fun e w' => e = .returned (.bool true) ∧ Up w w' := by
  go_enter Tryz.func24, Tryz.ntmps24
  refine wp_seq (rg_lit ?_)
  refine was (v := .bool false) ?_
  refine wnil (then_n (wp_seq (wp_seq (rg_lit ?_))))
  refine wmv (v := .slice rA X.length rc) ?_
  refine wl (sv rfl (v := .int .i64 (X.length : Int)) (r_len Ty.un52 (ad := rA) (n := X.length) (c := rc) (by kernel_rfl)) ?_)
  refine wmv (v := .slice sA X.length sc) ?_
  refine wl (sv rfl (v := .int .i64 (X.length : Int)) (r_len Ty.un52 (ad := sA) (n := X.length) (c := sc) (by kernel_rfl)) ?_)
  refine wl (sv rfl (v := .bool false) (ne_same (r_ne (k := .i64) (m := (X.length : Int)) (n := (X.length : Int)) (by kernel_rfl) (by kernel_rfl))) ?_)
  refine wnil (then_n ?_)
  refine wp_cond_false (by kernel_rfl) ?_
  refine wp_skip (then_n (wp_seq (wp_seq (rg_lit ?_))))
  refine was (v := .int .i64 0) ?_
  refine wnil (then_n (wp_block ?_))
  refine lp (fun n a r1 => ∃ (k : Nat) (z4 z11 z12 z13 z14 z15 z16 z17 z18 z19 z20 z21 z22 z23 z24 z25 : Value), (n = X.length - k) ∧ (a = ⟨#[.slice rA X.length rc, .slice sA X.length sc, undef, undef, z4, .int .i64 (k : Int), .slice rA X.length rc, .int .i64 (X.length : Int), .slice sA X.length sc, .int .i64 (X.length : Int), .bool false, z11, z12, z13, z14, z15, z16, z17, z18, z19, z20, z21, z22, z23, z24, z25], []⟩) ∧ (Mod [] w r1) ∧ (k ≤ X.length)) ⟨_, 0, .bool false, undef, undef, undef, undef, undef, undef, undef, undef, undef, undef, undef, undef, undef, undef, undef, rfl, (by kernel_rfl), Mod.refl _ _, (Nat.zero_le _)⟩ ?_
  rintro _ _ r1 ⟨k, z4, z11, z12, z13, z14, z15, z16, z17, z18, z19, z20, z21, z22, z23, z24, z25, rfl, rfl, hM1, hF1_0⟩
  have M1 := Mod.thin (Mod.refl [] w) hM1 (by simp)
  refine wp_seq (wp_seq (rg_lit ?_))
  refine wmv (v := .int .i64 (k : Int)) ?_
  refine wmv (v := .slice rA X.length rc) ?_
  refine wl (sv rfl (v := .int .i64 (X.length : Int)) (r_len Ty.un52 (ad := rA) (n := X.length) (c := rc) (by kernel_rfl)) ?_)
  refine wl (sb rfl (r_lt (k := .i64) (m := (k : Int)) (n := (X.length : Int)) (by kernel_rfl) (by kernel_rfl)) ?_)
  intro b2 k3
  refine wnil (then_n ?_)
  refine bcase b2 (fun v4 => ?_) (fun v4 => ?_)
  ·
   have p5 := of_decide_eq_false (k3.trans v4)
   refine wp_cond_false (ebool (b := b2) (by kernel_rfl) v4) ?_
   refine wp_exit (then_x (by nofun) (then_x (by nofun) (inb_hit (then_n (wp_seq (rg_lit ?_))))))
   refine was (v := .bool true) ?_
   refine wnil (then_n (wp_ret ?_))
   refine bodyPost_ret (v := .bool true) (res1 rfl (rv_t (by kernel_rfl))) (by kernel_rfl) ?_
   exact ⟨rfl, (Mod.up M1)⟩
  have p5 := of_decide_eq_true (k3.trans v4)
  have q6 : k < X.length := by omega
  have q7 : k < X.length := by omega
  refine wp_cond_true (ebool (b := b2) (by kernel_rfl) v4) ?_
  refine wp_skip (then_n (wp_seq (wp_block (wp_seq ?_))))
  refine rg_all (by kernel_rfl) (by kernel_rfl) ?_
  refine qmv (v := .slice rA X.length rc) ?_
  refine qmv (v := .int .i64 (k : Int)) ?_
  have h8 := (CRow.up h (Mod.up M1))
  obtain ⟨y9, hy9⟩ : ∃ x, X[k]? = some x := ⟨_, List.getElem?_eq_getElem (by omega)⟩
  obtain ⟨g9, hA9, hl9, _, cu9, hb9, he9⟩ := CRow.get h hy9
  replace hb9 := up_ob (Mod.up M1) hb9
  replace he9 : (cu9.toList.drop (0 + k * 5)).take 5 = chC y9 := by rw [Nat.zero_add]; exact he9
  refine qv rfl (v := .pointer (some ⟨g9, 0 + k * 5, none⟩)) (fun _ _ => r_ixaddr' (A := rA) (b := g9) (o := 0) (n := X.length) (c := rc) (sz := 5) (j := (k : Int)) (by kernel_rfl) hA9 (by kernel_rfl) Ty.un52 Ty.sz117 (by omega) (by omega) (by simp)) ?_
  refine qv rfl (v := .agg #[.int .i64 y9.kind, .int .i64 y9.node.t, .int .i64 y9.node.w, .string y9.fr, .string y9.tt]) (fun _ uz => r_loads (k := 0 + k * 5) (by kernel_rfl) Ty.ag117 Ty.sz117 (up_ob uz hb9) (el_sub0 he9 rfl)) ?_
  refine qmv (v := .slice sA X.length sc) ?_
  refine qmv (v := .int .i64 (k : Int)) ?_
  have h10 := (CRow.up h' (Mod.up M1))
  obtain ⟨g11, hA11, hl11, _, cu11, hb11, he11⟩ := CRow.get h' hy9
  replace hb11 := up_ob (Mod.up M1) hb11
  replace he11 : (cu11.toList.drop (0 + k * 5)).take 5 = chC y9 := by rw [Nat.zero_add]; exact he11
  refine qv rfl (v := .pointer (some ⟨g11, 0 + k * 5, none⟩)) (fun _ _ => r_ixaddr' (A := sA) (b := g11) (o := 0) (n := X.length) (c := sc) (sz := 5) (j := (k : Int)) (by kernel_rfl) hA11 (by kernel_rfl) Ty.un52 Ty.sz117 (by omega) (by omega) (by simp)) ?_
  refine qv rfl (v := .agg #[.int .i64 y9.kind, .int .i64 y9.node.t, .int .i64 y9.node.w, .string y9.fr, .string y9.tt]) (fun _ uz => r_loads (k := 0 + k * 5) (by kernel_rfl) Ty.ag117 Ty.sz117 (up_ob uz hb11) (el_sub0 he11 rfl)) ?_
  refine qv rfl (v := .bool false) (fun _ _ => r_neC rfl (y := y9) (by kernel_rfl) (by kernel_rfl)) ?_
  refine qnil ?_
  intro w12 u13
  have M14 := Mod.trans M1 (Mod.of_up u13)
  have M15 := Mod.trans hM1 (Mod.of_up u13)
  refine then_n ?_
  refine wp_cond_false (by kernel_rfl) ?_
  refine wp_skip (inb_n (then_n (rg_lit ?_)))
  refine wmv (v := .int .i64 (k : Int)) ?_
  refine wl (sv rfl (v := .int .i64 ((k + 1 : Nat) : Int)) (r_add (k := .i64) (m := (k : Int)) (n := 1) (c := ((k + 1 : Nat) : Int)) (by kernel_rfl) (by kernel_rfl) ((IntWalk.i64_in _ (by omega)).trans (by omega))) ?_)
  refine was (v := .int .i64 ((k + 1 : Nat) : Int)) ?_
  refine wnil (then_n ?_)
  refine ⟨X.length - (k + 1), ?_, (k + 1), z4, .int .i64 (k : Int), .slice rA X.length rc, .int .i64 (X.length : Int), .bool b2, .int .i64 (k : Int), .int .i64 ((k + 1 : Nat) : Int), .slice rA X.length rc, .int .i64 (k : Int), .pointer (some ⟨g9, 0 + k * 5, none⟩), .agg #[.int .i64 y9.kind, .int .i64 y9.node.t, .int .i64 y9.node.w, .string y9.fr, .string y9.tt], .slice sA X.length sc, .int .i64 (k : Int), .pointer (some ⟨g11, 0 + k * 5, none⟩), .agg #[.int .i64 y9.kind, .int .i64 y9.node.t, .int .i64 y9.node.w, .string y9.fr, .string y9.tt], .bool false, rfl, (by kernel_rfl), M15, (by omega)⟩
  · omega
set_option maxHeartbeats 2000000 in
theorem bytes20_at {B : Nat} {w : World} {p : Option Addr} {L : List Item} (h : OT B w p L) (hB : B ≤ w.heap.size) (hF : Fit L) :
    Calls Tryz.prog 29 #[.pointer p] w fun e w' => e = .returned (.int .i64 (bytesI L L : Nat)) ∧ Up w w' := by
  have hl3 := hF.len
  go_enter Tryz.func29, Tryz.ntmps29
  refine wp_seq (rg_lit ?_)
  refine was (v := .int .i64 0) ?_
  refine wnil (then_n (wp_seq (wp_seq (rg_lit ?_))))
  refine wmv (v := .pointer p) ?_
  refine wl (sc rfl (r_callv (caps := []) (all := [.pointer p]) En.f41 (by kernel_rfl) (by kernel_rfl)) (allO_at h (Nat.le_trans hB (Mod.refl [] w).size)) ?_)
  rintro e w1 ⟨A2, c3, rfl, h4, u5⟩
  have h6 := IRow.base h4 (Mod.refl [] w).size
  refine ⟨.slice A2 L.length c3, rfl, ?_⟩
  have M7 := Mod.trans (Mod.refl [] w) (Mod.of_up u5)
  refine wl (sv rfl (v := .int .i64 (L.length : Int)) (r_len Ty.un74 (ad := A2) (n := L.length) (c := c3) (by kernel_rfl)) ?_)
  refine wmv (v := .int .i64 0) ?_
  refine wnil (then_n (wp_block ?_))
  have h8 := (OT.up h (Mod.up M7))
  refine lp (fun n a r1 => ∃ (k : Nat) (sm : Nat) (z4 z9 z10 z11 z12 z13 z14 z15 z16 z17 z18 z19 z20 z21 : Value), (n = L.length - k) ∧ (a = ⟨#[.pointer p, undef, .int .i64 (sm : Int), undef, z4, .pointer p, .slice A2 L.length c3, .int .i64 (L.length : Int), .int .i64 (k : Int), z9, z10, z11, z12, z13, z14, z15, z16, z17, z18, z19, z20, z21, undef], []⟩) ∧ (Mod [] w1 r1) ∧ (k ≤ L.length) ∧ (sm = bytesI L (L.take k)) ∧ (((sm : Nat) : Int) ≤ 140737488351232 * ((k : Nat) : Int))) ⟨_, 0, 0, undef, undef, undef, undef, undef, undef, undef, undef, undef, undef, undef, undef, undef, undef, rfl, (by kernel_rfl), Mod.refl _ _, (Nat.zero_le _), rfl, (by decide)⟩ ?_
  rintro _ _ r1 ⟨k, sm, z4, z9, z10, z11, z12, z13, z14, z15, z16, z17, z18, z19, z20, z21, rfl, rfl, hM1, hF1_0, hF1_1, hF1_2⟩
  have M9 := Mod.thin M7 hM1 (by simp)
  have hs1 := hF1_1
  refine wp_seq (rg_lit ?_)
  refine wl (sb rfl (r_lt (k := .i64) (m := (k : Int)) (n := (L.length : Int)) (by kernel_rfl) (by kernel_rfl)) ?_)
  intro b10 k11
  refine wnil (then_n (wp_seq ?_))
  refine bcase b10 (fun v12 => ?_) (fun v12 => ?_)
  ·
   have p13 := of_decide_eq_false (k11.trans v12)
   refine wp_cond_false (ebool (b := b10) (by kernel_rfl) v12) ?_
   refine wp_exit (then_x (by nofun) (then_x (by nofun) (inb_hit (then_n (wp_seq (rg_lit ?_))))))
   refine wmv (v := .int .i64 (sm : Int)) ?_
   refine was (v := .int .i64 (sm : Int)) ?_
   refine wnil (then_n (wp_ret ?_))
   refine bodyPost_ret (v := .int .i64 (sm : Int)) (res1 rfl (rv_t (by kernel_rfl))) (by kernel_rfl) ?_
   exact ⟨by rw [hs1, List.take_of_length_le (by omega)], (Mod.up M9)⟩
  have p13 := of_decide_eq_true (k11.trans v12)
  have q14 : k < L.length := by omega
  have q15 : k < L.length := by omega
  refine wp_cond_true (ebool (b := b10) (by kernel_rfl) v12) ?_
  refine wp_skip (then_n (wp_seq (wp_block (wp_seq (rg_lit ?_)))))
  have h16 := (IRow.up h6 (Mod.up hM1))
  obtain ⟨y17, hy17⟩ : ∃ x, L[k]? = some x := ⟨_, List.getElem?_eq_getElem q15⟩
  obtain ⟨g17, cp17, cu17, dA17, dn17, dc17, hA17, hg17, hb17, he17, hD17⟩ := h16.get hy17
  injection hA17 with hA17 _ _
  replace he17 : (cu17.toList.drop (0 + k * 10)).take 10 = (itC y17 (.slice dA17 dn17 dc17)) := by rw [Nat.zero_add]; exact he17
  refine wl (sv rfl (v := .pointer (some ⟨g17, 0 + k * 10, none⟩)) (r_ixaddr' (A := A2) (b := g17) (o := 0) (n := L.length) (c := c3) (sz := 10) (j := (k : Int)) (by kernel_rfl) hA17 (by kernel_rfl) Ty.un74 Ty.sz42 (by omega) (by omega) (by simp)) ?_)
  have hdl := (Dat.len hD17).2
  refine wl (sv rfl (v := itV y17 (.slice dA17 dn17 dc17)) (r_loads (k := 0 + k * 10) (by kernel_rfl) Ty.ag42 Ty.sz42 hb17 (el_sub0 he17 rfl)) ?_)
  refine wl (sn rfl (cs := #[.int .i64 0, .int .i64 0, .int .i64 0, .int .i64 0, .string (⟨#[]⟩), .bool false, .bool false, .slice none 0 0, .int .i64 0, .int .i64 0]) (T := 42) (V := fun b => .pointer (some ⟨b, 0, none⟩)) (r_alloc Ty.zv42 rfl) ?_)
  intro b18 w19 e20 h21 u22
  have l23 : g17 < b18 := by rw [e20]; exact lt_ob hb17
  have g24 : w.heap.size ≤ b18 := by rw [e20]; exact M9.size
  have g25 : w1.heap.size ≤ b18 := by rw [e20]; exact hM1.size
  have M26 := Mod.trans M9 (Mod.of_up u22)
  have M27 := Mod.trans hM1 (Mod.of_up u22)
  refine wl (ss rfl (k := 0) (v := itV y17 (.slice dA17 dn17 dc17)) (vs := (itC y17 (.slice dA17 dn17 dc17))) (cs' := (itC y17 (.slice dA17 dn17 dc17))) (by kernel_rfl) (by kernel_rfl) rfl Ty.sz42 h21 rfl (Nat.le_of_ble_eq_true rfl) rfl ?_)
  intro w28 h29 c30
  have M31 := Mod.trans' M26 c30 (fun i hi => by injection hi with hi; rw [← hi]; exact g24)
  have M32 := Mod.trans' M27 c30 (fun i hi => by injection hi with hi; rw [← hi]; exact g25)
  refine wnil (then_n (wp_seq (rg_lit ?_)))
  refine wmv (v := .pointer p) ?_
  refine wl (sv rfl (v := .pointer (some ⟨b18, 0, none⟩)) (r_fieldAddr (u := .pointer (some ⟨b18, 0, none⟩)) (by kernel_rfl) (fun _ => (by kernel_rfl))) ?_)
  refine wl (sv rfl (v := .agg #[.int .i64 y17.node.t, .int .i64 y17.node.w]) (r_loads (k := 0) (by kernel_rfl) Ty.ag24 Ty.sz24 h29 (by kernel_rfl)) ?_)
  have h33 := (OT.up h (Mod.up M31))
  refine wl (sc rfl (r_callv (caps := []) (all := [.pointer p, .agg #[.int .i64 y17.node.t, .int .i64 y17.node.w]]) En.f39 (by kernel_rfl) (by kernel_rfl)) (hangsO_at h33 y17.node.t y17.node.w (hF.wf.nonil _ (List.mem_of_getElem? hy17))) ?_)
  rintro e w34 ⟨rfl, u35⟩
  refine ⟨.bool (hangsI L 301 ⟨y17.node.t, y17.node.w⟩), rfl, ?_⟩
  have M36 := Mod.trans M31 (Mod.of_up u35)
  have M37 := Mod.trans M32 (Mod.of_up u35)
  refine wnil (then_n ?_)
  refine bcase (hangsI L 301 ⟨y17.node.t, y17.node.w⟩) (fun v38 => ?_) (fun v38 => ?_)
  ·
   refine wp_cond_false (ebool (b := (hangsI L 301 ⟨y17.node.t, y17.node.w⟩)) (by kernel_rfl) v38) ?_
   refine wp_skip (inb_n (then_n (rg_lit ?_)))
   refine wl (sv rfl (v := .int .i64 ((k + 1 : Nat) : Int)) (r_add (k := .i64) (m := (k : Int)) (n := 1) (c := ((k + 1 : Nat) : Int)) (by kernel_rfl) (by kernel_rfl) ((IntWalk.i64_in _ (by omega)).trans (by omega))) ?_)
   refine wmv (v := .int .i64 ((k + 1 : Nat) : Int)) ?_
   refine wnil (then_n ?_)
   refine ⟨L.length - (k + 1), ?_, (k + 1), sm, .pointer (some ⟨b18, 0, none⟩), .bool b10, .pointer (some ⟨g17, 0 + k * 10, none⟩), itV y17 (.slice dA17 dn17 dc17), .pointer p, .pointer (some ⟨b18, 0, none⟩), .agg #[.int .i64 y17.node.t, .int .i64 y17.node.w], .bool (hangsI L 301 ⟨y17.node.t, y17.node.w⟩), z16, z17, z18, z19, z20, .int .i64 ((k + 1 : Nat) : Int), rfl, (by kernel_rfl), M37, (by omega), (by rw [hs1]; exact bytes_no hy17 v38), (by omega)⟩
   · omega
  refine wp_cond_true (ebool (b := (hangsI L 301 ⟨y17.node.t, y17.node.w⟩)) (by kernel_rfl) v38) ?_
  refine rg_lit ?_
  refine wmv (v := .int .i64 (sm : Int)) ?_
  refine wl (sv rfl (v := .pointer (some ⟨b18, 7, none⟩)) (r_fieldAddr (u := .pointer (some ⟨b18, 0, none⟩)) (by kernel_rfl) (fun _ => (by kernel_rfl))) ?_)
  have h39 := (up_ob u35 h29)
  refine wl (sv rfl (v := .slice dA17 dn17 dc17) (r_load (k := 7) (by kernel_rfl) Ty.ag40 h39 (by kernel_rfl)) ?_)
  refine wl (sv rfl (v := .int .i64 (dn17 : Int)) (r_len Ty.un40 (ad := dA17) (n := dn17) (c := dc17) (by kernel_rfl)) ?_)
  refine wl (sv rfl (v := .int .i64 ((sm + dn17 : Nat) : Int)) (r_add (k := .i64) (m := (sm : Int)) (n := (dn17 : Int)) (c := ((sm + dn17 : Nat) : Int)) (by kernel_rfl) (by kernel_rfl) ((IntWalk.i64_in _ (by omega)).trans (by omega))) ?_)
  refine was (v := .int .i64 ((sm + dn17 : Nat) : Int)) ?_
  refine wnil (inb_n (then_n (rg_lit ?_)))
  refine wl (sv rfl (v := .int .i64 ((k + 1 : Nat) : Int)) (r_add (k := .i64) (m := (k : Int)) (n := 1) (c := ((k + 1 : Nat) : Int)) (by kernel_rfl) (by kernel_rfl) ((IntWalk.i64_in _ (by omega)).trans (by omega))) ?_)
  refine wmv (v := .int .i64 ((k + 1 : Nat) : Int)) ?_
  refine wnil (then_n ?_)
  refine ⟨L.length - (k + 1), ?_, (k + 1), (sm + dn17), .pointer (some ⟨b18, 0, none⟩), .bool b10, .pointer (some ⟨g17, 0 + k * 10, none⟩), itV y17 (.slice dA17 dn17 dc17), .pointer p, .pointer (some ⟨b18, 0, none⟩), .agg #[.int .i64 y17.node.t, .int .i64 y17.node.w], .bool (hangsI L 301 ⟨y17.node.t, y17.node.w⟩), .int .i64 (sm : Int), .pointer (some ⟨b18, 7, none⟩), .slice dA17 dn17 dc17, .int .i64 (dn17 : Int), .int .i64 ((sm + dn17 : Nat) : Int), .int .i64 ((k + 1 : Nat) : Int), rfl, (by kernel_rfl), M37, (by omega), (by rw [hs1, ← (Dat.len hD17).1]; exact bytes_yes hy17 v38), (by omega)⟩
  · omega
end Go.Proofs.YtefhfoioeoijlaaGreatDoor
set_option linter.unusedVariables false
set_option linter.unusedSimpArgs false
namespace Go.Proofs.YtefhfoioeoijlaaGreatDoor
open Go Go.RowKit Go.Sort
abbrev vo1 : OpD := ⟨1, ⟨1, 1⟩, ⟨1, 1⟩, ⟨0, 0⟩, false, ⟨#[97]⟩, []⟩
abbrev vo2 : OpD := ⟨4, ⟨2, 1⟩, ⟨1, 1⟩, ⟨0, 0⟩, false, ⟨#[]⟩, [120]⟩
abbrev vo3 : OpD := ⟨2, ⟨3, 1⟩, ⟨1, 1⟩, ⟨0, 0⟩, false, ⟨#[98]⟩, []⟩
def vos : List OpD := [vo1, vo2, vo3]
theorem vos_sort : sortO vos = vos := by decide
theorem vos_names : ∀ o ∈ vos, o.name.size ≤ 9223372036854775807 := by
  intro o ho
  simp only [vos, List.mem_cons, List.not_mem_nil, or_false] at ho
  rcases ho with rfl | rfl | rfl <;> decide
theorem lit_dat {B : Nat} {w : World} {bd : Nat} {fr : Nat × Nat} (h : w.heap[bd]? = some (.cells #[.int .u8 120] 5 fr)) : Dat B w (.slice (some ⟨bd, 0, none⟩) 1 1) [120] := by
  refine ⟨_, _, _, rfl, rfl, Nat.le_refl _, by decide, by simp, fun _ => ⟨bd, 0, rfl, lt_ob h, .inr ⟨_, _, h⟩, fun i hi => ?_⟩⟩
  obtain rfl : i = 0 := by omega
  simp [World.cell?, h]
theorem three_row {B : Nat} {w : World} {g bd : Nat} (h : w.heap[g]? = some (.cells ((opC vo1 (.slice none 0 0) ++ (opC vo2 (.slice (some ⟨bd, 0, none⟩) 1 1) ++ opC vo3 (.slice none 0 0))).toArray) 49 (0, 0))) (hd : Dat B w (.slice (some ⟨bd, 0, none⟩) 1 1) [120]) : OpRow B w (some ⟨g, 0, none⟩) vos := fun i o hi => by
  have hlt := lt_ob h
  match i, hi with
  | 0, hi =>
    simp [vos] at hi; subst hi
    refine ⟨g, 0, none, 0, 0, rfl, hlt, fun j v hj => ?_, Dat.nil B w, by decide⟩
    have hj10 : j < 10 := (List.getElem?_eq_some_iff.1 hj).1
    simp only [World.cell?, h, Nat.zero_add, Nat.zero_mul]
    rw [List.getElem?_toArray, List.getElem?_append_left (by exact hj10)]
    exact hj
  | 1, hi =>
    simp [vos] at hi; subst hi
    refine ⟨g, 0, some ⟨bd, 0, none⟩, 1, 1, rfl, hlt, fun j v hj => ?_, hd, by decide⟩
    have hj10 : j < 10 := (List.getElem?_eq_some_iff.1 hj).1
    simp only [World.cell?, h, Nat.zero_add, Nat.one_mul]
    rw [List.getElem?_toArray, List.getElem?_append_right (by show 10 ≤ 10 + j; omega)]
    have e : 10 + j - (opC vo1 (.slice none 0 0)).length = j := by show 10 + j - 10 = j; omega
    rw [e, List.getElem?_append_left (by exact hj10)]; exact hj
  | 2, hi =>
    simp [vos] at hi; subst hi
    refine ⟨g, 0, none, 0, 0, rfl, hlt, fun j v hj => ?_, Dat.nil B w, by decide⟩
    have hj10 : j < 10 := (List.getElem?_eq_some_iff.1 hj).1
    simp only [World.cell?, h, Nat.zero_add]
    rw [List.getElem?_toArray, List.getElem?_append_right (by show 10 ≤ 2 * 10 + j; omega)]
    have e : 2 * 10 + j - (opC vo1 (.slice none 0 0)).length = 10 + j := by show 2 * 10 + j - 10 = 10 + j; omega
    rw [e, List.getElem?_append_right (by show 10 ≤ 10 + j; omega)]
    have e : 10 + j - (opC vo2 (.slice (some ⟨bd, 0, none⟩) 1 1)).length = j := by show 10 + j - 10 = j; omega
    rw [e]; exact hj
  | i + 3, hi => simp [vos] at hi
set_option maxHeartbeats 2000000 in
theorem opsClone_at {B : Nat} {w : World} {A : Option Addr} {c : Nat} {os : List OpD} (h : OpRow B w A os) (hne : os ≠ []) (hlen : os.length ≤ 1000) (hB : B ≤ w.heap.size) :
    Calls Tryz.prog 131 #[.slice A os.length c] w fun e w' => ∃ g c', e = .returned (.slice (some ⟨g, 0, none⟩) os.length c') ∧ ORow 49 B w.heap.size w' (.slice (some ⟨g, 0, none⟩) os.length c') os ∧ Up w w' := by
  obtain ⟨A', c1, e, hs⟩ := (h.sub (c := c) : SubO B w (.slice A os.length c) os)
  injection e with e1 _ e3
  subst e1 e3
  obtain ⟨g, o, ds, rfl, hg, hpr, hcell⟩ := hs hne
  obtain ⟨iP, zP, hiP, hzP, hsP, hbP, hcP⟩ := info_op
  go_enter Tryz.func131, Tryz.ntmps131
  refine wp_seq (rg_lit ?_)
  refine was (v := .slice none 0 0) ?_
  refine wnil (then_n (wp_seq (wp_seq (rg_lit ?_))))
  refine wmv (v := .slice (some ⟨g, o, none⟩) os.length c) ?_
  refine wl (sv rfl (v := .bool false) (w' := w) (by kernel_rfl) ?_)
  refine wnil (then_n (wp_cond_false (by kernel_rfl) (wp_skip (then_n (wp_seq (rg_lit ?_))))))
  refine wl (sn rfl (cs := #[]) (T := 49) (V := fun b => .slice (some ⟨b, 0, none⟩) 0 0) (by simp [execOp, Instr.buildSlice, run_underlying Ty.un22, Ty.sz49, Instr.fill, newRow, Array.range_zero']) ?_)
  intro b w1 e1 h1 u1
  have hown : w1.ownsRow w.heap.size 49 10 (.slice (some ⟨b, 0, none⟩) 0 0) 0 [] := ⟨by simp, .inr ⟨b, 0, #[], rfl, Nat.le_of_eq e1.symm, h1, Nat.le_refl _, Nat.zero_le _, by simp, by simp⟩⟩
  have hfl := flatO_length hpr.length
  refine wmv (v := .slice (some ⟨g, o, none⟩) os.length c) ?_
  obtain ⟨v', w2, r2, r3, r4, _⟩ := run_append_own (P := Tryz.prog) w1 w.heap.size 22 22 49 iP zP 10 104 Ty.un22 hiP hzP hsP hbP hcP (by decide) _ 0 [] hown ⟨g, o, none⟩ os.length c (flatO os ds) hfl (fun j u hj => by rw [add_at]; exact (u1.cell (p := ⟨g, o + j, none⟩) hg).trans (hcell j u hj)) (flatO_one hpr) (by unfold maxLen; omega) (by omega) u1.size
  have c2 : Chg w1 w2 b := r4
  have uu : Up w w2 := up_chgn u1 c2 (Nat.le_of_eq e1.symm)
  rw [Nat.zero_add, List.nil_append] at r3
  have hR : ORow 49 B w.heap.size w2 v' os := ⟨ds, hpr.mono fun x d hd => hd.up uu, r3⟩
  obtain ⟨A', c', rfl⟩ := hR.form
  have hA' : ∃ g', A' = some ⟨g', 0, none⟩ := by
    obtain ⟨i, hi⟩ : ∃ x, os[0]? = some x := ⟨_, List.getElem?_eq_getElem (Nat.pos_of_ne_zero fun e => hne (List.eq_nil_of_length_eq_zero e))⟩
    obtain ⟨g', _, _, _, _, _, e, _⟩ := hR.get hi
    injection e with e _ _
    exact ⟨g', e⟩
  obtain ⟨g', rfl⟩ := hA'
  refine wl (sv rfl (v := .slice (some ⟨g', 0, none⟩) os.length c') (w' := w2) (by simp [execOp, resolve, invoke, builtin, Act.eval, Act.put, r2]) ?_)
  refine was (v := .slice (some ⟨g', 0, none⟩) os.length c') ?_
  refine wnil (then_n (wp_ret ?_))
  refine bodyPost_ret (v := .slice (some ⟨g', 0, none⟩) os.length c') (res1 rfl (rv_t (by kernel_rfl))) (by kernel_rfl) ?_
  exact ⟨g', c', rfl, hR, uu⟩
theorem vos_cut {i : Nat} {x : Nat} (h : (List.range 3)[i]? = some x) : decide ((atO vos x).at_.t > 2) = decide (i + 1 = 3) := by
  have hi : i < 3 := by have := (List.getElem?_eq_some_iff.1 h).1; simpa using this
  rw [List.getElem?_range hi] at h
  injection h with h; subst h
  match i, hi with
  | 0, _ => rfl
  | 1, _ => rfl
  | 2, _ => rfl
end Go.Proofs.YtefhfoioeoijlaaGreatDoor
set_option linter.unusedVariables false
set_option linter.unusedSimpArgs false
namespace Go.Proofs.YtefhfoioeoijlaaGreatDoor
open Go Go.RowKit Go.Sort
set_option maxHeartbeats 2000000 in
theorem asOf1_at {w : World} (o : OpD) (oA : Option Addr) (on oc : Nat) {fb : Nat} {ct : Int} (hfb : w.heap[fb]? = some (.cells #[.int .i64 ct] 2 (0, 0))) :
    Calls Tryz.prog 129 #[opV o (.slice oA on oc), .pointer (some ⟨fb, 0, none⟩)] w fun e w' => e = .returned (.bool (decide (o.at_.t > ct))) ∧ Up w w' := by
  go_enter Tryz.func129, Tryz.ntmps129
  refine wp_seq (rg_lit ?_)
  refine wl (sn rfl (cs := (opC o (.slice oA on oc)).toArray) (T := 49) (V := fun b => .pointer (some ⟨b, 0, none⟩)) (r_box (v := opV o (.slice oA on oc)) (by kernel_rfl) rfl) ?_)
  intro pb w1 e2 h3 u4
  have l5 : fb < pb := by rw [e2]; exact lt_ob hfb
  have g6 : w.heap.size ≤ pb := by rw [e2]; exact (Mod.refl [] w).size
  have M7 := Mod.trans (Mod.refl [] w) (Mod.of_up u4)
  refine was (v := .bool false) ?_
  refine wnil (then_n (wp_seq (rg_lit ?_)))
  refine wl (sv rfl (v := .pointer (some ⟨pb, 1, none⟩)) (r_fieldAddr (u := .pointer (some ⟨pb, 0, none⟩)) (by kernel_rfl) (fun _ => (by kernel_rfl))) ?_)
  refine wl (sv rfl (v := .pointer (some ⟨pb, 1, none⟩)) (r_fieldAddr (u := .pointer (some ⟨pb, 1, none⟩)) (by kernel_rfl) (fun _ => (by kernel_rfl))) ?_)
  refine wl (sv rfl (v := .int .i64 o.at_.t) (r_load (k := 1) (by kernel_rfl) Ty.ag2 h3 (by kernel_rfl)) ?_)
  have h8 := md_ob M7 nin0 hfb
  refine wl (sv rfl (v := .int .i64 ct) (r_load (k := 0) (by kernel_rfl) Ty.ag2 h8 (by kernel_rfl)) ?_)
  refine wl (sb rfl (r_gt (k := .i64) (m := o.at_.t) (n := ct) (by kernel_rfl) (by kernel_rfl)) ?_)
  intro b9 k10
  refine was (v := .bool b9) ?_
  refine wnil (then_n (wp_ret ?_))
  refine bodyPost_ret (v := .bool b9) (res1 rfl (rv_t (by kernel_rfl))) (by kernel_rfl) ?_
  exact ⟨by rw [← k10], (Mod.up M7)⟩
set_option maxHeartbeats 2000000 in
theorem index1_at {B base : Nat} {w : World} {g nn c fb : Nat} {ct : Int} {f : Nat → OpD} {I : List Nat} (h : ORow 49 B base w (.slice (some ⟨g, 0, none⟩) nn c) (I.map f)) (hBb : B ≤ base) (hn : nn ≤ 1000000) (hfb : w.heap[fb]? = some (.cells #[.int .i64 ct] 2 (0, 0))) (hne : fb ≠ g) (hall : ∀ (i x : Nat), I[i]? = some x → decide ((f x).at_.t > ct) = decide (i + 1 = nn)) (hn0 : 0 < nn) :
    Calls Tryz.prog 166 #[.slice (some ⟨g, 0, none⟩) nn c, .func (.func 129) #[] #[.pointer (some ⟨fb, 0, none⟩)]] w fun e w' => e = .returned (.int .i64 ((nn - 1 : Nat) : Int)) ∧ Up w w' := by
  obtain ⟨hnL, hnc, hcm, cu0, hg, hcs0⟩ := ORow.blk h
  have hBg := ORow.ge h hBb
  have hnI : nn = I.length := by simpa using hnL
  go_enter Tryz.func166, Tryz.ntmps166
  refine wp_seq (rg_lit ?_)
  refine was (v := .int .i64 0) ?_
  refine wnil (then_n (wp_seq (wp_seq (rg_lit ?_))))
  refine wmv (v := .slice (some ⟨g, 0, none⟩) nn c) ?_
  refine wl (sv rfl (v := .int .i64 (nn : Int)) (r_len Ty.un22 (ad := (some ⟨g, 0, none⟩)) (n := nn) (c := c) (by kernel_rfl)) ?_)
  refine wmv (v := .int .i64 0) ?_
  refine wnil (then_n (wp_block ?_))
  refine lp (fun n a r1 => ∃ (kk : Nat) (z4 z5 z9 z10 z11 z12 z13 z14 z15 z16 z17 z18 : Value), (n = nn - kk) ∧ (a = ⟨#[.slice (some ⟨g, 0, none⟩) nn c, .func (.func 129) #[] #[.pointer (some ⟨fb, 0, none⟩)], undef, undef, z4, z5, .slice (some ⟨g, 0, none⟩) nn c, .int .i64 (nn : Int), .int .i64 (kk : Int), z9, z10, z11, z12, z13, z14, z15, z16, z17, z18], []⟩) ∧ (Mod [] w r1) ∧ (kk + 1 ≤ nn)) ⟨_, 0, .int .i64 0, undef, undef, undef, undef, undef, undef, undef, undef, undef, undef, undef, rfl, (by kernel_rfl), Mod.refl _ _, (by omega)⟩ ?_
  rintro _ _ r1 ⟨kk, z4, z5, z9, z10, z11, z12, z13, z14, z15, z16, z17, z18, rfl, rfl, hM1, hF1_0⟩
  have M1 := Mod.thin (Mod.refl [] w) hM1 (by simp)
  refine wp_seq (rg_lit ?_)
  refine wl (sb rfl (r_lt (k := .i64) (m := (kk : Int)) (n := (nn : Int)) (by kernel_rfl) (by kernel_rfl)) ?_)
  intro b2 k3
  refine wnil (then_n (wp_seq ?_))
  refine bcase b2 (fun v4 => ?_) (fun v4 => ?_)
  ·
   have p5 := of_decide_eq_false (k3.trans v4)
   exact absurd (show kk < nn by omega) (by omega)
  have p5 := of_decide_eq_true (k3.trans v4)
  have q6 : kk < nn := by omega
  have q7 : kk < nn := by omega
  refine wp_cond_true (ebool (b := b2) (by kernel_rfl) v4) ?_
  refine wp_skip (then_n (wp_seq (wp_block (wp_seq (rg_lit ?_)))))
  refine wmv (v := .int .i64 (kk : Int)) ?_
  refine was (v := .int .i64 (kk : Int)) ?_
  refine wnil (then_n (wp_seq (rg_lit ?_)))
  refine wmv (v := .func (.func 129) #[] #[.pointer (some ⟨fb, 0, none⟩)]) ?_
  refine wmv (v := .slice (some ⟨g, 0, none⟩) nn c) ?_
  refine wmv (v := .int .i64 (kk : Int)) ?_
  refine wl (sv rfl (v := .pointer (some ⟨g, kk * 10, none⟩)) (r_ixaddr' (A := some ⟨g, 0, none⟩) (b := g) (o := 0) (n := nn) (c := c) (sz := 10) (j := (kk : Int)) (m := kk * 10) (by kernel_rfl) rfl (by kernel_rfl) Ty.un22 Ty.sz49 (by omega) (by omega) (by omega)) ?_)
  have h8 := (ORow.up h (Mod.up hM1))
  obtain ⟨x9, hx9⟩ : ∃ x, I[kk]? = some x := ⟨_, List.getElem?_eq_getElem (by omega)⟩
  obtain ⟨cu10, dA10, dn10, dc10, hb10, he10, hD10⟩ := ORow.elem h8 (map_get' hx9)
  refine wl (sv rfl (v := opV (f x9) (.slice dA10 dn10 dc10)) (r_loads (k := kk * 10) (vs := (opC (f x9) (.slice dA10 dn10 dc10))) (by kernel_rfl) Ty.ag49 Ty.sz49 hb10 (el_sub0 he10 rfl)) ?_)
  have h11 := md_ob M1 nin0 hfb
  refine wl (sc rfl (r_callv (caps := [.pointer (some ⟨fb, 0, none⟩)]) (all := [opV (f x9) (.slice dA10 dn10 dc10), .pointer (some ⟨fb, 0, none⟩)]) En.f129 (by kernel_rfl) (by kernel_rfl)) (asOf1_at (f x9) dA10 dn10 dc10 h11) ?_)
  rintro e w12 ⟨rfl, u13⟩
  refine ⟨.bool (decide ((f x9).at_.t > ct)), rfl, ?_⟩
  have M14 := Mod.trans M1 (Mod.of_up u13)
  have M15 := Mod.trans hM1 (Mod.of_up u13)
  refine wnil (then_n ?_)
  refine bcase (decide ((f x9).at_.t > ct)) (fun v16 => ?_) (fun v16 => ?_)
  ·
   refine wp_cond_false (ebool (b := (decide ((f x9).at_.t > ct))) (by kernel_rfl) v16) ?_
   refine wp_skip (inb_n (then_n (rg_lit ?_)))
   refine wl (sv rfl (v := .int .i64 ((kk + 1 : Nat) : Int)) (r_add (k := .i64) (m := (kk : Int)) (n := 1) (c := ((kk + 1 : Nat) : Int)) (by kernel_rfl) (by kernel_rfl) ((IntWalk.i64_in _ (by omega)).trans (by omega))) ?_)
   refine wmv (v := .int .i64 ((kk + 1 : Nat) : Int)) ?_
   refine wnil (then_n ?_)
   refine ⟨nn - (kk + 1), ?_, (kk + 1), z4, .int .i64 (kk : Int), .bool b2, .int .i64 (kk : Int), .func (.func 129) #[] #[.pointer (some ⟨fb, 0, none⟩)], .slice (some ⟨g, 0, none⟩) nn c, .int .i64 (kk : Int), .pointer (some ⟨g, kk * 10, none⟩), opV (f x9) (.slice dA10 dn10 dc10), .bool (decide ((f x9).at_.t > ct)), z17, .int .i64 ((kk + 1 : Nat) : Int), rfl, (by kernel_rfl), M15, (by have h1 := (hall _ _ hx9).symm.trans v16; have h2 := of_decide_eq_false h1; omega)⟩
   · omega
  refine wp_cond_true (ebool (b := (decide ((f x9).at_.t > ct))) (by kernel_rfl) v16) ?_
  refine wp_seq (rg_lit ?_)
  refine wmv (v := .int .i64 (kk : Int)) ?_
  refine was (v := .int .i64 (kk : Int)) ?_
  refine wnil (then_n (wp_ret (inb_r (then_x (by nofun) (then_x (by nofun) (inb_r (then_x (by nofun) ?_)))))))
  refine bodyPost_ret (v := .int .i64 (kk : Int)) (res1 rfl (rv_t (by kernel_rfl))) (by kernel_rfl) ?_
  have h1 := (hall _ _ hx9).symm.trans v16
  have h2 := of_decide_eq_true h1
  obtain rfl : kk = nn - 1 := by omega
  exact ⟨rfl, (Mod.up M14)⟩
set_option maxHeartbeats 2000000 in
theorem delete1_at {B base : Nat} {w : World} {g nn c fb : Nat} {ct : Int} {f : Nat → OpD} {I : List Nat} (h : ORow 49 B base w (.slice (some ⟨g, 0, none⟩) nn c) (I.map f)) (hBb : B ≤ base) (hn : nn ≤ 1000000) (hfb : w.heap[fb]? = some (.cells #[.int .i64 ct] 2 (0, 0))) (hne : fb ≠ g) (hall : ∀ (i x : Nat), I[i]? = some x → decide ((f x).at_.t > ct) = decide (i + 1 = nn)) (hn0 : 0 < nn) :
    Calls Tryz.prog 130 #[.slice (some ⟨g, 0, none⟩) nn c, .func (.func 129) #[] #[.pointer (some ⟨fb, 0, none⟩)]] w fun e w' => e = .returned (.slice (some ⟨g, 0, none⟩) (nn - 1) c) ∧ ORow 49 B base w' (.slice (some ⟨g, 0, none⟩) (nn - 1) c) ((I.map f).take (nn - 1)) ∧ Chg w w' g := by
  obtain ⟨hnL, hnc, hcm, cu0, hg, hcs0⟩ := ORow.blk h
  have hBg := ORow.ge h hBb
  have hnI : nn = I.length := by simpa using hnL
  obtain ⟨zO, hzO, hzO1, hzO2⟩ := zero_op
  go_enter Tryz.func130, Tryz.ntmps130
  refine wp_seq (rg_lit ?_)
  refine was (v := .slice none 0 0) ?_
  refine wnil (then_n (wp_seq (rg_lit ?_)))
  refine wmv (v := .slice (some ⟨g, 0, none⟩) nn c) ?_
  refine wmv (v := .func (.func 129) #[] #[.pointer (some ⟨fb, 0, none⟩)]) ?_
  refine wl (sc rfl (r_callv (caps := []) (all := [.slice (some ⟨g, 0, none⟩) nn c, .func (.func 129) #[] #[.pointer (some ⟨fb, 0, none⟩)]]) En.f166 (by kernel_rfl) (by kernel_rfl)) (index1_at h hBb hn hfb hne hall hn0) ?_)
  rintro e w1 ⟨rfl, u2⟩
  refine ⟨.int .i64 ((nn - 1 : Nat) : Int), rfl, ?_⟩
  have M3 := Mod.trans (Mod.refl [] w) (Mod.of_up u2)
  refine was (v := .int .i64 ((nn - 1 : Nat) : Int)) ?_
  refine wnil (then_n (wp_seq (wp_seq (rg_lit ?_))))
  refine wmv (v := .int .i64 ((nn - 1 : Nat) : Int)) ?_
  refine wl (sb rfl (r_eq (k := .i64) (m := ((nn - 1 : Nat) : Int)) (n := (-1)) (by kernel_rfl) (by kernel_rfl)) ?_)
  intro b4 k5
  refine wnil (then_n ?_)
  refine bcase b4 (fun v6 => ?_) (fun v6 => ?_)
  ·
   have p7 := of_decide_eq_false (k5.trans v6)
   refine wp_cond_false (ebool (b := b4) (by kernel_rfl) v6) ?_
   refine wp_skip (then_n (wp_seq (wp_seq (rg_lit ?_))))
   refine wmv (v := .int .i64 ((nn - 1 : Nat) : Int)) ?_
   refine wl (sv rfl (v := .int .i64 ((nn - 1 + 1 : Nat) : Int)) (r_add (k := .i64) (m := ((nn - 1 : Nat) : Int)) (n := 1) (c := ((nn - 1 + 1 : Nat) : Int)) (by kernel_rfl) (by kernel_rfl) ((IntWalk.i64_in _ (by omega)).trans (by omega))) ?_)
   refine was (v := .int .i64 ((nn - 1 + 1 : Nat) : Int)) ?_
   refine wnil (then_n (wp_block ?_))
   have h8 := md_ob M3 nin0 hg
   have h9 := md_ob M3 nin0 hfb
   have h10 := (ORow.up h u2)
   refine lp (fun n a r1 => ∃ (kk : Nat) (Zkk : Nat → Value), (n = nn - kk) ∧ (a = ⟨#[.slice (some ⟨g, 0, none⟩) nn c, .func (.func 129) #[] #[.pointer (some ⟨fb, 0, none⟩)], undef, undef, .slice none 0 0, .int .i64 ((nn - 1 : Nat) : Int), .int .i64 (kk : Int), (Zkk 7), .slice (some ⟨g, 0, none⟩) nn c, .func (.func 129) #[] #[.pointer (some ⟨fb, 0, none⟩)], .int .i64 ((nn - 1 : Nat) : Int), .int .i64 ((nn - 1 : Nat) : Int), .bool b4, undef, .int .i64 ((nn - 1 : Nat) : Int), .int .i64 ((nn - 1 + 1 : Nat) : Int), (Zkk 16), (Zkk 17), (Zkk 18), (Zkk 19), (Zkk 20), (Zkk 21), (Zkk 22), (Zkk 23), (Zkk 24), (Zkk 25), (Zkk 26), (Zkk 27), (Zkk 28), (Zkk 29), (Zkk 30), (Zkk 31), (Zkk 32), (Zkk 33), (Zkk 34), (Zkk 35), undef, undef, undef, undef, undef, undef], []⟩) ∧ (Mod [] w1 r1) ∧ (kk = nn)) ⟨_, (nn - 1 + 1), tget [undef, undef, undef, undef, undef, undef, undef, undef, undef, undef, undef, undef, undef, undef, undef, undef, undef, undef, undef, undef, undef, undef, undef, undef, undef, undef, undef, undef, undef, undef, undef, undef, undef, undef, undef, undef], rfl, (by kernel_rfl), Mod.refl _ _, (by omega)⟩ ?_
   rintro _ _ r1 ⟨kk, Zkk, rfl, rfl, hM1, hF1_0⟩
   have M11 := Mod.thin M3 hM1 (by simp)
   refine wp_seq (wp_seq (rg_lit ?_))
   refine wmv (v := .int .i64 (kk : Int)) ?_
   refine wmv (v := .slice (some ⟨g, 0, none⟩) nn c) ?_
   refine wl (sv rfl (v := .int .i64 (nn : Int)) (r_len Ty.un22 (ad := (some ⟨g, 0, none⟩)) (n := nn) (c := c) (by kernel_rfl)) ?_)
   refine wl (sb rfl (r_lt (k := .i64) (m := (kk : Int)) (n := (nn : Int)) (by kernel_rfl) (by kernel_rfl)) ?_)
   intro b12 k13
   refine wnil (then_n ?_)
   refine bcase b12 (fun v14 => ?_) (fun v14 => ?_)
   ·
    have p15 := of_decide_eq_false (k13.trans v14)
    refine wp_cond_false (ebool (b := b12) (by kernel_rfl) v14) ?_
    refine wp_exit (then_x (by nofun) (then_x (by nofun) (inb_hit (then_n (wp_seq (rg_lit ?_))))))
    refine wmv (v := .slice (some ⟨g, 0, none⟩) nn c) ?_
    refine wmv (v := .int .i64 ((nn - 1 : Nat) : Int)) ?_
    refine wl (sv rfl (v := .slice (some ⟨g, 0 + (nn - 1) * 10, none⟩) (nn - (nn - 1) : Nat) (c - (nn - 1) : Nat)) (r_sliceLo (b := g) (o := 0) (n := nn) (c := c) (k := (nn - 1)) (by kernel_rfl) (by kernel_rfl) Ty.un22 Ty.sz49 (by omega) (by omega)) ?_)
    have h16 := (ORow.up h10 (Mod.up hM1))
    refine wl (clrO rfl (n := nn) (k := (nn - 1)) (m := 0 + (nn - 1) * 10) (q := (nn - (nn - 1) : Nat)) (cc := (c - (nn - 1) : Nat)) (z := zO) (by kernel_rfl) (by omega) (by omega) (by omega) h16 Ty.un22 hzO hzO1 hzO2 (by decide) hBb ?_)
    intro w17 h18 c19
    have M20 := md_old M11 c19
    have M21 := md_old hM1 c19
    refine wnil (then_n (wp_seq (rg_lit ?_)))
    refine wmv (v := .slice (some ⟨g, 0, none⟩) nn c) ?_
    refine wmv (v := .int .i64 ((nn - 1 : Nat) : Int)) ?_
    refine wl (sv rfl (v := .slice (some ⟨g, 0, none⟩) (nn - 1) c) (r_sliceHi (b := g) (o := 0) (n := nn) (c := c) (k := (nn - 1)) (by kernel_rfl) (by kernel_rfl) Ty.un22 Ty.sz49 (by omega)) ?_)
    refine was (v := .slice (some ⟨g, 0, none⟩) (nn - 1) c) ?_
    refine wnil (then_n (wp_ret ?_))
    refine bodyPost_ret (v := .slice (some ⟨g, 0, none⟩) (nn - 1) c) (res1 rfl (rv_t (by kernel_rfl))) (by kernel_rfl) ?_
    exact ⟨rfl, h18, (Mod.chg M20)⟩
   have p15 := of_decide_eq_true (k13.trans v14)
   exact absurd p15 (by omega)
  have p7 := of_decide_eq_true (k5.trans v6)
  exact absurd p7 (by omega)
set_option maxHeartbeats 2000000 in
theorem asOf_at {B : Nat} {w : World} {lA : Option Addr} {lc : Nat} (h : OpRow B w lA vos) (hB : B ≤ w.heap.size) :
    Calls Tryz.prog 72 #[.slice lA 3 lc, .int .i64 2] w fun e w' => ∃ tb r, e = .returned (trP tb) ∧ TreeIs B w' tb r (buildI [vo1, vo2]) ∧ Up w w' := by
  go_enter Tryz.func72, Tryz.ntmps72
  refine wp_seq (rg_lit ?_)
  refine wl (sn rfl (cs := #[.int .i64 2]) (T := 2) (V := fun b => .pointer (some ⟨b, 0, none⟩)) (r_box (v := .int .i64 2) (by kernel_rfl) rfl) ?_)
  intro pb w1 e2 h3 u4
  have g5 : w.heap.size ≤ pb := by rw [e2]; exact (Mod.refl [] w).size
  have M6 := Mod.trans (Mod.refl [] w) (Mod.of_up u4)
  refine was (v := .pointer none) ?_
  refine wnil (then_n (wp_seq (rg_lit ?_)))
  refine wl (sv rfl (v := .func (.func 129) #[] #[.pointer (some ⟨pb, 0, none⟩)]) (r_makeFunc (us := []) (vs := [.pointer (some ⟨pb, 0, none⟩)]) rfl (by kernel_rfl)) ?_)
  refine was (v := .func (.func 129) #[] #[.pointer (some ⟨pb, 0, none⟩)]) ?_
  refine wnil (then_n (wp_seq (rg_lit ?_)))
  refine wmv (v := .slice lA 3 lc) ?_
  have h11 := (OpRow.up h (Mod.up M6))
  refine wl (sc rfl (r_callv (caps := []) (all := [.slice lA 3 lc]) En.f131 (by kernel_rfl) (by kernel_rfl)) (opsClone_at (os := vos) h11 (by decide) (by decide) (Nat.le_trans hB M6.size)) ?_)
  rintro e w7 ⟨g, c8, rfl, h9, u10⟩
  refine ⟨.slice (some ⟨g, 0, none⟩) 3 c8, rfl, ?_⟩
  obtain ⟨_, _, hcg, cug, hgg, _⟩ := ORow.blk h9
  have hge := (ORow.own h9 g rfl).1
  have hpg : pb ≠ g := Nat.ne_of_lt (Nat.lt_of_lt_of_le (lt_ob h3) hge)
  have g12 : w.heap.size ≤ g := Nat.le_trans M6.size hge
  have M13 := Mod.trans M6 (Mod.of_up u10)
  refine wmv (v := .func (.func 129) #[] #[.pointer (some ⟨pb, 0, none⟩)]) ?_
  have h18 := (up_ob u10 h3)
  refine wl (sc rfl (r_callv (caps := []) (all := [.slice (some ⟨g, 0, none⟩) 3 c8, .func (.func 129) #[] #[.pointer (some ⟨pb, 0, none⟩)]]) En.f130 (by kernel_rfl) (by kernel_rfl)) (delete1_at (nn := 3) (f := atO vos) (I := List.range 3) h9 (Nat.le_trans hB M6.size) (by decide) h18 hpg (fun i x hi => vos_cut hi) (by decide)) ?_)
  rintro e w15 ⟨rfl, h16, c17⟩
  refine ⟨.slice (some ⟨g, 0, none⟩) 2 c8, rfl, ?_⟩
  have M19 := Mod.trans' M13 c17 (fun i hi => by injection hi with hi; rw [← hi]; exact g12)
  refine wl (sc rfl (r_callv (caps := []) (all := [.slice (some ⟨g, 0, none⟩) 2 c8]) En.f15 (by kernel_rfl) (by kernel_rfl)) (build_at (os := [vo1, vo2]) (ORow.ops h16 (fun o ho => vos_names o (List.mem_of_mem_take (i := 2) ho))) (Nat.le_trans hB M19.size) (by decide)) ?_)
  rintro e w20 ⟨tb, r, rfl, h21, u22, z23, z24⟩
  refine ⟨.pointer (some ⟨tb, 0, none⟩), rfl, ?_⟩
  have M25 := Mod.trans M19 (Mod.of_up u22)
  refine was (v := .pointer (some ⟨tb, 0, none⟩)) ?_
  refine wnil (then_n (wp_ret ?_))
  refine bodyPost_ret (v := .pointer (some ⟨tb, 0, none⟩)) (res1 rfl (rv_t (by kernel_rfl))) (by kernel_rfl) ?_
  exact ⟨_, _, rfl, h21, (Mod.up M25)⟩
end Go.Proofs.YtefhfoioeoijlaaGreatDoor

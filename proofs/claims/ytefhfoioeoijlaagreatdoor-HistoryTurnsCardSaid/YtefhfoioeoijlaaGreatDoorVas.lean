/- EntQ, EqC, HI, Ver, HM, Vst -/
import Derived.Test.YtefhfoioeoijlaaGreatDoorVah
import Derived.Test.YtefhfoioeoijlaaGreatDoorVam
import Derived.Test.YtefhfoioeoijlaaGreatDoorVar
set_option linter.unusedVariables false
set_option linter.unusedSimpArgs false
namespace Go.Proofs.YtefhfoioeoijlaaGreatDoor
open Go Go.RowKit Go.Sort
theorem stamp_eqIn (d : Nat) (s : Stamp) (w : World) : (Op.equalIn (d + 2) 24 (stV s) (stV s)).run Tryz.prog w = .ok true w := by
  unfold stV
  rw [show d + 2 = (d + 1) + 1 from rfl]
  unfold Op.equalIn
  simp only [run_underlying Tryz.underlying24, Sem.run_bind, program, Sem.run, Result.andThen_ok]
  have e1 := int64_equal d s.t s.t w
  have e2 := int_equal d s.w s.w w
  simp [part_t, part_w, e1, e2]
theorem string_eqIn (d : Nat) (s : ByteArray) (w : World) : (Op.equalIn (d + 1) 9 (.string s) (.string s)).run Tryz.prog w = .ok true w := by
  have e : (s == s) = true := by rw [beq_ba]; exact decide_eq_true rfl
  simp [Op.equalIn, run_underlying Tryz.underlying9, e]
end Go.Proofs.YtefhfoioeoijlaaGreatDoor
set_option linter.unusedVariables false
set_option linter.unusedSimpArgs false
namespace Go.Proofs.YtefhfoioeoijlaaGreatDoor
open Go Go.RowKit Go.Sort
theorem ch_equal (x : ChgD) (w : World) : (Op.equal 117 (chV x) (chV x)).run Tryz.prog w = .ok true w := by
  unfold Op.equal Op.maxDepth chV
  rw [show (10000 : Nat) = 9999 + 1 from rfl]
  unfold Op.equalIn
  simp only [run_underlying Tryz.underlying117, Sem.run_bind, program, Sem.run, Result.andThen_ok]
  have p1 : (part 3 #[.int .i64 x.kind, .int .i64 x.node.t, .int .i64 x.node.w, .string x.fr, .string x.tt] 0).run Tryz.prog w = .ok (.int .i64 x.kind) w := by kernel_rfl
  have p2 : (part 24 #[.int .i64 x.kind, .int .i64 x.node.t, .int .i64 x.node.w, .string x.fr, .string x.tt] 1).run Tryz.prog w = .ok (.agg #[.int .i64 x.node.t, .int .i64 x.node.w]) w := by kernel_rfl
  have p3 : (part 9 #[.int .i64 x.kind, .int .i64 x.node.t, .int .i64 x.node.w, .string x.fr, .string x.tt] 3).run Tryz.prog w = .ok (.string x.fr) w := by kernel_rfl
  have p4 : (part 9 #[.int .i64 x.kind, .int .i64 x.node.t, .int .i64 x.node.w, .string x.fr, .string x.tt] 4).run Tryz.prog w = .ok (.string x.tt) w := by kernel_rfl
  have e1 := int_equal 9998 x.kind x.kind w
  have e2 := stamp_eqIn 9997 x.node w
  have e3 := string_eqIn 9998 x.fr w
  have e4 := string_eqIn 9998 x.tt w
  unfold stV at e2
  simp [p1, p2, p3, p4, e1, e2, e3, e4]
section
variable {ρ : Operand → Value} {w : World} {d : Option Tmp} {ty : TypeId} {pos : String} {af : Array Edge} {g : Option (Nat × Bool)}
theorem ch_noguard {T : TypeId} (hT : T = 117) : Tryz.prog.eqGuardType Tryz.prog.depth T = false := by subst hT; kernel_rfl
theorem r_neC {T T' : TypeId} (hT : T = 117) {x z : Operand} {y : ChgD} (hx : ρ x = chV y) (hz : ρ z = chV y) : (execOp ρ ⟨d, .binOp .neq T x z T', ty, pos, af, g⟩).run Tryz.prog w = .ok (.value (.bool false)) w := by
  have hg := ch_noguard hT
  have e : (Op.equal T (chV y) (chV y)).run Tryz.prog w = .ok true w := by rw [hT]; exact ch_equal y w
  unfold chV at hx hz e
  simp [execOp, hx, hz, eqGuard, hg, binOp, e]
end
def blkL (v : Value) : List Nat := v.ownBlock.toList
theorem Mod.of_own {w w' : World} {v : Value} (h : w.grownBy w' v.ownBlock) : Mod (blkL v) w w' := ⟨h.os, h.tape, h.output, h.size, fun k hk hn => h.block k hk (fun e => hn (by unfold blkL; rw [← e]; simp))⟩
theorem blkL_ne {v : Value} {b : Nat} (h : v.ownBlock ≠ some b) : b ∉ blkL v := by
  unfold blkL; intro hm; exact h (by simpa using hm)
theorem ctake_next {X : List ChgD} {k : Nat} {y : ChgD} (h : X[k]? = some y) : X.take k ++ [⟨y.kind, y.node, y.fr, y.tt⟩] = X.take (k + 1) := by rw [List.take_add_one, h]; rfl
def bytesI (L M : List Item) : Nat := (M.map fun x => if hangsI L 301 x.node = true then x.data.length else 0).sum
theorem bytes_yes {L M : List Item} {k : Nat} {x : Item} (hx : M[k]? = some x) (h : hangsI L 301 x.node = true) : bytesI L (M.take k) + x.data.length = bytesI L (M.take (k + 1)) := by
  unfold bytesI; rw [List.take_add_one, hx]; simp [h]
theorem bytes_no {L M : List Item} {k : Nat} {x : Item} (hx : M[k]? = some x) (h : hangsI L 301 x.node = false) : bytesI L (M.take k) = bytesI L (M.take (k + 1)) := by
  unfold bytesI; rw [List.take_add_one, hx]; simp [h]
end Go.Proofs.YtefhfoioeoijlaaGreatDoor
set_option linter.unusedVariables false
set_option linter.unusedSimpArgs false
namespace Go.Proofs.YtefhfoioeoijlaaGreatDoor
open Go Go.RowKit Go.Sort
set_option maxHeartbeats 2000000 in
theorem back_at {base : Nat} {w : World} {rA : Option Addr} {rc : Nat} {X : List ChgD} (h : CRow 61 base w (.slice rA X.length rc) X) (hX : X.length ≤ 600) :
    Calls Tryz.prog 25 #[.slice rA X.length rc] w fun e w' => ∃ A c, e = .returned (.slice A X.length c) ∧ CRow 117 w.heap.size w' (.slice A X.length c) X ∧ Up w w' := by
  go_enter Tryz.func25, Tryz.ntmps25
  refine wp_seq (rg_lit (was (v := .slice none 0 0) (wnil (then_n (wp_seq (rg_lit (was (v := .slice none 0 0) (wnil (then_n (wp_seq (wp_seq (rg_lit (was (v := I_ 0) (wnil (then_n (wp_block ?_))))))))))))))))
  refine lp (fun n a r1 => ∃ (k : Nat) (out : List ChgD) (oA : Option Addr) (oc : Nat), (n = X.length - k) ∧ (HasFr a 36 [(0, .slice rA X.length rc), (2, .slice none 0 0), (3, .slice oA out.length oc), (4, I_ k)] []) ∧ (Mod [] w r1) ∧ (k ≤ X.length) ∧ (out = X.take k) ∧ (CRow 117 w.heap.size r1 (.slice oA out.length oc) out)) ⟨_, 0, [], none, 0, rfl, hmk, Mod.refl _ _, (Nat.zero_le _), rfl, (CRow.nil _ _ _)⟩ ?_
  rintro _ _ r1 ⟨k, out, oA, oc, rfl, h1, hM1, hF1_0, hF1_1, hF1_2⟩
  obtain ⟨Y46, rfl⟩ := h1
  have M2 := Mod.thin (Mod.refl [] w) hM1 (by simp)
  have ho1 := hF1_1
  have ho2 : out.length ≤ 600 := by rw [ho1, List.length_take]; omega
  refine wp_seq (wp_seq (rg_lit (wmv (v := I_ k) (wmv (v := .slice rA X.length rc) (wlv (v := I_ X.length) (ln rA X.length rc Ty.un54) (wl (sb rfl (ltI k X.length) fun b3 k4 => wnil (then_n ?_))))))))
  refine bcd k4 (fun v5 p6 => ?_) (fun v5 p6 => ?_)
  ·
   refine wp_cond_false (eb v5) (wp_exit (then_x (by nofun) (then_x (by nofun) (inb_hit (then_n (wp_seq (rg_lit (wmv (v := .slice oA out.length oc) (was (v := .slice oA out.length oc) (wnil (then_n (wp_ret ?_))))))))))))
   refine br1 (v := .slice oA out.length oc) rfl ?_
   have hoe : out = X := by rw [ho1, List.take_of_length_le (by omega)]
   exact ⟨oA, oc, by rw [← hoe], (by rw [← hoe]; exact CRow.base hF1_2 (Mod.refl [] w).size), (Mod.up M2)⟩
  refine wp_cond_true (eb v5) (wp_skip (then_n (wp_seq (wp_block ?_))))
  refine rg_held (blkL (.slice oA out.length oc)) (n := 25) (by kernel_rfl) rfl ?_
  intro w9 u10
  have M11 := mtu M2 u10
  have M12 := mtu hM1 u10
  refine hqk 0 24 rfl rfl (v := .slice oA out.length oc) (fun _ _ => mv) (hqk 1 23 rfl rfl (v := .slice rA X.length rc) (fun _ _ => mv) (hqk 2 22 rfl rfl (v := I_ k) (fun _ _ => mv) ?_))
  obtain ⟨y14, hy14⟩ : ∃ x, X[k]? = some x := ⟨_, List.getElem?_eq_getElem (by omega)⟩
  obtain ⟨g14, hA14, hl14, _, cu14, hb14, he14⟩ := CRow.get h hy14
  replace hb14 := up_ob (Mod.up M11) hb14
  replace he14 : (cu14.toList.drop (0 + k * 5)).take 5 = chC y14 := by rw [Nat.zero_add]; exact he14
  refine hqk 3 21 rfl rfl (v := pt g14 (0 + k * 5)) (fun _ _ => ixa X.length rc 5 k hA14 Ty.un54 Ty.sz61) (hqk 4 20 rfl rfl (v := pt g14 (0 + k * 5)) (fun _ _ => fa (pt g14 (0 + k * 5))) ?_)
  have h15 := (CRow.up hF1_2 u10)
  refine hqk 5 19 rfl rfl (v := I_ y14.kind) (fun _ uz => r_load (k := 0 + k * 5) (v := I_ y14.kind) (by kernel_rfl) Ty.ag3 (md_ob uz (blkL_ne (CRow.ne_old h15 (Nat.lt_of_lt_of_le hl14 (Mod.refl [] w).size))) hb14) (el_get he14 0 rfl)) (hqk 6 18 rfl rfl (v := .slice rA X.length rc) (fun _ _ => mv) (hqk 7 17 rfl rfl (v := I_ k) (fun _ _ => mv) ?_))
  obtain ⟨g16, hA16, hl16, _, cu16, hb16, he16⟩ := CRow.get h hy14
  replace hb16 := up_ob (Mod.up M11) hb16
  replace he16 : (cu16.toList.drop (0 + k * 5)).take 5 = chC y14 := by rw [Nat.zero_add]; exact he16
  refine hqk 8 16 rfl rfl (v := pt g16 (0 + k * 5)) (fun _ _ => ixa X.length rc 5 k hA16 Ty.un54 Ty.sz61) (hqk 9 15 rfl rfl (v := pt g16 (0 + k * 5 + 1)) (fun _ _ => fa (pt g16 (0 + k * 5))) (hqk 10 14 rfl rfl (v := .agg #[I_ y14.node.t, I_ y14.node.w]) (fun _ uz => r_loads (k := 0 + k * 5 + 1) (by kernel_rfl) Ty.ag24 Ty.sz24 (md_ob uz (blkL_ne (CRow.ne_old h15 (Nat.lt_of_lt_of_le hl16 (Mod.refl [] w).size))) hb16) (el_sub he16 1 rfl)) (hqk 11 13 rfl rfl (v := .slice rA X.length rc) (fun _ _ => mv) (hqk 12 12 rfl rfl (v := I_ k) (fun _ _ => mv) ?_))))
  obtain ⟨g17, hA17, hl17, _, cu17, hb17, he17⟩ := CRow.get h hy14
  replace hb17 := up_ob (Mod.up M11) hb17
  replace he17 : (cu17.toList.drop (0 + k * 5)).take 5 = chC y14 := by rw [Nat.zero_add]; exact he17
  refine hqk 13 11 rfl rfl (v := pt g17 (0 + k * 5)) (fun _ _ => ixa X.length rc 5 k hA17 Ty.un54 Ty.sz61) (hqk 14 10 rfl rfl (v := pt g17 (0 + k * 5 + 3)) (fun _ _ => fa (pt g17 (0 + k * 5))) (hqk 15 9 rfl rfl (v := S_ y14.fr) (fun _ uz => r_load (k := 0 + k * 5 + 3) (v := S_ y14.fr) (by kernel_rfl) Ty.ag9 (md_ob uz (blkL_ne (CRow.ne_old h15 (Nat.lt_of_lt_of_le hl17 (Mod.refl [] w).size))) hb17) (el_get he17 3 rfl)) (hqk 16 8 rfl rfl (v := .slice rA X.length rc) (fun _ _ => mv) (hqk 17 7 rfl rfl (v := I_ k) (fun _ _ => mv) ?_))))
  obtain ⟨g18, hA18, hl18, _, cu18, hb18, he18⟩ := CRow.get h hy14
  replace hb18 := up_ob (Mod.up M11) hb18
  replace he18 : (cu18.toList.drop (0 + k * 5)).take 5 = chC y14 := by rw [Nat.zero_add]; exact he18
  refine hqk 18 6 rfl rfl (v := pt g18 (0 + k * 5)) (fun _ _ => ixa X.length rc 5 k hA18 Ty.un54 Ty.sz61) (hqk 19 5 rfl rfl (v := pt g18 (0 + k * 5 + 4)) (fun _ _ => fa (pt g18 (0 + k * 5))) (hqk 20 4 rfl rfl (v := S_ y14.tt) (fun _ uz => r_load (k := 0 + k * 5 + 4) (v := S_ y14.tt) (by kernel_rfl) Ty.ag9 (md_ob uz (blkL_ne (CRow.ne_old h15 (Nat.lt_of_lt_of_le hl18 (Mod.refl [] w).size))) hb18) (el_get he18 4 rfl)) (hqk 21 3 rfl rfl (v := .agg #[I_ y14.kind, I_ y14.node.t, I_ y14.node.w, S_ y14.fr, S_ y14.tt]) (fun _ _ => r_build (ps := [(0, I_ y14.kind), (1, .agg #[I_ y14.node.t, I_ y14.node.w]), (2, S_ y14.fr), (3, S_ y14.tt)]) (cs := [I_ y14.kind, I_ y14.node.t, I_ y14.node.w, S_ y14.fr, S_ y14.tt]) Ty.un117 Ty.zv117 Ty.pl117 (by kernel_rfl) (by kernel_rfl)) (h1a 22 2 rfl (sn rfl (cs := #[I_ y14.kind, I_ y14.node.t, I_ y14.node.w, S_ y14.fr, S_ y14.tt]) (T := 117) (V := fun b => sl b 0 1 1) (r_buildSlice (n := 1) (ps := [(0, .agg #[I_ y14.kind, I_ y14.node.t, I_ y14.node.w, S_ y14.fr, S_ y14.tt])]) Ty.un52 Ty.sz117 Ty.zv117 (by decide) (by decide) (by kernel_rfl) (by kernel_rfl)) fun b19 w20 e21 h22 u23 => ?_)))))
  have M31 := mtu M12 u23
  refine hxu u23 ?_
  have h32 := (CRow.up h15 u23)
  refine h1a 23 1 rfl (snC ch5_b rfl (L := out) (x := (⟨y14.kind, y14.node, y14.fr, y14.tt⟩ : ChgD)) (by kernel_rfl) (by kernel_rfl) h32 Ty.un52 h22 M31.size (by omega) fun A33 c34 w35 h36 u37 => ?_)
  have M39 := Mod.trans' M31 u37 (fun k hk => Nat.le_trans (Nat.le_refl _) (h32.own k hk).1)
  refine hx (Y := (blkL (.slice oA out.length oc))) (Mod.of_own u37) (fun y hy => .inl hy) ?_
  refine hqk 24 0 rfl rfl (v := .slice A33 ((out ++ [(⟨y14.kind, y14.node, y14.fr, y14.tt⟩ : ChgD)]).length) c34) (fun _ _ => r_assign (by kernel_rfl)) ?_
  refine hend (by kernel_rfl) ?_
  refine inb_n (then_n (rg_lit (wmv (v := I_ k) (wlv (v := I_ ((k + 1 : Nat) : Int)) (adI (c := ((k + 1 : Nat) : Int)) k 1 ((IntWalk.i64_in _ (by omega)).trans (by omega))) (was (v := I_ ((k + 1 : Nat) : Int)) (wnil (then_n ?_)))))))
  refine ⟨X.length - (k + 1), ?_, (k + 1), (out ++ [(⟨y14.kind, y14.node, y14.fr, y14.tt⟩ : ChgD)]), A33, c34, rfl, hmk, M39, (by omega), (by rw [ho1]; exact ctake_next hy14), h36⟩
  · omega
set_option maxHeartbeats 2000000 in
theorem same20_at {base base' : Nat} {w : World} {rA sA : Option Addr} {rc sc : Nat} {X : List ChgD} (h : CRow 117 base w (.slice rA X.length rc) X) (h' : CRow 117 base' w (.slice sA X.length sc) X) (hX : X.length ≤ 600) :
    Calls Tryz.prog 24 #[.slice rA X.length rc, .slice sA X.length sc] w fun e w' => e = .returned (.bool true) ∧ Up w w' := by
  go_enter Tryz.func24, Tryz.ntmps24
  refine wp_seq (rg_lit (was (v := B_ false) (wnil (then_n (wp_seq (wp_seq (rg_lit (wmv (v := .slice rA X.length rc) (wlv (v := I_ X.length) (ln rA X.length rc Ty.un52) (wmv (v := .slice sA X.length sc) (wlv (v := I_ X.length) (ln sA X.length sc Ty.un52) (wlv (v := B_ false) (ne_same (neI X.length X.length)) (wnil (then_n ?_))))))))))))))
  refine wp_cond_false (by kernel_rfl) (wp_skip (then_n (wp_seq (wp_seq (rg_lit (was (v := I_ 0) (wnil (then_n (wp_block ?_)))))))))
  refine lp (fun n a r1 => ∃ (k : Nat), (n = X.length - k) ∧ (HasFr a 26 [(0, .slice rA X.length rc), (1, .slice sA X.length sc), (5, I_ k), (10, B_ false)] []) ∧ (Mod [] w r1) ∧ (k ≤ X.length)) ⟨_, 0, rfl, hmk, Mod.refl _ _, (Nat.zero_le _)⟩ ?_
  rintro _ _ r1 ⟨k, rfl, h1, hM1, hF1_0⟩
  obtain ⟨Y47, rfl⟩ := h1
  have M2 := Mod.thin (Mod.refl [] w) hM1 (by simp)
  refine wp_seq (wp_seq (rg_lit (wmv (v := I_ k) (wmv (v := .slice rA X.length rc) (wlv (v := I_ X.length) (ln rA X.length rc Ty.un52) (wl (sb rfl (ltI k X.length) fun b3 k4 => wnil (then_n ?_))))))))
  refine bcd k4 (fun v5 p6 => ?_) (fun v5 p6 => ?_)
  ·
   refine wp_cond_false (eb v5) (wp_exit (then_x (by nofun) (then_x (by nofun) (inb_hit (then_n (wp_seq (rg_lit (was (v := B_ true) (wnil (then_n (wp_ret ?_)))))))))))
   refine br1 (v := B_ true) rfl ?_
   exact ⟨rfl, (Mod.up M2)⟩
  refine wp_cond_true (eb v5) (wp_skip (then_n (wp_seq (wp_block (wp_seq ?_)))))
  refine rg_all (by kernel_rfl) (by kernel_rfl) ?_
  refine qmv (v := .slice rA X.length rc) (qmv (v := I_ k) ?_)
  obtain ⟨y10, hy10⟩ : ∃ x, X[k]? = some x := ⟨_, List.getElem?_eq_getElem (by omega)⟩
  obtain ⟨g10, hA10, hl10, _, cu10, hb10, he10⟩ := CRow.get h hy10
  replace hb10 := up_ob (Mod.up M2) hb10
  replace he10 : (cu10.toList.drop (0 + k * 5)).take 5 = chC y10 := by rw [Nat.zero_add]; exact he10
  refine qv rfl (v := pt g10 (0 + k * 5)) (fun _ _ => ixa X.length rc 5 k hA10 Ty.un52 Ty.sz117) (qv rfl (v := .agg #[I_ y10.kind, I_ y10.node.t, I_ y10.node.w, S_ y10.fr, S_ y10.tt]) (fun _ uz => r_loads (k := 0 + k * 5) (by kernel_rfl) Ty.ag117 Ty.sz117 (up_ob uz hb10) (el_sub0 he10 rfl)) (qmv (v := .slice sA X.length sc) (qmv (v := I_ k) ?_)))
  obtain ⟨g12, hA12, hl12, _, cu12, hb12, he12⟩ := CRow.get h' hy10
  replace hb12 := up_ob (Mod.up M2) hb12
  replace he12 : (cu12.toList.drop (0 + k * 5)).take 5 = chC y10 := by rw [Nat.zero_add]; exact he12
  refine qv rfl (v := pt g12 (0 + k * 5)) (fun _ _ => ixa X.length sc 5 k hA12 Ty.un52 Ty.sz117) (qv rfl (v := .agg #[I_ y10.kind, I_ y10.node.t, I_ y10.node.w, S_ y10.fr, S_ y10.tt]) (fun _ uz => r_loads (k := 0 + k * 5) (by kernel_rfl) Ty.ag117 Ty.sz117 (up_ob uz hb12) (el_sub0 he12 rfl)) (qv rfl (v := B_ false) (fun _ _ => r_neC rfl (y := y10) (by kernel_rfl) (by kernel_rfl)) ?_))
  refine qnil fun w13 u14 => ?_
  have M16 := mtu hM1 u14
  refine then_n (wp_cond_false (by kernel_rfl) (wp_skip (inb_n (then_n (rg_lit (wmv (v := I_ k) (wlv (v := I_ ((k + 1 : Nat) : Int)) (adI (c := ((k + 1 : Nat) : Int)) k 1 ((IntWalk.i64_in _ (by omega)).trans (by omega))) (was (v := I_ ((k + 1 : Nat) : Int)) (wnil (then_n ?_))))))))))
  refine ⟨X.length - (k + 1), ?_, (k + 1), rfl, hmk, M16, (by omega)⟩
  · omega
set_option maxHeartbeats 2000000 in
theorem bytes20_at {B : Nat} {w : World} {p : Option Addr} {L : List Item} (h : OT B w p L) (hB : B ≤ w.heap.size) (hF : Fit L) :
    Calls Tryz.prog 29 #[.pointer p] w fun e w' => e = .returned (.int .i64 (bytesI L L : Nat)) ∧ Up w w' := by
  have hl3 := hF.len
  go_enter Tryz.func29, Tryz.ntmps29
  refine wp_seq (rg_lit (was (v := I_ 0) (wnil (then_n (wp_seq (wp_seq (rg_lit (wmv (v := .pointer p) (wl (sca [.pointer p] En.f41 (allO_at h (Nat.le_trans hB (Mod.refl [] w).size)) ?_))))))))))
  rintro e w1 ⟨A2, c3, rfl, h4, u5⟩
  have h6 := IRow.base h4 (Mod.refl [] w).size
  refine ⟨_, rfl, ?_⟩
  have M7 := mtu (Mod.refl [] w) u5
  refine wlv (v := I_ L.length) (ln A2 L.length c3 Ty.un74) (wmv (v := I_ 0) (wnil (then_n (wp_block ?_))))
  refine lp (fun n a r1 => ∃ (k : Nat) (sm : Nat), (n = L.length - k) ∧ (HasFr a 23 [(0, .pointer p), (2, I_ sm), (6, .slice A2 L.length c3), (7, I_ L.length), (8, I_ k)] []) ∧ (Mod [] w1 r1) ∧ (k ≤ L.length) ∧ (sm = bytesI L (L.take k)) ∧ (((sm : Nat) : Int) ≤ 140737488351232 * ((k : Nat) : Int))) ⟨_, 0, 0, rfl, hmk, Mod.refl _ _, (Nat.zero_le _), rfl, (by decide)⟩ ?_
  rintro _ _ r1 ⟨k, sm, rfl, h9, hM1, hF1_0, hF1_1, hF1_2⟩
  obtain ⟨Y48, rfl⟩ := h9
  have M10 := Mod.thin M7 hM1 (by simp)
  have hs1 := hF1_1
  refine wp_seq (rg_lit (wl (sb rfl (ltI k L.length) fun b11 k12 => wnil (then_n (wp_seq ?_)))))
  refine bcd k12 (fun v13 p14 => ?_) (fun v13 p14 => ?_)
  ·
   refine wp_cond_false (eb v13) (wp_exit (then_x (by nofun) (then_x (by nofun) (inb_hit (then_n (wp_seq (rg_lit (wmv (v := I_ sm) (was (v := I_ sm) (wnil (then_n (wp_ret ?_))))))))))))
   refine br1 (v := I_ sm) rfl ?_
   exact ⟨by rw [hs1, List.take_of_length_le (by omega)], (Mod.up M10)⟩
  have q16 : k < L.length := by omega
  refine wp_cond_true (eb v13) (wp_skip (then_n (wp_seq (wp_block (wp_seq (rg_lit ?_))))))
  have h17 := (IRow.up h6 (Mod.up hM1))
  obtain ⟨y18, hy18⟩ : ∃ x, L[k]? = some x := ⟨_, List.getElem?_eq_getElem q16⟩
  obtain ⟨g18, cp18, cu18, dA18, dn18, dc18, hA18, hg18, hb18, he18, hD18⟩ := h17.get hy18
  injection hA18 with hA18 _ _
  replace he18 : (cu18.toList.drop (0 + k * 10)).take 10 = (itC y18 (.slice dA18 dn18 dc18)) := by rw [Nat.zero_add]; exact he18
  refine wlv (v := pt g18 (0 + k * 10)) (ixa L.length c3 10 k hA18 Ty.un74 Ty.sz42) ?_
  have hdl := (Dat.len hD18).2
  refine wlv (v := itV y18 (.slice dA18 dn18 dc18)) (r_loads (k := 0 + k * 10) (by kernel_rfl) Ty.ag42 Ty.sz42 hb18 (el_sub0 he18 rfl)) (wl (sn rfl (cs := #[I_ 0, I_ 0, I_ 0, I_ 0, S_ (⟨#[]⟩), B_ false, B_ false, .slice none 0 0, I_ 0, I_ 0]) (T := 42) (V := fun b => pt b 0) (r_alloc Ty.zv42 rfl) fun b19 w20 e21 h22 u23 => ?_))
  have g25 := gsz e21 M10
  have g26 := gsz e21 hM1
  have M27 := mtu M10 u23
  have M28 := mtu hM1 u23
  refine wl (ss rfl (k := 0) (v := itV y18 (.slice dA18 dn18 dc18)) (vs := (itC y18 (.slice dA18 dn18 dc18))) (cs' := (itC y18 (.slice dA18 dn18 dc18))) (by kernel_rfl) (by kernel_rfl) rfl Ty.sz42 h22 rfl (Nat.le_of_ble_eq_true rfl) rfl fun w29 h30 c31 => ?_)
  have M32 := mtn M27 c31 g25
  have M33 := mtn M28 c31 g26
  refine wnil (then_n (wp_seq (rg_lit (wmv (v := .pointer p) (wlv (v := pt b19 0) (fa (pt b19 0)) (wlv (v := .agg #[I_ y18.node.t, I_ y18.node.w]) (lds 0 Ty.ag24 Ty.sz24 h30) ?_))))))
  have h34 := (OT.up h (Mod.up M32))
  refine wl (sca [.pointer p, .agg #[I_ y18.node.t, I_ y18.node.w]] En.f39 (hangsO_at h34 y18.node.t y18.node.w (hF.wf.nonil _ (List.mem_of_getElem? hy18))) ?_)
  rintro e w35 ⟨rfl, u36⟩
  refine ⟨_, rfl, ?_⟩
  have M38 := mtu M33 u36
  refine wnil (then_n ?_)
  refine bcase (hangsI L 301 ⟨y18.node.t, y18.node.w⟩) (fun v39 => ?_) (fun v39 => ?_)
  ·
   refine wp_cond_false (eb v39) (wp_skip (inb_n (then_n (rg_lit (wlv (v := I_ ((k + 1 : Nat) : Int)) (adI (c := ((k + 1 : Nat) : Int)) k 1 ((IntWalk.i64_in _ (by omega)).trans (by omega))) (wmv (v := I_ ((k + 1 : Nat) : Int)) (wnil (then_n ?_))))))))
   refine ⟨L.length - (k + 1), ?_, (k + 1), sm, rfl, hmk, M38, (by omega), (by rw [hs1]; exact bytes_no hy18 v39), (by omega)⟩
   · omega
  refine wp_cond_true (eb v39) (rg_lit (wmv (v := I_ sm) (wlv (v := pt b19 7) (fa (pt b19 0)) ?_)))
  have h40 := (up_ob u36 h30)
  refine wlv (v := .slice dA18 dn18 dc18) (ld 7 Ty.ag40 h40) (wlv (v := I_ dn18) (ln dA18 dn18 dc18 Ty.un40) (wlv (v := I_ ((sm + dn18 : Nat) : Int)) (adI (c := ((sm + dn18 : Nat) : Int)) sm dn18 ((IntWalk.i64_in _ (by omega)).trans (by omega))) (was (v := I_ ((sm + dn18 : Nat) : Int)) (wnil (inb_n (then_n (rg_lit (wlv (v := I_ ((k + 1 : Nat) : Int)) (adI (c := ((k + 1 : Nat) : Int)) k 1 ((IntWalk.i64_in _ (by omega)).trans (by omega))) (wmv (v := I_ ((k + 1 : Nat) : Int)) (wnil (then_n ?_)))))))))))
  refine ⟨L.length - (k + 1), ?_, (k + 1), (sm + dn18), rfl, hmk, M38, (by omega), (by rw [hs1, ← (Dat.len hD18).1]; exact bytes_yes hy18 v39), (by omega)⟩
  · omega
end Go.Proofs.YtefhfoioeoijlaaGreatDoor
set_option linter.unusedVariables false
set_option linter.unusedSimpArgs false
namespace Go.Proofs.YtefhfoioeoijlaaGreatDoor
open Go Go.RowKit Go.Sort
abbrev vo1 : OpD := ⟨1, ⟨1, 1⟩, ⟨1, 1⟩, ⟨0, 0⟩, false, ⟨#[97]⟩, []⟩
abbrev vo2 : OpD := ⟨4, ⟨2, 1⟩, ⟨1, 1⟩, ⟨0, 0⟩, false, ⟨#[]⟩, [120]⟩
abbrev vo3 : OpD := ⟨2, ⟨3, 1⟩, ⟨1, 1⟩, ⟨0, 0⟩, false, ⟨#[98]⟩, []⟩
def vos : List OpD := [vo1, vo2, vo3]
theorem vos_sort : sortO vos = vos := by decide
theorem vos_names : ∀ o ∈ vos, o.name.size ≤ 9223372036854775807 := by
  intro o ho
  simp only [vos, List.mem_cons, List.not_mem_nil, or_false] at ho
  rcases ho with rfl | rfl | rfl <;> decide
theorem lit_dat {B : Nat} {w : World} {bd : Nat} {fr : Nat × Nat} (h : w.heap[bd]? = some (.cells #[.int .u8 120] 5 fr)) : Dat B w (.slice (some ⟨bd, 0, none⟩) 1 1) [120] := by
  refine ⟨_, _, _, rfl, rfl, Nat.le_refl _, by decide, by simp, fun _ => ⟨bd, 0, rfl, lt_ob h, .inr ⟨_, _, h⟩, fun i hi => ?_⟩⟩
  obtain rfl : i = 0 := by omega
  simp [World.cell?, h]
theorem three_row {B : Nat} {w : World} {g bd : Nat} (h : w.heap[g]? = some (.cells ((opC vo1 (.slice none 0 0) ++ (opC vo2 (.slice (some ⟨bd, 0, none⟩) 1 1) ++ opC vo3 (.slice none 0 0))).toArray) 49 (0, 0))) (hd : Dat B w (.slice (some ⟨bd, 0, none⟩) 1 1) [120]) : OpRow B w (some ⟨g, 0, none⟩) vos := fun i o hi => by
  have hlt := lt_ob h
  match i, hi with
  | 0, hi =>
    simp [vos] at hi; subst hi
    refine ⟨g, 0, none, 0, 0, rfl, hlt, fun j v hj => ?_, Dat.nil B w, by decide⟩
    have hj10 : j < 10 := (List.getElem?_eq_some_iff.1 hj).1
    simp only [World.cell?, h, Nat.zero_add, Nat.zero_mul]
    rw [List.getElem?_toArray, List.getElem?_append_left (by exact hj10)]
    exact hj
  | 1, hi =>
    simp [vos] at hi; subst hi
    refine ⟨g, 0, some ⟨bd, 0, none⟩, 1, 1, rfl, hlt, fun j v hj => ?_, hd, by decide⟩
    have hj10 : j < 10 := (List.getElem?_eq_some_iff.1 hj).1
    simp only [World.cell?, h, Nat.zero_add, Nat.one_mul]
    rw [List.getElem?_toArray, List.getElem?_append_right (by show 10 ≤ 10 + j; omega)]
    have e : 10 + j - (opC vo1 (.slice none 0 0)).length = j := by show 10 + j - 10 = j; omega
    rw [e, List.getElem?_append_left (by exact hj10)]; exact hj
  | 2, hi =>
    simp [vos] at hi; subst hi
    refine ⟨g, 0, none, 0, 0, rfl, hlt, fun j v hj => ?_, Dat.nil B w, by decide⟩
    have hj10 : j < 10 := (List.getElem?_eq_some_iff.1 hj).1
    simp only [World.cell?, h, Nat.zero_add]
    rw [List.getElem?_toArray, List.getElem?_append_right (by show 10 ≤ 2 * 10 + j; omega)]
    have e : 2 * 10 + j - (opC vo1 (.slice none 0 0)).length = 10 + j := by show 2 * 10 + j - 10 = 10 + j; omega
    rw [e, List.getElem?_append_right (by show 10 ≤ 10 + j; omega)]
    have e : 10 + j - (opC vo2 (.slice (some ⟨bd, 0, none⟩) 1 1)).length = j := by show 10 + j - 10 = j; omega
    rw [e]; exact hj
  | i + 3, hi => simp [vos] at hi
set_option maxHeartbeats 2000000 in
theorem opsClone_at {B : Nat} {w : World} {A : Option Addr} {c : Nat} {os : List OpD} (h : OpRow B w A os) (hne : os ≠ []) (hlen : os.length ≤ 1000) (hB : B ≤ w.heap.size) :
    Calls Tryz.prog 131 #[.slice A os.length c] w fun e w' => ∃ g c', e = .returned (.slice (some ⟨g, 0, none⟩) os.length c') ∧ ORow 49 B w.heap.size w' (.slice (some ⟨g, 0, none⟩) os.length c') os ∧ Up w w' := by
  obtain ⟨A', c1, e, hs⟩ := (h.sub (c := c) : SubO B w (.slice A os.length c) os)
  injection e with e1 _ e3
  subst e1 e3
  obtain ⟨g, o, ds, rfl, hg, hpr, hcell⟩ := hs hne
  obtain ⟨iP, zP, hiP, hzP, hsP, hbP, hcP⟩ := info_op
  go_enter Tryz.func131, Tryz.ntmps131
  refine wp_seq (rg_lit ?_)
  refine was (v := .slice none 0 0) ?_
  refine wnil (then_n (wp_seq (wp_seq (rg_lit ?_))))
  refine wmv (v := .slice (some ⟨g, o, none⟩) os.length c) ?_
  refine wl (sv rfl (v := .bool false) (w' := w) (by kernel_rfl) ?_)
  refine wnil (then_n (wp_cond_false (by kernel_rfl) (wp_skip (then_n (wp_seq (rg_lit ?_))))))
  refine wl (sn rfl (cs := #[]) (T := 49) (V := fun b => .slice (some ⟨b, 0, none⟩) 0 0) (by simp [execOp, Instr.buildSlice, run_underlying Ty.un22, Ty.sz49, Instr.fill, newRow, Array.range_zero']) ?_)
  intro b w1 e1 h1 u1
  have hown : w1.ownsRow w.heap.size 49 10 (.slice (some ⟨b, 0, none⟩) 0 0) 0 [] := ⟨by simp, .inr ⟨b, 0, #[], rfl, Nat.le_of_eq e1.symm, h1, Nat.le_refl _, Nat.zero_le _, by simp, by simp⟩⟩
  have hfl := flatO_length hpr.length
  refine wmv (v := .slice (some ⟨g, o, none⟩) os.length c) ?_
  obtain ⟨v', w2, r2, r3, r4, _⟩ := run_append_own (P := Tryz.prog) w1 w.heap.size 22 22 49 iP zP 10 104 Ty.un22 hiP hzP hsP hbP hcP (by decide) _ 0 [] hown ⟨g, o, none⟩ os.length c (flatO os ds) hfl (fun j u hj => by rw [add_at]; exact (u1.cell (p := ⟨g, o + j, none⟩) hg).trans (hcell j u hj)) (flatO_one hpr) (by unfold maxLen; omega) (by omega) u1.size
  have c2 : Chg w1 w2 b := r4
  have uu : Up w w2 := up_chgn u1 c2 (Nat.le_of_eq e1.symm)
  rw [Nat.zero_add, List.nil_append] at r3
  have hR : ORow 49 B w.heap.size w2 v' os := ⟨ds, hpr.mono fun x d hd => hd.up uu, r3⟩
  obtain ⟨A', c', rfl⟩ := hR.form
  have hA' : ∃ g', A' = some ⟨g', 0, none⟩ := by
    obtain ⟨i, hi⟩ : ∃ x, os[0]? = some x := ⟨_, List.getElem?_eq_getElem (Nat.pos_of_ne_zero fun e => hne (List.eq_nil_of_length_eq_zero e))⟩
    obtain ⟨g', _, _, _, _, _, e, _⟩ := hR.get hi
    injection e with e _ _
    exact ⟨g', e⟩
  obtain ⟨g', rfl⟩ := hA'
  refine wl (sv rfl (v := .slice (some ⟨g', 0, none⟩) os.length c') (w' := w2) (by simp [execOp, resolve, invoke, builtin, Act.eval, Act.put, r2]) ?_)
  refine was (v := .slice (some ⟨g', 0, none⟩) os.length c') ?_
  refine wnil (then_n (wp_ret ?_))
  refine bodyPost_ret (v := .slice (some ⟨g', 0, none⟩) os.length c') (res1 rfl (rv_t (by kernel_rfl))) (by kernel_rfl) ?_
  exact ⟨g', c', rfl, hR, uu⟩
theorem vos_cut {i : Nat} {x : Nat} (h : (List.range 3)[i]? = some x) : decide ((atO vos x).at_.t > 2) = decide (i + 1 = 3) := by
  have hi : i < 3 := by have := (List.getElem?_eq_some_iff.1 h).1; simpa using this
  rw [List.getElem?_range hi] at h
  injection h with h; subst h
  match i, hi with
  | 0, _ => rfl
  | 1, _ => rfl
  | 2, _ => rfl
end Go.Proofs.YtefhfoioeoijlaaGreatDoor
set_option linter.unusedVariables false
set_option linter.unusedSimpArgs false
namespace Go.Proofs.YtefhfoioeoijlaaGreatDoor
open Go Go.RowKit Go.Sort
set_option maxHeartbeats 2000000 in
theorem asOf1_at {w : World} (o : OpD) (oA : Option Addr) (on oc : Nat) {fb : Nat} {ct : Int} (hfb : w.heap[fb]? = some (.cells #[.int .i64 ct] 2 (0, 0))) :
    Calls Tryz.prog 129 #[opV o (.slice oA on oc), .pointer (some ⟨fb, 0, none⟩)] w fun e w' => e = .returned (.bool (decide (o.at_.t > ct))) ∧ Up w w' := by
  go_enter Tryz.func129, Tryz.ntmps129
  refine wp_seq (rg_lit (wl (sn rfl (cs := (opC o (.slice oA on oc)).toArray) (T := 49) (V := fun b => pt b 0) (r_box (v := opV o (.slice oA on oc)) (by kernel_rfl) rfl) fun pb w1 e2 h3 u4 => ?_)))
  have M7 := mtu (Mod.refl [] w) u4
  refine was (v := B_ false) (wnil (then_n (wp_seq (rg_lit (wlv (v := pt pb 1) (fa (pt pb 0)) (wlv (v := pt pb 1) (fa (pt pb 1)) (wlv (v := I_ o.at_.t) (ld 1 Ty.ag2 h3) ?_)))))))
  have h8 := md_ob M7 nin0 hfb
  refine wlv (v := I_ ct) (ld 0 Ty.ag2 h8) (wl (sb rfl (r_gt (k := .i64) (m := o.at_.t) (n := ct) (by kernel_rfl) (by kernel_rfl)) fun b9 k10 => was (v := B_ b9) (wnil (then_n (wp_ret ?_)))))
  refine br1 (v := B_ b9) rfl ?_
  exact ⟨by rw [← k10], (Mod.up M7)⟩
set_option maxHeartbeats 2000000 in
theorem index1_at {B base : Nat} {w : World} {g nn c fb : Nat} {ct : Int} {f : Nat → OpD} {I : List Nat} (h : ORow 49 B base w (.slice (some ⟨g, 0, none⟩) nn c) (I.map f)) (hBb : B ≤ base) (hn : nn ≤ 1000000) (hfb : w.heap[fb]? = some (.cells #[.int .i64 ct] 2 (0, 0))) (hne : fb ≠ g) (hall : ∀ (i x : Nat), I[i]? = some x → decide ((f x).at_.t > ct) = decide (i + 1 = nn)) (hn0 : 0 < nn) :
    Calls Tryz.prog 166 #[.slice (some ⟨g, 0, none⟩) nn c, .func (.func 129) #[] #[.pointer (some ⟨fb, 0, none⟩)]] w fun e w' => e = .returned (.int .i64 ((nn - 1 : Nat) : Int)) ∧ Up w w' := by
  obtain ⟨hnL, hnc, hcm, cu0, hg, hcs0⟩ := ORow.blk h
  have hBg := ORow.ge h hBb
  have hnI : nn = I.length := by simpa using hnL
  go_enter Tryz.func166, Tryz.ntmps166
  refine wp_seq (rg_lit (was (v := I_ 0) (wnil (then_n (wp_seq (wp_seq (rg_lit (wmv (v := sl g 0 nn c) (wlv (v := I_ nn) (ln (some ⟨g, 0, none⟩) nn c Ty.un22) (wmv (v := I_ 0) (wnil (then_n (wp_block ?_)))))))))))))
  refine lp (fun n a r1 => ∃ (kk : Nat), (n = nn - kk) ∧ (HasFr a 19 [(0, sl g 0 nn c), (1, .func (.func 129) #[] #[pt fb 0]), (7, I_ nn), (8, I_ kk)] []) ∧ (Mod [] w r1) ∧ (kk + 1 ≤ nn)) ⟨_, 0, rfl, hmk, Mod.refl _ _, (by omega)⟩ ?_
  rintro _ _ r1 ⟨kk, rfl, h1, hM1, hF1_0⟩
  obtain ⟨Y49, rfl⟩ := h1
  have M2 := Mod.thin (Mod.refl [] w) hM1 (by simp)
  refine wp_seq (rg_lit (wl (sb rfl (ltI kk nn) fun b3 k4 => wnil (then_n (wp_seq ?_)))))
  refine bcd k4 (fun v5 p6 => ?_) (fun v5 p6 => ?_)
  ·
   exact absurd (show kk < nn by omega) (by omega)
  refine wp_cond_true (eb v5) (wp_skip (then_n (wp_seq (wp_block (wp_seq (rg_lit (wmv (v := I_ kk) (was (v := I_ kk) (wnil (then_n (wp_seq (rg_lit (wmv (v := .func (.func 129) #[] #[pt fb 0]) (wmv (v := sl g 0 nn c) (wmv (v := I_ kk) (wlv (v := pt g (kk * 10)) (ixa (A := some ⟨g, 0, none⟩) nn c 10 kk rfl Ty.un22 Ty.sz49) ?_))))))))))))))))
  have h9 := (ORow.up h (Mod.up hM1))
  obtain ⟨x10, hx10⟩ : ∃ x, I[kk]? = some x := ⟨_, List.getElem?_eq_getElem (by omega)⟩
  obtain ⟨cu11, dA11, dn11, dc11, hb11, he11, hD11⟩ := ORow.elem h9 (map_get' hx10)
  refine wlv (v := opV (f x10) (.slice dA11 dn11 dc11)) (r_loads (k := kk * 10) (vs := (opC (f x10) (.slice dA11 dn11 dc11))) (by kernel_rfl) Ty.ag49 Ty.sz49 hb11 (el_sub0 he11 rfl)) ?_
  have h12 := md_ob M2 nin0 hfb
  refine wl (sc rfl (r_callv (caps := [pt fb 0]) (all := [opV (f x10) (.slice dA11 dn11 dc11), pt fb 0]) En.f129 (by kernel_rfl) (by kernel_rfl)) (asOf1_at (f x10) dA11 dn11 dc11 h12) ?_)
  rintro e w13 ⟨rfl, u14⟩
  refine ⟨_, rfl, ?_⟩
  have M15 := mtu M2 u14
  have M16 := mtu hM1 u14
  refine wnil (then_n ?_)
  refine bcase (decide ((f x10).at_.t > ct)) (fun v17 => ?_) (fun v17 => ?_)
  ·
   refine wp_cond_false (eb v17) (wp_skip (inb_n (then_n (rg_lit (wlv (v := I_ ((kk + 1 : Nat) : Int)) (adI (c := ((kk + 1 : Nat) : Int)) kk 1 ((IntWalk.i64_in _ (by omega)).trans (by omega))) (wmv (v := I_ ((kk + 1 : Nat) : Int)) (wnil (then_n ?_))))))))
   refine ⟨nn - (kk + 1), ?_, (kk + 1), rfl, hmk, M16, (by have h1 := (hall _ _ hx10).symm.trans v17; have h2 := of_decide_eq_false h1; omega)⟩
   · omega
  refine wp_cond_true (eb v17) (wp_seq (rg_lit (wmv (v := I_ kk) (was (v := I_ kk) (wnil (then_n (wp_ret (inb_r (then_x (by nofun) (then_x (by nofun) (inb_r (then_x (by nofun) ?_))))))))))))
  refine br1 (v := I_ kk) rfl ?_
  have h1 := (hall _ _ hx10).symm.trans v17
  have h2 := of_decide_eq_true h1
  obtain rfl : kk = nn - 1 := by omega
  exact ⟨rfl, (Mod.up M15)⟩
set_option maxHeartbeats 2000000 in
theorem delete1_at {B base : Nat} {w : World} {g nn c fb : Nat} {ct : Int} {f : Nat → OpD} {I : List Nat} (h : ORow 49 B base w (.slice (some ⟨g, 0, none⟩) nn c) (I.map f)) (hBb : B ≤ base) (hn : nn ≤ 1000000) (hfb : w.heap[fb]? = some (.cells #[.int .i64 ct] 2 (0, 0))) (hne : fb ≠ g) (hall : ∀ (i x : Nat), I[i]? = some x → decide ((f x).at_.t > ct) = decide (i + 1 = nn)) (hn0 : 0 < nn) :
    Calls Tryz.prog 130 #[.slice (some ⟨g, 0, none⟩) nn c, .func (.func 129) #[] #[.pointer (some ⟨fb, 0, none⟩)]] w fun e w' => e = .returned (.slice (some ⟨g, 0, none⟩) (nn - 1) c) ∧ ORow 49 B base w' (.slice (some ⟨g, 0, none⟩) (nn - 1) c) ((I.map f).take (nn - 1)) ∧ Chg w w' g := by
  obtain ⟨hnL, hnc, hcm, cu0, hg, hcs0⟩ := ORow.blk h
  have hBg := ORow.ge h hBb
  have hnI : nn = I.length := by simpa using hnL
  obtain ⟨zO, hzO, hzO1, hzO2⟩ := zero_op
  go_enter Tryz.func130, Tryz.ntmps130
  refine wp_seq (rg_lit (was (v := .slice none 0 0) (wnil (then_n (wp_seq (rg_lit (wmv (v := sl g 0 nn c) (wmv (v := .func (.func 129) #[] #[pt fb 0]) (wl (sca [sl g 0 nn c, .func (.func 129) #[] #[pt fb 0]] En.f166 (index1_at h hBb hn hfb hne hall hn0) ?_))))))))))
  rintro e w1 ⟨rfl, u2⟩
  refine ⟨_, rfl, ?_⟩
  have M3 := mtu (Mod.refl [] w) u2
  refine was (v := I_ ((nn - 1 : Nat) : Int)) (wnil (then_n (wp_seq (wp_seq (rg_lit (wmv (v := I_ ((nn - 1 : Nat) : Int)) (wl (sb rfl (eqI ((nn - 1 : Nat) : Int) (-1)) fun b4 k5 => wnil (then_n ?_)))))))))
  refine bcd k5 (fun v6 p7 => ?_) (fun v6 p7 => ?_)
  ·
   refine wp_cond_false (eb v6) (wp_skip (then_n (wp_seq (wp_seq (rg_lit (wmv (v := I_ ((nn - 1 : Nat) : Int)) (wlv (v := I_ ((nn - 1 + 1 : Nat) : Int)) (adI (c := ((nn - 1 + 1 : Nat) : Int)) ((nn - 1 : Nat) : Int) 1 ((IntWalk.i64_in _ (by omega)).trans (by omega))) (was (v := I_ ((nn - 1 + 1 : Nat) : Int)) (wnil (then_n (wp_block ?_)))))))))))
   have h10 := (ORow.up h u2)
   refine lp (fun n a r1 => ∃ (kk : Nat), (n = nn - kk) ∧ (HasFr a 42 [(0, sl g 0 nn c), (1, .func (.func 129) #[] #[pt fb 0]), (4, .slice none 0 0), (5, I_ ((nn - 1 : Nat) : Int)), (6, I_ kk), (12, B_ b4)] []) ∧ (Mod [] w1 r1) ∧ (kk = nn)) ⟨_, (nn - 1 + 1), rfl, hmk, Mod.refl _ _, (by omega)⟩ ?_
   rintro _ _ r1 ⟨kk, rfl, h11, hM1, hF1_0⟩
   obtain ⟨Y50, rfl⟩ := h11
   have M12 := Mod.thin M3 hM1 (by simp)
   refine wp_seq (wp_seq (rg_lit (wmv (v := I_ kk) (wmv (v := sl g 0 nn c) (wlv (v := I_ nn) (ln (some ⟨g, 0, none⟩) nn c Ty.un22) (wl (sb rfl (ltI kk nn) fun b13 k14 => wnil (then_n ?_))))))))
   refine bcd k14 (fun v15 p16 => ?_) (fun v15 p16 => ?_)
   ·
    refine wp_cond_false (eb v15) (wp_exit (then_x (by nofun) (then_x (by nofun) (inb_hit (then_n (wp_seq (rg_lit (wmv (v := sl g 0 nn c) (wmv (v := I_ ((nn - 1 : Nat) : Int)) (wlv (v := .slice (some ⟨g, 0 + (nn - 1) * 10, none⟩) (nn - (nn - 1) : Nat) (c - (nn - 1) : Nat)) (r_sliceLo (b := g) (o := 0) (n := nn) (c := c) (k := (nn - 1)) (by kernel_rfl) (by kernel_rfl) Ty.un22 Ty.sz49 (by omega) (by omega)) ?_))))))))))
    have h17 := (ORow.up h10 (Mod.up hM1))
    refine wl (clrO rfl (n := nn) (k := (nn - 1)) (m := 0 + (nn - 1) * 10) (q := (nn - (nn - 1) : Nat)) (cc := (c - (nn - 1) : Nat)) (z := zO) (by kernel_rfl) (by omega) (by omega) (by omega) h17 Ty.un22 hzO hzO1 hzO2 (by decide) hBb fun w18 h19 c20 => ?_)
    have M21 := md_old M12 c20
    refine wnil (then_n (wp_seq (rg_lit (wmv (v := sl g 0 nn c) (wmv (v := I_ ((nn - 1 : Nat) : Int)) (wlv (v := sl g 0 (nn - 1) c) (r_sliceHi (b := g) (o := 0) (n := nn) (c := c) (k := (nn - 1)) (by kernel_rfl) (by kernel_rfl) Ty.un22 Ty.sz49 (by omega)) (was (v := sl g 0 (nn - 1) c) (wnil (then_n (wp_ret ?_))))))))))
    refine br1 (v := sl g 0 (nn - 1) c) rfl ?_
    exact ⟨rfl, h19, (Mod.chg M21)⟩
   exact absurd p16 (by omega)
  exact absurd p7 (by omega)
set_option maxHeartbeats 2000000 in
theorem asOf_at {B : Nat} {w : World} {lA : Option Addr} {lc : Nat} (h : OpRow B w lA vos) (hB : B ≤ w.heap.size) :
    Calls Tryz.prog 72 #[.slice lA 3 lc, .int .i64 2] w fun e w' => ∃ tb r, e = .returned (trP tb) ∧ TreeIs B w' tb r (buildI [vo1, vo2]) ∧ Up w w' := by
  go_enter Tryz.func72, Tryz.ntmps72
  refine wp_seq (rg_lit (wl (sn rfl (cs := #[I_ 2]) (T := 2) (V := fun b => pt b 0) (r_box (v := I_ 2) (by kernel_rfl) rfl) fun pb w1 e2 h3 u4 => ?_)))
  have M6 := mtu (Mod.refl [] w) u4
  refine was (v := .pointer none) (wnil (then_n (wp_seq (rg_lit (wlv (v := .func (.func 129) #[] #[pt pb 0]) (r_makeFunc (us := []) (vs := [pt pb 0]) rfl (by kernel_rfl)) (was (v := .func (.func 129) #[] #[pt pb 0]) (wnil (then_n (wp_seq (rg_lit (wmv (v := .slice lA 3 lc) ?_)))))))))))
  have h11 := (OpRow.up h (Mod.up M6))
  refine wl (sca [.slice lA 3 lc] En.f131 (opsClone_at (os := vos) h11 (by decide) (by decide) (Nat.le_trans hB M6.size)) ?_)
  rintro e w7 ⟨g, c8, rfl, h9, u10⟩
  refine ⟨_, rfl, ?_⟩
  obtain ⟨_, _, hcg, cug, hgg, _⟩ := ORow.blk h9
  have hge := (ORow.own h9 g rfl).1
  have hpg : pb ≠ g := Nat.ne_of_lt (Nat.lt_of_lt_of_le (lt_ob h3) hge)
  have g12 : w.heap.size ≤ g := Nat.le_trans M6.size hge
  have M13 := mtu M6 u10
  refine wmv (v := .func (.func 129) #[] #[pt pb 0]) ?_
  have h18 := (up_ob u10 h3)
  refine wl (sca [sl g 0 3 c8, .func (.func 129) #[] #[pt pb 0]] En.f130 (delete1_at (nn := 3) (f := atO vos) (I := List.range 3) h9 (Nat.le_trans hB M6.size) (by decide) h18 hpg (fun i x hi => vos_cut hi) (by decide)) ?_)
  rintro e w15 ⟨rfl, h16, c17⟩
  refine ⟨_, rfl, ?_⟩
  have M19 := mtn M13 c17 g12
  refine wl (sca [sl g 0 2 c8] En.f15 (build_at (os := [vo1, vo2]) (ORow.ops h16 (fun o ho => vos_names o (List.mem_of_mem_take (i := 2) ho))) (Nat.le_trans hB M19.size) (by decide)) ?_)
  rintro e w20 ⟨tb, r, rfl, h21, u22, z23, z24⟩
  refine ⟨_, rfl, ?_⟩
  have M25 := mtu M19 u22
  refine was (v := pt tb 0) (wnil (then_n (wp_ret ?_)))
  refine br1 (v := pt tb 0) rfl ?_
  exact ⟨_, _, rfl, h21, (Mod.up M25)⟩
end Go.Proofs.YtefhfoioeoijlaaGreatDoor
set_option linter.unusedVariables false
set_option linter.unusedSimpArgs false
namespace Go.Proofs.YtefhfoioeoijlaaGreatDoor
open Go Go.RowKit Go.Sort
def hitV (o : OpD) (L : List Item) (m : Stamp) : Bool := rightB o && decide (o.kind = 4) && decide (o.node = m) && decide ((gotI L m).by_ = o.at_)
def VOne (B : Nat) (w : World) (b4 : Nat) (xs : List Int) : Prop :=
  ∃ g c dA dn dc, w.heap[b4]? = some (.cells #[.slice (some ⟨g, 0, none⟩) 1 c] 112 (0, 0)) ∧ b4 ≠ g ∧ g < w.heap.size ∧ (∃ cs, w.heap[g]? = some (.cells cs 116 (0, 0))) ∧ w.cell? ⟨g, 2, none⟩ = some (.slice dA dn dc) ∧ Dat B w (.slice dA dn dc) xs ∧ 1 ≤ c
theorem VOne.up {B b4 : Nat} {w w' : World} {xs : List Int} (h : VOne B w b4 xs) (u : Up w w') : VOne B w' b4 xs := by
  obtain ⟨g, c, dA, dn, dc, h1, h2, h3, ⟨cs, h4⟩, h5, h6, h7⟩ := h
  exact ⟨g, c, dA, dn, dc, up_ob u h1, h2, Nat.lt_of_lt_of_le h3 u.size, ⟨cs, up_ob u h4⟩, (u.cell (p := ⟨g, 2, none⟩) h3).trans h5, h6.up u, h7⟩
theorem VOne.chg {B b4 r : Nat} {w w' : World} {xs : List Int} (h : VOne B w b4 xs) (c : Chg w w' r) (hd : B ≤ r ∧ NotU8 w r) (h4 : b4 ≠ r) (hm : ∀ cs T fr, w.heap[r]? ≠ some (.cells cs T fr)) : VOne B w' b4 xs := by
  obtain ⟨g, c', dA, dn, dc, h1, h2, h3, ⟨cs, h5⟩, h6, h7, h8⟩ := h
  have hg : g ≠ r := fun e => hm _ _ _ (e ▸ h5)
  have hg' := chg_ob c hg h5
  refine ⟨g, c', dA, dn, dc, chg_ob c h4 h1, h2, Nat.lt_of_lt_of_le h3 c.size, ⟨cs, hg'⟩, ?_, h7.chg c hd, h8⟩
  simp only [World.cell?, h5] at h6
  simp only [World.cell?, hg']; exact h6
def VSt (B : Nat) (w : World) (b4 : Nat) (one : Bool) : Prop := match one with | false => w.heap[b4]? = some (.cells #[.slice none 0 0] 112 (0, 0)) | true => VOne B w b4 [120]
theorem VSt.up {B b4 : Nat} {w w' : World} {j : Bool} (h : VSt B w b4 j) (u : Up w w') : VSt B w' b4 j := by
  cases j
  · exact up_ob u h
  · exact VOne.up h u
theorem VSt.chg {B b4 r : Nat} {w w' : World} {j : Bool} (h : VSt B w b4 j) (c : Chg w w' r) (hd : B ≤ r ∧ NotU8 w r) (h4 : b4 ≠ r) (hm : ∀ cs T fr, w.heap[r]? ≠ some (.cells cs T fr)) : VSt B w' b4 j := by
  cases j
  · exact chg_ob c h4 h
  · exact VOne.chg h c hd h4 hm
theorem VSt.lt {B b4 : Nat} {w : World} {j : Bool} (h : VSt B w b4 j) : b4 < w.heap.size ∧ NotU8 w b4 := by
  cases j
  · exact ⟨lt_ob h, NotU8.of h (by decide)⟩
  · obtain ⟨_, _, _, _, _, h1, _⟩ := h; exact ⟨lt_ob h1, NotU8.of h1 (by decide)⟩
theorem info_vs : ∃ i z, Tryz.prog.info? 116 = some i ∧ i.zero = some z ∧ i.size = 3 ∧ i.bytes = 40 ∧ z.cells.size = 3 := by
  have h : (Tryz.prog.info? 116).map (fun i => (i.zero.map (·.cells.size), i.size, i.bytes)) = some (some 3, 3, 40) := by kernel_rfl
  cases hi : Tryz.prog.info? 116 with
  | none => rw [hi] at h; cases h
  | some i =>
    rw [hi] at h; simp at h
    obtain ⟨⟨z, hz, h1⟩, h2, h3⟩ := h
    exact ⟨i, z, rfl, hz, h2, h3, h1⟩
theorem snV {ops : Array Oper} {Q : Exit → Act → World → Prop} {a : Act} {w : World} {J : Act → World → Prop} {d : Option Tmp} {ty : TypeId} {pos : String} {af : Array Edge} {gd : Option (Nat × Bool)}
    {t : TypeId} {s p : Operand} {b : Nat} {x y : Int} {dA : Option Addr} {dn dc : Nat}
    (hw : Region.wanted (⟨d, .call ⟨.builtin .append, #[s, p], #[t, t]⟩, ty, pos, af, gd⟩ : Oper) (yielded ops a.tmps) = true) (hs : a.eval s = .slice none 0 0) (hy : a.eval p = .slice (some ⟨b, 0, none⟩) 1 1)
    (ht : Tryz.prog.underlying t = some (.slice 116)) (hb : w.heap[b]? = some (.cells #[.int .i64 x, .int .i64 y, .slice dA dn dc] 116 (0, 0)))
    (k : ∀ g c w', w.heap.size ≤ g → g < w'.heap.size → (∃ cs, w'.heap[g]? = some (.cells cs 116 (0, 0))) → w'.cell? ⟨g, 2, none⟩ = some (.slice dA dn dc) → 1 ≤ c → Up w w' → J (a.put d (.slice (some ⟨g, 0, none⟩) 1 c)) w') : St1 Tryz.prog ops Q ⟨d, .call ⟨.builtin .append, #[s, p], #[t, t]⟩, ty, pos, af, gd⟩ J a w := by
  obtain ⟨i, z, hi, hz, hsize, hby, hzs⟩ := info_vs
  have h0 : w.ownsRow w.heap.size 116 3 (.slice none 0 0) 0 [] := World.ownsRow_nil w _ _ 3
  obtain ⟨v', w', h1, h2, h3, h4⟩ := run_append_own (P := Tryz.prog) w w.heap.size t ty _ i z 3 40 ht hi hz hsize hby hzs (by decide) (.slice none 0 0) 0 [] h0 ⟨b, 0, none⟩ 1 1 [.int .i64 x, .int .i64 y, .slice dA dn dc] (by simp)
    (fun j u hj => by
      rw [add_at, Nat.zero_add]
      simp only [World.cell?, hb]; simpa using hj) (by intro u hu; simp at hu; rcases hu with rfl | rfl | rfl <;> rfl) (by unfold maxLen; omega) (by omega) (Nat.le_refl _)
  have hu : Up w w' := ⟨h3.os, h3.tape, h3.output, h3.size, fun k hk => h3.block k hk (by simp [Value.ownBlock])⟩
  obtain ⟨hl, ⟨e, h0⟩ | ⟨g, cap, cur, e, hbg, hg, hc, hm, hcs, htk⟩⟩ := h2
  · cases h0
  · subst e
    have hcell : w'.cell? ⟨g, 2, none⟩ = some (.slice dA dn dc) := by
      have h9 : (cur.toList.take ((0 + 1) * 3))[2]? = some (.slice dA dn dc) := by rw [htk]; simp
      rw [List.getElem?_take, if_pos (by decide), Array.getElem?_toList] at h9
      simp only [World.cell?, hg]; exact h9
    refine sv hw ?_ (k g cap w' hbg (lt_ob hg) ⟨_, hg⟩ hcell (by omega) hu)
    simp [execOp, resolve, invoke, builtin, hs, hy, h1]
end Go.Proofs.YtefhfoioeoijlaaGreatDoor

/- GLB: printed by gen.py -/
import Derived.Test.YtefhfoioeoijlaaGreatGLA
set_option linter.unusedVariables false
set_option linter.unusedSimpArgs false
namespace Go.Proofs.YtefhfoioeoijlaaGreat
open Go Go.RowKit Go.Sort
theorem tkP {S : List StepD} {k : Nat} {x : StepD} (h : S[k]? = some x) : (S.take (k + 1)).map (·.o) = (S.take k).map (·.o) ++ [x.o] := by rw [List.take_add_one, h]; simp
set_option maxHeartbeats 2000000 in
theorem logops_at {B base : Nat} {w : World} {lb tb pc : Nat} {pA : Option Addr} {S : List StepD} (hlb : w.heap[lb]? = some (.cells #[.slice pA S.length pc, .pointer (some ⟨tb, 0, none⟩)] 66 (0, 0))) (hp : PRow 73 B base w (.slice pA S.length pc) S) (hn : S.length ≤ 1000000) (hn5 : S.length ≤ 100000) (hB : B ≤ w.heap.size) :
    Calls Tryz.prog 12 #[trP lb] w fun e w' => ∃ v, e = .returned v ∧ ORow 38 B w.heap.size w' v (S.map (·.o)) ∧ Up w w' := by
  obtain ⟨iO, zO, hiO, hzO, hsO, hbO, hcO⟩ := info_op
  go_enter Tryz.func12, Tryz.ntmps12
  refine wp_seq (rg_lit ?_)
  refine was (v := .slice none 0 0) ?_
  refine wnil (then_n (wp_seq (wp_seq (rg_lit ?_))))
  refine wmv (v := .pointer (some ⟨lb, 0, none⟩)) ?_
  refine wl (sv (w' := w) rfl (v := .bool false) (by kernel_rfl) ?_)
  refine wnil (then_n ?_)
  refine wp_cond_false (by kernel_rfl) ?_
  refine wp_skip (then_n (wp_seq (wp_seq (rg_lit ?_))))
  refine wmv (v := .pointer (some ⟨lb, 0, none⟩)) ?_
  refine wl (sv rfl (v := .pointer (some ⟨lb, 0, none⟩)) (r_nilCheck (by kernel_rfl)) ?_)
  refine wl (sv rfl (v := .pointer (some ⟨lb, 0, none⟩)) (r_fieldAddr (u := .pointer (some ⟨lb, 0, none⟩)) (by kernel_rfl) (fun _ => (by kernel_rfl))) ?_)
  refine wl (sv rfl (v := .slice pA S.length pc) (r_load (k := 0) (by kernel_rfl) Ty.ag64 hlb (by kernel_rfl)) ?_)
  refine wl (sv rfl (v := .int .i64 ((S.length : Int))) (r_len Ty.un64 (ad := pA) (n := S.length) (c := pc) (by kernel_rfl)) ?_)
  refine wmv (v := .int .i64 0) ?_
  refine wnil (then_n (wp_block ?_))
  refine lp (fun n a r1 => ∃ (kk : Nat) (oA : Option Addr) (on : Nat) (oc : Nat) (z4 z5 z14 z15 z16 z17 z18 z19 z20 z21 z22 z23 z24 z25 z26 z27 : Value), (n = S.length - kk) ∧ (a = ⟨#[.pointer (some ⟨lb, 0, none⟩), undef, .slice oA on oc, undef, z4, z5, .pointer (some ⟨lb, 0, none⟩), .bool false, .pointer (some ⟨lb, 0, none⟩), .pointer (some ⟨lb, 0, none⟩), .pointer (some ⟨lb, 0, none⟩), .slice pA S.length pc, .int .i64 ((S.length : Int)), .int .i64 ((kk : Int)), z14, z15, z16, z17, z18, z19, z20, z21, z22, z23, z24, z25, z26, z27, undef], []⟩) ∧ (Mod [] w r1) ∧ (kk ≤ S.length) ∧ (ORow 38 B w.heap.size r1 (.slice oA on oc) ((S.take kk).map (·.o)))) ⟨_, 0, none, 0, 0, undef, undef, undef, undef, undef, undef, undef, undef, undef, undef, undef, undef, undef, undef, undef, undef, rfl, (by kernel_rfl), Mod.refl _ _, (Nat.zero_le _), (ORow.nil _ _ _ _)⟩ ?_
  rintro _ _ r1 ⟨kk, oA, on, oc, z4, z5, z14, z15, z16, z17, z18, z19, z20, z21, z22, z23, z24, z25, z26, z27, rfl, rfl, hM1, hF1_0, hF1_1⟩
  have M1 := Mod.thin (Mod.refl [] w) hM1 (by simp)
  refine wp_seq (rg_lit ?_)
  refine wl (sb rfl (r_lt (k := .i64) (m := ((kk : Int))) (n := ((S.length : Int))) (by kernel_rfl) (by kernel_rfl)) ?_)
  intro b2 k3
  refine wnil (then_n (wp_seq ?_))
  refine bcase b2 (fun v4 => ?_) (fun v4 => ?_)
  ·
   have p5 := of_decide_eq_false (k3.trans v4)
   refine wp_cond_false (ebool (b := b2) (by kernel_rfl) v4) ?_
   refine wp_exit (then_x (by nofun) (then_x (by nofun) (inb_hit (then_n (wp_seq (rg_lit ?_))))))
   refine wmv (v := .slice oA on oc) ?_
   refine was (v := .slice oA on oc) ?_
   refine wnil (then_n (wp_ret ?_))
   refine bodyPost_ret (v := .slice oA on oc) (res1 rfl (rv_t (by kernel_rfl))) (by kernel_rfl) ?_
   exact ⟨_, rfl, ORow.base (ORow.to hF1_1 (by rw [List.take_of_length_le (by omega)])) (Mod.refl [] w).size, (Mod.up M1)⟩
  have p5 := of_decide_eq_true (k3.trans v4)
  have q6 : kk < S.length := by omega
  have q7 : kk < S.length := by omega
  refine wp_cond_true (ebool (b := b2) (by kernel_rfl) v4) ?_
  refine wp_skip (then_n (wp_seq (wp_block (wp_seq (rg_lit ?_)))))
  have h8 := (PRow.up hp (Mod.up M1))
  obtain ⟨s9, hs9⟩ : ∃ x, S[kk]? = some x := ⟨_, List.getElem?_eq_getElem (by omega)⟩
  obtain ⟨g9, cu9, oA9, on9, oc9, iA9, in9, ic9, hA9, hg9, hb9, he9, hD9, hE9⟩ := PRow.get h8 hs9
  replace he9 : (cu9.toList.drop (0 + kk * 22)).take 22 = [.int .i64 s9.o.kind, .int .i64 s9.o.at_.t, .int .i64 s9.o.at_.w, .int .i64 s9.o.node.t, .int .i64 s9.o.node.w, .int .i64 s9.o.parent.t, .int .i64 s9.o.parent.w, .bool s9.o.dir, .string s9.o.name, .slice oA9 on9 oc9, .int .i64 s9.was.node.t, .int .i64 s9.was.node.w, .int .i64 s9.was.parent.t, .int .i64 s9.was.parent.w, .string s9.was.name, .bool s9.was.dir, .bool s9.was.gone, .slice iA9 in9 ic9, .int .i64 s9.was.by_.t, .int .i64 s9.was.by_.w, .bool s9.there, .bool s9.did] := by rw [Nat.zero_add]; exact he9
  refine wl (sv rfl (v := .pointer (some ⟨g9, 0 + kk * 22, none⟩)) (r_ixaddr' (A := pA) (b := g9) (o := 0) (n := S.length) (c := pc) (sz := 22) (j := ((kk : Int))) (by kernel_rfl) hA9 (by kernel_rfl) Ty.un64 Ty.sz73 (by omega) (by omega) (by omega)) ?_)
  refine wl (sv rfl (v := .agg #[.int .i64 s9.o.kind, .int .i64 s9.o.at_.t, .int .i64 s9.o.at_.w, .int .i64 s9.o.node.t, .int .i64 s9.o.node.w, .int .i64 s9.o.parent.t, .int .i64 s9.o.parent.w, .bool s9.o.dir, .string s9.o.name, .slice oA9 on9 oc9, .int .i64 s9.was.node.t, .int .i64 s9.was.node.w, .int .i64 s9.was.parent.t, .int .i64 s9.was.parent.w, .string s9.was.name, .bool s9.was.dir, .bool s9.was.gone, .slice iA9 in9 ic9, .int .i64 s9.was.by_.t, .int .i64 s9.was.by_.w, .bool s9.there, .bool s9.did]) (r_loads (k := 0 + kk * 22) (by kernel_rfl) Ty.ag73 Ty.sz73 hb9 (el_sub0 he9 rfl)) ?_)
  refine wl (sn rfl (cs := #[.int .i64 0, .int .i64 0, .int .i64 0, .int .i64 0, .int .i64 0, .int .i64 0, .int .i64 0, .bool false, .string (⟨#[]⟩), .slice none 0 0, .int .i64 0, .int .i64 0, .int .i64 0, .int .i64 0, .string (⟨#[]⟩), .bool false, .bool false, .slice none 0 0, .int .i64 0, .int .i64 0, .bool false, .bool false]) (T := 73) (V := fun b => .pointer (some ⟨b, 0, none⟩)) (r_alloc Ty.zv73 rfl) ?_)
  intro b10 w11 e12 h13 u14
  have h15 := md_ob M1 nin0 hlb
  have l16 : lb < b10 := by rw [e12]; exact lt_ob h15
  have l17 : g9 < b10 := by rw [e12]; exact lt_ob hb9
  have g18 : w.heap.size ≤ b10 := by rw [e12]; exact M1.size
  have g19 : w.heap.size ≤ b10 := by rw [e12]; exact hM1.size
  have M20 := Mod.trans M1 (Mod.of_up u14)
  have M21 := Mod.trans hM1 (Mod.of_up u14)
  refine wl (ss rfl (k := 0) (v := .agg #[.int .i64 s9.o.kind, .int .i64 s9.o.at_.t, .int .i64 s9.o.at_.w, .int .i64 s9.o.node.t, .int .i64 s9.o.node.w, .int .i64 s9.o.parent.t, .int .i64 s9.o.parent.w, .bool s9.o.dir, .string s9.o.name, .slice oA9 on9 oc9, .int .i64 s9.was.node.t, .int .i64 s9.was.node.w, .int .i64 s9.was.parent.t, .int .i64 s9.was.parent.w, .string s9.was.name, .bool s9.was.dir, .bool s9.was.gone, .slice iA9 in9 ic9, .int .i64 s9.was.by_.t, .int .i64 s9.was.by_.w, .bool s9.there, .bool s9.did]) (vs := [.int .i64 s9.o.kind, .int .i64 s9.o.at_.t, .int .i64 s9.o.at_.w, .int .i64 s9.o.node.t, .int .i64 s9.o.node.w, .int .i64 s9.o.parent.t, .int .i64 s9.o.parent.w, .bool s9.o.dir, .string s9.o.name, .slice oA9 on9 oc9, .int .i64 s9.was.node.t, .int .i64 s9.was.node.w, .int .i64 s9.was.parent.t, .int .i64 s9.was.parent.w, .string s9.was.name, .bool s9.was.dir, .bool s9.was.gone, .slice iA9 in9 ic9, .int .i64 s9.was.by_.t, .int .i64 s9.was.by_.w, .bool s9.there, .bool s9.did]) (cs' := [.int .i64 s9.o.kind, .int .i64 s9.o.at_.t, .int .i64 s9.o.at_.w, .int .i64 s9.o.node.t, .int .i64 s9.o.node.w, .int .i64 s9.o.parent.t, .int .i64 s9.o.parent.w, .bool s9.o.dir, .string s9.o.name, .slice oA9 on9 oc9, .int .i64 s9.was.node.t, .int .i64 s9.was.node.w, .int .i64 s9.was.parent.t, .int .i64 s9.was.parent.w, .string s9.was.name, .bool s9.was.dir, .bool s9.was.gone, .slice iA9 in9 ic9, .int .i64 s9.was.by_.t, .int .i64 s9.was.by_.w, .bool s9.there, .bool s9.did]) (by kernel_rfl) (by kernel_rfl) rfl Ty.sz73 h13 rfl (Nat.le_of_ble_eq_true rfl) rfl ?_)
  intro w22 h23 c24
  have M25 := Mod.trans' M20 c24 (fun i hi => by injection hi with hi; rw [← hi]; exact g18)
  have M26 := Mod.trans' M21 c24 (fun i hi => by injection hi with hi; rw [← hi]; exact g19)
  refine wnil (then_n (wp_seq (rg_lit ?_)))
  refine wl (sv rfl (v := .pointer (some ⟨b10, 0, none⟩)) (r_fieldAddr (u := .pointer (some ⟨b10, 0, none⟩)) (by kernel_rfl) (fun _ => (by kernel_rfl))) ?_)
  refine wl (sv rfl (v := opV s9.o (.slice oA9 on9 oc9)) (r_loads (k := 0) (by kernel_rfl) Ty.ag38 Ty.sz38 h23 (by kernel_rfl)) ?_)
  refine wl (sn rfl (cs := #[.int .i64 0, .int .i64 0, .int .i64 0, .int .i64 0, .int .i64 0, .int .i64 0, .int .i64 0, .bool false, .string (⟨#[]⟩), .slice none 0 0]) (T := 38) (V := fun b => .pointer (some ⟨b, 0, none⟩)) (r_alloc Ty.zv38 rfl) ?_)
  intro b27 w28 e29 h30 u31
  have h32 := md_ob M25 nin0 hlb
  have l33 : lb < b27 := by rw [e29]; exact lt_ob h32
  have h34 := (chg_ob c24 (Nat.ne_of_lt l17) (up_ob u14 hb9))
  have l35 : g9 < b27 := by rw [e29]; exact lt_ob h34
  have l36 : b10 < b27 := by rw [e29]; exact lt_ob h23
  have g37 : w.heap.size ≤ b27 := by rw [e29]; exact M25.size
  have g38 : w.heap.size ≤ b27 := by rw [e29]; exact M26.size
  have M39 := Mod.trans M25 (Mod.of_up u31)
  have M40 := Mod.trans M26 (Mod.of_up u31)
  refine wl (ss rfl (k := 0) (v := opV s9.o (.slice oA9 on9 oc9)) (vs := (opC s9.o (.slice oA9 on9 oc9))) (cs' := (opC s9.o (.slice oA9 on9 oc9))) (by kernel_rfl) (by kernel_rfl) rfl Ty.sz38 h30 rfl (Nat.le_of_ble_eq_true rfl) rfl ?_)
  intro w41 h42 c43
  have M44 := Mod.trans' M39 c43 (fun i hi => by injection hi with hi; rw [← hi]; exact g37)
  have M45 := Mod.trans' M40 c43 (fun i hi => by injection hi with hi; rw [← hi]; exact g38)
  refine wnil (then_n (wp_seq (rg_lit ?_)))
  refine wl (sv rfl (v := .pointer (some ⟨b27, 9, none⟩)) (r_fieldAddr (u := .pointer (some ⟨b27, 0, none⟩)) (by kernel_rfl) (fun _ => (by kernel_rfl))) ?_)
  refine wl (sv rfl (v := .slice oA9 on9 oc9) (r_load (k := 9) (by kernel_rfl) Ty.ag36 h42 (by kernel_rfl)) ?_)
  have h46 := (Dat.up hD9 (up_chgn (up_up (up_chgn u14 c24 (by rw [e12]; exact Nat.le_refl _)) u31) c43 (by rw [e29]; exact (up_chgn u14 c24 (by rw [e12]; exact Nat.le_refl _)).size)))
  refine wl (sc rfl (r_callv (caps := []) (all := [.slice oA9 on9 oc9]) En.f28 (by kernel_rfl) (by kernel_rfl)) (clone_sl h46) ?_)
  rintro e w47 ⟨A48, n49, c50, rfl, h51, u52⟩
  refine ⟨.slice A48 n49 c50, rfl, ?_⟩
  have M53 := Mod.trans M44 (Mod.of_up u52)
  have M54 := Mod.trans M45 (Mod.of_up u52)
  refine wl (sv rfl (v := .pointer (some ⟨b27, 9, none⟩)) (r_fieldAddr (u := .pointer (some ⟨b27, 0, none⟩)) (by kernel_rfl) (fun _ => (by kernel_rfl))) ?_)
  have h55 := (up_ob u52 h42)
  refine wl (ss rfl (k := 9) (v := .slice A48 n49 c50) (vs := [.slice A48 n49 c50]) (cs' := (opC s9.o (.slice A48 n49 c50))) (by kernel_rfl) (by kernel_rfl) rfl Ty.sz36 h55 rfl (Nat.le_of_ble_eq_true rfl) rfl ?_)
  intro w56 h57 c58
  have M59 := Mod.trans' M53 c58 (fun i hi => by injection hi with hi; rw [← hi]; exact g37)
  have M60 := Mod.trans' M54 c58 (fun i hi => by injection hi with hi; rw [← hi]; exact g38)
  refine wnil (then_n (rg_lit ?_))
  refine wmv (v := .slice oA on oc) ?_
  refine wl (sv rfl (v := opV s9.o (.slice A48 n49 c50)) (r_loads (k := 0) (by kernel_rfl) Ty.ag38 Ty.sz38 h57 (by kernel_rfl)) ?_)
  refine wl (sn rfl (cs := (opC s9.o (.slice A48 n49 c50)).toArray) (T := 38) (V := fun b => .slice (some ⟨b, 0, none⟩) 1 1) (r_buildSlice (n := 1) (ps := [(0, opV s9.o (.slice A48 n49 c50))]) Ty.un28 Ty.sz38 Ty.zv38 (by decide) (by decide) (by kernel_rfl) (by kernel_rfl)) ?_)
  intro b61 w62 e63 h64 u65
  have h66 := md_ob M59 nin0 hlb
  have l67 : lb < b61 := by rw [e63]; exact lt_ob h66
  have h68 := (chg_ob c58 (Nat.ne_of_lt l35) (up_ob u52 (chg_ob c43 (Nat.ne_of_lt l35) (up_ob u31 h34))))
  have l69 : g9 < b61 := by rw [e63]; exact lt_ob h68
  have h70 := (chg_ob c58 (Nat.ne_of_lt l36) (up_ob u52 (chg_ob c43 (Nat.ne_of_lt l36) (up_ob u31 h23))))
  have l71 : b10 < b61 := by rw [e63]; exact lt_ob h70
  have l72 : b27 < b61 := by rw [e63]; exact lt_ob h57
  have g73 : w.heap.size ≤ b61 := by rw [e63]; exact M59.size
  have g74 : w.heap.size ≤ b61 := by rw [e63]; exact M60.size
  have M75 := Mod.trans M59 (Mod.of_up u65)
  have M76 := Mod.trans M60 (Mod.of_up u65)
  have h77 := (ORow.up hF1_1 (up_up (up_chgn (up_up (up_chgn (up_up (up_chgn u14 c24 (by rw [e12]; exact Nat.le_refl _)) u31) c43 (by rw [e29]; exact (up_chgn u14 c24 (by rw [e12]; exact Nat.le_refl _)).size)) u52) c58 (by rw [e29]; exact (up_chgn u14 c24 (by rw [e12]; exact Nat.le_refl _)).size)) u65))
  have h78 := (Dat.up (Dat.chg h51 c58 ⟨(Nat.le_trans hB g37), NotU8.of h55 (by decide)⟩) u65)
  refine wl (snO rfl (L := ((S.take kk).map (·.o))) (x := s9.o) (e := .slice A48 n49 c50) (by kernel_rfl) (by kernel_rfl) h77 Ty.un28 hiO hzO hsO hbO hcO h64 h78 (by decide) (Nat.le_trans hB (Mod.refl [] w).size) M76.size (by simp; omega) ?_)
  intro A79 n80 c81 w82 e83 h84 u85
  have M86 := Mod.trans' M75 u85 (fun k hk => Nat.le_trans (Mod.refl [] w).size (h77.own k hk).1)
  have M87 := Mod.trans' M76 u85 (fun k hk => Nat.le_trans (Nat.le_refl _) (h77.own k hk).1)
  refine was (v := .slice A79 n80 c81) ?_
  refine wnil (inb_n (then_n (rg_lit ?_)))
  refine wl (sv rfl (v := .int .i64 (((kk + 1 : Nat) : Int))) (r_add (k := .i64) (m := ((kk : Int))) (n := 1) (c := (((kk + 1 : Nat) : Int))) (by kernel_rfl) (by kernel_rfl) ((IntWalk.i64_in _ (by omega)).trans (by omega))) ?_)
  refine wmv (v := .int .i64 (((kk + 1 : Nat) : Int))) ?_
  refine wnil (then_n ?_)
  refine ⟨S.length - (kk + 1), ?_, (kk + 1), A79, n80, c81, .pointer (some ⟨b10, 0, none⟩), .pointer (some ⟨b27, 0, none⟩), .bool b2, .pointer (some ⟨g9, 0 + kk * 22, none⟩), .agg #[.int .i64 s9.o.kind, .int .i64 s9.o.at_.t, .int .i64 s9.o.at_.w, .int .i64 s9.o.node.t, .int .i64 s9.o.node.w, .int .i64 s9.o.parent.t, .int .i64 s9.o.parent.w, .bool s9.o.dir, .string s9.o.name, .slice oA9 on9 oc9, .int .i64 s9.was.node.t, .int .i64 s9.was.node.w, .int .i64 s9.was.parent.t, .int .i64 s9.was.parent.w, .string s9.was.name, .bool s9.was.dir, .bool s9.was.gone, .slice iA9 in9 ic9, .int .i64 s9.was.by_.t, .int .i64 s9.was.by_.w, .bool s9.there, .bool s9.did], .pointer (some ⟨b10, 0, none⟩), opV s9.o (.slice oA9 on9 oc9), .pointer (some ⟨b27, 9, none⟩), .slice oA9 on9 oc9, .slice A48 n49 c50, .pointer (some ⟨b27, 9, none⟩), .slice oA on oc, opV s9.o (.slice A48 n49 c50), .slice (some ⟨b61, 0, none⟩) 1 1, .slice A79 n80 c81, .int .i64 (((kk + 1 : Nat) : Int)), rfl, (by kernel_rfl), M87, (by omega), (ORow.to h84 (tkP hs9).symm)⟩
  · omega
end Go.Proofs.YtefhfoioeoijlaaGreat

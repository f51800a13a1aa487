/- GW: printed by gen.py -/
import Derived.Test.YtefhfoioeoijlaaGreatGN
import Derived.Test.YtefhfoioeoijlaaGreatPlain
import Derived.Test.YtefhfoioeoijlaaGreatTyB
set_option linter.unusedVariables false
set_option linter.unusedSimpArgs false
namespace Go.Proofs.YtefhfoioeoijlaaGreat
open Go Go.RowKit Go.Sort
set_option maxHeartbeats 2000000 in
theorem findcmp_at {w : World} (s : StepD) (oA iA : Option Addr) (on oc in_ ic : Nat) (m1 m2 : Int) :
    Calls Tryz.prog 55 #[.agg #[.int .i64 s.o.kind, .int .i64 s.o.at_.t, .int .i64 s.o.at_.w, .int .i64 s.o.node.t, .int .i64 s.o.node.w, .int .i64 s.o.parent.t, .int .i64 s.o.parent.w, .bool s.o.dir, .string s.o.name, .slice oA on oc, .int .i64 s.was.node.t, .int .i64 s.was.node.w, .int .i64 s.was.parent.t, .int .i64 s.was.parent.w, .string s.was.name, .bool s.was.dir, .bool s.was.gone, .slice iA in_ ic, .int .i64 s.was.by_.t, .int .i64 s.was.by_.w, .bool s.there, .bool s.did], .agg #[.int .i64 m1, .int .i64 m2]] w fun e w' => e = .returned (.int .i64 (cmpS s.o.at_ ⟨m1, m2⟩)) ∧ Up w w' := by
  go_enter Tryz.func55, Tryz.ntmps55
  refine wp_seq (rg_lit ?_)
  refine wl (sn rfl (cs := #[.int .i64 s.o.kind, .int .i64 s.o.at_.t, .int .i64 s.o.at_.w, .int .i64 s.o.node.t, .int .i64 s.o.node.w, .int .i64 s.o.parent.t, .int .i64 s.o.parent.w, .bool s.o.dir, .string s.o.name, .slice oA on oc, .int .i64 s.was.node.t, .int .i64 s.was.node.w, .int .i64 s.was.parent.t, .int .i64 s.was.parent.w, .string s.was.name, .bool s.was.dir, .bool s.was.gone, .slice iA in_ ic, .int .i64 s.was.by_.t, .int .i64 s.was.by_.w, .bool s.there, .bool s.did]) (T := 73) (V := fun b => .pointer (some ⟨b, 0, none⟩)) (r_box (v := .agg #[.int .i64 s.o.kind, .int .i64 s.o.at_.t, .int .i64 s.o.at_.w, .int .i64 s.o.node.t, .int .i64 s.o.node.w, .int .i64 s.o.parent.t, .int .i64 s.o.parent.w, .bool s.o.dir, .string s.o.name, .slice oA on oc, .int .i64 s.was.node.t, .int .i64 s.was.node.w, .int .i64 s.was.parent.t, .int .i64 s.was.parent.w, .string s.was.name, .bool s.was.dir, .bool s.was.gone, .slice iA in_ ic, .int .i64 s.was.by_.t, .int .i64 s.was.by_.w, .bool s.there, .bool s.did]) (by kernel_rfl) rfl) ?_)
  intro b1 w2 e3 h4 u5
  have g6 : w.heap.size ≤ b1 := by rw [e3]; exact (Mod.refl [] w).size
  have M7 := Mod.trans (Mod.refl [] w) (Mod.of_up u5)
  refine wl (sn rfl (cs := #[.int .i64 m1, .int .i64 m2]) (T := 35) (V := fun b => .pointer (some ⟨b, 0, none⟩)) (r_box (v := .agg #[.int .i64 m1, .int .i64 m2]) (by kernel_rfl) rfl) ?_)
  intro b8 w9 e10 h11 u12
  have l13 : b1 < b8 := by rw [e10]; exact lt_ob h4
  have g14 : w.heap.size ≤ b8 := by rw [e10]; exact M7.size
  have M15 := Mod.trans M7 (Mod.of_up u12)
  refine was (v := .int .i64 0) ?_
  refine wnil (then_n (wp_seq (rg_lit ?_)))
  refine wl (sv rfl (v := .pointer (some ⟨b1, 0, none⟩)) (r_fieldAddr (u := .pointer (some ⟨b1, 0, none⟩)) (by kernel_rfl) (fun _ => (by kernel_rfl))) ?_)
  refine wl (sv rfl (v := .pointer (some ⟨b1, 1, none⟩)) (r_fieldAddr (u := .pointer (some ⟨b1, 0, none⟩)) (by kernel_rfl) (fun _ => (by kernel_rfl))) ?_)
  have h16 := (up_ob u12 h4)
  refine wl (sv rfl (v := .agg #[.int .i64 s.o.at_.t, .int .i64 s.o.at_.w]) (r_loads (k := 1) (by kernel_rfl) Ty.ag35 Ty.sz35 h16 (by kernel_rfl)) ?_)
  refine wl (sv rfl (v := .agg #[.int .i64 m1, .int .i64 m2]) (r_loads (k := 0) (by kernel_rfl) Ty.ag35 Ty.sz35 h11 (by kernel_rfl)) ?_)
  refine wl (sc rfl (r_callv (caps := []) (all := [.agg #[.int .i64 s.o.at_.t, .int .i64 s.o.at_.w], .agg #[.int .i64 m1, .int .i64 m2]]) En.f49 (by kernel_rfl) (by kernel_rfl)) (scompare_ups ⟨s.o.at_.t, s.o.at_.w⟩ ⟨m1, m2⟩ _) ?_)
  rintro e w17 ⟨rfl, u18⟩
  replace u18 := u18.below
  refine ⟨.int .i64 ((cmpS ⟨s.o.at_.t, s.o.at_.w⟩ ⟨m1, m2⟩)), rfl, ?_⟩
  have M19 := Mod.trans M15 (Mod.of_up u18)
  refine was (v := .int .i64 ((cmpS ⟨s.o.at_.t, s.o.at_.w⟩ ⟨m1, m2⟩))) ?_
  refine wnil (then_n (wp_ret ?_))
  refine bodyPost_ret (v := .int .i64 ((cmpS ⟨s.o.at_.t, s.o.at_.w⟩ ⟨m1, m2⟩))) (res1 rfl (rv_t (by kernel_rfl))) (by kernel_rfl) ?_
  exact ⟨rfl, (Mod.up M19)⟩
set_option maxHeartbeats 2000000 in
theorem search_at {B base : Nat} {w : World} {pA : Option Addr} {pc : Nat} {S : List StepD} (h : PRow 73 B base w (.slice pA S.length pc) S) (hn : S.length ≤ 1000000) (m1 m2 : Int) :
    Calls Tryz.prog 54 #[.slice pA S.length pc, .agg #[.int .i64 m1, .int .i64 m2], .func (.func 55) #[] #[]] w fun e w' => ∃ (i : Nat) (f : Bool), e = .returned (.tuple #[.int .i64 i, .bool f]) ∧ Found S ⟨m1, m2⟩ i f ∧ Up w w' := by
  go_enter Tryz.func54, Tryz.ntmps54
  refine wp_seq (rg_lit ?_)
  refine wl (sn rfl (cs := #[.int .i64 m1, .int .i64 m2]) (T := 35) (V := fun b => .pointer (some ⟨b, 0, none⟩)) (r_box (v := .agg #[.int .i64 m1, .int .i64 m2]) (by kernel_rfl) rfl) ?_)
  intro b1 w2 e3 h4 u5
  have g6 : w.heap.size ≤ b1 := by rw [e3]; exact (Mod.refl [] w).size
  have M7 := Mod.trans (Mod.refl [] w) (Mod.of_up u5)
  refine was (v := .int .i64 0) ?_
  refine was (v := .bool false) ?_
  refine wnil (then_n (wp_seq (rg_lit ?_)))
  refine wmv (v := .slice pA S.length pc) ?_
  refine wl (sv rfl (v := .int .i64 ((S.length : Int))) (r_len Ty.un64 (ad := pA) (n := S.length) (c := pc) (by kernel_rfl)) ?_)
  refine was (v := .int .i64 ((S.length : Int))) ?_
  refine wnil (then_n (wp_seq (rg_lit ?_)))
  refine wmv (v := .int .i64 ((S.length : Int))) ?_
  refine was (v := .int .i64 0) ?_
  refine was (v := .int .i64 ((S.length : Int))) ?_
  refine wnil (then_n (wp_seq (wp_block ?_)))
  have h8 := (PRow.up h (Mod.up M7))
  refine lp (fun n a r1 => ∃ (i1 : Nat) (j1 : Nat) (z11 z15 z16 z17 z18 z19 z20 z21 z22 z23 z24 z25 z26 z27 z28 z29 z30 z31 z32 z33 z34 : Value), (n = j1 - i1) ∧ (a = ⟨#[.slice pA S.length pc, .agg #[.int .i64 m1, .int .i64 m2], .func (.func 55) #[] #[], undef, .pointer (some ⟨b1, 0, none⟩), undef, .int .i64 0, .bool false, .int .i64 ((S.length : Int)), .int .i64 ((i1 : Int)), .int .i64 ((j1 : Int)), z11, .slice pA S.length pc, .int .i64 ((S.length : Int)), .int .i64 ((S.length : Int)), z15, z16, z17, z18, z19, z20, z21, z22, z23, z24, z25, z26, z27, z28, z29, z30, z31, z32, z33, z34, undef, undef, undef, undef, undef, undef, undef, undef, undef, undef, undef, undef, undef, undef], []⟩) ∧ (Mod [] w2 r1) ∧ (Seek S ⟨m1, m2⟩ i1 j1)) ⟨_, 0, S.length, undef, undef, undef, undef, undef, undef, undef, undef, undef, undef, undef, undef, undef, undef, undef, undef, undef, undef, undef, undef, undef, rfl, (by kernel_rfl), Mod.refl _ _, (Seek.first _ _)⟩ ?_
  rintro _ _ r1 ⟨i1, j1, z11, z15, z16, z17, z18, z19, z20, z21, z22, z23, z24, z25, z26, z27, z28, z29, z30, z31, z32, z33, z34, rfl, rfl, hM1, hF1_0⟩
  have M9 := Mod.thin M7 hM1 (by simp)
  have hz1 := hF1_0.1
  have hz2 := hF1_0.2.1
  refine wp_seq (wp_seq (rg_lit ?_))
  refine wmv (v := .int .i64 ((i1 : Int))) ?_
  refine wmv (v := .int .i64 ((j1 : Int))) ?_
  refine wl (sb rfl (r_lt (k := .i64) (m := ((i1 : Int))) (n := ((j1 : Int))) (by kernel_rfl) (by kernel_rfl)) ?_)
  intro b10 k11
  refine wnil (then_n ?_)
  refine bcase b10 (fun v12 => ?_) (fun v12 => ?_)
  ·
   have p13 := of_decide_eq_false (k11.trans v12)
   refine wp_cond_false (ebool (b := b10) (by kernel_rfl) v12) ?_
   refine wp_exit (then_x (by nofun) (then_x (by nofun) (inb_hit (then_n (wp_seq ?_)))))
   refine rg_held [] (n := 16) (by kernel_rfl) rfl ?_
   intro w14 u15
   have M16 := Mod.trans M9 (Mod.of_up u15)
   have M17 := Mod.trans hM1 (Mod.of_up u15)
   refine hvq (i := 0) (fuel := 15) rfl (fun _ _ _ h => h) (Mod.refl _ _) rfl (v := .int .i64 ((i1 : Int))) (fun _ _ => r_move (by kernel_rfl)) ?_
   refine hvq (i := 1) (fuel := 14) rfl (fun _ _ _ h => h) (Mod.refl _ _) rfl (v := .int .i64 ((i1 : Int))) (fun _ _ => r_move (by kernel_rfl)) ?_
   refine hvq (i := 2) (fuel := 13) rfl (fun _ _ _ h => h) (Mod.refl _ _) rfl (v := .int .i64 ((S.length : Int))) (fun _ _ => r_move (by kernel_rfl)) ?_
   refine hb (i := 3) (fuel := 12) rfl (by kernel_rfl) (by kernel_rfl) (by kernel_rfl) (fun _ _ _ h => h) (Mod.refl _ _) rfl (fun _ _ => r_lt (k := .i64) (m := ((i1 : Int))) (n := ((S.length : Int))) (by kernel_rfl) (by kernel_rfl)) ?_
   intro b18 k19
   refine hvq (i := 4) (fuel := 11) rfl (fun _ _ _ h => h) (Mod.refl _ _) rfl (v := .bool b18) (fun _ _ => r_move (by kernel_rfl)) ?_
   refine bcase b18 (fun v20 => ?_) (fun v20 => ?_)
   ·
    have p21 := of_decide_eq_false (k19.trans v20)
    refine hp (i := 5) (fuel := 10) rfl (by kernel_rfl) (by kernel_rfl) (by kernel_rfl) (fun _ _ _ h => h) (Mod.refl _ _) (wf (b := b18) rfl (by kernel_rfl) v20) ?_
    refine hp (i := 6) (fuel := 9) rfl (by kernel_rfl) (by kernel_rfl) (by kernel_rfl) (fun _ _ _ h => h) (Mod.refl _ _) (wf (b := b18) rfl (by kernel_rfl) v20) ?_
    refine hp (i := 7) (fuel := 8) rfl (by kernel_rfl) (by kernel_rfl) (by kernel_rfl) (fun _ _ _ h => h) (Mod.refl _ _) (wf (b := b18) rfl (by kernel_rfl) v20) ?_
    refine hp (i := 8) (fuel := 7) rfl (by kernel_rfl) (by kernel_rfl) (by kernel_rfl) (fun _ _ _ h => h) (Mod.refl _ _) (wf (b := b18) rfl (by kernel_rfl) v20) ?_
    refine hp (i := 9) (fuel := 6) rfl (by kernel_rfl) (by kernel_rfl) (by kernel_rfl) (fun _ _ _ h => h) (Mod.refl _ _) (wf (b := b18) rfl (by kernel_rfl) v20) ?_
    refine hp (i := 10) (fuel := 5) rfl (by kernel_rfl) (by kernel_rfl) (by kernel_rfl) (fun _ _ _ h => h) (Mod.refl _ _) (wf (b := b18) rfl (by kernel_rfl) v20) ?_
    refine hp (i := 11) (fuel := 4) rfl (by kernel_rfl) (by kernel_rfl) (by kernel_rfl) (fun _ _ _ h => h) (Mod.refl _ _) (wf (b := b18) rfl (by kernel_rfl) v20) ?_
    refine hp (i := 12) (fuel := 3) rfl (by kernel_rfl) (by kernel_rfl) (by kernel_rfl) (fun _ _ _ h => h) (Mod.refl _ _) (wf (b := b18) rfl (by kernel_rfl) v20) ?_
    refine hvq (i := 13) (fuel := 2) rfl (fun _ _ _ h => h) (Mod.refl _ _) rfl (v := .bool false) (fun _ _ => r_pkF (ebool (b := b18) (by kernel_rfl) v20) (by kernel_rfl)) ?_
    refine hvq (i := 14) (fuel := 1) rfl (fun _ _ _ h => h) (Mod.refl _ _) rfl (v := .int .i64 ((i1 : Int))) (fun _ _ => r_assign (by kernel_rfl)) ?_
    refine hvq (i := 15) (fuel := 0) rfl (fun _ _ _ h => h) (Mod.refl _ _) rfl (v := .bool false) (fun _ _ => r_assign (by kernel_rfl)) ?_
    refine hend (by kernel_rfl) ?_
    refine then_n (wp_ret ?_)
    refine bodyPost_ret (v := .tuple #[.int .i64 ((i1 : Int)), .bool false]) (res2 rfl (rv_t (by kernel_rfl)) (rv_t (by kernel_rfl))) (by kernel_rfl) ?_
    exact ⟨i1, false, rfl, Found.out hF1_0 (by omega) (by omega), (Mod.up M16)⟩
   have p21 := of_decide_eq_true (k19.trans v20)
   have q22 : i1 < S.length := by omega
   have q23 : i1 < S.length := by omega
   refine hvq (i := 5) (fuel := 10) rfl (fun _ _ _ h => h) (Mod.refl _ _) (wt (b := b18) rfl (by kernel_rfl) v20) (v := .func (.func 55) #[] #[]) (fun _ _ => r_move (by kernel_rfl)) ?_
   refine hvq (i := 6) (fuel := 9) rfl (fun _ _ _ h => h) (Mod.refl _ _) (wt (b := b18) rfl (by kernel_rfl) v20) (v := .slice pA S.length pc) (fun _ _ => r_move (by kernel_rfl)) ?_
   refine hvq (i := 7) (fuel := 8) rfl (fun _ _ _ h => h) (Mod.refl _ _) (wt (b := b18) rfl (by kernel_rfl) v20) (v := .int .i64 ((i1 : Int))) (fun _ _ => r_move (by kernel_rfl)) ?_
   have h24 := (PRow.up h (Mod.up M16))
   obtain ⟨s25, hs25⟩ : ∃ x, S[i1]? = some x := ⟨_, List.getElem?_eq_getElem (by omega)⟩
   obtain ⟨g25, cu25, oA25, on25, oc25, iA25, in25, ic25, hA25, hg25, hb25, he25, hD25, hE25⟩ := PRow.get h24 hs25
   replace he25 : (cu25.toList.drop (0 + i1 * 22)).take 22 = [.int .i64 s25.o.kind, .int .i64 s25.o.at_.t, .int .i64 s25.o.at_.w, .int .i64 s25.o.node.t, .int .i64 s25.o.node.w, .int .i64 s25.o.parent.t, .int .i64 s25.o.parent.w, .bool s25.o.dir, .string s25.o.name, .slice oA25 on25 oc25, .int .i64 s25.was.node.t, .int .i64 s25.was.node.w, .int .i64 s25.was.parent.t, .int .i64 s25.was.parent.w, .string s25.was.name, .bool s25.was.dir, .bool s25.was.gone, .slice iA25 in25 ic25, .int .i64 s25.was.by_.t, .int .i64 s25.was.by_.w, .bool s25.there, .bool s25.did] := by rw [Nat.zero_add]; exact he25
   refine hvq (i := 8) (fuel := 7) rfl (fun _ _ _ h => h) (Mod.refl _ _) (wt (b := b18) rfl (by kernel_rfl) v20) (v := .pointer (some ⟨g25, 0 + i1 * 22, none⟩)) (fun _ _ => r_ixaddr' (A := pA) (b := g25) (o := 0) (n := S.length) (c := pc) (sz := 22) (j := ((i1 : Int))) (by kernel_rfl) hA25 (by kernel_rfl) Ty.un64 Ty.sz73 (by omega) (by omega) (by omega)) ?_
   refine hvq (i := 9) (fuel := 6) rfl (fun _ _ _ h => h) (Mod.refl _ _) (wt (b := b18) rfl (by kernel_rfl) v20) (v := .agg #[.int .i64 s25.o.kind, .int .i64 s25.o.at_.t, .int .i64 s25.o.at_.w, .int .i64 s25.o.node.t, .int .i64 s25.o.node.w, .int .i64 s25.o.parent.t, .int .i64 s25.o.parent.w, .bool s25.o.dir, .string s25.o.name, .slice oA25 on25 oc25, .int .i64 s25.was.node.t, .int .i64 s25.was.node.w, .int .i64 s25.was.parent.t, .int .i64 s25.was.parent.w, .string s25.was.name, .bool s25.was.dir, .bool s25.was.gone, .slice iA25 in25 ic25, .int .i64 s25.was.by_.t, .int .i64 s25.was.by_.w, .bool s25.there, .bool s25.did]) (fun _ uz => r_loads (k := 0 + i1 * 22) (by kernel_rfl) Ty.ag73 Ty.sz73 (md_ob uz nin0 hb25) (el_sub0 he25 rfl)) ?_
   have h26 := md_ob M17 nin0 h4
   refine hvq (i := 10) (fuel := 5) rfl (fun _ _ _ h => h) (Mod.refl _ _) (wt (b := b18) rfl (by kernel_rfl) v20) (v := .agg #[.int .i64 m1, .int .i64 m2]) (fun _ uz => r_loads (k := 0) (by kernel_rfl) Ty.ag35 Ty.sz35 (md_ob uz nin0 h26) (by kernel_rfl)) ?_
   refine h1 (i := 11) (fuel := 4) (by kernel_rfl) rfl (sc (wt (b := b18) rfl (by kernel_rfl) v20) (r_callv (caps := []) (all := [.agg #[.int .i64 s25.o.kind, .int .i64 s25.o.at_.t, .int .i64 s25.o.at_.w, .int .i64 s25.o.node.t, .int .i64 s25.o.node.w, .int .i64 s25.o.parent.t, .int .i64 s25.o.parent.w, .bool s25.o.dir, .string s25.o.name, .slice oA25 on25 oc25, .int .i64 s25.was.node.t, .int .i64 s25.was.node.w, .int .i64 s25.was.parent.t, .int .i64 s25.was.parent.w, .string s25.was.name, .bool s25.was.dir, .bool s25.was.gone, .slice iA25 in25 ic25, .int .i64 s25.was.by_.t, .int .i64 s25.was.by_.w, .bool s25.there, .bool s25.did], .agg #[.int .i64 m1, .int .i64 m2]]) En.f55 (by kernel_rfl) (by kernel_rfl)) (findcmp_at s25 oA25 iA25 on25 oc25 in25 ic25 m1 m2) ?_)
   rintro e w27 ⟨rfl, u28⟩
   refine ⟨.int .i64 ((cmpS s25.o.at_ ⟨m1, m2⟩)), rfl, ?_⟩
   have M29 := Mod.trans M16 (Mod.of_up u28)
   have M30 := Mod.trans M17 (Mod.of_up u28)
   refine hx (Y := []) (Mod.of_up u28) (fun y hy => .inl hy) ?_
   refine hb (i := 12) (fuel := 3) rfl (by kernel_rfl) (by kernel_rfl) (by kernel_rfl) (fun _ _ _ h => h) (Mod.refl _ _) (wt (b := b18) rfl (by kernel_rfl) v20) (fun _ _ => r_eq (k := .i64) (m := ((cmpS s25.o.at_ ⟨m1, m2⟩))) (n := 0) (by kernel_rfl) (by kernel_rfl)) ?_
   intro b31 k32
   refine hvq (i := 13) (fuel := 2) rfl (fun _ _ _ h => h) (Mod.refl _ _) rfl (v := .bool b31) (fun _ _ => r_pkT (ebool (b := b18) (by kernel_rfl) v20) (by kernel_rfl)) ?_
   refine hvq (i := 14) (fuel := 1) rfl (fun _ _ _ h => h) (Mod.refl _ _) rfl (v := .int .i64 ((i1 : Int))) (fun _ _ => r_assign (by kernel_rfl)) ?_
   refine hvq (i := 15) (fuel := 0) rfl (fun _ _ _ h => h) (Mod.refl _ _) rfl (v := .bool b31) (fun _ _ => r_assign (by kernel_rfl)) ?_
   refine hend (by kernel_rfl) ?_
   refine then_n (wp_ret ?_)
   refine bodyPost_ret (v := .tuple #[.int .i64 ((i1 : Int)), .bool b31]) (res2 rfl (rv_t (by kernel_rfl)) (rv_t (by kernel_rfl))) (by kernel_rfl) ?_
   exact ⟨i1, _, rfl, (by rw [← k32]; exact Found.at_ hF1_0 (by omega) hs25), (Mod.up M29)⟩
  have p13 := of_decide_eq_true (k11.trans v12)
  have q14 : i1 < j1 := by omega
  have q15 : i1 < j1 := by omega
  refine wp_cond_true (ebool (b := b10) (by kernel_rfl) v12) ?_
  refine wp_skip (then_n (wp_block (wp_seq (rg_lit ?_))))
  refine wmv (v := .int .i64 ((i1 : Int))) ?_
  refine wmv (v := .int .i64 ((j1 : Int))) ?_
  refine wl (sv rfl (v := .int .i64 (((i1 + j1 : Nat) : Int))) (r_add (k := .i64) (m := ((i1 : Int))) (n := ((j1 : Int))) (c := (((i1 + j1 : Nat) : Int))) (by kernel_rfl) (by kernel_rfl) ((IntWalk.i64_in _ (by omega)).trans (by omega))) ?_)
  refine wl (sv rfl (v := .int .u64 (((i1 + j1 : Nat) : Int))) (r_toUn (m := (i1 + j1)) (by kernel_rfl) (by omega)) ?_)
  refine wl (sv rfl (v := .int .u64 ((((i1 + j1) / 2 : Nat) : Int))) (r_halfn (m := (i1 + j1)) (by kernel_rfl) (by kernel_rfl)) ?_)
  refine wl (sv rfl (v := .int .i64 ((((i1 + j1) / 2 : Nat) : Int))) (r_toIn (m := ((i1 + j1) / 2)) (by kernel_rfl) (by omega)) ?_)
  refine was (v := .int .i64 ((((i1 + j1) / 2 : Nat) : Int))) ?_
  refine wnil (then_n (wp_seq ?_))
  refine rg_tail 6 (by kernel_rfl) (by kernel_rfl) rfl rfl ?_
  refine qmv (v := .func (.func 55) #[] #[]) ?_
  refine qmv (v := .slice pA S.length pc) ?_
  refine qmv (v := .int .i64 ((((i1 + j1) / 2 : Nat) : Int))) ?_
  have h16 := (PRow.up h (Mod.up M9))
  obtain ⟨s17, hs17⟩ : ∃ x, S[(i1 + j1) / 2]? = some x := ⟨_, List.getElem?_eq_getElem (by omega)⟩
  obtain ⟨g17, cu17, oA17, on17, oc17, iA17, in17, ic17, hA17, hg17, hb17, he17, hD17, hE17⟩ := PRow.get h16 hs17
  replace he17 : (cu17.toList.drop (0 + ((i1 + j1) / 2) * 22)).take 22 = [.int .i64 s17.o.kind, .int .i64 s17.o.at_.t, .int .i64 s17.o.at_.w, .int .i64 s17.o.node.t, .int .i64 s17.o.node.w, .int .i64 s17.o.parent.t, .int .i64 s17.o.parent.w, .bool s17.o.dir, .string s17.o.name, .slice oA17 on17 oc17, .int .i64 s17.was.node.t, .int .i64 s17.was.node.w, .int .i64 s17.was.parent.t, .int .i64 s17.was.parent.w, .string s17.was.name, .bool s17.was.dir, .bool s17.was.gone, .slice iA17 in17 ic17, .int .i64 s17.was.by_.t, .int .i64 s17.was.by_.w, .bool s17.there, .bool s17.did] := by rw [Nat.zero_add]; exact he17
  refine qv rfl (v := .pointer (some ⟨g17, 0 + ((i1 + j1) / 2) * 22, none⟩)) (fun _ _ => r_ixaddr' (A := pA) (b := g17) (o := 0) (n := S.length) (c := pc) (sz := 22) (j := ((((i1 + j1) / 2 : Nat) : Int))) (by kernel_rfl) hA17 (by kernel_rfl) Ty.un64 Ty.sz73 (by omega) (by omega) (by omega)) ?_
  refine qv rfl (v := .agg #[.int .i64 s17.o.kind, .int .i64 s17.o.at_.t, .int .i64 s17.o.at_.w, .int .i64 s17.o.node.t, .int .i64 s17.o.node.w, .int .i64 s17.o.parent.t, .int .i64 s17.o.parent.w, .bool s17.o.dir, .string s17.o.name, .slice oA17 on17 oc17, .int .i64 s17.was.node.t, .int .i64 s17.was.node.w, .int .i64 s17.was.parent.t, .int .i64 s17.was.parent.w, .string s17.was.name, .bool s17.was.dir, .bool s17.was.gone, .slice iA17 in17 ic17, .int .i64 s17.was.by_.t, .int .i64 s17.was.by_.w, .bool s17.there, .bool s17.did]) (fun _ uz => r_loads (k := 0 + ((i1 + j1) / 2) * 22) (by kernel_rfl) Ty.ag73 Ty.sz73 (up_ob uz hb17) (el_sub0 he17 rfl)) ?_
  have h18 := md_ob hM1 nin0 h4
  refine qv rfl (v := .agg #[.int .i64 m1, .int .i64 m2]) (fun _ uz => r_loads (k := 0) (by kernel_rfl) Ty.ag35 Ty.sz35 (up_ob uz h18) (by kernel_rfl)) ?_
  refine qnil ?_
  intro w19 u20
  have M21 := Mod.trans M9 (Mod.of_up u20)
  have M22 := Mod.trans hM1 (Mod.of_up u20)
  refine wl (sc rfl (r_callv (caps := []) (all := [.agg #[.int .i64 s17.o.kind, .int .i64 s17.o.at_.t, .int .i64 s17.o.at_.w, .int .i64 s17.o.node.t, .int .i64 s17.o.node.w, .int .i64 s17.o.parent.t, .int .i64 s17.o.parent.w, .bool s17.o.dir, .string s17.o.name, .slice oA17 on17 oc17, .int .i64 s17.was.node.t, .int .i64 s17.was.node.w, .int .i64 s17.was.parent.t, .int .i64 s17.was.parent.w, .string s17.was.name, .bool s17.was.dir, .bool s17.was.gone, .slice iA17 in17 ic17, .int .i64 s17.was.by_.t, .int .i64 s17.was.by_.w, .bool s17.there, .bool s17.did], .agg #[.int .i64 m1, .int .i64 m2]]) En.f55 (by kernel_rfl) (by kernel_rfl)) (findcmp_at s17 oA17 iA17 on17 oc17 in17 ic17 m1 m2) ?_)
  rintro e w23 ⟨rfl, u24⟩
  refine ⟨.int .i64 ((cmpS s17.o.at_ ⟨m1, m2⟩)), rfl, ?_⟩
  have M25 := Mod.trans M21 (Mod.of_up u24)
  have M26 := Mod.trans M22 (Mod.of_up u24)
  refine wl (sb rfl (r_lt (k := .i64) (m := ((cmpS s17.o.at_ ⟨m1, m2⟩))) (n := 0) (by kernel_rfl) (by kernel_rfl)) ?_)
  intro b27 k28
  refine wnil (then_n ?_)
  refine bcase b27 (fun v29 => ?_) (fun v29 => ?_)
  ·
   have p30 := of_decide_eq_false (k28.trans v29)
   refine wp_cond_false (ebool (b := b27) (by kernel_rfl) v29) ?_
   refine rg_lit ?_
   refine wmv (v := .int .i64 ((((i1 + j1) / 2 : Nat) : Int))) ?_
   refine was (v := .int .i64 ((((i1 + j1) / 2 : Nat) : Int))) ?_
   refine wnil (inb_n (then_n ?_))
   refine ⟨((i1 + j1) / 2) - i1, ?_, i1, ((i1 + j1) / 2), .int .i64 ((((i1 + j1) / 2 : Nat) : Int)), .int .i64 ((i1 : Int)), .int .i64 ((j1 : Int)), .bool b10, .int .i64 ((i1 : Int)), .int .i64 ((j1 : Int)), .int .i64 (((i1 + j1 : Nat) : Int)), .int .u64 (((i1 + j1 : Nat) : Int)), .int .u64 ((((i1 + j1) / 2 : Nat) : Int)), .int .i64 ((((i1 + j1) / 2 : Nat) : Int)), .func (.func 55) #[] #[], .slice pA S.length pc, .int .i64 ((((i1 + j1) / 2 : Nat) : Int)), .pointer (some ⟨g17, 0 + ((i1 + j1) / 2) * 22, none⟩), .agg #[.int .i64 s17.o.kind, .int .i64 s17.o.at_.t, .int .i64 s17.o.at_.w, .int .i64 s17.o.node.t, .int .i64 s17.o.node.w, .int .i64 s17.o.parent.t, .int .i64 s17.o.parent.w, .bool s17.o.dir, .string s17.o.name, .slice oA17 on17 oc17, .int .i64 s17.was.node.t, .int .i64 s17.was.node.w, .int .i64 s17.was.parent.t, .int .i64 s17.was.parent.w, .string s17.was.name, .bool s17.was.dir, .bool s17.was.gone, .slice iA17 in17 ic17, .int .i64 s17.was.by_.t, .int .i64 s17.was.by_.w, .bool s17.there, .bool s17.did], .agg #[.int .i64 m1, .int .i64 m2], .int .i64 ((cmpS s17.o.at_ ⟨m1, m2⟩)), .bool b27, z32, z33, .int .i64 ((((i1 + j1) / 2 : Nat) : Int)), rfl, (by kernel_rfl), M26, (Seek.no hF1_0 (by omega) (by omega) hs17 (cmpS_no p30))⟩
   · omega
  have p30 := of_decide_eq_true (k28.trans v29)
  refine wp_cond_true (ebool (b := b27) (by kernel_rfl) v29) ?_
  refine rg_lit ?_
  refine wmv (v := .int .i64 ((((i1 + j1) / 2 : Nat) : Int))) ?_
  refine wl (sv rfl (v := .int .i64 ((((i1 + j1) / 2 + 1 : Nat) : Int))) (r_add (k := .i64) (m := ((((i1 + j1) / 2 : Nat) : Int))) (n := 1) (c := ((((i1 + j1) / 2 + 1 : Nat) : Int))) (by kernel_rfl) (by kernel_rfl) ((IntWalk.i64_in _ (by omega)).trans (by omega))) ?_)
  refine was (v := .int .i64 ((((i1 + j1) / 2 + 1 : Nat) : Int))) ?_
  refine wnil (inb_n (then_n ?_))
  refine ⟨j1 - ((i1 + j1) / 2 + 1), ?_, ((i1 + j1) / 2 + 1), j1, .int .i64 ((((i1 + j1) / 2 : Nat) : Int)), .int .i64 ((i1 : Int)), .int .i64 ((j1 : Int)), .bool b10, .int .i64 ((i1 : Int)), .int .i64 ((j1 : Int)), .int .i64 (((i1 + j1 : Nat) : Int)), .int .u64 (((i1 + j1 : Nat) : Int)), .int .u64 ((((i1 + j1) / 2 : Nat) : Int)), .int .i64 ((((i1 + j1) / 2 : Nat) : Int)), .func (.func 55) #[] #[], .slice pA S.length pc, .int .i64 ((((i1 + j1) / 2 : Nat) : Int)), .pointer (some ⟨g17, 0 + ((i1 + j1) / 2) * 22, none⟩), .agg #[.int .i64 s17.o.kind, .int .i64 s17.o.at_.t, .int .i64 s17.o.at_.w, .int .i64 s17.o.node.t, .int .i64 s17.o.node.w, .int .i64 s17.o.parent.t, .int .i64 s17.o.parent.w, .bool s17.o.dir, .string s17.o.name, .slice oA17 on17 oc17, .int .i64 s17.was.node.t, .int .i64 s17.was.node.w, .int .i64 s17.was.parent.t, .int .i64 s17.was.parent.w, .string s17.was.name, .bool s17.was.dir, .bool s17.was.gone, .slice iA17 in17 ic17, .int .i64 s17.was.by_.t, .int .i64 s17.was.by_.w, .bool s17.there, .bool s17.did], .agg #[.int .i64 m1, .int .i64 m2], .int .i64 ((cmpS s17.o.at_ ⟨m1, m2⟩)), .bool b27, .int .i64 ((((i1 + j1) / 2 : Nat) : Int)), .int .i64 ((((i1 + j1) / 2 + 1 : Nat) : Int)), z34, rfl, (by kernel_rfl), M26, (Seek.yes hF1_0 (by omega) (by omega) hs17 (cmpS_yes p30))⟩
  · omega
end Go.Proofs.YtefhfoioeoijlaaGreat

/- GLD: printed by gen.py -/
import Derived.Test.YtefhfoioeoijlaaGreatChg
import Derived.Test.YtefhfoioeoijlaaGreatGLB
set_option linter.unusedVariables false
set_option linter.unusedSimpArgs false
namespace Go.Proofs.YtefhfoioeoijlaaGreat
open Go Go.RowKit Go.Sort
set_option maxHeartbeats 2000000 in
theorem loginsert_at {B : Nat} {w : World} {lb tb r pc : Nat} {pA : Option Addr} {ops : List OpD} (h : LogIs B w lb tb r (.slice pA (recAll [] ops).length pc) ops) (hB : B ≤ w.heap.size) (hlen : ops.length ≤ 140) (o : OpD) (oA : Option Addr) (on oc : Nat) (hd : Dat B w (.slice oA on oc) o.data) (hname : o.name.size ≤ 9223372036854775807) :
    Calls Tryz.prog 20 #[trP lb, opV o (.slice oA on oc)] w fun e w' => ∃ nn kk, e = .returned (.tuple #[.int .i64 nn, .int .i64 kk]) ∧ LogStep B w w' lb tb r (.slice pA (recAll [] ops).length pc) (insL ops o) ∧ ansI ops o nn kk := by
  have h0 := h
  obtain ⟨hlb, h2, hp, hBl, hso, hnm⟩ := h0
  have hrl := recAll_len ops []
  have hn6 : (recAll [] ops).length ≤ 1000000 := by omega
  obtain ⟨hr_es, hr_cl, hr_xs, hr, _⟩ := h2.2.2.2.1
  have hlr : lb ≠ r := fun e => h2.2.2.2.1.noCells _ _ _ (by rw [← e]; exact hlb)
  have hdid := rec_did ops [] (by simp [Srt])
  have hML : (playA ops).length + (recAll [] ops).length ≤ 300 := by have := play_one ops []; rw [hrl]; unfold playA; simp only [List.length_nil, Nat.zero_add] at this; omega
  have hon := (Dat.len hd).1
  go_enter Tryz.func20, Tryz.ntmps20
  refine wp_seq (rg_lit ?_)
  refine wl (sn rfl (cs := #[.pointer (some ⟨lb, 0, none⟩)]) (T := 25) (V := fun b => .pointer (some ⟨b, 0, none⟩)) (r_box (v := .pointer (some ⟨lb, 0, none⟩)) (by kernel_rfl) rfl) ?_)
  intro b1 w2 e3 h4 u5
  have l6 : lb < b1 := by rw [e3]; exact lt_ob hlb
  have l7 : r < b1 := by rw [e3]; exact lt_ob hr
  have g8 : w.heap.size ≤ b1 := by rw [e3]; exact (Mod.refl [] w).size
  have M9 := Mod.trans (Mod.refl [] w) (Mod.of_up u5)
  refine wl (sn rfl (cs := (opC o (.slice oA on oc)).toArray) (T := 38) (V := fun b => .pointer (some ⟨b, 0, none⟩)) (r_box (v := opV o (.slice oA on oc)) (by kernel_rfl) rfl) ?_)
  intro b10 w11 e12 h13 u14
  have h15 := md_ob M9 nin0 hlb
  have l16 : lb < b10 := by rw [e12]; exact lt_ob h15
  have h17 := md_ob M9 nin0 hr
  have l18 : r < b10 := by rw [e12]; exact lt_ob h17
  have l19 : b1 < b10 := by rw [e12]; exact lt_ob h4
  have g20 : w.heap.size ≤ b10 := by rw [e12]; exact M9.size
  have M21 := Mod.trans M9 (Mod.of_up u14)
  refine was (v := .int .i64 0) ?_
  refine was (v := .int .i64 0) ?_
  refine wnil (then_n (wp_seq (wp_seq (rg_lit ?_))))
  have h22 := (up_ob u14 h4)
  refine wl (sv rfl (v := .pointer (some ⟨lb, 0, none⟩)) (r_load (k := 0) (by kernel_rfl) Ty.ag25 h22 (by kernel_rfl)) ?_)
  refine wl (sv (w' := w11) rfl (v := .bool false) (by kernel_rfl) ?_)
  refine wnil (then_n ?_)
  refine wp_cond_false (by kernel_rfl) ?_
  refine wp_skip (then_n (wp_seq (wp_seq (rg_lit ?_))))
  refine wl (sv rfl (v := opV o (.slice oA on oc)) (r_loads (k := 0) (by kernel_rfl) Ty.ag38 Ty.sz38 h13 (by kernel_rfl)) ?_)
  refine wl (sc rfl (r_callv (caps := []) (all := [opV o (.slice oA on oc)]) En.f35 (by kernel_rfl) (by kernel_rfl)) (opright_any o oA on oc hon hname _) ?_)
  rintro e w23 ⟨rfl, u24⟩
  refine ⟨.bool ((rightB o)), rfl, ?_⟩
  have M25 := Mod.trans M21 (Mod.of_up u24)
  refine wl (sv rfl (v := .bool (!((rightB o)))) (r_not (b := ((rightB o))) (by kernel_rfl)) ?_)
  refine wnil (then_n ?_)
  refine bcase ((rightB o)) (fun v26 => ?_) (fun v26 => ?_)
  ·
   refine wp_cond_true (ebool (b := !((rightB o))) (by kernel_rfl) (bneg v26)) ?_
   refine wp_seq (rg_lit ?_)
   refine was (v := .int .i64 0) ?_
   refine was (v := .int .i64 1) ?_
   refine wnil (then_n (wp_ret (then_x (by nofun) ?_)))
   refine bodyPost_ret (v := .tuple #[.int .i64 0, .int .i64 1]) (res2 rfl (rv_t (by kernel_rfl)) (rv_t (by kernel_rfl))) (by kernel_rfl) ?_
   exact ⟨_, _, rfl, LogStep.same h (Mod.up M25) (by unfold insL; rw [if_neg (by rw [v26]; simp)]), ans_bad (by rw [v26])⟩
  refine wp_cond_false (ebool (b := !((rightB o))) (by kernel_rfl) (bneg v26)) ?_
  refine wp_skip (then_n (wp_seq (rg_lit ?_)))
  have h27 := (up_ob u24 h22)
  refine wl (sv rfl (v := .pointer (some ⟨lb, 0, none⟩)) (r_load (k := 0) (by kernel_rfl) Ty.ag25 h27 (by kernel_rfl)) ?_)
  refine wl (sv rfl (v := .pointer (some ⟨b10, 1, none⟩)) (r_fieldAddr (u := .pointer (some ⟨b10, 0, none⟩)) (by kernel_rfl) (fun _ => (by kernel_rfl))) ?_)
  have h28 := (up_ob u24 h13)
  refine wl (sv rfl (v := .agg #[.int .i64 o.at_.t, .int .i64 o.at_.w]) (r_loads (k := 1) (by kernel_rfl) Ty.ag35 Ty.sz35 h28 (by kernel_rfl)) ?_)
  have h32 := md_ob M25 nin0 hlb
  have h33 := (PRow.up hp (Mod.up M25))
  refine wl (sc rfl (r_callv (caps := []) (all := [.pointer (some ⟨lb, 0, none⟩), .agg #[.int .i64 o.at_.t, .int .i64 o.at_.w]]) En.f34 (by kernel_rfl) (by kernel_rfl)) (find_at h32 h33 hn6 o.at_.t o.at_.w) ?_)
  rintro e w29 ⟨i0, fb, rfl, h30, u31⟩
  refine ⟨.tuple #[.int .i64 ((i0 : Int)), .bool fb], rfl, ?_⟩
  have M34 := Mod.trans M25 (Mod.of_up u31)
  have hle := found_le h30
  replace h30 : Found (recAll [] ops) o.at_ i0 fb := h30
  refine wmv (v := .tuple #[.int .i64 ((i0 : Int)), .bool fb]) ?_
  refine wl (sv rfl (v := .int .i64 ((i0 : Int))) (r_extract (vs := [.int .i64 ((i0 : Int)), .bool fb]) (by kernel_rfl) rfl) ?_)
  refine wl (sv rfl (v := .bool fb) (r_extract (vs := [.int .i64 ((i0 : Int)), .bool fb]) (by kernel_rfl) rfl) ?_)
  refine wl (sn rfl (cs := #[.int .i64 0]) (T := 3) (V := fun b => .pointer (some ⟨b, 0, none⟩)) (r_alloc Ty.zv3 rfl) ?_)
  intro b35 w36 e37 h38 u39
  have h40 := md_ob M34 nin0 hlb
  have l41 : lb < b35 := by rw [e37]; exact lt_ob h40
  have h42 := md_ob M34 nin0 hr
  have l43 : r < b35 := by rw [e37]; exact lt_ob h42
  have h44 := (up_ob u31 h27)
  have l45 : b1 < b35 := by rw [e37]; exact lt_ob h44
  have h46 := (up_ob u31 h28)
  have l47 : b10 < b35 := by rw [e37]; exact lt_ob h46
  have g48 : w.heap.size ≤ b35 := by rw [e37]; exact M34.size
  have M49 := Mod.trans M34 (Mod.of_up u39)
  refine wl (ss rfl (k := 0) (v := .int .i64 ((i0 : Int))) (vs := [.int .i64 ((i0 : Int))]) (cs' := [.int .i64 ((i0 : Int))]) (by kernel_rfl) (by kernel_rfl) rfl Ty.sz3 h38 rfl (Nat.le_of_ble_eq_true rfl) rfl ?_)
  intro w50 h51 c52
  have M53 := Mod.trans' M49 c52 (fun i hi => by injection hi with hi; rw [← hi]; exact g48)
  refine was (v := .bool fb) ?_
  refine wnil (then_n (wp_seq (wp_seq (rg_lit ?_))))
  refine wmv (v := .bool fb) ?_
  refine wnil (then_n ?_)
  refine bcase fb (fun v54 => ?_) (fun v54 => ?_)
  ·
   refine wp_cond_false (ebool (b := fb) (by kernel_rfl) v54) ?_
   refine wp_skip (then_n (wp_seq (rg_lit ?_)))
   refine wl (sv rfl (v := .pointer (some ⟨b10, 9, none⟩)) (r_fieldAddr (u := .pointer (some ⟨b10, 0, none⟩)) (by kernel_rfl) (fun _ => (by kernel_rfl))) ?_)
   have h55 := (chg_ob c52 (Nat.ne_of_lt l47) (up_ob u39 h46))
   refine wl (sv rfl (v := .slice oA on oc) (r_load (k := 9) (by kernel_rfl) Ty.ag36 h55 (by kernel_rfl)) ?_)
   have h56 := (Dat.up hd (Mod.up M53))
   refine wl (sc rfl (r_callv (caps := []) (all := [.slice oA on oc]) En.f28 (by kernel_rfl) (by kernel_rfl)) (clone_sl h56) ?_)
   rintro e w57 ⟨A58, n59, c60, rfl, h61, u62⟩
   refine ⟨.slice A58 n59 c60, rfl, ?_⟩
   have M63 := Mod.trans M53 (Mod.of_up u62)
   refine wl (sv rfl (v := .pointer (some ⟨b10, 9, none⟩)) (r_fieldAddr (u := .pointer (some ⟨b10, 0, none⟩)) (by kernel_rfl) (fun _ => (by kernel_rfl))) ?_)
   have h64 := (up_ob u62 h55)
   refine wl (ss rfl (k := 9) (v := .slice A58 n59 c60) (vs := [.slice A58 n59 c60]) (cs' := (opC o (.slice A58 n59 c60))) (by kernel_rfl) (by kernel_rfl) rfl Ty.sz36 h64 rfl (Nat.le_of_ble_eq_true rfl) rfl ?_)
   intro w65 h66 c67
   have M68 := Mod.trans' M63 c67 (fun i hi => by injection hi with hi; rw [← hi]; exact g20)
   refine wnil (then_n (wp_seq ?_))
   refine rg_all (by kernel_rfl) (by kernel_rfl) ?_
   have h69 := (chg_ob c67 (Nat.ne_of_lt l19) (up_ob u62 (chg_ob c52 (Nat.ne_of_lt l45) (up_ob u39 h44))))
   refine qv rfl (v := .pointer (some ⟨lb, 0, none⟩)) (fun _ uz => r_load (k := 0) (by kernel_rfl) Ty.ag25 (up_ob uz h69) (by kernel_rfl)) ?_
   refine qv rfl (v := .pointer (some ⟨lb, 0, none⟩)) (fun _ _ => r_nilCheck (by kernel_rfl)) ?_
   refine qv rfl (v := .pointer (some ⟨lb, 0, none⟩)) (fun _ _ => r_fieldAddr (u := .pointer (some ⟨lb, 0, none⟩)) (by kernel_rfl) (fun _ => (by kernel_rfl))) ?_
   have h70 := md_ob M68 nin0 hlb
   refine qv rfl (v := .slice pA ((recAll [] ops).length) pc) (fun _ uz => r_load (k := 0) (by kernel_rfl) Ty.ag64 (up_ob uz h70) (by kernel_rfl)) ?_
   refine qv rfl (v := .int .i64 ((((recAll [] ops).length) : Int))) (fun _ _ => r_len Ty.un64 (ad := pA) (n := ((recAll [] ops).length)) (c := pc) (by kernel_rfl)) ?_
   have h71 := (chg_ob c67 (Nat.ne_of_gt l47) (up_ob u62 h51))
   refine qv rfl (v := .int .i64 ((i0 : Int))) (fun _ uz => r_load (k := 0) (by kernel_rfl) Ty.ag3 (up_ob uz h71) (by kernel_rfl)) ?_
   refine qv rfl (v := .int .i64 (((((recAll [] ops).length) : Int)) - ((i0 : Int)))) (fun _ _ => r_sub (k := .i64) (m := ((((recAll [] ops).length) : Int))) (n := ((i0 : Int))) (by kernel_rfl) (by kernel_rfl) (IntWalk.i64_in _ (by omega))) ?_
   refine qas (v := .int .i64 (((((recAll [] ops).length) : Int)) - ((i0 : Int)))) ?_
   refine qnil ?_
   intro w72 u73
   have M74 := Mod.trans M68 (Mod.of_up u73)
   refine then_n (wp_seq (rg_lit ?_))
   have h75 := (up_ob u73 h69)
   refine wl (sv rfl (v := .pointer (some ⟨lb, 0, none⟩)) (r_load (k := 0) (by kernel_rfl) Ty.ag25 h75 (by kernel_rfl)) ?_)
   have h76 := (up_ob u73 h71)
   refine wl (sv rfl (v := .int .i64 ((i0 : Int))) (r_load (k := 0) (by kernel_rfl) Ty.ag3 h76 (by kernel_rfl)) ?_)
   refine wl (sv rfl (v := .func (.func 37) #[] #[.pointer (some ⟨b1, 0, none⟩), .pointer (some ⟨b35, 0, none⟩), .pointer (some ⟨b10, 0, none⟩)]) (r_makeFunc (us := []) (vs := [.pointer (some ⟨b1, 0, none⟩), .pointer (some ⟨b35, 0, none⟩), .pointer (some ⟨b10, 0, none⟩)]) rfl (by kernel_rfl)) ?_)
   have h77 := (TreeIs.up h2 (up_up (up_chgn (up_up (up_chgn (up_up (up_up (up_up (up_up u5 u14) u24) u31) u39) c52 (by rw [e37]; exact (up_up (up_up (up_up u5 u14) u24) u31).size)) u62) c67 (by rw [e12]; exact u5.size)) u73))
   have h78 := (PRow.up hp (Mod.up M74))
   have h79 := (up_ob u73 h66)
   have h80 := md_ob M74 nin0 hlb
   have h81 := md_ob M74 nin0 hr
   have nr0 := (Nat.ne_of_gt l7)
   have nr1 := (Nat.ne_of_gt l43)
   have nr2 := (Nat.ne_of_gt l18)
   obtain ⟨S2, eS2⟩ : ∃ x, x = (recAll [] ops).take i0 ++ [newStep o] ++ (recAll [] ops).drop i0 := ⟨_, rfl⟩
   have hSl : S2.length ≤ 100000 := by rw [eS2]; simp; omega
   have hSi : i0 ≤ S2.length := by rw [eS2]; simp; omega
   have hSn : ∀ s ∈ S2, s.o.name.size ≤ 9223372036854775807 := fun s hs => names_ins (o := o) hnm hname s (by rw [eS2] at hs; exact hs)
   have hXw : ∀ x ∈ lb :: (Value.ownBlock (.slice pA (recAll [] ops).length pc)).toList, x < w72.heap.size := fun x hx => foot_lt h80 h78 x hx
   have h82 := (Dat.up (Dat.chg h61 c67 ⟨(Nat.le_trans hB g20), NotU8.of h64 (by decide)⟩) u73)
   have hdW := h82
   have hwc : w.heap.size ≤ w72.heap.size := (M74).size
   have hB7 : B ≤ w72.heap.size := Nat.le_trans hB hwc
   have hle6 : i0 ≤ (recAll [] ops).length := by rw [hrl]; exact hle
   refine wl (sc rfl (r_callv (caps := []) (all := [.pointer (some ⟨lb, 0, none⟩), .int .i64 ((i0 : Int)), .func (.func 37) #[] #[.pointer (some ⟨b1, 0, none⟩), .pointer (some ⟨b35, 0, none⟩), .pointer (some ⟨b10, 0, none⟩)]]) En.f36 (by kernel_rfl) (by kernel_rfl)) (change_at (caps := [.pointer (some ⟨b1, 0, none⟩), .pointer (some ⟨b35, 0, none⟩), .pointer (some ⟨b10, 0, none⟩)]) (i0 := i0) (S' := S2) h80 h77 hB7 h78 (Nat.le_refl _) (by omega) (by omega) hdid hML En.f37 hXw hSi hSl hSn (fun W k1 k2 k3 km => by rw [eS2]; exact how_tree k1 k2 k3 hBl (insC_at (md_ob km (nin1 nr0) h75) (md_ob km (nin1 nr1) h76) (md_ob km (nin1 nr2) h79) k1 k3 (hdW.chg (Mod.chg km) ⟨h2.2.2.1, NotU8.map h81⟩) hle6 (by omega) (Nat.le_refl _) (Nat.le_trans hB7 km.size) hBl))) ?_)
   rintro e wz ⟨rfl, A2, c2, k1, k2, k3, k4, k5⟩
   refine ⟨_, rfl, ?_⟩
   rw [v54] at h30
   have n83 : b1 ∉ r :: lb :: (Value.ownBlock (.slice pA (recAll [] ops).length pc)).toList := ninc nr0 (ninc ((Nat.ne_of_gt l6)) (fun hm => PRow.neT h78 h75 (by decide) (by simpa using hm)))
   have h84 := md_ob k4 n83 h75
   have n85 : b35 ∉ r :: lb :: (Value.ownBlock (.slice pA (recAll [] ops).length pc)).toList := ninc nr1 (ninc ((Nat.ne_of_gt l41)) (fun hm => PRow.neT h78 h76 (by decide) (by simpa using hm)))
   have h86 := md_ob k4 n85 h76
   have n87 : b10 ∉ r :: lb :: (Value.ownBlock (.slice pA (recAll [] ops).length pc)).toList := ninc nr2 (ninc ((Nat.ne_of_gt l16)) (fun hm => PRow.neT h78 h79 (by decide) (by simpa using hm)))
   have h88 := md_ob k4 n87 h79
   have M89 := Mod.trans (Mod.of_mod (Y := r :: lb :: (Value.ownBlock (.slice pA (recAll [] ops).length pc)).toList) M74 (by simp)) k4
   refine wnil (then_n (wp_seq (rg_lit ?_)))
   refine wmv (v := .int .i64 (((((recAll [] ops).length) : Int)) - ((i0 : Int)))) ?_
   refine was (v := .int .i64 (((((recAll [] ops).length) : Int)) - ((i0 : Int)))) ?_
   refine was (v := .int .i64 0) ?_
   refine wnil (then_n (wp_ret ?_))
   refine bodyPost_ret (v := .tuple #[.int .i64 (((((recAll [] ops).length) : Int)) - ((i0 : Int))), .int .i64 0]) (res2 rfl (rv_t (by kernel_rfl)) (rv_t (by kernel_rfl))) (by kernel_rfl) ?_
   have hstep : LogStep B w wz lb tb r (.slice pA (recAll [] ops).length pc) (insL ops o) := by
     refine ⟨_, ins_end h h30 v26 hname eS2 k1 k2 k3, M89, ?_⟩
     intro g hg
     rcases k5 g hg with hx | hx
     · rcases List.mem_cons.1 hx with rfl | hx
       · exact absurd hg (PRow.neT k3 k1 (by decide))
       · left; simpa using hx
     · right; exact Nat.le_trans hwc hx
   exact ⟨_, _, rfl, hstep, ans_ok v26 hso h30 (by omega)⟩
  refine wp_cond_true (ebool (b := fb) (by kernel_rfl) v54) ?_
  refine wp_seq (rg_lit ?_)
  refine was (v := .int .i64 0) ?_
  refine was (v := .int .i64 8) ?_
  refine wnil (then_n (wp_ret (then_x (by nofun) ?_)))
  refine bodyPost_ret (v := .tuple #[.int .i64 0, .int .i64 8]) (res2 rfl (rv_t (by kernel_rfl)) (rv_t (by kernel_rfl))) (by kernel_rfl) ?_
  rw [v54] at h30
  exact ⟨_, _, rfl, LogStep.same h (Mod.up M53) (by unfold insL; rw [if_neg (by rw [← found_has hso h30]; simp)]), ans_rep (by rw [v26]) (found_has hso h30).symm⟩
set_option maxHeartbeats 2000000 in
theorem logremove_at {B : Nat} {w : World} {lb tb r pc : Nat} {pA : Option Addr} {ops : List OpD} (h : LogIs B w lb tb r (.slice pA (recAll [] ops).length pc) ops) (hB : B ≤ w.heap.size) (hlen : ops.length ≤ 140) (m1 m2 : Int) :
    Calls Tryz.prog 23 #[trP lb, .agg #[.int .i64 m1, .int .i64 m2]] w fun e w' => ∃ nn kk, e = .returned (.tuple #[.int .i64 nn, .int .i64 kk]) ∧ LogStep B w w' lb tb r (.slice pA (recAll [] ops).length pc) (remL ops ⟨m1, m2⟩) ∧ ansR ops ⟨m1, m2⟩ nn kk := by
  have h0 := h
  obtain ⟨hlb, h2, hp, hBl, hso, hnm⟩ := h0
  have hrl := recAll_len ops []
  have hn6 : (recAll [] ops).length ≤ 1000000 := by omega
  obtain ⟨hr_es, hr_cl, hr_xs, hr, _⟩ := h2.2.2.2.1
  have hlr : lb ≠ r := fun e => h2.2.2.2.1.noCells _ _ _ (by rw [← e]; exact hlb)
  have hdid := rec_did ops [] (by simp [Srt])
  have hML : (playA ops).length + (recAll [] ops).length ≤ 300 := by have := play_one ops []; rw [hrl]; unfold playA; simp only [List.length_nil, Nat.zero_add] at this; omega
  go_enter Tryz.func23, Tryz.ntmps23
  refine wp_seq (rg_lit ?_)
  refine wl (sn rfl (cs := #[.pointer (some ⟨lb, 0, none⟩)]) (T := 25) (V := fun b => .pointer (some ⟨b, 0, none⟩)) (r_box (v := .pointer (some ⟨lb, 0, none⟩)) (by kernel_rfl) rfl) ?_)
  intro b1 w2 e3 h4 u5
  have l6 : lb < b1 := by rw [e3]; exact lt_ob hlb
  have l7 : r < b1 := by rw [e3]; exact lt_ob hr
  have g8 : w.heap.size ≤ b1 := by rw [e3]; exact (Mod.refl [] w).size
  have M9 := Mod.trans (Mod.refl [] w) (Mod.of_up u5)
  refine wl (sn rfl (cs := #[.int .i64 m1, .int .i64 m2]) (T := 35) (V := fun b => .pointer (some ⟨b, 0, none⟩)) (r_box (v := .agg #[.int .i64 m1, .int .i64 m2]) (by kernel_rfl) rfl) ?_)
  intro b10 w11 e12 h13 u14
  have h15 := md_ob M9 nin0 hlb
  have l16 : lb < b10 := by rw [e12]; exact lt_ob h15
  have h17 := md_ob M9 nin0 hr
  have l18 : r < b10 := by rw [e12]; exact lt_ob h17
  have l19 : b1 < b10 := by rw [e12]; exact lt_ob h4
  have g20 : w.heap.size ≤ b10 := by rw [e12]; exact M9.size
  have M21 := Mod.trans M9 (Mod.of_up u14)
  refine was (v := .int .i64 0) ?_
  refine was (v := .int .i64 0) ?_
  refine wnil (then_n (wp_seq (wp_seq (rg_lit ?_))))
  have h22 := (up_ob u14 h4)
  refine wl (sv rfl (v := .pointer (some ⟨lb, 0, none⟩)) (r_load (k := 0) (by kernel_rfl) Ty.ag25 h22 (by kernel_rfl)) ?_)
  refine wl (sv (w' := w11) rfl (v := .bool false) (by kernel_rfl) ?_)
  refine wnil (then_n ?_)
  refine wp_cond_false (by kernel_rfl) ?_
  refine wp_skip (then_n (wp_seq (rg_lit ?_)))
  refine wl (sv rfl (v := .pointer (some ⟨lb, 0, none⟩)) (r_load (k := 0) (by kernel_rfl) Ty.ag25 h22 (by kernel_rfl)) ?_)
  refine wl (sv rfl (v := .agg #[.int .i64 m1, .int .i64 m2]) (r_loads (k := 0) (by kernel_rfl) Ty.ag35 Ty.sz35 h13 (by kernel_rfl)) ?_)
  have h26 := md_ob M21 nin0 hlb
  have h27 := (PRow.up hp (Mod.up M21))
  refine wl (sc rfl (r_callv (caps := []) (all := [.pointer (some ⟨lb, 0, none⟩), .agg #[.int .i64 m1, .int .i64 m2]]) En.f34 (by kernel_rfl) (by kernel_rfl)) (find_at h26 h27 hn6 m1 m2) ?_)
  rintro e w23 ⟨i0, fb, rfl, h24, u25⟩
  refine ⟨.tuple #[.int .i64 ((i0 : Int)), .bool fb], rfl, ?_⟩
  have M28 := Mod.trans M21 (Mod.of_up u25)
  have hle := found_le h24
  replace h24 : Found (recAll [] ops) ⟨m1, m2⟩ i0 fb := h24
  refine wmv (v := .tuple #[.int .i64 ((i0 : Int)), .bool fb]) ?_
  refine wl (sv rfl (v := .int .i64 ((i0 : Int))) (r_extract (vs := [.int .i64 ((i0 : Int)), .bool fb]) (by kernel_rfl) rfl) ?_)
  refine wl (sv rfl (v := .bool fb) (r_extract (vs := [.int .i64 ((i0 : Int)), .bool fb]) (by kernel_rfl) rfl) ?_)
  refine wl (sn rfl (cs := #[.int .i64 0]) (T := 3) (V := fun b => .pointer (some ⟨b, 0, none⟩)) (r_alloc Ty.zv3 rfl) ?_)
  intro b29 w30 e31 h32 u33
  have h34 := md_ob M28 nin0 hlb
  have l35 : lb < b29 := by rw [e31]; exact lt_ob h34
  have h36 := md_ob M28 nin0 hr
  have l37 : r < b29 := by rw [e31]; exact lt_ob h36
  have h38 := (up_ob u25 h22)
  have l39 : b1 < b29 := by rw [e31]; exact lt_ob h38
  have h40 := (up_ob u25 h13)
  have l41 : b10 < b29 := by rw [e31]; exact lt_ob h40
  have g42 : w.heap.size ≤ b29 := by rw [e31]; exact M28.size
  have M43 := Mod.trans M28 (Mod.of_up u33)
  refine wl (ss rfl (k := 0) (v := .int .i64 ((i0 : Int))) (vs := [.int .i64 ((i0 : Int))]) (cs' := [.int .i64 ((i0 : Int))]) (by kernel_rfl) (by kernel_rfl) rfl Ty.sz3 h32 rfl (Nat.le_of_ble_eq_true rfl) rfl ?_)
  intro w44 h45 c46
  have M47 := Mod.trans' M43 c46 (fun i hi => by injection hi with hi; rw [← hi]; exact g42)
  refine was (v := .bool fb) ?_
  refine wnil (then_n (wp_seq (wp_seq (rg_lit ?_))))
  refine wmv (v := .bool fb) ?_
  refine wl (sv rfl (v := .bool (!fb)) (r_not (b := fb) (by kernel_rfl)) ?_)
  refine wnil (then_n ?_)
  refine bcase fb (fun v48 => ?_) (fun v48 => ?_)
  ·
   refine wp_cond_true (ebool (b := !fb) (by kernel_rfl) (bneg v48)) ?_
   refine wp_seq (rg_lit ?_)
   refine was (v := .int .i64 0) ?_
   refine was (v := .int .i64 12) ?_
   refine wnil (then_n (wp_ret (then_x (by nofun) ?_)))
   refine bodyPost_ret (v := .tuple #[.int .i64 0, .int .i64 12]) (res2 rfl (rv_t (by kernel_rfl)) (rv_t (by kernel_rfl))) (by kernel_rfl) ?_
   rw [v48] at h24
   exact ⟨_, _, rfl, LogStep.same h (Mod.up M47) (remL_no (found_has hso h24).symm), ans_not (found_has hso h24).symm⟩
  refine wp_cond_false (ebool (b := !fb) (by kernel_rfl) (bneg v48)) ?_
  refine wp_skip (then_n (wp_seq (rg_lit ?_)))
  have h49 := (chg_ob c46 (Nat.ne_of_lt l39) (up_ob u33 h38))
  refine wl (sv rfl (v := .pointer (some ⟨lb, 0, none⟩)) (r_load (k := 0) (by kernel_rfl) Ty.ag25 h49 (by kernel_rfl)) ?_)
  refine wl (sv rfl (v := .int .i64 ((i0 : Int))) (r_load (k := 0) (by kernel_rfl) Ty.ag3 h45 (by kernel_rfl)) ?_)
  refine wl (sv rfl (v := .func (.func 40) #[] #[.pointer (some ⟨b1, 0, none⟩), .pointer (some ⟨b29, 0, none⟩)]) (r_makeFunc (us := []) (vs := [.pointer (some ⟨b1, 0, none⟩), .pointer (some ⟨b29, 0, none⟩)]) rfl (by kernel_rfl)) ?_)
  have h50 := (TreeIs.up h2 (up_chgn (up_up (up_up (up_up u5 u14) u25) u33) c46 (by rw [e31]; exact (up_up (up_up u5 u14) u25).size)))
  have h51 := (PRow.up hp (Mod.up M47))
  have h52 := md_ob M47 nin0 hlb
  have h53 := md_ob M47 nin0 hr
  have nr0 := (Nat.ne_of_gt l7)
  have nr1 := (Nat.ne_of_gt l37)
  obtain ⟨S2, eS2⟩ : ∃ x, x = (recAll [] ops).take i0 ++ (recAll [] ops).drop (i0 + 1) := ⟨_, rfl⟩
  have hSl : S2.length ≤ 100000 := by rw [eS2]; simp; omega
  have hSi : i0 ≤ S2.length := by rw [eS2]; simp; omega
  have hSn : ∀ s ∈ S2, s.o.name.size ≤ 9223372036854775807 := fun s hs => names_rem hnm s (by rw [eS2] at hs; exact hs)
  have hXw : ∀ x ∈ lb :: (Value.ownBlock (.slice pA (recAll [] ops).length pc)).toList, x < w44.heap.size := fun x hx => foot_lt h52 h51 x hx
  have hwc : w.heap.size ≤ w44.heap.size := (M47).size
  have hB7 : B ≤ w44.heap.size := Nat.le_trans hB hwc
  rw [v48] at h24
  have hlt6 : i0 < (recAll [] ops).length := by obtain ⟨x, hx, _⟩ := found_at h24; rw [hrl]; exact (List.getElem?_eq_some_iff.1 hx).1
  refine wl (sc rfl (r_callv (caps := []) (all := [.pointer (some ⟨lb, 0, none⟩), .int .i64 ((i0 : Int)), .func (.func 40) #[] #[.pointer (some ⟨b1, 0, none⟩), .pointer (some ⟨b29, 0, none⟩)]]) En.f36 (by kernel_rfl) (by kernel_rfl)) (change_at (caps := [.pointer (some ⟨b1, 0, none⟩), .pointer (some ⟨b29, 0, none⟩)]) (i0 := i0) (S' := S2) h52 h50 hB7 h51 (Nat.le_refl _) (by omega) (by omega) hdid hML En.f40 hXw hSi hSl hSn (fun W k1 k2 k3 km => by rw [eS2]; exact how_tree k1 k2 k3 hBl (remC_at (md_ob km (nin1 nr0) h49) (md_ob km (nin1 nr1) h45) k1 k3 hlt6 (by omega) (Nat.le_refl _) hBl))) ?_)
  rintro e wz ⟨rfl, A2, c2, k1, k2, k3, k4, k5⟩
  refine ⟨_, rfl, ?_⟩
  have n54 : b1 ∉ r :: lb :: (Value.ownBlock (.slice pA (recAll [] ops).length pc)).toList := ninc nr0 (ninc ((Nat.ne_of_gt l6)) (fun hm => PRow.neT h51 h49 (by decide) (by simpa using hm)))
  have h55 := md_ob k4 n54 h49
  have n56 : b29 ∉ r :: lb :: (Value.ownBlock (.slice pA (recAll [] ops).length pc)).toList := ninc nr1 (ninc ((Nat.ne_of_gt l35)) (fun hm => PRow.neT h51 h45 (by decide) (by simpa using hm)))
  have h57 := md_ob k4 n56 h45
  have M58 := Mod.trans (Mod.of_mod (Y := r :: lb :: (Value.ownBlock (.slice pA (recAll [] ops).length pc)).toList) M47 (by simp)) k4
  refine wnil (then_n (wp_seq ?_))
  refine rg_all (by kernel_rfl) (by kernel_rfl) ?_
  refine qv rfl (v := .pointer (some ⟨lb, 0, none⟩)) (fun _ uz => r_load (k := 0) (by kernel_rfl) Ty.ag25 (up_ob uz h55) (by kernel_rfl)) ?_
  refine qv rfl (v := .pointer (some ⟨lb, 0, none⟩)) (fun _ _ => r_nilCheck (by kernel_rfl)) ?_
  refine qv rfl (v := .pointer (some ⟨lb, 0, none⟩)) (fun _ _ => r_fieldAddr (u := .pointer (some ⟨lb, 0, none⟩)) (by kernel_rfl) (fun _ => (by kernel_rfl))) ?_
  refine qv rfl (v := .slice A2 S2.length c2) (fun _ uz => r_load (k := 0) (by kernel_rfl) Ty.ag64 (up_ob uz k1) (by kernel_rfl)) ?_
  refine qv rfl (v := .int .i64 ((S2.length : Int))) (fun _ _ => r_len Ty.un64 (ad := A2) (n := S2.length) (c := c2) (by kernel_rfl)) ?_
  refine qv rfl (v := .int .i64 ((i0 : Int))) (fun _ uz => r_load (k := 0) (by kernel_rfl) Ty.ag3 (up_ob uz h57) (by kernel_rfl)) ?_
  refine qv rfl (v := .int .i64 (((S2.length : Int)) - ((i0 : Int)))) (fun _ _ => r_sub (k := .i64) (m := ((S2.length : Int))) (n := ((i0 : Int))) (by kernel_rfl) (by kernel_rfl) (IntWalk.i64_in _ (by omega))) ?_
  refine qas (v := .int .i64 (((S2.length : Int)) - ((i0 : Int)))) ?_
  refine qas (v := .int .i64 0) ?_
  refine qnil ?_
  intro w59 u60
  have M61 := Mod.trans M58 (Mod.of_up u60)
  refine then_n (wp_ret ?_)
  refine bodyPost_ret (v := .tuple #[.int .i64 (((S2.length : Int)) - ((i0 : Int))), .int .i64 0]) (res2 rfl (rv_t (by kernel_rfl)) (rv_t (by kernel_rfl))) (by kernel_rfl) ?_
  have hstep : LogStep B w wz lb tb r (.slice pA (recAll [] ops).length pc) (remL ops ⟨m1, m2⟩) := by
    refine ⟨_, rem_end h h24 eS2 k1 k2 k3, M58, ?_⟩
    intro g hg
    rcases k5 g hg with hx | hx
    · rcases List.mem_cons.1 hx with rfl | hx
      · exact absurd hg (PRow.neT k3 k1 (by decide))
      · left; simpa using hx
    · right; exact Nat.le_trans hwc hx
  exact ⟨_, _, rfl, hstep.up u60, ans_gone hso h24 eS2 (by omega)⟩
end Go.Proofs.YtefhfoioeoijlaaGreat

/- GLA: printed by gen.py -/
import Derived.Test.YtefhfoioeoijlaaGreatGZ
set_option linter.unusedVariables false
set_option linter.unusedSimpArgs false
namespace Go.Proofs.YtefhfoioeoijlaaGreat
open Go Go.RowKit Go.Sort
set_option maxHeartbeats 2000000 in
theorem find_at {B base : Nat} {w : World} {lb tb pc : Nat} {pA : Option Addr} {S : List StepD} (hlb : w.heap[lb]? = some (.cells #[.slice pA S.length pc, .pointer (some ⟨tb, 0, none⟩)] 66 (0, 0))) (hp : PRow 73 B base w (.slice pA S.length pc) S) (hn : S.length ≤ 1000000) (m1 m2 : Int) :
    Calls Tryz.prog 34 #[trP lb, .agg #[.int .i64 m1, .int .i64 m2]] w fun e w' => ∃ (i : Nat) (f : Bool), e = .returned (.tuple #[.int .i64 i, .bool f]) ∧ Found S ⟨m1, m2⟩ i f ∧ Up w w' := by
  go_enter Tryz.func34, Tryz.ntmps34
  refine wp_seq (rg_lit ?_)
  refine wl (sn rfl (cs := #[.int .i64 m1, .int .i64 m2]) (T := 35) (V := fun b => .pointer (some ⟨b, 0, none⟩)) (r_box (v := .agg #[.int .i64 m1, .int .i64 m2]) (by kernel_rfl) rfl) ?_)
  intro b1 w2 e3 h4 u5
  have l6 : lb < b1 := by rw [e3]; exact lt_ob hlb
  have g7 : w.heap.size ≤ b1 := by rw [e3]; exact (Mod.refl [] w).size
  have M8 := Mod.trans (Mod.refl [] w) (Mod.of_up u5)
  refine was (v := .int .i64 0) ?_
  refine was (v := .bool false) ?_
  refine wnil (then_n (wp_seq ?_))
  refine rg_held [] (n := 10) (by kernel_rfl) rfl ?_
  intro w9 u10
  have M11 := Mod.trans M8 (Mod.of_up u10)
  refine hvq (i := 0) (fuel := 9) rfl (fun _ _ _ h => h) (Mod.refl _ _) rfl (v := .pointer (some ⟨lb, 0, none⟩)) (fun _ _ => r_move (by kernel_rfl)) ?_
  refine hvq (i := 1) (fuel := 8) rfl (fun _ _ _ h => h) (Mod.refl _ _) rfl (v := .pointer (some ⟨lb, 0, none⟩)) (fun _ _ => r_nilCheck (by kernel_rfl)) ?_
  refine hvq (i := 2) (fuel := 7) rfl (fun _ _ _ h => h) (Mod.refl _ _) rfl (v := .pointer (some ⟨lb, 0, none⟩)) (fun _ _ => r_fieldAddr (u := .pointer (some ⟨lb, 0, none⟩)) (by kernel_rfl) (fun _ => (by kernel_rfl))) ?_
  have h12 := md_ob M11 nin0 hlb
  refine hvq (i := 3) (fuel := 6) rfl (fun _ _ _ h => h) (Mod.refl _ _) rfl (v := .slice pA S.length pc) (fun _ uz => r_load (k := 0) (by kernel_rfl) Ty.ag64 (md_ob uz nin0 h12) (by kernel_rfl)) ?_
  have h13 := (up_ob u10 h4)
  refine hvq (i := 4) (fuel := 5) rfl (fun _ _ _ h => h) (Mod.refl _ _) rfl (v := .agg #[.int .i64 m1, .int .i64 m2]) (fun _ uz => r_loads (k := 0) (by kernel_rfl) Ty.ag35 Ty.sz35 (md_ob uz nin0 h13) (by kernel_rfl)) ?_
  have h14 := (PRow.up hp (Mod.up M11))
  refine h1 (i := 5) (fuel := 4) (by kernel_rfl) rfl (sc rfl (r_callv (caps := []) (all := [.slice pA S.length pc, .agg #[.int .i64 m1, .int .i64 m2], .func (.func 55) #[] #[]]) En.f54 (by kernel_rfl) (by kernel_rfl)) (search_at h14 hn m1 m2) ?_)
  rintro e w15 ⟨i16, f17, rfl, h18, u19⟩
  refine ⟨.tuple #[.int .i64 ((i16 : Int)), .bool f17], rfl, ?_⟩
  have M20 := Mod.trans M11 (Mod.of_up u19)
  refine hx (Y := []) (Mod.of_up u19) (fun y hy => .inl hy) ?_
  refine hvq (i := 6) (fuel := 3) rfl (fun _ _ _ h => h) (Mod.refl _ _) rfl (v := .int .i64 ((i16 : Int))) (fun _ _ => r_extract (vs := [.int .i64 ((i16 : Int)), .bool f17]) (by kernel_rfl) rfl) ?_
  refine hvq (i := 7) (fuel := 2) rfl (fun _ _ _ h => h) (Mod.refl _ _) rfl (v := .bool f17) (fun _ _ => r_extract (vs := [.int .i64 ((i16 : Int)), .bool f17]) (by kernel_rfl) rfl) ?_
  refine hvq (i := 8) (fuel := 1) rfl (fun _ _ _ h => h) (Mod.refl _ _) rfl (v := .int .i64 ((i16 : Int))) (fun _ _ => r_assign (by kernel_rfl)) ?_
  refine hvq (i := 9) (fuel := 0) rfl (fun _ _ _ h => h) (Mod.refl _ _) rfl (v := .bool f17) (fun _ _ => r_assign (by kernel_rfl)) ?_
  refine hend (by kernel_rfl) ?_
  refine then_n (wp_ret ?_)
  refine bodyPost_ret (v := .tuple #[.int .i64 ((i16 : Int)), .bool f17]) (res2 rfl (rv_t (by kernel_rfl)) (rv_t (by kernel_rfl))) (by kernel_rfl) ?_
  exact ⟨i16, f17, rfl, h18, (Mod.up M20)⟩
set_option maxHeartbeats 2000000 in
theorem has_at {B base : Nat} {w : World} {lb tb pc : Nat} {pA : Option Addr} {S : List StepD} (hlb : w.heap[lb]? = some (.cells #[.slice pA S.length pc, .pointer (some ⟨tb, 0, none⟩)] 66 (0, 0))) (hp : PRow 73 B base w (.slice pA S.length pc) S) (hn : S.length ≤ 1000000) (m1 m2 : Int) :
    Calls Tryz.prog 18 #[trP lb, .agg #[.int .i64 m1, .int .i64 m2]] w fun e w' => ∃ (i : Nat) (f : Bool), e = .returned (.bool f) ∧ Found S ⟨m1, m2⟩ i f ∧ Up w w' := by
  go_enter Tryz.func18, Tryz.ntmps18
  refine wp_seq (rg_lit ?_)
  refine wl (sn rfl (cs := #[.int .i64 m1, .int .i64 m2]) (T := 35) (V := fun b => .pointer (some ⟨b, 0, none⟩)) (r_box (v := .agg #[.int .i64 m1, .int .i64 m2]) (by kernel_rfl) rfl) ?_)
  intro b1 w2 e3 h4 u5
  have l6 : lb < b1 := by rw [e3]; exact lt_ob hlb
  have g7 : w.heap.size ≤ b1 := by rw [e3]; exact (Mod.refl [] w).size
  have M8 := Mod.trans (Mod.refl [] w) (Mod.of_up u5)
  refine was (v := .bool false) ?_
  refine wnil (then_n (wp_seq (wp_seq (rg_lit ?_))))
  refine wmv (v := .pointer (some ⟨lb, 0, none⟩)) ?_
  refine wl (sv (w' := w2) rfl (v := .bool false) (by kernel_rfl) ?_)
  refine wnil (then_n ?_)
  refine wp_cond_false (by kernel_rfl) ?_
  refine wp_skip (then_n (wp_seq (rg_lit ?_)))
  refine wmv (v := .pointer (some ⟨lb, 0, none⟩)) ?_
  refine wl (sv rfl (v := .agg #[.int .i64 m1, .int .i64 m2]) (r_loads (k := 0) (by kernel_rfl) Ty.ag35 Ty.sz35 h4 (by kernel_rfl)) ?_)
  have h14 := md_ob M8 nin0 hlb
  have h15 := (PRow.up hp (Mod.up M8))
  refine wl (sc rfl (r_callv (caps := []) (all := [.pointer (some ⟨lb, 0, none⟩), .agg #[.int .i64 m1, .int .i64 m2]]) En.f34 (by kernel_rfl) (by kernel_rfl)) (find_at h14 h15 hn m1 m2) ?_)
  rintro e w9 ⟨i10, f11, rfl, h12, u13⟩
  refine ⟨.tuple #[.int .i64 ((i10 : Int)), .bool f11], rfl, ?_⟩
  have M16 := Mod.trans M8 (Mod.of_up u13)
  refine wmv (v := .tuple #[.int .i64 ((i10 : Int)), .bool f11]) ?_
  refine wl (sv rfl (v := .int .i64 ((i10 : Int))) (r_extract (vs := [.int .i64 ((i10 : Int)), .bool f11]) (by kernel_rfl) rfl) ?_)
  refine wl (sv rfl (v := .bool f11) (r_extract (vs := [.int .i64 ((i10 : Int)), .bool f11]) (by kernel_rfl) rfl) ?_)
  refine was (v := .int .i64 ((i10 : Int))) ?_
  refine was (v := .bool f11) ?_
  refine wnil (then_n (wp_seq (rg_lit ?_)))
  refine wmv (v := .bool f11) ?_
  refine was (v := .bool f11) ?_
  refine wnil (then_n (wp_ret ?_))
  refine bodyPost_ret (v := .bool f11) (res1 rfl (rv_t (by kernel_rfl))) (by kernel_rfl) ?_
  exact ⟨i10, f11, rfl, h12, (Mod.up M16)⟩
set_option maxHeartbeats 2000000 in
theorem loglen_at {B base : Nat} {w : World} {lb tb pc : Nat} {pA : Option Addr} {S : List StepD} (hlb : w.heap[lb]? = some (.cells #[.slice pA S.length pc, .pointer (some ⟨tb, 0, none⟩)] 66 (0, 0))) (hp : PRow 73 B base w (.slice pA S.length pc) S) (hn : S.length ≤ 1000000) :
    Calls Tryz.prog 10 #[trP lb] w fun e w' => e = .returned (.int .i64 S.length) ∧ Up w w' := by
  go_enter Tryz.func10, Tryz.ntmps10
  refine wp_seq (rg_lit ?_)
  refine was (v := .int .i64 0) ?_
  refine wnil (then_n (wp_seq (wp_seq (rg_lit ?_))))
  refine wmv (v := .pointer (some ⟨lb, 0, none⟩)) ?_
  refine wl (sv (w' := w) rfl (v := .bool false) (by kernel_rfl) ?_)
  refine wnil (then_n ?_)
  refine wp_cond_false (by kernel_rfl) ?_
  refine wp_skip (then_n (wp_seq (rg_lit ?_)))
  refine wmv (v := .pointer (some ⟨lb, 0, none⟩)) ?_
  refine wl (sv rfl (v := .pointer (some ⟨lb, 0, none⟩)) (r_nilCheck (by kernel_rfl)) ?_)
  refine wl (sv rfl (v := .pointer (some ⟨lb, 0, none⟩)) (r_fieldAddr (u := .pointer (some ⟨lb, 0, none⟩)) (by kernel_rfl) (fun _ => (by kernel_rfl))) ?_)
  refine wl (sv rfl (v := .slice pA S.length pc) (r_load (k := 0) (by kernel_rfl) Ty.ag64 hlb (by kernel_rfl)) ?_)
  refine wl (sv rfl (v := .int .i64 ((S.length : Int))) (r_len Ty.un64 (ad := pA) (n := S.length) (c := pc) (by kernel_rfl)) ?_)
  refine was (v := .int .i64 ((S.length : Int))) ?_
  refine wnil (then_n (wp_ret ?_))
  refine bodyPost_ret (v := .int .i64 ((S.length : Int))) (res1 rfl (rv_t (by kernel_rfl))) (by kernel_rfl) ?_
  exact ⟨rfl, (Mod.up (Mod.refl [] w))⟩
set_option maxHeartbeats 2000000 in
theorem logtree_at {B base : Nat} {w : World} {lb tb pc : Nat} {pA : Option Addr} {S : List StepD} (hlb : w.heap[lb]? = some (.cells #[.slice pA S.length pc, .pointer (some ⟨tb, 0, none⟩)] 66 (0, 0))) (hp : PRow 73 B base w (.slice pA S.length pc) S) (hn : S.length ≤ 1000000) :
    Calls Tryz.prog 15 #[trP lb] w fun e w' => e = .returned (trP tb) ∧ Up w w' := by
  go_enter Tryz.func15, Tryz.ntmps15
  refine wp_seq (rg_lit ?_)
  refine was (v := .pointer none) ?_
  refine wnil (then_n (wp_seq (wp_seq (rg_lit ?_))))
  refine wmv (v := .pointer (some ⟨lb, 0, none⟩)) ?_
  refine wl (sv (w' := w) rfl (v := .bool false) (by kernel_rfl) ?_)
  refine wnil (then_n ?_)
  refine wp_cond_false (by kernel_rfl) ?_
  refine wp_skip (then_n (wp_seq (rg_lit ?_)))
  refine wmv (v := .pointer (some ⟨lb, 0, none⟩)) ?_
  refine wl (sv rfl (v := .pointer (some ⟨lb, 0, none⟩)) (r_nilCheck (by kernel_rfl)) ?_)
  refine wl (sv rfl (v := .pointer (some ⟨lb, 1, none⟩)) (r_fieldAddr (u := .pointer (some ⟨lb, 0, none⟩)) (by kernel_rfl) (fun _ => (by kernel_rfl))) ?_)
  refine wl (sv rfl (v := .pointer (some ⟨tb, 0, none⟩)) (r_load (k := 1) (by kernel_rfl) Ty.ag50 hlb (by kernel_rfl)) ?_)
  refine was (v := .pointer (some ⟨tb, 0, none⟩)) ?_
  refine wnil (then_n (wp_ret ?_))
  refine bodyPost_ret (v := .pointer (some ⟨tb, 0, none⟩)) (res1 rfl (rv_t (by kernel_rfl))) (by kernel_rfl) ?_
  exact ⟨rfl, (Mod.up (Mod.refl [] w))⟩
end Go.Proofs.YtefhfoioeoijlaaGreat

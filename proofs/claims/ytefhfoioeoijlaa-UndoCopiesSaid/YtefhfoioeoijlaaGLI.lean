/- GLI: printed by gen.py -/
import Derived.Test.YtefhfoioeoijlaaGLG
import Derived.Test.YtefhfoioeoijlaaCopy
import Derived.Test.YtefhfoioeoijlaaGB
set_option linter.unusedVariables false
set_option linter.unusedSimpArgs false
namespace Go.Proofs.Ytefhfoioeoijlaa
open Go Go.RowKit Go.Sort
set_option maxHeartbeats 2000000 in
theorem nil_ins {w : World} : Calls Try.prog 37 #[.pointer none, .agg #[.int .i64 0, .int .i64 0, .int .i64 0, .int .i64 0, .int .i64 0, .int .i64 0, .int .i64 0, .bool false, .string (⟨#[]⟩), .slice none 0 0]] w fun e w' => e = .returned (.tuple #[.int .i64 0, .int .i64 23]) ∧ Up w w' := by
  go_enter Try.func37, Try.ntmps37
  refine wp_seq (rg_lit ?_)
  refine wl (sn rfl (cs := #[.pointer none]) (T := 62) (V := fun b => .pointer (some ⟨b, 0, none⟩)) (r_box (v := .pointer none) (by kernel_rfl) rfl) ?_)
  intro b1 w2 e3 h4 u5
  have g6 : w.heap.size ≤ b1 := by rw [e3]; exact (Mod.refl [] w).size
  have M7 := Mod.trans (Mod.refl [] w) (Mod.of_up u5)
  refine wl (sn rfl (cs := #[.int .i64 0, .int .i64 0, .int .i64 0, .int .i64 0, .int .i64 0, .int .i64 0, .int .i64 0, .bool false, .string (⟨#[]⟩), .slice none 0 0]) (T := 40) (V := fun b => .pointer (some ⟨b, 0, none⟩)) (r_box (v := .agg #[.int .i64 0, .int .i64 0, .int .i64 0, .int .i64 0, .int .i64 0, .int .i64 0, .int .i64 0, .bool false, .string (⟨#[]⟩), .slice none 0 0]) (by kernel_rfl) rfl) ?_)
  intro b8 w9 e10 h11 u12
  have l13 : b1 < b8 := by rw [e10]; exact lt_ob h4
  have g14 : w.heap.size ≤ b8 := by rw [e10]; exact M7.size
  have M15 := Mod.trans M7 (Mod.of_up u12)
  refine was (v := .int .i64 0) ?_
  refine was (v := .int .i64 0) ?_
  refine wnil (then_n (wp_seq (wp_seq (rg_lit ?_))))
  have h16 := (up_ob u12 h4)
  refine wl (sv rfl (v := .pointer none) (r_load (k := 0) (by kernel_rfl) Ty.ag62 h16 (by kernel_rfl)) ?_)
  refine wl (sv (w' := w9) rfl (v := .bool true) (by kernel_rfl) ?_)
  refine wnil (then_n ?_)
  refine wp_cond_true (by kernel_rfl) ?_
  refine wp_seq (rg_lit ?_)
  refine was (v := .int .i64 0) ?_
  refine was (v := .int .i64 23) ?_
  refine wnil (then_n (wp_ret (then_x (by nofun) ?_)))
  refine bodyPost_ret (v := .tuple #[.int .i64 0, .int .i64 23]) (res2 rfl (rv_t (by kernel_rfl)) (rv_t (by kernel_rfl))) (by kernel_rfl) ?_
  exact ⟨rfl, (Mod.up M15)⟩
set_option maxHeartbeats 2000000 in
theorem nil_rem {w : World} : Calls Try.prog 41 #[.pointer none, .agg #[.int .i64 0, .int .i64 0]] w fun e w' => e = .returned (.tuple #[.int .i64 0, .int .i64 23]) ∧ Up w w' := by
  go_enter Try.func41, Try.ntmps41
  refine wp_seq (rg_lit ?_)
  refine wl (sn rfl (cs := #[.pointer none]) (T := 62) (V := fun b => .pointer (some ⟨b, 0, none⟩)) (r_box (v := .pointer none) (by kernel_rfl) rfl) ?_)
  intro b1 w2 e3 h4 u5
  have g6 : w.heap.size ≤ b1 := by rw [e3]; exact (Mod.refl [] w).size
  have M7 := Mod.trans (Mod.refl [] w) (Mod.of_up u5)
  refine wl (sn rfl (cs := #[.int .i64 0, .int .i64 0]) (T := 24) (V := fun b => .pointer (some ⟨b, 0, none⟩)) (r_box (v := .agg #[.int .i64 0, .int .i64 0]) (by kernel_rfl) rfl) ?_)
  intro b8 w9 e10 h11 u12
  have l13 : b1 < b8 := by rw [e10]; exact lt_ob h4
  have g14 : w.heap.size ≤ b8 := by rw [e10]; exact M7.size
  have M15 := Mod.trans M7 (Mod.of_up u12)
  refine was (v := .int .i64 0) ?_
  refine was (v := .int .i64 0) ?_
  refine wnil (then_n (wp_seq (wp_seq (rg_lit ?_))))
  have h16 := (up_ob u12 h4)
  refine wl (sv rfl (v := .pointer none) (r_load (k := 0) (by kernel_rfl) Ty.ag62 h16 (by kernel_rfl)) ?_)
  refine wl (sv (w' := w9) rfl (v := .bool true) (by kernel_rfl) ?_)
  refine wnil (then_n ?_)
  refine wp_cond_true (by kernel_rfl) ?_
  refine wp_seq (rg_lit ?_)
  refine was (v := .int .i64 0) ?_
  refine was (v := .int .i64 23) ?_
  refine wnil (then_n (wp_ret (then_x (by nofun) ?_)))
  refine bodyPost_ret (v := .tuple #[.int .i64 0, .int .i64 23]) (res2 rfl (rv_t (by kernel_rfl)) (rv_t (by kernel_rfl))) (by kernel_rfl) ?_
  exact ⟨rfl, (Mod.up M15)⟩
set_option maxHeartbeats 2000000 in
theorem nil_has {w : World} : Calls Try.prog 43 #[.pointer none, .agg #[.int .i64 0, .int .i64 0]] w fun e w' => e = .returned (.bool false) ∧ Up w w' := by
  go_enter Try.func43, Try.ntmps43
  refine wp_seq (rg_lit ?_)
  refine wl (sn rfl (cs := #[.int .i64 0, .int .i64 0]) (T := 24) (V := fun b => .pointer (some ⟨b, 0, none⟩)) (r_box (v := .agg #[.int .i64 0, .int .i64 0]) (by kernel_rfl) rfl) ?_)
  intro b1 w2 e3 h4 u5
  have g6 : w.heap.size ≤ b1 := by rw [e3]; exact (Mod.refl [] w).size
  have M7 := Mod.trans (Mod.refl [] w) (Mod.of_up u5)
  refine was (v := .bool false) ?_
  refine wnil (then_n (wp_seq (wp_seq (rg_lit ?_))))
  refine wmv (v := .pointer none) ?_
  refine wl (sv (w' := w2) rfl (v := .bool true) (by kernel_rfl) ?_)
  refine wnil (then_n ?_)
  refine wp_cond_true (by kernel_rfl) ?_
  refine wp_seq (rg_lit ?_)
  refine was (v := .bool false) ?_
  refine wnil (then_n (wp_ret (then_x (by nofun) ?_)))
  refine bodyPost_ret (v := .bool false) (res1 rfl (rv_t (by kernel_rfl))) (by kernel_rfl) ?_
  exact ⟨rfl, (Mod.up M7)⟩
set_option maxHeartbeats 2000000 in
theorem nil_len {w : World} : Calls Try.prog 47 #[.pointer none] w fun e w' => e = .returned (.int .i64 0) ∧ Up w w' := by
  go_enter Try.func47, Try.ntmps47
  refine wp_seq (rg_lit ?_)
  refine was (v := .int .i64 0) ?_
  refine wnil (then_n (wp_seq (wp_seq (rg_lit ?_))))
  refine wmv (v := .pointer none) ?_
  refine wl (sv (w' := w) rfl (v := .bool true) (by kernel_rfl) ?_)
  refine wnil (then_n ?_)
  refine wp_cond_true (by kernel_rfl) ?_
  refine wp_seq (rg_lit ?_)
  refine was (v := .int .i64 0) ?_
  refine wnil (then_n (wp_ret (then_x (by nofun) ?_)))
  refine bodyPost_ret (v := .int .i64 0) (res1 rfl (rv_t (by kernel_rfl))) (by kernel_rfl) ?_
  exact ⟨rfl, (Mod.up (Mod.refl [] w))⟩
set_option maxHeartbeats 2000000 in
theorem nil_ops {w : World} : Calls Try.prog 35 #[.pointer none] w fun e w' => e = .returned (.slice none 0 0) ∧ Up w w' := by
  go_enter Try.func35, Try.ntmps35
  refine wp_seq (rg_lit ?_)
  refine was (v := .slice none 0 0) ?_
  refine wnil (then_n (wp_seq (wp_seq (rg_lit ?_))))
  refine wmv (v := .pointer none) ?_
  refine wl (sv (w' := w) rfl (v := .bool true) (by kernel_rfl) ?_)
  refine wnil (then_n ?_)
  refine wp_cond_true (by kernel_rfl) ?_
  refine wp_seq (rg_lit ?_)
  refine was (v := .slice none 0 0) ?_
  refine wnil (then_n (wp_ret (then_x (by nofun) ?_)))
  refine bodyPost_ret (v := .slice none 0 0) (res1 rfl (rv_t (by kernel_rfl))) (by kernel_rfl) ?_
  exact ⟨rfl, (Mod.up (Mod.refl [] w))⟩
set_option maxHeartbeats 2000000 in
theorem nil_tree {w : World} : Calls Try.prog 40 #[.pointer none] w fun e w' => e = .returned (.pointer none) ∧ Up w w' := by
  go_enter Try.func40, Try.ntmps40
  refine wp_seq (rg_lit ?_)
  refine was (v := .pointer none) ?_
  refine wnil (then_n (wp_seq (wp_seq (rg_lit ?_))))
  refine wmv (v := .pointer none) ?_
  refine wl (sv (w' := w) rfl (v := .bool true) (by kernel_rfl) ?_)
  refine wnil (then_n ?_)
  refine wp_cond_true (by kernel_rfl) ?_
  refine wp_seq (rg_lit ?_)
  refine was (v := .pointer none) ?_
  refine wnil (then_n (wp_ret (then_x (by nofun) ?_)))
  refine bodyPost_ret (v := .pointer none) (res1 rfl (rv_t (by kernel_rfl))) (by kernel_rfl) ?_
  exact ⟨rfl, (Mod.up (Mod.refl [] w))⟩
set_option maxHeartbeats 2000000 in
theorem nil_copy {w : World} : Calls Try.prog 46 #[.pointer none] w fun e w' => e = .returned (.pointer none) ∧ Up w w' := by
  go_enter Try.func46, Try.ntmps46
  refine wp_seq (rg_lit ?_)
  refine was (v := .pointer none) ?_
  refine wnil (then_n (wp_seq (wp_seq (rg_lit ?_))))
  refine wmv (v := .pointer none) ?_
  refine wl (sv (w' := w) rfl (v := .bool true) (by kernel_rfl) ?_)
  refine wnil (then_n ?_)
  refine wp_cond_true (by kernel_rfl) ?_
  refine wp_seq (rg_lit ?_)
  refine was (v := .pointer none) ?_
  refine wnil (then_n (wp_ret (then_x (by nofun) ?_)))
  refine bodyPost_ret (v := .pointer none) (res1 rfl (rv_t (by kernel_rfl))) (by kernel_rfl) ?_
  exact ⟨rfl, (Mod.up (Mod.refl [] w))⟩
set_option maxHeartbeats 2000000 in
theorem step17two_at {w : World} {B : Nat} {la lb : Nat} {p q : List OpD} (h : Two B w la lb p q) (hB : B ≤ w.heap.size) (hlen : p.length ≤ 140) (s : GStep) (oA : Option Addr) (on oc : Nat) (hd : Dat B w (.slice oA on oc) s.o.data) (hname : s.o.name.size ≤ 9223372036854775807) :
    Calls Try.prog 34 #[trP la, .agg #[.bool s.gone, .int .i64 s.o.kind, .int .i64 s.o.at_.t, .int .i64 s.o.at_.w, .int .i64 s.o.node.t, .int .i64 s.o.node.w, .int .i64 s.o.parent.t, .int .i64 s.o.parent.w, .bool s.o.dir, .string s.o.name, .slice oA on oc]] w fun e w' => ∃ nn kk, e = .returned (.tuple #[.int .i64 nn, .int .i64 kk]) ∧ Two B w' la lb (stepL p s) q ∧ Only B w w' := by
  go_enter Try.func34, Try.ntmps34
  refine wp_seq (rg_lit ?_)
  refine wl (sn rfl (cs := #[.bool s.gone, .int .i64 s.o.kind, .int .i64 s.o.at_.t, .int .i64 s.o.at_.w, .int .i64 s.o.node.t, .int .i64 s.o.node.w, .int .i64 s.o.parent.t, .int .i64 s.o.parent.w, .bool s.o.dir, .string s.o.name, .slice oA on oc]) (T := 67) (V := fun b => .pointer (some ⟨b, 0, none⟩)) (r_box (v := .agg #[.bool s.gone, .int .i64 s.o.kind, .int .i64 s.o.at_.t, .int .i64 s.o.at_.w, .int .i64 s.o.node.t, .int .i64 s.o.node.w, .int .i64 s.o.parent.t, .int .i64 s.o.parent.w, .bool s.o.dir, .string s.o.name, .slice oA on oc]) (by kernel_rfl) rfl) ?_)
  intro b1 w2 e3 h4 u5
  have g6 : w.heap.size ≤ b1 := by rw [e3]; exact (Mod.refl [] w).size
  have M7 := Mod.trans (Mod.refl [] w) (Mod.of_up u5)
  refine was (v := .int .i64 0) ?_
  refine was (v := .int .i64 0) ?_
  refine wnil (then_n (wp_seq (wp_seq (rg_lit ?_))))
  refine wl (sv rfl (v := .pointer (some ⟨b1, 0, none⟩)) (r_fieldAddr (u := .pointer (some ⟨b1, 0, none⟩)) (by kernel_rfl) (fun _ => (by kernel_rfl))) ?_)
  refine wl (sv rfl (v := .bool s.gone) (r_load (k := 0) (by kernel_rfl) Ty.ag4 h4 (by kernel_rfl)) ?_)
  refine wnil (then_n ?_)
  refine bcase s.gone (fun v8 => ?_) (fun v8 => ?_)
  ·
   refine wp_cond_false (ebool (b := s.gone) (by kernel_rfl) v8) ?_
   refine wp_skip (then_n (wp_seq (rg_lit ?_)))
   refine wmv (v := .pointer (some ⟨la, 0, none⟩)) ?_
   refine wl (sv rfl (v := .pointer (some ⟨b1, 1, none⟩)) (r_fieldAddr (u := .pointer (some ⟨b1, 0, none⟩)) (by kernel_rfl) (fun _ => (by kernel_rfl))) ?_)
   refine wl (sv rfl (v := opV s.o (.slice oA on oc)) (r_loads (k := 1) (by kernel_rfl) Ty.ag40 Ty.sz40 h4 (by kernel_rfl)) ?_)
   have h9 := (Two.up h u5)
   have h13 := (Dat.up hd u5)
   refine wl (sc rfl (r_callv (caps := []) (all := [.pointer (some ⟨la, 0, none⟩), opV s.o (.slice oA on oc)]) En.f37 (by kernel_rfl) (by kernel_rfl)) (two_insA h9 (Nat.le_trans hB M7.size) hlen s.o oA on oc h13 hname) ?_)
   rintro e w10 ⟨nn12, kk12, rfl, h11, o12⟩
   refine ⟨.tuple #[.int .i64 nn12, .int .i64 kk12], rfl, ?_⟩
   have h14 := Only.ob o12 h4 (by decide) (by decide)
   have mo := Only.upl (Mod.up M7) o12
   have h15 := Only.dat o12 h13
   refine wl (sv rfl (v := .int .i64 nn12) (r_extract (vs := [.int .i64 nn12, .int .i64 kk12]) (by kernel_rfl) rfl) ?_)
   refine wl (sv rfl (v := .int .i64 kk12) (r_extract (vs := [.int .i64 nn12, .int .i64 kk12]) (by kernel_rfl) rfl) ?_)
   refine was (v := .int .i64 nn12) ?_
   refine was (v := .int .i64 kk12) ?_
   refine wnil (then_n (wp_ret ?_))
   refine bodyPost_ret (v := .tuple #[.int .i64 nn12, .int .i64 kk12]) (res2 rfl (rv_t (by kernel_rfl)) (rv_t (by kernel_rfl))) (by kernel_rfl) ?_
   exact ⟨_, _, rfl, Two.to h11 (stepL_no v8) rfl, mo⟩
  refine wp_cond_true (ebool (b := s.gone) (by kernel_rfl) v8) ?_
  refine wp_seq (rg_lit ?_)
  refine wmv (v := .pointer (some ⟨la, 0, none⟩)) ?_
  refine wl (sv rfl (v := .pointer (some ⟨b1, 1, none⟩)) (r_fieldAddr (u := .pointer (some ⟨b1, 0, none⟩)) (by kernel_rfl) (fun _ => (by kernel_rfl))) ?_)
  refine wl (sv rfl (v := .pointer (some ⟨b1, 2, none⟩)) (r_fieldAddr (u := .pointer (some ⟨b1, 1, none⟩)) (by kernel_rfl) (fun _ => (by kernel_rfl))) ?_)
  refine wl (sv rfl (v := .agg #[.int .i64 s.o.at_.t, .int .i64 s.o.at_.w]) (r_loads (k := 2) (by kernel_rfl) Ty.ag24 Ty.sz24 h4 (by kernel_rfl)) ?_)
  have h9 := (Two.up h u5)
  refine wl (sc rfl (r_callv (caps := []) (all := [.pointer (some ⟨la, 0, none⟩), .agg #[.int .i64 s.o.at_.t, .int .i64 s.o.at_.w]]) En.f41 (by kernel_rfl) (by kernel_rfl)) (two_remA h9 (Nat.le_trans hB M7.size) hlen s.o.at_.t s.o.at_.w) ?_)
  rintro e w10 ⟨nn12, kk12, rfl, h11, o12⟩
  refine ⟨.tuple #[.int .i64 nn12, .int .i64 kk12], rfl, ?_⟩
  have h13 := Only.ob o12 h4 (by decide) (by decide)
  have mo := Only.upl (Mod.up M7) o12
  have h14 := (Dat.up hd u5)
  have h15 := Only.dat o12 h14
  refine wl (sv rfl (v := .int .i64 nn12) (r_extract (vs := [.int .i64 nn12, .int .i64 kk12]) (by kernel_rfl) rfl) ?_)
  refine wl (sv rfl (v := .int .i64 kk12) (r_extract (vs := [.int .i64 nn12, .int .i64 kk12]) (by kernel_rfl) rfl) ?_)
  refine was (v := .int .i64 nn12) ?_
  refine was (v := .int .i64 kk12) ?_
  refine wnil (then_n (wp_ret (then_x (by nofun) ?_)))
  refine bodyPost_ret (v := .tuple #[.int .i64 nn12, .int .i64 kk12]) (res2 rfl (rv_t (by kernel_rfl)) (rv_t (by kernel_rfl))) (by kernel_rfl) ?_
  exact ⟨_, _, rfl, Two.to h11 (stepL_yes v8) rfl, mo⟩
set_option maxRecDepth 20000 in
set_option maxHeartbeats 2000000 in
theorem undoCopies_at {w : World} {lA : Option Addr} {lc : Nat} {ss : List GStep} (h0 : StRow0 w lA ss) (hfull : SmallS ss → StRow w.heap.size w lA ss) (hB : w.heap.size ≤ w.heap.size) (hnS : ss.length ≤ 1300000000000)
    {mA : Option Addr} {mc : Nat} {ms : List GStep} (h2 : StRow0 w mA ms) (hfull2 : SmallS ms → StRow w.heap.size w mA ms) (_hB2 : w.heap.size ≤ w.heap.size) (hnM : ms.length ≤ 1300000000000) :
    Calls Try.prog 10 #[.slice lA ss.length lc, .slice mA ms.length mc] w fun e w' => e = .returned (.bool true) ∧ Up w w' := by
  go_enter Try.func10, Try.ntmps10
  refine wp_seq (rg_lit ?_)
  refine was (v := .bool false) ?_
  refine wnil (then_n (wp_seq (wp_seq (rg_lit ?_))))
  refine wmv (v := .slice lA ss.length lc) ?_
  refine wl (sc rfl (r_callv (caps := []) (all := [.slice lA ss.length lc, .int .i64 20]) En.f31 (by kernel_rfl) (by kernel_rfl)) (light17_at (StRow0.up h0 (Mod.up (Mod.refl [] w))) hnS 20) ?_)
  rintro e w1 ⟨lb2, rfl, h3, u4⟩
  refine ⟨.bool lb2, rfl, ?_⟩
  have M5 := Mod.trans (Mod.refl [] w) (Mod.of_up u4)
  refine wl (sv rfl (v := .bool (!lb2)) (r_not (b := lb2) (by kernel_rfl)) ?_)
  refine wmv (v := .bool (!lb2)) ?_
  refine bcase lb2 (fun v6 => ?_) (fun v6 => ?_)
  ·
   refine wl (sp (wf (b := !lb2) rfl (by kernel_rfl) (bneg v6)) ?_)
   refine wl (sp (wf (b := !lb2) rfl (by kernel_rfl) (bneg v6)) ?_)
   refine wl (sp (wf (b := !lb2) rfl (by kernel_rfl) (bneg v6)) ?_)
   refine wl (sv rfl (v := .bool true) (r_pkT (ebool (b := !lb2) (by kernel_rfl) (bneg v6)) (by kernel_rfl)) ?_)
   refine wnil (then_n ?_)
   refine wp_cond_true (by kernel_rfl) ?_
   refine wp_seq (rg_lit ?_)
   refine wl (sc rfl (r_callv (caps := []) (all := []) En.f32 (by kernel_rfl) (by kernel_rfl)) (alive17_at) ?_)
   rintro e w7 ⟨rfl, u8⟩
   refine ⟨.bool true, rfl, ?_⟩
   have M9 := Mod.trans M5 (Mod.of_up u8)
   refine was (v := .bool true) ?_
   refine wnil (then_n (wp_ret (then_x (by nofun) ?_)))
   refine bodyPost_ret (v := .bool true) (res1 rfl (rv_t (by kernel_rfl))) (by kernel_rfl) ?_
   exact ⟨rfl, Mod.up M9⟩
  obtain ⟨hsmS, hleS⟩ := h3 v6
  have hstepsS := hfull hsmS
  refine wl (sv (wt (b := !lb2) rfl (by kernel_rfl) (bneg v6)) (v := .slice mA ms.length mc) (r_move (by kernel_rfl)) ?_)
  refine wl (sc (wt (b := !lb2) rfl (by kernel_rfl) (bneg v6)) (r_callv (caps := []) (all := [.slice mA ms.length mc, .int .i64 10]) En.f31 (by kernel_rfl) (by kernel_rfl)) (light17_at (StRow0.up h2 (Mod.up M5)) hnM 10) ?_)
  rintro e w7 ⟨lb8, rfl, h9, u10⟩
  refine ⟨.bool lb8, rfl, ?_⟩
  have M11 := Mod.trans M5 (Mod.of_up u10)
  refine wl (sv (wt (b := !lb2) rfl (by kernel_rfl) (bneg v6)) (v := .bool (!lb8)) (r_not (b := lb8) (by kernel_rfl)) ?_)
  refine wl (sv rfl (v := .bool (!lb8)) (r_pkF (ebool (b := !lb2) (by kernel_rfl) (bneg v6)) (by kernel_rfl)) ?_)
  refine wnil (then_n ?_)
  refine bcase lb8 (fun v12 => ?_) (fun v12 => ?_)
  ·
   refine wp_cond_true (ebool (b := !lb8) (by kernel_rfl) (bneg v12)) ?_
   refine wp_seq (rg_lit ?_)
   refine wl (sc rfl (r_callv (caps := []) (all := []) En.f32 (by kernel_rfl) (by kernel_rfl)) (alive17_at) ?_)
   rintro e w13 ⟨rfl, u14⟩
   refine ⟨.bool true, rfl, ?_⟩
   have M15 := Mod.trans M11 (Mod.of_up u14)
   refine was (v := .bool true) ?_
   refine wnil (then_n (wp_ret (then_x (by nofun) ?_)))
   refine bodyPost_ret (v := .bool true) (res1 rfl (rv_t (by kernel_rfl))) (by kernel_rfl) ?_
   exact ⟨rfl, Mod.up M15⟩
  obtain ⟨hsmM, hleM⟩ := h9 v12
  have hstepsM := hfull2 hsmM
  refine wp_cond_false (ebool (b := !lb8) (by kernel_rfl) (bneg v12)) ?_
  refine wp_skip (then_n (wp_seq (rg_lit ?_)))
  refine wl (sc rfl (r_callv (caps := []) (all := []) En.f33 (by kernel_rfl) (by kernel_rfl)) (lognew_at (Nat.le_trans hB M11.size)) ?_)
  rintro e w13 ⟨la, ta, ra, rfl, hL14, u15, _, _, _⟩
  refine ⟨.pointer (some ⟨la, 0, none⟩), rfl, ?_⟩
  have hO16 : One w.heap.size w13 la [] := ⟨ta, ra, _, hL14⟩
  have M17 := Mod.trans M11 (Mod.of_up u15)
  refine was (v := .pointer (some ⟨la, 0, none⟩)) ?_
  refine wnil (then_n (wp_seq (wp_seq (rg_lit ?_))))
  refine was (v := .int .i64 0) ?_
  refine wnil (then_n (wp_block ?_))
  refine lp (fun n a r1 => ∃ (kd : Nat) (z26 z27 z28 z29 z30 z31 z32 z33 z34 z35 z36 z37 : Value), (n = ss.length - kd) ∧ (a = ⟨#[.slice lA ss.length lc, .slice mA ms.length mc, undef, undef, .bool false, .pointer (some ⟨la, 0, none⟩), .int .i64 ((kd : Int)), undef, undef, undef, undef, undef, undef, undef, undef, undef, .slice lA ss.length lc, .bool lb2, .bool (!lb2), .bool (!lb2), .slice mA ms.length mc, .bool lb8, .bool (!lb8), .bool (!lb8), undef, .pointer (some ⟨la, 0, none⟩), z26, z27, z28, z29, z30, z31, z32, z33, z34, z35, z36, z37, undef, undef, undef, undef, undef, undef, undef, undef, undef, undef, undef, undef, undef, undef, undef, undef, undef, undef, undef, undef, undef, undef, undef, undef, undef, undef, undef, undef, undef, undef, undef, undef, undef, undef, undef, undef, undef, undef, undef, undef, undef, undef, undef, undef, undef, undef, undef, undef, undef, undef, undef, undef, undef, undef, undef, undef, undef, undef, undef, undef, undef, undef, undef, undef, undef, undef, undef, undef, undef, undef, undef, undef, undef, undef, undef, undef, undef, undef, undef, undef, undef, undef, undef, undef, undef, undef, undef, undef, undef, undef, undef, undef, undef], []⟩) ∧ (Up w r1) ∧ (kd ≤ ss.length) ∧ (One w.heap.size r1 la ((ss.take kd).foldl stepL []))) ⟨_, 0, undef, undef, undef, undef, undef, undef, undef, undef, undef, undef, undef, undef, rfl, (by kernel_rfl), (Mod.up M17), (Nat.zero_le _), hO16⟩ ?_
  rintro _ _ r1 ⟨kd, z26, z27, z28, z29, z30, z31, z32, z33, z34, z35, z36, z37, rfl, rfl, hU1, hF1_0, hF1_1⟩
  refine wp_seq (wp_seq (rg_lit ?_))
  refine wmv (v := .int .i64 ((kd : Int))) ?_
  refine wmv (v := .slice lA ss.length lc) ?_
  refine wl (sv rfl (v := .int .i64 ((ss.length : Int))) (r_len Ty.un60 (ad := lA) (n := ss.length) (c := lc) (by kernel_rfl)) ?_)
  refine wl (sb rfl (r_lt (k := .i64) (m := ((kd : Int))) (n := ((ss.length : Int))) (by kernel_rfl) (by kernel_rfl)) ?_)
  intro b18 k19
  refine wnil (then_n ?_)
  refine bcase b18 (fun v20 => ?_) (fun v20 => ?_)
  ·
   have p21 := of_decide_eq_false (k19.trans v20)
   refine wp_cond_false (ebool (b := b18) (by kernel_rfl) v20) ?_
   refine wp_exit (then_x (by nofun) (then_x (by nofun) (inb_hit (then_n (wp_seq (rg_lit ?_))))))
   refine wmv (v := .pointer (some ⟨la, 0, none⟩)) ?_
   obtain ⟨Pp, hPp⟩ : ∃ P, P = ss.foldl stepL [] := ⟨_, rfl⟩
   have hO0 : One w.heap.size r1 la Pp := One.to hF1_1 (by rw [hPp]; exact foldS_all (by omega))
   have hPl : Pp.length ≤ 20 := by rw [hPp]; have h0 := foldS_len ss []; simp only [List.length_nil] at h0; omega
   obtain ⟨r, hR0⟩ := hO0.r
   have hPs := hR0.srt
   have hPn := hR0.names
   have hPi : (playA Pp).length ≤ 1000 := by have h0 := play_one Pp []; unfold playA; simp only [List.length_nil] at h0; omega
   refine wl (sc rfl (r_callv (caps := []) (all := [.pointer (some ⟨la, 0, none⟩)]) En.f46 (by kernel_rfl) (by kernel_rfl)) (copy_at hR0 (Nat.le_trans hB (Mod.of_up (X := []) hU1).size) (by omega)) ?_)
   rintro e w22 ⟨lc2, rfl, hT23, u24⟩
   refine ⟨.pointer (some ⟨lc2, 0, none⟩), rfl, ?_⟩
   have M25 := Mod.trans (Mod.of_up (X := []) hU1) (Mod.of_up u24)
   refine was (v := .pointer (some ⟨lc2, 0, none⟩)) ?_
   refine wnil (then_n (wp_seq (rg_lit ?_)))
   refine wmv (v := .pointer (some ⟨lc2, 0, none⟩)) ?_
   refine wl (sc rfl (r_callv (caps := []) (all := [.pointer (some ⟨lc2, 0, none⟩)]) En.f35 (by kernel_rfl) (by kernel_rfl)) (one_ops (Two.one (Two.swap hT23)) (Nat.le_trans hB M25.size) (by omega)) ?_)
   rintro e w26 ⟨A27, c28, rfl, h29, u30⟩
   refine ⟨.slice A27 Pp.length c28, rfl, ?_⟩
   have M31 := Mod.trans M25 (Mod.of_up u30)
   refine was (v := .slice A27 Pp.length c28) ?_
   refine wnil (then_n (wp_seq (rg_lit ?_)))
   refine wmv (v := .pointer (some ⟨lc2, 0, none⟩)) ?_
   have h32 := (Two.up hT23 u30)
   refine wl (sc rfl (r_callv (caps := []) (all := [.pointer (some ⟨lc2, 0, none⟩)]) En.f40 (by kernel_rfl) (by kernel_rfl)) (one_tree (Two.one (Two.swap h32)) (by omega)) ?_)
   rintro e w33 ⟨tz34, rz35, rfl, h36, u37⟩
   refine ⟨.pointer (some ⟨tz34, 0, none⟩), rfl, ?_⟩
   have M38 := Mod.trans M31 (Mod.of_up u37)
   refine wl (sc rfl (r_callv (caps := []) (all := [.pointer (some ⟨tz34, 0, none⟩)]) En.f21 (by kernel_rfl) (by kernel_rfl)) (all_row h36 (Nat.le_trans hB M38.size)) ?_)
   rintro e w39 ⟨v, rfl, h42, u43⟩
   obtain ⟨A40, c41, rfl⟩ := h42.form
   refine ⟨.slice A40 ((playA Pp).length) c41, rfl, ?_⟩
   have M44 := Mod.trans M38 (Mod.of_up u43)
   refine wl (sc rfl (r_callv (caps := []) (all := [.slice A40 ((playA Pp).length) c41]) En.f20 (by kernel_rfl) (by kernel_rfl)) (litems_at h42 (Nat.le_trans hB M44.size) hPi) ?_)
   rintro e w45 ⟨v, rfl, h48, u49⟩
   obtain ⟨A46, c47, rfl⟩ := h48.form
   refine ⟨.slice A46 ((playA Pp).length) c47, rfl, ?_⟩
   have M50 := Mod.trans M44 (Mod.of_up u49)
   refine was (v := .slice A46 ((playA Pp).length) c47) ?_
   refine wnil (then_n (wp_seq (wp_seq (rg_lit ?_))))
   refine wmv (v := .slice A27 Pp.length c28) ?_
   refine wmv (v := .pointer (some ⟨la, 0, none⟩)) ?_
   have h51 := (Two.up (Two.up (Two.up h32 u37) u43) u49)
   refine wl (sc rfl (r_callv (caps := []) (all := [.pointer (some ⟨la, 0, none⟩)]) En.f35 (by kernel_rfl) (by kernel_rfl)) (one_ops (Two.one h51) (Nat.le_trans hB M50.size) (by omega)) ?_)
   rintro e w52 ⟨A53, c54, rfl, h55, u56⟩
   refine ⟨.slice A53 Pp.length c54, rfl, ?_⟩
   have M57 := Mod.trans M50 (Mod.of_up u56)
   have h58 := (ORow.up (ORow.up (ORow.up (ORow.up h29 u37) u43) u49) u56)
   refine wl (sc rfl (r_callv (caps := []) (all := [.slice A27 Pp.length c28, .slice A53 Pp.length c54]) En.f38 (by kernel_rfl) (by kernel_rfl)) (bool_true rfl (r15all_at h58 h55 (by omega))) ?_)
   rintro e w59 ⟨rfl, u60⟩
   refine ⟨.bool true, rfl, ?_⟩
   have M61 := Mod.trans M57 (Mod.of_up u60)
   refine wl (sv rfl (v := .bool false) (r_not (b := true) (by kernel_rfl)) ?_)
   refine wmv (v := .bool false) ?_
   refine wl (sv (by kernel_rfl) (v := .pointer (some ⟨la, 0, none⟩)) (r_move (by kernel_rfl)) ?_)
   have h62 := (Two.up (Two.up h51 u56) u60)
   refine wl (sc (by kernel_rfl) (r_callv (caps := []) (all := [.pointer (some ⟨la, 0, none⟩)]) En.f40 (by kernel_rfl) (by kernel_rfl)) (one_tree (Two.one h62) (by omega)) ?_)
   rintro e w63 ⟨tz64, rz65, rfl, h66, u67⟩
   refine ⟨.pointer (some ⟨tz64, 0, none⟩), rfl, ?_⟩
   have M68 := Mod.trans M61 (Mod.of_up u67)
   refine wl (sv (by kernel_rfl) (v := .pointer (some ⟨lc2, 0, none⟩)) (r_move (by kernel_rfl)) ?_)
   have h69 := (Two.up h62 u67)
   refine wl (sc (by kernel_rfl) (r_callv (caps := []) (all := [.pointer (some ⟨lc2, 0, none⟩)]) En.f40 (by kernel_rfl) (by kernel_rfl)) (one_tree (Two.one (Two.swap h69)) (by omega)) ?_)
   rintro e w70 ⟨tz71, rz72, rfl, h73, u74⟩
   refine ⟨.pointer (some ⟨tz71, 0, none⟩), rfl, ?_⟩
   have M75 := Mod.trans M68 (Mod.of_up u74)
   have h76 := (TreeIs.up h66 u74)
   refine wl (sc (by kernel_rfl) (r_callv (caps := []) (all := [.pointer (some ⟨tz64, 0, none⟩), .pointer (some ⟨tz71, 0, none⟩)]) En.f39 (by kernel_rfl) (by kernel_rfl)) (bool_true rfl (tsame_at h76 h73)) ?_)
   rintro e w77 ⟨rfl, u78⟩
   refine ⟨.bool true, rfl, ?_⟩
   have M79 := Mod.trans M75 (Mod.of_up u78)
   refine wl (sv (by kernel_rfl) (v := .bool false) (r_not (b := true) (by kernel_rfl)) ?_)
   refine wl (sv rfl (v := .bool false) (r_pkF (by kernel_rfl) (by kernel_rfl)) ?_)
   refine wnil (then_n ?_)
   refine wp_cond_false (by kernel_rfl) ?_
   refine wp_skip (then_n (wp_seq (wp_seq (rg_lit ?_))))
   refine was (v := .int .i64 0) ?_
   refine wnil (then_n (wp_block ?_))
   have h80 := (ORow.up (ORow.up (ORow.up (ORow.up h58 u60) u67) u74) u78)
   have h81 := (IRow.up (IRow.up (IRow.up (IRow.up (IRow.up h48 u56) u60) u67) u74) u78)
   have h82 := (Two.up (Two.up h69 u74) u78)
   refine lp (fun n a r2 => ∃ (ke : Nat) (z59 z60 z61 z62 z63 z64 z65 z66 z67 z68 z69 z70 : Value), (n = ms.length - ke) ∧ (a = ⟨#[.slice lA ss.length lc, .slice mA ms.length mc, undef, undef, .bool false, .pointer (some ⟨la, 0, none⟩), .int .i64 ((kd : Int)), .pointer (some ⟨lc2, 0, none⟩), .slice A27 Pp.length c28, .slice A46 ((playA Pp).length) c47, .int .i64 ((ke : Int)), undef, undef, undef, undef, undef, .slice lA ss.length lc, .bool lb2, .bool (!lb2), .bool (!lb2), .slice mA ms.length mc, .bool lb8, .bool (!lb8), .bool (!lb8), undef, .pointer (some ⟨la, 0, none⟩), .int .i64 ((kd : Int)), .slice lA ss.length lc, .int .i64 ((ss.length : Int)), .bool b18, z30, z31, z32, z33, z34, z35, z36, z37, .pointer (some ⟨la, 0, none⟩), .pointer (some ⟨lc2, 0, none⟩), .pointer (some ⟨lc2, 0, none⟩), .slice A27 Pp.length c28, .pointer (some ⟨lc2, 0, none⟩), .pointer (some ⟨tz34, 0, none⟩), .slice A40 ((playA Pp).length) c41, .slice A46 ((playA Pp).length) c47, .slice A27 Pp.length c28, .pointer (some ⟨la, 0, none⟩), .slice A53 Pp.length c54, .bool true, .bool false, .bool false, .pointer (some ⟨la, 0, none⟩), .pointer (some ⟨tz64, 0, none⟩), .pointer (some ⟨lc2, 0, none⟩), .pointer (some ⟨tz71, 0, none⟩), .bool true, .bool false, .bool false, z59, z60, z61, z62, z63, z64, z65, z66, z67, z68, z69, z70, undef, undef, undef, undef, undef, undef, undef, undef, undef, undef, undef, undef, undef, undef, undef, undef, undef, undef, undef, undef, undef, undef, undef, undef, undef, undef, undef, undef, undef, undef, undef, undef, undef, undef, undef, undef, undef, undef, undef, undef, undef, undef, undef, undef, undef, undef, undef, undef, undef, undef, undef, undef, undef, undef, undef, undef, undef, undef, undef, undef], []⟩) ∧ (Up w r2) ∧ (ke ≤ ms.length) ∧ (∃ b1, ORow 40 w.heap.size b1 r2 (.slice A27 Pp.length c28) Pp) ∧ (∃ b1, IRow 41 w.heap.size b1 r2 (.slice A46 ((playA Pp).length) c47) (playA Pp)) ∧ (Two w.heap.size r2 la lc2 ((ms.take ke).foldl stepL Pp) Pp)) ⟨_, 0, undef, undef, undef, undef, undef, undef, undef, undef, undef, undef, undef, undef, rfl, (by kernel_rfl), (Mod.up M79), (Nat.zero_le _), ⟨_, h80⟩, ⟨_, h81⟩, h82⟩ ?_
   rintro _ _ r2 ⟨ke, z59, z60, z61, z62, z63, z64, z65, z66, z67, z68, z69, z70, rfl, rfl, hU2, hF2_0, hF2_1, hF2_2, hF2_3⟩
   obtain ⟨bo, hF2_1o⟩ := hF2_1
   obtain ⟨bi, hF2_2i⟩ := hF2_2
   refine wp_seq (wp_seq (rg_lit ?_))
   refine wmv (v := .int .i64 ((ke : Int))) ?_
   refine wmv (v := .slice mA ms.length mc) ?_
   refine wl (sv rfl (v := .int .i64 ((ms.length : Int))) (r_len Ty.un60 (ad := mA) (n := ms.length) (c := mc) (by kernel_rfl)) ?_)
   refine wl (sb rfl (r_lt (k := .i64) (m := ((ke : Int))) (n := ((ms.length : Int))) (by kernel_rfl) (by kernel_rfl)) ?_)
   intro b83 k84
   refine wnil (then_n ?_)
   refine bcase b83 (fun v85 => ?_) (fun v85 => ?_)
   ·
    have p86 := of_decide_eq_false (k84.trans v85)
    refine wp_cond_false (ebool (b := b83) (by kernel_rfl) v85) ?_
    refine wp_exit (then_x (by nofun) (then_x (by nofun) (inb_hit (then_n (wp_seq (wp_seq (rg_lit ?_)))))))
    refine wmv (v := .pointer (some ⟨lc2, 0, none⟩)) ?_
    refine wl (sc rfl (r_callv (caps := []) (all := [.pointer (some ⟨lc2, 0, none⟩)]) En.f35 (by kernel_rfl) (by kernel_rfl)) (one_ops (Two.one (Two.swap hF2_3)) (Nat.le_trans hB (Mod.of_up (X := []) hU2).size) (by omega)) ?_)
    rintro e w87 ⟨A88, c89, rfl, h90, u91⟩
    refine ⟨.slice A88 Pp.length c89, rfl, ?_⟩
    have M92 := Mod.trans (Mod.of_up (X := []) hU2) (Mod.of_up u91)
    refine wmv (v := .slice A27 Pp.length c28) ?_
    have h93 := (ORow.up hF2_1o u91)
    refine wl (sc rfl (r_callv (caps := []) (all := [.slice A88 Pp.length c89, .slice A27 Pp.length c28]) En.f38 (by kernel_rfl) (by kernel_rfl)) (bool_true rfl (r15all_at h90 h93 (by omega))) ?_)
    rintro e w94 ⟨rfl, u95⟩
    refine ⟨.bool true, rfl, ?_⟩
    have M96 := Mod.trans M92 (Mod.of_up u95)
    refine wl (sv rfl (v := .bool false) (r_not (b := true) (by kernel_rfl)) ?_)
    refine wmv (v := .bool false) ?_
    refine wl (sv (by kernel_rfl) (v := .pointer (some ⟨lc2, 0, none⟩)) (r_move (by kernel_rfl)) ?_)
    have h97 := (Two.up (Two.up hF2_3 u91) u95)
    refine wl (sc (by kernel_rfl) (r_callv (caps := []) (all := [.pointer (some ⟨lc2, 0, none⟩)]) En.f40 (by kernel_rfl) (by kernel_rfl)) (one_tree (Two.one (Two.swap h97)) (by omega)) ?_)
    rintro e w98 ⟨tz99, rz100, rfl, h101, u102⟩
    refine ⟨.pointer (some ⟨tz99, 0, none⟩), rfl, ?_⟩
    have M103 := Mod.trans M96 (Mod.of_up u102)
    refine wl (sc (by kernel_rfl) (r_callv (caps := []) (all := [.pointer (some ⟨tz99, 0, none⟩)]) En.f21 (by kernel_rfl) (by kernel_rfl)) (all_row h101 (Nat.le_trans hB M103.size)) ?_)
    rintro e w104 ⟨v, rfl, h107, u108⟩
    obtain ⟨A105, c106, rfl⟩ := h107.form
    refine ⟨.slice A105 ((playA Pp).length) c106, rfl, ?_⟩
    have M109 := Mod.trans M103 (Mod.of_up u108)
    refine wl (sc (by kernel_rfl) (r_callv (caps := []) (all := [.slice A105 ((playA Pp).length) c106]) En.f20 (by kernel_rfl) (by kernel_rfl)) (litems_at h107 (Nat.le_trans hB M109.size) hPi) ?_)
    rintro e w110 ⟨v, rfl, h113, u114⟩
    obtain ⟨A111, c112, rfl⟩ := h113.form
    refine ⟨.slice A111 ((playA Pp).length) c112, rfl, ?_⟩
    have M115 := Mod.trans M109 (Mod.of_up u114)
    refine wl (sv (by kernel_rfl) (v := .slice A46 ((playA Pp).length) c47) (r_move (by kernel_rfl)) ?_)
    have h116 := (IRow.up (IRow.up (IRow.up (IRow.up (IRow.up hF2_2i u91) u95) u102) u108) u114)
    refine wl (sc (by kernel_rfl) (r_callv (caps := []) (all := [.slice A111 ((playA Pp).length) c112, .slice A46 ((playA Pp).length) c47]) EnC.f19 (by kernel_rfl) (by kernel_rfl)) (bool_true rfl (rsame_at h113 h116 hPi)) ?_)
    rintro e w117 ⟨rfl, u118⟩
    refine ⟨.bool true, rfl, ?_⟩
    have M119 := Mod.trans M115 (Mod.of_up u118)
    refine wl (sv (by kernel_rfl) (v := .bool false) (r_not (b := true) (by kernel_rfl)) ?_)
    refine wl (sv rfl (v := .bool false) (r_pkF (by kernel_rfl) (by kernel_rfl)) ?_)
    refine wnil (then_n ?_)
    refine wp_cond_false (by kernel_rfl) ?_
    refine wp_skip (then_n (wp_seq (rg_lit ?_)))
    refine was (v := .pointer none) ?_
    refine wnil (then_n (wp_seq (rg_lit ?_)))
    refine wmv (v := .pointer none) ?_
    refine wl (sv rfl (v := .agg #[.int .i64 0, .int .i64 0, .int .i64 0, .int .i64 0, .int .i64 0, .int .i64 0, .int .i64 0, .bool false, .string (⟨#[]⟩), .slice none 0 0]) (r_build (ps := []) (cs := [.int .i64 0, .int .i64 0, .int .i64 0, .int .i64 0, .int .i64 0, .int .i64 0, .int .i64 0, .bool false, .string (⟨#[]⟩), .slice none 0 0]) Ty.un40 Ty.zv40 Ty.pl40 (by kernel_rfl) (by kernel_rfl)) ?_)
    refine wl (sc rfl (r_callv (caps := []) (all := [.pointer none, .agg #[.int .i64 0, .int .i64 0, .int .i64 0, .int .i64 0, .int .i64 0, .int .i64 0, .int .i64 0, .bool false, .string (⟨#[]⟩), .slice none 0 0]]) En.f37 (by kernel_rfl) (by kernel_rfl)) nil_ins ?_)
    rintro e w120 ⟨rfl, u121⟩
    refine ⟨.tuple #[.int .i64 0, .int .i64 23], rfl, ?_⟩
    have M122 := Mod.trans M119 (Mod.of_up u121)
    refine wmv (v := .tuple #[.int .i64 0, .int .i64 23]) ?_
    refine wl (sv rfl (v := .int .i64 0) (r_extract (vs := [.int .i64 0, .int .i64 23]) (by kernel_rfl) rfl) ?_)
    refine wl (sv rfl (v := .int .i64 23) (r_extract (vs := [.int .i64 0, .int .i64 23]) (by kernel_rfl) rfl) ?_)
    refine was (v := .int .i64 0) ?_
    refine was (v := .int .i64 23) ?_
    refine wnil (then_n (wp_seq (rg_lit ?_)))
    refine wmv (v := .pointer none) ?_
    refine wl (sv rfl (v := .agg #[.int .i64 0, .int .i64 0]) (r_build (ps := []) (cs := [.int .i64 0, .int .i64 0]) Ty.un24 Ty.zv24 Ty.pl24 (by kernel_rfl) (by kernel_rfl)) ?_)
    refine wl (sc rfl (r_callv (caps := []) (all := [.pointer none, .agg #[.int .i64 0, .int .i64 0]]) En.f41 (by kernel_rfl) (by kernel_rfl)) nil_rem ?_)
    rintro e w123 ⟨rfl, u124⟩
    refine ⟨.tuple #[.int .i64 0, .int .i64 23], rfl, ?_⟩
    have M125 := Mod.trans M122 (Mod.of_up u124)
    refine wmv (v := .tuple #[.int .i64 0, .int .i64 23]) ?_
    refine wl (sv rfl (v := .int .i64 0) (r_extract (vs := [.int .i64 0, .int .i64 23]) (by kernel_rfl) rfl) ?_)
    refine wl (sv rfl (v := .int .i64 23) (r_extract (vs := [.int .i64 0, .int .i64 23]) (by kernel_rfl) rfl) ?_)
    refine was (v := .int .i64 0) ?_
    refine was (v := .int .i64 23) ?_
    refine wnil (then_n (wp_seq (rg_lit ?_)))
    refine wmv (v := .int .i64 23) ?_
    refine wl (sv (w' := w123) rfl (v := .bool true) (by kernel_rfl) ?_)
    refine wmv (v := .bool true) ?_
    refine wl (sv (by kernel_rfl) (v := .int .i64 23) (r_move (by kernel_rfl)) ?_)
    refine wl (sv (w' := w123) (by kernel_rfl) (v := .bool true) (by kernel_rfl) ?_)
    refine wl (sv rfl (v := .bool true) (r_pkT (by kernel_rfl) (by kernel_rfl)) ?_)
    refine wmv (v := .bool true) ?_
    refine wl (sv (by kernel_rfl) (v := .pointer none) (r_move (by kernel_rfl)) ?_)
    refine wl (sv (by kernel_rfl) (v := .agg #[.int .i64 0, .int .i64 0]) (r_build (ps := []) (cs := [.int .i64 0, .int .i64 0]) Ty.un24 Ty.zv24 Ty.pl24 (by kernel_rfl) (by kernel_rfl)) ?_)
    refine wl (sc (by kernel_rfl) (r_callv (caps := []) (all := [.pointer none, .agg #[.int .i64 0, .int .i64 0]]) En.f43 (by kernel_rfl) (by kernel_rfl)) nil_has ?_)
    rintro e w126 ⟨rfl, u127⟩
    refine ⟨.bool false, rfl, ?_⟩
    have M128 := Mod.trans M125 (Mod.of_up u127)
    refine wl (sv (by kernel_rfl) (v := .bool true) (r_not (b := false) (by kernel_rfl)) ?_)
    refine wl (sv rfl (v := .bool true) (r_pkT (by kernel_rfl) (by kernel_rfl)) ?_)
    refine wmv (v := .bool true) ?_
    refine wl (sv (by kernel_rfl) (v := .pointer none) (r_move (by kernel_rfl)) ?_)
    refine wl (sc (by kernel_rfl) (r_callv (caps := []) (all := [.pointer none]) En.f47 (by kernel_rfl) (by kernel_rfl)) nil_len ?_)
    rintro e w129 ⟨rfl, u130⟩
    refine ⟨.int .i64 0, rfl, ?_⟩
    have M131 := Mod.trans M128 (Mod.of_up u130)
    refine wl (sv (by kernel_rfl) (v := .pointer none) (r_move (by kernel_rfl)) ?_)
    refine wl (sc (by kernel_rfl) (r_callv (caps := []) (all := [.pointer none]) En.f35 (by kernel_rfl) (by kernel_rfl)) nil_ops ?_)
    rintro e w132 ⟨rfl, u133⟩
    refine ⟨.slice none 0 0, rfl, ?_⟩
    have M134 := Mod.trans M131 (Mod.of_up u133)
    refine wl (sv (by kernel_rfl) (v := .int .i64 0) (r_len Ty.un22 (ad := none) (n := 0) (c := 0) (by kernel_rfl)) ?_)
    refine wl (sv (w' := w132) (by kernel_rfl) (v := .int .i64 0) (by kernel_rfl) ?_)
    refine wl (sv (w' := w132) (by kernel_rfl) (v := .bool true) (by kernel_rfl) ?_)
    refine wl (sv rfl (v := .bool true) (r_pkT (by kernel_rfl) (by kernel_rfl)) ?_)
    refine wmv (v := .bool true) ?_
    refine wl (sv (by kernel_rfl) (v := .pointer none) (r_move (by kernel_rfl)) ?_)
    refine wl (sc (by kernel_rfl) (r_callv (caps := []) (all := [.pointer none]) En.f40 (by kernel_rfl) (by kernel_rfl)) nil_tree ?_)
    rintro e w135 ⟨rfl, u136⟩
    refine ⟨.pointer none, rfl, ?_⟩
    have M137 := Mod.trans M134 (Mod.of_up u136)
    refine wl (sv (w' := w135) (by kernel_rfl) (v := .bool true) (by kernel_rfl) ?_)
    refine wl (sv rfl (v := .bool true) (r_pkT (by kernel_rfl) (by kernel_rfl)) ?_)
    refine wmv (v := .bool true) ?_
    refine wl (sv (by kernel_rfl) (v := .pointer none) (r_move (by kernel_rfl)) ?_)
    refine wl (sc (by kernel_rfl) (r_callv (caps := []) (all := [.pointer none]) En.f46 (by kernel_rfl) (by kernel_rfl)) nil_copy ?_)
    rintro e w138 ⟨rfl, u139⟩
    refine ⟨.pointer none, rfl, ?_⟩
    have M140 := Mod.trans M137 (Mod.of_up u139)
    refine wl (sv (w' := w138) (by kernel_rfl) (v := .bool true) (by kernel_rfl) ?_)
    refine wl (sv rfl (v := .bool true) (r_pkT (by kernel_rfl) (by kernel_rfl)) ?_)
    refine wmv (v := .bool true) ?_
    refine wl (sc (by kernel_rfl) (r_callv (caps := []) (all := []) En.f32 (by kernel_rfl) (by kernel_rfl)) (alive17_at) ?_)
    rintro e w141 ⟨rfl, u142⟩
    refine ⟨.bool true, rfl, ?_⟩
    have M143 := Mod.trans M140 (Mod.of_up u142)
    refine wl (sv rfl (v := .bool true) (r_pkT (by kernel_rfl) (by kernel_rfl)) ?_)
    refine was (v := .bool true) ?_
    refine wnil (then_n (wp_ret ?_))
    refine bodyPost_ret (v := .bool true) (res1 rfl (rv_t (by kernel_rfl))) (by kernel_rfl) ?_
    exact ⟨rfl, Mod.up M143⟩
   have p86 := of_decide_eq_true (k84.trans v85)
   refine wp_cond_true (ebool (b := b83) (by kernel_rfl) v85) ?_
   refine wp_skip (then_n (wp_seq (wp_block (rg_lit ?_))))
   refine wmv (v := .pointer (some ⟨la, 0, none⟩)) ?_
   refine wmv (v := .slice mA ms.length mc) ?_
   refine wmv (v := .int .i64 ((ke : Int))) ?_
   have h88 := (StRow.up hstepsM (Mod.up (Mod.of_up (X := []) hU2)))
   obtain ⟨s87, hs87⟩ : ∃ x, ms[ke]? = some x := ⟨_, List.getElem?_eq_getElem (by omega)⟩
   obtain ⟨g87, f87, dA87, dn87, dc87, hA87, hl87, hc87, hD87, hz87⟩ := h88 ke s87 hs87
   refine wl (sv rfl (v := .pointer (some ⟨g87, f87 + ke * 11, none⟩)) (r_ixaddr' (A := mA) (b := g87) (o := f87) (n := ms.length) (c := mc) (sz := 11) (j := ((ke : Int))) (m := f87 + ke * 11) (by kernel_rfl) hA87 (by kernel_rfl) Ty.un60 Ty.sz67 (by omega) (by omega) (by simp)) ?_)
   refine wl (sv rfl (v := .agg #[.bool s87.gone, .int .i64 s87.o.kind, .int .i64 s87.o.at_.t, .int .i64 s87.o.at_.w, .int .i64 s87.o.node.t, .int .i64 s87.o.node.w, .int .i64 s87.o.parent.t, .int .i64 s87.o.parent.w, .bool s87.o.dir, .string s87.o.name, .slice dA87 dn87 dc87]) (r_loadcN (k := f87 + ke * 11) (vs := [.bool s87.gone, .int .i64 s87.o.kind, .int .i64 s87.o.at_.t, .int .i64 s87.o.at_.w, .int .i64 s87.o.node.t, .int .i64 s87.o.node.w, .int .i64 s87.o.parent.t, .int .i64 s87.o.parent.w, .bool s87.o.dir, .string s87.o.name, .slice dA87 dn87 dc87]) (by kernel_rfl) Ty.ag67 Ty.sz67 hc87) ?_)
   refine wl (sc rfl (r_callv (caps := []) (all := [.pointer (some ⟨la, 0, none⟩), .agg #[.bool s87.gone, .int .i64 s87.o.kind, .int .i64 s87.o.at_.t, .int .i64 s87.o.at_.w, .int .i64 s87.o.node.t, .int .i64 s87.o.node.w, .int .i64 s87.o.parent.t, .int .i64 s87.o.parent.w, .bool s87.o.dir, .string s87.o.name, .slice dA87 dn87 dc87]]) En.f34 (by kernel_rfl) (by kernel_rfl)) (step17two_at hF2_3 (Nat.le_trans hB (Mod.of_up (X := []) hU2).size) (by have h0 := foldS_len' ms Pp ke; omega) s87 dA87 dn87 dc87 hD87 hz87) ?_)
   rintro e w89 ⟨nn91, kk91, rfl, h90, ho91⟩
   refine ⟨.tuple #[.int .i64 nn91, .int .i64 kk91], rfl, ?_⟩
   have M92 := Only.of_up (Mod.up (Mod.of_up (X := []) hU2)) ho91
   have h93 := ORow.only hF2_1o ho91
   have h94 := IRow.only hF2_2i ho91 (by decide) (by decide)
   refine wnil (inb_n (then_n (rg_lit ?_)))
   refine wmv (v := .int .i64 ((ke : Int))) ?_
   refine wl (sv rfl (v := .int .i64 (((ke + 1 : Nat) : Int))) (r_add (k := .i64) (m := ((ke : Int))) (n := 1) (c := (((ke + 1 : Nat) : Int))) (by kernel_rfl) (by kernel_rfl) ((IntWalk.i64_in _ (by omega)).trans (by omega))) ?_)
   refine was (v := .int .i64 (((ke + 1 : Nat) : Int))) ?_
   refine wnil (then_n ?_)
   refine ⟨ms.length - (ke + 1), ?_, (ke + 1), .int .i64 ((ke : Int)), .slice mA ms.length mc, .int .i64 ((ms.length : Int)), .bool b83, .int .i64 ((ke : Int)), .int .i64 (((ke + 1 : Nat) : Int)), .pointer (some ⟨la, 0, none⟩), .slice mA ms.length mc, .int .i64 ((ke : Int)), .pointer (some ⟨g87, f87 + ke * 11, none⟩), .agg #[.bool s87.gone, .int .i64 s87.o.kind, .int .i64 s87.o.at_.t, .int .i64 s87.o.at_.w, .int .i64 s87.o.node.t, .int .i64 s87.o.node.w, .int .i64 s87.o.parent.t, .int .i64 s87.o.parent.w, .bool s87.o.dir, .string s87.o.name, .slice dA87 dn87 dc87], .tuple #[.int .i64 nn91, .int .i64 kk91], rfl, (by kernel_rfl), (Mod.up (Mod.of_up (X := []) M92)), (by omega), ⟨_, h93⟩, ⟨_, h94⟩, (Two.to h90 (foldS_next' hs87) rfl)⟩
   · omega
  have p21 := of_decide_eq_true (k19.trans v20)
  refine wp_cond_true (ebool (b := b18) (by kernel_rfl) v20) ?_
  refine wp_skip (then_n (wp_seq (wp_block (rg_lit ?_))))
  refine wmv (v := .pointer (some ⟨la, 0, none⟩)) ?_
  refine wmv (v := .slice lA ss.length lc) ?_
  refine wmv (v := .int .i64 ((kd : Int))) ?_
  have h23 := (StRow.up hstepsS (Mod.up (Mod.of_up (X := []) hU1)))
  obtain ⟨s22, hs22⟩ : ∃ x, ss[kd]? = some x := ⟨_, List.getElem?_eq_getElem (by omega)⟩
  obtain ⟨g22, f22, dA22, dn22, dc22, hA22, hl22, hc22, hD22, hz22⟩ := h23 kd s22 hs22
  refine wl (sv rfl (v := .pointer (some ⟨g22, f22 + kd * 11, none⟩)) (r_ixaddr' (A := lA) (b := g22) (o := f22) (n := ss.length) (c := lc) (sz := 11) (j := ((kd : Int))) (m := f22 + kd * 11) (by kernel_rfl) hA22 (by kernel_rfl) Ty.un60 Ty.sz67 (by omega) (by omega) (by simp)) ?_)
  refine wl (sv rfl (v := .agg #[.bool s22.gone, .int .i64 s22.o.kind, .int .i64 s22.o.at_.t, .int .i64 s22.o.at_.w, .int .i64 s22.o.node.t, .int .i64 s22.o.node.w, .int .i64 s22.o.parent.t, .int .i64 s22.o.parent.w, .bool s22.o.dir, .string s22.o.name, .slice dA22 dn22 dc22]) (r_loadcN (k := f22 + kd * 11) (vs := [.bool s22.gone, .int .i64 s22.o.kind, .int .i64 s22.o.at_.t, .int .i64 s22.o.at_.w, .int .i64 s22.o.node.t, .int .i64 s22.o.node.w, .int .i64 s22.o.parent.t, .int .i64 s22.o.parent.w, .bool s22.o.dir, .string s22.o.name, .slice dA22 dn22 dc22]) (by kernel_rfl) Ty.ag67 Ty.sz67 hc22) ?_)
  refine wl (sc rfl (r_callv (caps := []) (all := [.pointer (some ⟨la, 0, none⟩), .agg #[.bool s22.gone, .int .i64 s22.o.kind, .int .i64 s22.o.at_.t, .int .i64 s22.o.at_.w, .int .i64 s22.o.node.t, .int .i64 s22.o.node.w, .int .i64 s22.o.parent.t, .int .i64 s22.o.parent.w, .bool s22.o.dir, .string s22.o.name, .slice dA22 dn22 dc22]]) En.f34 (by kernel_rfl) (by kernel_rfl)) (step17_at hF1_1 (Nat.le_trans hB (Mod.of_up (X := []) hU1).size) (by have h0 := foldT_len ss kd; omega) s22 dA22 dn22 dc22 hD22 hz22) ?_)
  rintro e w24 ⟨nn26, kk26, rfl, h25, ho26⟩
  refine ⟨.tuple #[.int .i64 nn26, .int .i64 kk26], rfl, ?_⟩
  have M27 := Only.of_up (Mod.up (Mod.of_up (X := []) hU1)) ho26
  refine wnil (inb_n (then_n (rg_lit ?_)))
  refine wmv (v := .int .i64 ((kd : Int))) ?_
  refine wl (sv rfl (v := .int .i64 (((kd + 1 : Nat) : Int))) (r_add (k := .i64) (m := ((kd : Int))) (n := 1) (c := (((kd + 1 : Nat) : Int))) (by kernel_rfl) (by kernel_rfl) ((IntWalk.i64_in _ (by omega)).trans (by omega))) ?_)
  refine was (v := .int .i64 (((kd + 1 : Nat) : Int))) ?_
  refine wnil (then_n ?_)
  refine ⟨ss.length - (kd + 1), ?_, (kd + 1), .int .i64 ((kd : Int)), .slice lA ss.length lc, .int .i64 ((ss.length : Int)), .bool b18, .int .i64 ((kd : Int)), .int .i64 (((kd + 1 : Nat) : Int)), .pointer (some ⟨la, 0, none⟩), .slice lA ss.length lc, .int .i64 ((kd : Int)), .pointer (some ⟨g22, f22 + kd * 11, none⟩), .agg #[.bool s22.gone, .int .i64 s22.o.kind, .int .i64 s22.o.at_.t, .int .i64 s22.o.at_.w, .int .i64 s22.o.node.t, .int .i64 s22.o.node.w, .int .i64 s22.o.parent.t, .int .i64 s22.o.parent.w, .bool s22.o.dir, .string s22.o.name, .slice dA22 dn22 dc22], .tuple #[.int .i64 nn26, .int .i64 kk26], rfl, (by kernel_rfl), (Mod.up (Mod.of_up (X := []) M27)), (by omega), (One.to h25 (foldS_next hs22))⟩
  · omega
end Go.Proofs.Ytefhfoioeoijlaa

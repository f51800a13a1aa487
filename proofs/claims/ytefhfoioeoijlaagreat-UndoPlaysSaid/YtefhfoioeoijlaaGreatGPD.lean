/- GPD: printed by gen.py -/
import Derived.Test.YtefhfoioeoijlaaGreatGLG
import Derived.Test.YtefhfoioeoijlaaGreatPlays
set_option linter.unusedVariables false
set_option linter.unusedSimpArgs false
namespace Go.Proofs.YtefhfoioeoijlaaGreat
open Go Go.RowKit Go.Sort
set_option maxHeartbeats 2000000 in
theorem step17ans_at {w : World} {B : Nat} {la : Nat} {p : List OpD} (h : One B w la p) (hB : B ≤ w.heap.size) (hlen : p.length ≤ 140) (s : GStep) (oA : Option Addr) (on oc : Nat) (hd : Dat B w (.slice oA on oc) s.o.data) (hname : s.o.name.size ≤ 9223372036854775807) :
    Calls Tryz.prog 7 #[trP la, .agg #[.bool s.gone, .int .i64 s.o.kind, .int .i64 s.o.at_.t, .int .i64 s.o.at_.w, .int .i64 s.o.node.t, .int .i64 s.o.node.w, .int .i64 s.o.parent.t, .int .i64 s.o.parent.w, .bool s.o.dir, .string s.o.name, .slice oA on oc]] w fun e w' => ∃ nn kk, e = .returned (.tuple #[.int .i64 nn, .int .i64 kk]) ∧ One B w' la (stepL p s) ∧ Only B w w' ∧ AnsS p s nn kk := by
  go_enter Tryz.func7, Tryz.ntmps7
  refine wp_seq (rg_lit ?_)
  refine wl (sn rfl (cs := #[.bool s.gone, .int .i64 s.o.kind, .int .i64 s.o.at_.t, .int .i64 s.o.at_.w, .int .i64 s.o.node.t, .int .i64 s.o.node.w, .int .i64 s.o.parent.t, .int .i64 s.o.parent.w, .bool s.o.dir, .string s.o.name, .slice oA on oc]) (T := 40) (V := fun b => .pointer (some ⟨b, 0, none⟩)) (r_box (v := .agg #[.bool s.gone, .int .i64 s.o.kind, .int .i64 s.o.at_.t, .int .i64 s.o.at_.w, .int .i64 s.o.node.t, .int .i64 s.o.node.w, .int .i64 s.o.parent.t, .int .i64 s.o.parent.w, .bool s.o.dir, .string s.o.name, .slice oA on oc]) (by kernel_rfl) rfl) ?_)
  intro b1 w2 e3 h4 u5
  have g6 : w.heap.size ≤ b1 := by rw [e3]; exact (Mod.refl [] w).size
  have M7 := Mod.trans (Mod.refl [] w) (Mod.of_up u5)
  refine was (v := .int .i64 0) ?_
  refine was (v := .int .i64 0) ?_
  refine wnil (then_n (wp_seq (wp_seq (rg_lit ?_))))
  refine wl (sv rfl (v := .pointer (some ⟨b1, 0, none⟩)) (r_fieldAddr (u := .pointer (some ⟨b1, 0, none⟩)) (by kernel_rfl) (fun _ => (by kernel_rfl))) ?_)
  refine wl (sv rfl (v := .bool s.gone) (r_load (k := 0) (by kernel_rfl) Ty.ag4 h4 (by kernel_rfl)) ?_)
  refine wnil (then_n ?_)
  refine bcase s.gone (fun v8 => ?_) (fun v8 => ?_)
  ·
   refine wp_cond_false (ebool (b := s.gone) (by kernel_rfl) v8) ?_
   refine wp_skip (then_n (wp_seq (rg_lit ?_)))
   refine wmv (v := .pointer (some ⟨la, 0, none⟩)) ?_
   refine wl (sv rfl (v := .pointer (some ⟨b1, 1, none⟩)) (r_fieldAddr (u := .pointer (some ⟨b1, 0, none⟩)) (by kernel_rfl) (fun _ => (by kernel_rfl))) ?_)
   refine wl (sv rfl (v := opV s.o (.slice oA on oc)) (r_loads (k := 1) (by kernel_rfl) Ty.ag38 Ty.sz38 h4 (by kernel_rfl)) ?_)
   have h9 := (One.up h u5)
   have h10 := (Dat.up hd u5)
   refine wl (sc rfl (r_callv (caps := []) (all := [.pointer (some ⟨la, 0, none⟩), opV s.o (.slice oA on oc)]) En.f20 (by kernel_rfl) (by kernel_rfl)) (one_ins h9 (Nat.le_trans hB M7.size) hlen s.o oA on oc h10 hname) ?_)
   rintro e w11 ⟨nn13, kk13, rfl, h12, o13, a14⟩
   refine ⟨.tuple #[.int .i64 nn13, .int .i64 kk13], rfl, ?_⟩
   have h15 := Only.ob o13 h4 (by decide) (by decide)
   have mo := Only.upl (Mod.up M7) o13
   have h16 := Only.dat o13 h10
   refine wl (sv rfl (v := .int .i64 nn13) (r_extract (vs := [.int .i64 nn13, .int .i64 kk13]) (by kernel_rfl) rfl) ?_)
   refine wl (sv rfl (v := .int .i64 kk13) (r_extract (vs := [.int .i64 nn13, .int .i64 kk13]) (by kernel_rfl) rfl) ?_)
   refine was (v := .int .i64 nn13) ?_
   refine was (v := .int .i64 kk13) ?_
   refine wnil (then_n (wp_ret ?_))
   refine bodyPost_ret (v := .tuple #[.int .i64 nn13, .int .i64 kk13]) (res2 rfl (rv_t (by kernel_rfl)) (rv_t (by kernel_rfl))) (by kernel_rfl) ?_
   exact ⟨_, _, rfl, One.to h12 (stepL_no v8), mo, ⟨(fun e => by rw [e] at v8; cases v8), (fun _ => a14)⟩⟩
  refine wp_cond_true (ebool (b := s.gone) (by kernel_rfl) v8) ?_
  refine wp_seq (rg_lit ?_)
  refine wmv (v := .pointer (some ⟨la, 0, none⟩)) ?_
  refine wl (sv rfl (v := .pointer (some ⟨b1, 1, none⟩)) (r_fieldAddr (u := .pointer (some ⟨b1, 0, none⟩)) (by kernel_rfl) (fun _ => (by kernel_rfl))) ?_)
  refine wl (sv rfl (v := .pointer (some ⟨b1, 2, none⟩)) (r_fieldAddr (u := .pointer (some ⟨b1, 1, none⟩)) (by kernel_rfl) (fun _ => (by kernel_rfl))) ?_)
  refine wl (sv rfl (v := .agg #[.int .i64 s.o.at_.t, .int .i64 s.o.at_.w]) (r_loads (k := 2) (by kernel_rfl) Ty.ag35 Ty.sz35 h4 (by kernel_rfl)) ?_)
  have h9 := (One.up h u5)
  refine wl (sc rfl (r_callv (caps := []) (all := [.pointer (some ⟨la, 0, none⟩), .agg #[.int .i64 s.o.at_.t, .int .i64 s.o.at_.w]]) En.f23 (by kernel_rfl) (by kernel_rfl)) (one_rem h9 (Nat.le_trans hB M7.size) hlen s.o.at_.t s.o.at_.w) ?_)
  rintro e w10 ⟨nn12, kk12, rfl, h11, o12, a13⟩
  refine ⟨.tuple #[.int .i64 nn12, .int .i64 kk12], rfl, ?_⟩
  have h14 := Only.ob o12 h4 (by decide) (by decide)
  have mo := Only.upl (Mod.up M7) o12
  have h15 := (Dat.up hd u5)
  have h16 := Only.dat o12 h15
  refine wl (sv rfl (v := .int .i64 nn12) (r_extract (vs := [.int .i64 nn12, .int .i64 kk12]) (by kernel_rfl) rfl) ?_)
  refine wl (sv rfl (v := .int .i64 kk12) (r_extract (vs := [.int .i64 nn12, .int .i64 kk12]) (by kernel_rfl) rfl) ?_)
  refine was (v := .int .i64 nn12) ?_
  refine was (v := .int .i64 kk12) ?_
  refine wnil (then_n (wp_ret (then_x (by nofun) ?_)))
  refine bodyPost_ret (v := .tuple #[.int .i64 nn12, .int .i64 kk12]) (res2 rfl (rv_t (by kernel_rfl)) (rv_t (by kernel_rfl))) (by kernel_rfl) ?_
  exact ⟨_, _, rfl, One.to h11 (stepL_yes v8), mo, ⟨(fun _ => a13), (fun e => by rw [e] at v8; cases v8)⟩⟩
end Go.Proofs.YtefhfoioeoijlaaGreat

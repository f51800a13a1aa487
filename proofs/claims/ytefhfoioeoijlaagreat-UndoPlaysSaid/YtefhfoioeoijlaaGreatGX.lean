/- GX: printed by gen.py -/
import Derived.Test.YtefhfoioeoijlaaGreatGW
import Derived.Test.YtefhfoioeoijlaaGreatGI
set_option linter.unusedVariables false
set_option linter.unusedSimpArgs false
namespace Go.Proofs.YtefhfoioeoijlaaGreat
open Go Go.RowKit Go.Sort
set_option maxHeartbeats 2000000 in
theorem undo1_at {B : Nat} {w : World} {lb tb r vn vc : Nat} {vA : Option Addr} {M : List Item} (hlb : w.heap[lb]? = some (.cells #[.slice vA vn vc, .pointer (some ⟨tb, 0, none⟩)] 66 (0, 0))) (h : TreeIs B w tb r M) (hB : B ≤ w.heap.size) (s : StepD) (oA iA : Option Addr) (on oc in_ ic : Nat)
    (hd : Dat B w (.slice iA in_ ic) s.was.data) (hst : s.did = true → stR s.was.node = true) (hlen : (undoS M s).length ≤ 300) :
    Calls Tryz.prog 61 #[trP lb, .agg #[.int .i64 s.o.kind, .int .i64 s.o.at_.t, .int .i64 s.o.at_.w, .int .i64 s.o.node.t, .int .i64 s.o.node.w, .int .i64 s.o.parent.t, .int .i64 s.o.parent.w, .bool s.o.dir, .string s.o.name, .slice oA on oc, .int .i64 s.was.node.t, .int .i64 s.was.node.w, .int .i64 s.was.parent.t, .int .i64 s.was.parent.w, .string s.was.name, .bool s.was.dir, .bool s.was.gone, .slice iA in_ ic, .int .i64 s.was.by_.t, .int .i64 s.was.by_.w, .bool s.there, .bool s.did]] w fun e w' => e = .returned (.tuple #[]) ∧ TreeIs B w' tb r (undoS M s) ∧ Chg w w' r := by
  obtain ⟨hr_es, hr_cl, hr_xs, hr, _⟩ := h.2.2.2.1
  have htr : tb ≠ r := fun e => h.2.2.2.1.noCells _ _ _ (by rw [← e]; exact h.1)
  have hlr : lb ≠ r := fun e => h.2.2.2.1.noCells _ _ _ (by rw [← e]; exact hlb)
  go_enter Tryz.func61, Tryz.ntmps61
  refine wp_seq (rg_lit ?_)
  refine wl (sn rfl (cs := #[.int .i64 s.o.kind, .int .i64 s.o.at_.t, .int .i64 s.o.at_.w, .int .i64 s.o.node.t, .int .i64 s.o.node.w, .int .i64 s.o.parent.t, .int .i64 s.o.parent.w, .bool s.o.dir, .string s.o.name, .slice oA on oc, .int .i64 s.was.node.t, .int .i64 s.was.node.w, .int .i64 s.was.parent.t, .int .i64 s.was.parent.w, .string s.was.name, .bool s.was.dir, .bool s.was.gone, .slice iA in_ ic, .int .i64 s.was.by_.t, .int .i64 s.was.by_.w, .bool s.there, .bool s.did]) (T := 73) (V := fun b => .pointer (some ⟨b, 0, none⟩)) (r_box (v := .agg #[.int .i64 s.o.kind, .int .i64 s.o.at_.t, .int .i64 s.o.at_.w, .int .i64 s.o.node.t, .int .i64 s.o.node.w, .int .i64 s.o.parent.t, .int .i64 s.o.parent.w, .bool s.o.dir, .string s.o.name, .slice oA on oc, .int .i64 s.was.node.t, .int .i64 s.was.node.w, .int .i64 s.was.parent.t, .int .i64 s.was.parent.w, .string s.was.name, .bool s.was.dir, .bool s.was.gone, .slice iA in_ ic, .int .i64 s.was.by_.t, .int .i64 s.was.by_.w, .bool s.there, .bool s.did]) (by kernel_rfl) rfl) ?_)
  intro b1 w2 e3 h4 u5
  have l6 : lb < b1 := by rw [e3]; exact lt_ob hlb
  have l7 : tb < b1 := by rw [e3]; exact lt_ob h.1
  have l8 : r < b1 := by rw [e3]; exact lt_ob hr
  have g9 : w.heap.size ≤ b1 := by rw [e3]; exact (Mod.refl [] w).size
  have M10 := Mod.trans (Mod.refl [] w) (Mod.of_up u5)
  refine wnil (then_n (wp_seq (rg_lit ?_)))
  refine wl (sv rfl (v := .pointer (some ⟨b1, 21, none⟩)) (r_fieldAddr (u := .pointer (some ⟨b1, 0, none⟩)) (by kernel_rfl) (fun _ => (by kernel_rfl))) ?_)
  refine wl (sv rfl (v := .bool s.did) (r_load (k := 21) (by kernel_rfl) Ty.ag4 h4 (by kernel_rfl)) ?_)
  refine wnil (then_n ?_)
  refine bcase s.did (fun v11 => ?_) (fun v11 => ?_)
  ·
   refine wp_cond_false (ebool (b := s.did) (by kernel_rfl) v11) ?_
   refine wp_skip ?_
   refine bodyPost_end (v := .tuple #[]) (res0 rfl ) (by kernel_rfl) ?_
   have h12 := (TreeIs.up h (Mod.up M10))
   have hu : undoS M s = M := by unfold undoS; rw [if_neg (by rw [v11]; decide)]
   exact ⟨rfl, by rw [hu]; exact h12, (to_chg (Mod.up M10) r)⟩
  refine wp_cond_true (ebool (b := s.did) (by kernel_rfl) v11) ?_
  refine rg_tail 8 (by kernel_rfl) (by kernel_rfl) rfl rfl ?_
  refine qmv (v := .pointer (some ⟨lb, 0, none⟩)) ?_
  refine qv rfl (v := .pointer (some ⟨lb, 0, none⟩)) (fun _ _ => r_nilCheck (by kernel_rfl)) ?_
  refine qv rfl (v := .pointer (some ⟨lb, 1, none⟩)) (fun _ _ => r_fieldAddr (u := .pointer (some ⟨lb, 0, none⟩)) (by kernel_rfl) (fun _ => (by kernel_rfl))) ?_
  have h12 := md_ob M10 nin0 hlb
  refine qv rfl (v := .pointer (some ⟨tb, 0, none⟩)) (fun _ uz => r_load (k := 1) (by kernel_rfl) Ty.ag50 (up_ob uz h12) (by kernel_rfl)) ?_
  refine qv rfl (v := .pointer (some ⟨b1, 10, none⟩)) (fun _ _ => r_fieldAddr (u := .pointer (some ⟨b1, 0, none⟩)) (by kernel_rfl) (fun _ => (by kernel_rfl))) ?_
  refine qv rfl (v := itV s.was (.slice iA in_ ic)) (fun _ uz => r_loads (k := 10) (by kernel_rfl) Ty.ag61 Ty.sz61 (up_ob uz h4) (by kernel_rfl)) ?_
  refine qv rfl (v := .pointer (some ⟨b1, 20, none⟩)) (fun _ _ => r_fieldAddr (u := .pointer (some ⟨b1, 0, none⟩)) (by kernel_rfl) (fun _ => (by kernel_rfl))) ?_
  refine qv rfl (v := .bool s.there) (fun _ uz => r_load (k := 20) (by kernel_rfl) Ty.ag4 (up_ob uz h4) (by kernel_rfl)) ?_
  refine qnil ?_
  intro w13 u14
  have M15 := Mod.trans M10 (Mod.of_up u14)
  have h16 := (TreeIs.up h (Mod.up M15))
  have h17 := md_ob M15 nin0 hlb
  have h18 := md_ob M15 nin0 h.1
  have h19 := md_ob M15 nin0 hr
  have h20 := (up_ob u14 h4)
  have h21 := (Dat.up hd (Mod.up M15))
  have hu : undoS M s = setT s.was s.there M := by unfold undoS; rw [if_pos v11]
  refine wl (sc rfl (r_callv (caps := []) (all := [.pointer (some ⟨tb, 0, none⟩), itV s.was (.slice iA in_ ic), .bool s.there]) En.f76 (by kernel_rfl) (by kernel_rfl)) (tset_at h16 (Nat.le_trans hB M15.size) s.was iA in_ ic h21 s.there (by rw [← hu]; exact hlen)) ?_)
  rintro e w22 ⟨rfl, h23, c24⟩
  rw [if_pos (hst v11), ← hu] at h23
  refine ⟨.int .i64 0, by rw [if_pos (hst v11)], ?_⟩
  have M25 := md_old M15 c24
  refine wnil ?_
  refine bodyPost_end (v := .tuple #[]) (res0 rfl ) (by kernel_rfl) ?_
  exact ⟨rfl, h23, (Mod.chg M25)⟩
end Go.Proofs.YtefhfoioeoijlaaGreat

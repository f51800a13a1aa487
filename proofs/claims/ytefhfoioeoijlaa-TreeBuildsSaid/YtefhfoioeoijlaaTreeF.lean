/- The tree: move, remove, write. -/
import Derived.Test.YtefhfoioeoijlaaTreeE
set_option linter.unusedVariables false
set_option linter.unusedSimpArgs false
namespace Go.Proofs.Ytefhfoioeoijlaa
open Go.RowKit Go.Sort

set_option maxRecDepth 20000 in
set_option maxHeartbeats 4000000 in
theorem remove_at {w : World} (tb : Nat) (x : Item) (o : OpD) (xA : Option Addr) (xn xc : Nat) (oA : Option Addr) (on oc : Nat) :
    Calls Try.prog 55 #[trP tb, itV x (.slice xA xn xc), opV o (.slice oA on oc)] w fun e w' =>
      e = .returned (.tuple #[itV { x with gone := true } (.slice xA xn xc), .bool (decide (x.node = o.node))]) ∧ Below w.heap.size w w' := by
  obtain ⟨⟨i1, i2⟩, ⟨p1, p2⟩, name, dir, gone, data, ⟨b1, b2⟩⟩ := x
  obtain ⟨kind, ⟨a1, a2⟩, ⟨n1, n2⟩, ⟨q1, q2⟩, odir, oname, odata⟩ := o
  unfold itV opV trP
  simp only
  rcases stamp_cases i1 i2 n1 n2 with ⟨h1, h2⟩ | ⟨h1, h2⟩ | h1
  · subst h1; subst h2
    rw [stamp_eq_tt]
    go_enter Try.func55, Try.ntmps55
    go_wp2_with fail
    go_region
    go_wp2_with fail
    refine bodyPost_ret (v := .tuple #[.agg #[.int .i64 i1, .int .i64 i2, .int .i64 p1, .int .i64 p2, .string name, .bool dir, .bool true, .slice xA xn xc, .int .i64 b1, .int .i64 b2], .bool true]) (by simp [results, Try.results55, go_sem]) rfl ⟨rfl, ?_⟩
    exact up_trans (up_trans (up_trans (up_alloc _ _) (up_alloc _ _)) (up_alloc _ _)) (up_drew _)
  · obtain rfl := h1
    rw [stamp_eq_ff2 _ _ h2]
    go_enter Try.func55, Try.ntmps55
    go_wp2_with fail
    go_region
    go_wp2_with fail
    refine bodyPost_ret (v := .tuple #[.agg #[.int .i64 i1, .int .i64 i2, .int .i64 p1, .int .i64 p2, .string name, .bool dir, .bool true, .slice xA xn xc, .int .i64 b1, .int .i64 b2], .bool false]) (by simp [results, Try.results55, go_sem]) rfl ⟨rfl, ?_⟩
    exact up_trans (up_trans (up_trans (up_alloc _ _) (up_alloc _ _)) (up_alloc _ _)) (up_drew _)
  · rw [stamp_eq_ff1 _ _ h1]
    go_enter Try.func55, Try.ntmps55
    go_wp2_with fail
    go_region
    go_wp2_with fail
    refine bodyPost_ret (v := .tuple #[.agg #[.int .i64 i1, .int .i64 i2, .int .i64 p1, .int .i64 p2, .string name, .bool dir, .bool true, .slice xA xn xc, .int .i64 b1, .int .i64 b2], .bool false]) (by simp [results, Try.results55, go_sem]) rfl ⟨rfl, ?_⟩
    exact up_trans (up_trans (up_trans (up_alloc _ _) (up_alloc _ _)) (up_alloc _ _)) (up_drew _)
end Go.Proofs.Ytefhfoioeoijlaa

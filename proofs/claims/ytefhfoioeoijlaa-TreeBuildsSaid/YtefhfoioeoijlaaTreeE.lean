/- The tree: make, move, remove, write. -/
import Derived.Test.YtefhfoioeoijlaaTreeD
import Derived.Deep.RegionHeld3
set_option linter.unusedVariables false
set_option linter.unusedSimpArgs false
namespace Go.Proofs.Ytefhfoioeoijlaa
open Go.RowKit Go.Sort

/-- Two stamps, part by part. -/
theorem stamp_cases (a b c d : Int) : (a = c ∧ b = d) ∨ (a = c ∧ (b == d) = false) ∨ (a == c) = false := by
  by_cases h1 : a = c
  · by_cases h2 : b = d
    · exact .inl ⟨h1, h2⟩
    · exact .inr (.inl ⟨h1, beq_eq_false_iff_ne.2 h2⟩)
  · exact .inr (.inr (beq_eq_false_iff_ne.2 h1))
theorem stamp_eq_tt (a b : Int) : decide ((⟨a, b⟩ : Stamp) = ⟨a, b⟩) = true := by simp
theorem stamp_eq_ff1 {a c : Int} (b d : Int) (h : (a == c) = false) : decide ((⟨a, b⟩ : Stamp) = ⟨c, d⟩) = false := by
  simp at h; simp [h]
theorem stamp_eq_ff2 {b d : Int} (a c : Int) (h : (b == d) = false) : decide ((⟨a, b⟩ : Stamp) = ⟨c, d⟩) = false := by
  simp at h; simp [h]

set_option maxRecDepth 20000 in
set_option maxHeartbeats 4000000 in
theorem make_at {B : Nat} {w : World} {tb r : Nat} {L : List Item} (h : TreeIs B w tb r L) (x : Item) (o : OpD) (xA : Option Addr) (xn xc : Nat) (oA : Option Addr) (on oc : Nat) :
    Calls Try.prog 53 #[trP tb, itV x (.slice xA xn xc), opV o (.slice oA on oc)] w fun e w' =>
      e = .returned (.tuple #[itV ⟨o.node, o.parent, o.name, o.dir, false, [], nilS⟩ (.slice none 0 0), .bool (!decide (x.node = o.node) && dirI L o.parent)]) ∧ Below w.heap.size w w' := by
  obtain ⟨⟨i1, i2⟩, ⟨p1, p2⟩, name, dir, gone, data, ⟨b1, b2⟩⟩ := x
  obtain ⟨kind, ⟨a1, a2⟩, ⟨n1, n2⟩, ⟨q1, q2⟩, odir, oname, odata⟩ := o
  have HH := Lib.hid (fun (W : World) (hW : Below w.heap.size w W) => holds_at (h.up hW) q1 q2)
  clear h
  unfold itV opV trP nilS
  unfold trP at HH
  simp only
  rcases stamp_cases i1 i2 n1 n2 with ⟨h1, h2⟩ | ⟨h1, h2⟩ | h1
  · subst h1; subst h2
    rw [stamp_eq_tt]
    go_enter Try.func53, Try.ntmps53
    go_wp2_with fail
    refine wp_region_held_drew (S := (fun W => W.cell? ⟨w.heap.size, 0, none⟩ = some (.int .i64 i1) ∧ W.cell? ⟨w.heap.size, 1, none⟩ = some (.int .i64 i2) ∧ W.cell? ⟨w.heap.size + 1, 3, none⟩ = some (.int .i64 i1) ∧ W.cell? ⟨w.heap.size + 1, 4, none⟩ = some (.int .i64 i2) ∧ W.cell? ⟨w.heap.size + 1, 5, none⟩ = some (.int .i64 q1) ∧ W.cell? ⟨w.heap.size + 1, 6, none⟩ = some (.int .i64 q2) ∧ W.cell? ⟨w.heap.size + 1, 7, none⟩ = some (.bool odir) ∧ W.cell? ⟨w.heap.size + 1, 8, none⟩ = some (.string oname))) (by kernel_rfl) ?_ (fun hHeld => ?_)
    · go_simp
    refine wpAnyH_take (i := 0) (oi := { dst := some 8, op := Op.fieldAddr 40 (Operand.tmp 5) 2, type := 0, pos := "tree.go:46", after := #[], guard := none }) (v := ?_) rfl (by kernel_rfl) (by kernel_rfl) (by kernel_rfl) (fun _ _ _ h => h) (Or.inl ⟨by rfl, ?_⟩) (by assumption) ?_
    rotate_left
    · (intro w hSw; (try dsimp only at hSw); go_simp; try (with_reducible rfl))
    (try simp only [Act.put, List.setIfInBounds_toArray, List.set_cons_zero, List.set_cons_succ])
    refine wpAnyH_take (i := 1) (oi := { dst := some 9, op := Op.load 24 (Operand.tmp 8), type := 24, pos := "tree.go:46", after := #[{ on := 0, ground := Ground.data }], guard := none }) (v := ?_) rfl (by kernel_rfl) (by kernel_rfl) (by kernel_rfl) (fun _ _ _ h => h) (Or.inl ⟨by rfl, ?_⟩) (by assumption) ?_
    rotate_left
    · (intro w hSw; (try dsimp only at hSw); go_simp; try (with_reducible rfl))
    (try simp only [Act.put, List.setIfInBounds_toArray, List.set_cons_zero, List.set_cons_succ])
    refine wpAnyH_take (i := 2) (oi := { dst := some 10, op := Op.fieldAddr 40 (Operand.tmp 5) 3, type := 0, pos := "tree.go:46", after := #[], guard := none }) (v := ?_) rfl (by kernel_rfl) (by kernel_rfl) (by kernel_rfl) (fun _ _ _ h => h) (Or.inl ⟨by rfl, ?_⟩) (by assumption) ?_
    rotate_left
    · (intro w hSw; (try dsimp only at hSw); go_simp; try (with_reducible rfl))
    (try simp only [Act.put, List.setIfInBounds_toArray, List.set_cons_zero, List.set_cons_succ])
    refine wpAnyH_take (i := 3) (oi := { dst := some 11, op := Op.load 24 (Operand.tmp 10), type := 24, pos := "tree.go:46", after := #[{ on := 2, ground := Ground.data }], guard := none }) (v := ?_) rfl (by kernel_rfl) (by kernel_rfl) (by kernel_rfl) (fun _ _ _ h => h) (Or.inl ⟨by rfl, ?_⟩) (by assumption) ?_
    rotate_left
    · (intro w hSw; (try dsimp only at hSw); go_simp; try (with_reducible rfl))
    (try simp only [Act.put, List.setIfInBounds_toArray, List.set_cons_zero, List.set_cons_succ])
    refine wpAnyH_take (i := 4) (oi := { dst := some 12, op := Op.fieldAddr 40 (Operand.tmp 5) 5, type := 0, pos := "tree.go:46", after := #[], guard := none }) (v := ?_) rfl (by kernel_rfl) (by kernel_rfl) (by kernel_rfl) (fun _ _ _ h => h) (Or.inl ⟨by rfl, ?_⟩) (by assumption) ?_
    rotate_left
    · (intro w hSw; (try dsimp only at hSw); go_simp; try (with_reducible rfl))
    (try simp only [Act.put, List.setIfInBounds_toArray, List.set_cons_zero, List.set_cons_succ])
    refine wpAnyH_take (i := 5) (oi := { dst := some 13, op := Op.load 9 (Operand.tmp 12), type := 9, pos := "tree.go:46", after := #[{ on := 4, ground := Ground.data }], guard := none }) (v := ?_) rfl (by kernel_rfl) (by kernel_rfl) (by kernel_rfl) (fun _ _ _ h => h) (Or.inl ⟨by rfl, ?_⟩) (by assumption) ?_
    rotate_left
    · (intro w hSw; (try dsimp only at hSw); go_simp; try (with_reducible rfl))
    (try simp only [Act.put, List.setIfInBounds_toArray, List.set_cons_zero, List.set_cons_succ])
    refine wpAnyH_take (i := 6) (oi := { dst := some 14, op := Op.fieldAddr 40 (Operand.tmp 5) 4, type := 0, pos := "tree.go:46", after := #[], guard := none }) (v := ?_) rfl (by kernel_rfl) (by kernel_rfl) (by kernel_rfl) (fun _ _ _ h => h) (Or.inl ⟨by rfl, ?_⟩) (by assumption) ?_
    rotate_left
    · (intro w hSw; (try dsimp only at hSw); go_simp; try (with_reducible rfl))
    (try simp only [Act.put, List.setIfInBounds_toArray, List.set_cons_zero, List.set_cons_succ])
    refine wpAnyH_take (i := 7) (oi := { dst := some 15, op := Op.load 4 (Operand.tmp 14), type := 4, pos := "tree.go:46", after := #[{ on := 6, ground := Ground.data }], guard := none }) (v := ?_) rfl (by kernel_rfl) (by kernel_rfl) (by kernel_rfl) (fun _ _ _ h => h) (Or.inl ⟨by rfl, ?_⟩) (by assumption) ?_
    rotate_left
    · (intro w hSw; (try dsimp only at hSw); go_simp; try (with_reducible rfl))
    (try simp only [Act.put, List.setIfInBounds_toArray, List.set_cons_zero, List.set_cons_succ])
    refine wpAnyH_take (i := 8) (oi := { dst := some 16, op := Op.build 35 #[(0, Operand.tmp 9), (1, Operand.tmp 11), (2, Operand.tmp 13), (3, Operand.tmp 15)], type := 35, pos := "tree.go:46", after := #[{ on := 1, ground := Ground.data }, { on := 3, ground := Ground.data }, { on := 5, ground := Ground.data }, { on := 7, ground := Ground.data }], guard := none }) (v := ?_) rfl (by kernel_rfl) (by kernel_rfl) (by kernel_rfl) (fun _ _ _ h => h) (Or.inl ⟨by rfl, ?_⟩) (by assumption) ?_
    rotate_left
    · (intro w hSw; (try dsimp only at hSw); go_simp; try (with_reducible rfl))
    (try simp only [Act.put, List.setIfInBounds_toArray, List.set_cons_zero, List.set_cons_succ])
    refine wpAnyH_take (i := 9) (oi := { dst := some 17, op := Op.fieldAddr 35 (Operand.tmp 4) 0, type := 0, pos := "tree.go:46", after := #[], guard := none }) (v := ?_) rfl (by kernel_rfl) (by kernel_rfl) (by kernel_rfl) (fun _ _ _ h => h) (Or.inl ⟨by rfl, ?_⟩) (by assumption) ?_
    rotate_left
    · (intro w hSw; (try dsimp only at hSw); go_simp; try (with_reducible rfl))
    (try simp only [Act.put, List.setIfInBounds_toArray, List.set_cons_zero, List.set_cons_succ])
    refine wpAnyH_take (i := 10) (oi := { dst := some 18, op := Op.load 24 (Operand.tmp 17), type := 24, pos := "tree.go:46", after := #[{ on := 9, ground := Ground.data }], guard := none }) (v := ?_) rfl (by kernel_rfl) (by kernel_rfl) (by kernel_rfl) (fun _ _ _ h => h) (Or.inl ⟨by rfl, ?_⟩) (by assumption) ?_
    rotate_left
    · (intro w hSw; (try dsimp only at hSw); go_simp; try (with_reducible rfl))
    (try simp only [Act.put, List.setIfInBounds_toArray, List.set_cons_zero, List.set_cons_succ])
    refine wpAnyH_take (i := 11) (oi := { dst := some 19, op := Op.fieldAddr 40 (Operand.tmp 5) 2, type := 0, pos := "tree.go:46", after := #[], guard := none }) (v := ?_) rfl (by kernel_rfl) (by kernel_rfl) (by kernel_rfl) (fun _ _ _ h => h) (Or.inl ⟨by rfl, ?_⟩) (by assumption) ?_
    rotate_left
    · (intro w hSw; (try dsimp only at hSw); go_simp; try (with_reducible rfl))
    (try simp only [Act.put, List.setIfInBounds_toArray, List.set_cons_zero, List.set_cons_succ])
    refine wpAnyH_take (i := 12) (oi := { dst := some 20, op := Op.load 24 (Operand.tmp 19), type := 24, pos := "tree.go:46", after := #[{ on := 11, ground := Ground.data }], guard := none }) (v := ?_) rfl (by kernel_rfl) (by kernel_rfl) (by kernel_rfl) (fun _ _ _ h => h) (Or.inl ⟨by rfl, ?_⟩) (by assumption) ?_
    rotate_left
    · (intro w hSw; (try dsimp only at hSw); go_simp; try (with_reducible rfl))
    (try simp only [Act.put, List.setIfInBounds_toArray, List.set_cons_zero, List.set_cons_succ])
    refine wpAnyH_take (i := 13) (oi := { dst := some 21, op := Op.binOp BinOp.neq 24 (Operand.tmp 18) (Operand.tmp 20) 24, type := 4, pos := "tree.go:46", after := #[{ on := 10, ground := Ground.data }, { on := 12, ground := Ground.data }], guard := none }) (v := ?_) rfl (by kernel_rfl) (by kernel_rfl) (by kernel_rfl) (fun _ _ _ h => h) (Or.inl ⟨by rfl, ?_⟩) (by assumption) ?_
    rotate_left
    · (intro w hSw; (try dsimp only at hSw); go_simp; try (with_reducible rfl))
    (try simp only [Act.put, List.setIfInBounds_toArray, List.set_cons_zero, List.set_cons_succ])
    refine wpAnyH_take (i := 14) (oi := { dst := some 22, op := Op.move (Operand.tmp 21), type := 4, pos := "tree.go:46", after := #[{ on := 13, ground := Ground.data }], guard := none }) (v := ?_) rfl (by kernel_rfl) (by kernel_rfl) (by kernel_rfl) (fun _ _ _ h => h) (Or.inl ⟨by rfl, ?_⟩) (by assumption) ?_
    rotate_left
    · (intro w hSw; (try dsimp only at hSw); go_simp; try (with_reducible rfl))
    (try simp only [Act.put, List.setIfInBounds_toArray, List.set_cons_zero, List.set_cons_succ])
    refine wpAnyH_take (i := 15) (oi := { dst := some 23, op := Op.move (Operand.tmp 0), type := 27, pos := "tree.go:46", after := #[{ on := 14, ground := Ground.guard }], guard := some (14, true) }) (v := undef) rfl (by kernel_rfl) (by kernel_rfl) (by kernel_rfl) (fun _ _ _ h => h) (Or.inr ⟨by rfl, rfl⟩) (by assumption) ?_
    (try simp only [Act.put, List.setIfInBounds_toArray, List.set_cons_zero, List.set_cons_succ])
    refine wpAnyH_take (i := 16) (oi := { dst := some 24, op := Op.fieldAddr 40 (Operand.tmp 5) 3, type := 0, pos := "tree.go:46", after := #[{ on := 14, ground := Ground.guard }], guard := some (14, true) }) (v := undef) rfl (by kernel_rfl) (by kernel_rfl) (by kernel_rfl) (fun _ _ _ h => h) (Or.inr ⟨by rfl, rfl⟩) (by assumption) ?_
    (try simp only [Act.put, List.setIfInBounds_toArray, List.set_cons_zero, List.set_cons_succ])
    refine wpAnyH_take (i := 17) (oi := { dst := some 25, op := Op.load 24 (Operand.tmp 24), type := 24, pos := "tree.go:46", after := #[{ on := 16, ground := Ground.data }, { on := 14, ground := Ground.guard }], guard := some (14, true) }) (v := undef) rfl (by kernel_rfl) (by kernel_rfl) (by kernel_rfl) (fun _ _ _ h => h) (Or.inr ⟨by rfl, rfl⟩) (by assumption) ?_
    (try simp only [Act.put, List.setIfInBounds_toArray, List.set_cons_zero, List.set_cons_succ])
    refine wpAnyH_take (i := 18) (oi := { dst := some 26, op := Op.call { callee := Callee.value (Operand.func 83), args := #[Operand.tmp 23, Operand.tmp 25], argTypes := #[27, 24] }, type := 4, pos := "tree.go:46", after := #[{ on := 15, ground := Ground.data }, { on := 17, ground := Ground.data }, { on := 14, ground := Ground.chain }, { on := 14, ground := Ground.guard }], guard := some (14, true) }) (v := undef) rfl (by kernel_rfl) (by kernel_rfl) (by kernel_rfl) (fun _ _ _ h => h) (Or.inr ⟨by rfl, rfl⟩) (by assumption) ?_
    (try simp only [Act.put, List.setIfInBounds_toArray, List.set_cons_zero, List.set_cons_succ])
    refine wpAnyH_take (i := 19) (oi := { dst := some 27, op := Op.pick (Operand.tmp 22) (Operand.tmp 26) (Operand.const (Value.bool false)), type := 4, pos := "tree.go:46", after := #[{ on := 14, ground := Ground.data }, { on := 18, ground := Ground.data }, { on := 20, ground := Ground.gcOnly Departure.lateStores }], guard := none }) (v := ?_) rfl (by kernel_rfl) (by kernel_rfl) (by kernel_rfl) (fun _ _ _ h => h) (Or.inl ⟨by rfl, ?_⟩) (by assumption) ?_
    rotate_left
    · (intro w hSw; (try dsimp only at hSw); go_simp; try (with_reducible rfl))
    (try simp only [Act.put, List.setIfInBounds_toArray, List.set_cons_zero, List.set_cons_succ])
    refine wpAnyH_ready (rs := [20]) (by kernel_rfl) (by simp) ?_
    refine AllReadyH.cons rfl (fun K hK => ?_) AllReadyH.nil
    go_simp
    refine hK.out _ _ ?_ (fun hHeld2 => ?_)
    · go_simp
    clear hK K
    (try simp only [Act.put, List.setIfInBounds_toArray, List.set_cons_zero, List.set_cons_succ])
    refine wpAnyH_take (i := 21) (oi := { dst := some 7, op := Op.assign (Operand.tmp 27), type := 4, pos := "tree.go:46", after := #[{ on := 19, ground := Ground.data }, { on := 20, ground := Ground.chain }, { on := 0, ground := Ground.phase }, { on := 1, ground := Ground.phase }, { on := 2, ground := Ground.phase }, { on := 3, ground := Ground.phase }, { on := 4, ground := Ground.phase }, { on := 5, ground := Ground.phase }, { on := 6, ground := Ground.phase }, { on := 7, ground := Ground.phase }, { on := 8, ground := Ground.phase }, { on := 9, ground := Ground.phase }, { on := 10, ground := Ground.phase }, { on := 11, ground := Ground.phase }, { on := 12, ground := Ground.phase }, { on := 13, ground := Ground.phase }, { on := 14, ground := Ground.phase }, { on := 15, ground := Ground.phase }, { on := 16, ground := Ground.phase }, { on := 17, ground := Ground.phase }, { on := 18, ground := Ground.phase }, { on := 19, ground := Ground.phase }, { on := 20, ground := Ground.phase }], guard := none }) (v := ?_) rfl (by kernel_rfl) (by kernel_rfl) (by kernel_rfl) (fun _ _ _ h => h) (Or.inl ⟨by rfl, ?_⟩) (by assumption) ?_
    rotate_left
    · (intro w hSw; (try dsimp only at hSw); go_simp; try (with_reducible rfl))
    (try simp only [Act.put, List.setIfInBounds_toArray, List.set_cons_zero, List.set_cons_succ])
    refine wpAnyH_done (by kernel_rfl) ?_ _
    all_goals (clear HH; go_wp2_with fail)
    all_goals (refine bodyPost_ret (v := .tuple #[.agg #[.int .i64 i1, .int .i64 i2, .int .i64 q1, .int .i64 q2, .string oname, .bool odir, .bool false, .slice none 0 0, .int .i64 0, .int .i64 0], .bool false]) (by simp [results, Try.results53, go_sem]) rfl ⟨rfl, ?_⟩)
    all_goals exact up_trans (up_trans (up_trans (up_alloc _ _) (up_alloc _ _)) (up_alloc _ _)) (up_drew _)
  · obtain rfl := h1
    rw [stamp_eq_ff2 _ _ h2]
    generalize dirI L ⟨q1, q2⟩ = hd at HH ⊢
    go_enter Try.func53, Try.ntmps53
    go_wp2_with fail
    first | go_region_held3 (fun W => W.cell? ⟨w.heap.size, 0, none⟩ = some (.int .i64 i1) ∧ W.cell? ⟨w.heap.size, 1, none⟩ = some (.int .i64 i2) ∧ W.cell? ⟨w.heap.size + 1, 3, none⟩ = some (.int .i64 i1) ∧ W.cell? ⟨w.heap.size + 1, 4, none⟩ = some (.int .i64 n2) ∧ W.cell? ⟨w.heap.size + 1, 5, none⟩ = some (.int .i64 q1) ∧ W.cell? ⟨w.heap.size + 1, 6, none⟩ = some (.int .i64 q2) ∧ W.cell? ⟨w.heap.size + 1, 7, none⟩ = some (.bool odir) ∧ W.cell? ⟨w.heap.size + 1, 8, none⟩ = some (.string oname)) (go_simp) ((go_at_call 83; refine (HH.out _ (up_trans (up_trans (up_trans (up_alloc _ _) (up_alloc _ _)) (up_alloc _ _)) (up_drew _))).mono ?_; rintro e w1 ⟨rfl, hu⟩; have hb1 := hu.below; obtain ⟨hc1, hf1⟩ := bcell hb1; have hz := hb1.size)) | fail "no"
    all_goals (clear HH; go_wp2_with fail)
    all_goals (have h7 : w1.cell? ⟨w.heap.size + 1 + 1, 7, none⟩ = some (.slice none 0 0) := by go_simp)
    all_goals (have hs7 : ∀ u, (w1.setCell ⟨w.heap.size + 1 + 1, 7, none⟩ u).cell? ⟨w.heap.size + 1 + 1, 7, none⟩ = some u := fun u => World.cell?_setCell_same _ _ _ h7)
    all_goals (refine bodyPost_ret (v := .tuple #[.agg #[.int .i64 i1, .int .i64 n2, .int .i64 q1, .int .i64 q2, .string oname, .bool odir, .bool false, .slice none 0 0, .int .i64 0, .int .i64 0], .bool hd]) (by simp [results, Try.results53, go_sem, hc1, hz, h7, hs7]) rfl ⟨by simp, ?_⟩)
    all_goals (have hbw := up_trans (up_trans (up_trans (up_trans (up_alloc _ _) (up_alloc _ _)) (up_alloc _ _)) (up_drew _)) hb1; ((repeat (first | (with_reducible exact hbw) | (with_reducible refine up_set ?_ ?_ _) | (with_reducible refine up_trans ?_ (up_drew _)))); all_goals ((try dsimp only); omega)))
  · rw [stamp_eq_ff1 _ _ h1]
    generalize dirI L ⟨q1, q2⟩ = hd at HH ⊢
    go_enter Try.func53, Try.ntmps53
    go_wp2_with fail
    first | go_region_held3 (fun W => W.cell? ⟨w.heap.size, 0, none⟩ = some (.int .i64 i1) ∧ W.cell? ⟨w.heap.size, 1, none⟩ = some (.int .i64 i2) ∧ W.cell? ⟨w.heap.size + 1, 3, none⟩ = some (.int .i64 n1) ∧ W.cell? ⟨w.heap.size + 1, 4, none⟩ = some (.int .i64 n2) ∧ W.cell? ⟨w.heap.size + 1, 5, none⟩ = some (.int .i64 q1) ∧ W.cell? ⟨w.heap.size + 1, 6, none⟩ = some (.int .i64 q2) ∧ W.cell? ⟨w.heap.size + 1, 7, none⟩ = some (.bool odir) ∧ W.cell? ⟨w.heap.size + 1, 8, none⟩ = some (.string oname)) (go_simp) ((go_at_call 83; refine (HH.out _ (up_trans (up_trans (up_trans (up_alloc _ _) (up_alloc _ _)) (up_alloc _ _)) (up_drew _))).mono ?_; rintro e w1 ⟨rfl, hu⟩; have hb1 := hu.below; obtain ⟨hc1, hf1⟩ := bcell hb1; have hz := hb1.size)) | fail "no"
    all_goals (clear HH; go_wp2_with fail)
    all_goals (have h7 : w1.cell? ⟨w.heap.size + 1 + 1, 7, none⟩ = some (.slice none 0 0) := by go_simp)
    all_goals (have hs7 : ∀ u, (w1.setCell ⟨w.heap.size + 1 + 1, 7, none⟩ u).cell? ⟨w.heap.size + 1 + 1, 7, none⟩ = some u := fun u => World.cell?_setCell_same _ _ _ h7)
    all_goals (refine bodyPost_ret (v := .tuple #[.agg #[.int .i64 n1, .int .i64 n2, .int .i64 q1, .int .i64 q2, .string oname, .bool odir, .bool false, .slice none 0 0, .int .i64 0, .int .i64 0], .bool hd]) (by simp [results, Try.results53, go_sem, hc1, hz, h7, hs7]) rfl ⟨by simp, ?_⟩)
    all_goals (have hbw := up_trans (up_trans (up_trans (up_trans (up_alloc _ _) (up_alloc _ _)) (up_alloc _ _)) (up_drew _)) hb1; ((repeat (first | (with_reducible exact hbw) | (with_reducible refine up_set ?_ ?_ _) | (with_reducible refine up_trans ?_ (up_drew _)))); all_goals ((try dsimp only); omega)))
end Go.Proofs.Ytefhfoioeoijlaa

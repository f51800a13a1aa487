/- Two entries that are one compare equal (virtual numbers of seat .ZD). -/
import Derived.Test.YtefhfoioeoijlaaGreatDoorSMap
set_option linter.unusedVariables false
set_option linter.unusedSimpArgs false
namespace Go.Proofs.YtefhfoioeoijlaaGreatDoor
open Go Go.RowKit Go.Sort
theorem stamp_eqIn (d : Nat) (s : Stamp) (w : World) : (Op.equalIn (d + 2) 24 (stV s) (stV s)).run Tryz.prog w = .ok true w := by
  unfold stV
  rw [show d + 2 = (d + 1) + 1 from rfl]
  unfold Op.equalIn
  simp only [run_underlying Tryz.underlying24, Sem.run_bind, program, Sem.run, Result.andThen_ok]
  have e1 := int64_equal d s.t s.t w
  have e2 := int_equal d s.w s.w w
  simp [part_t, part_w, e1, e2]
theorem string_eqIn (d : Nat) (s : ByteArray) (w : World) : (Op.equalIn (d + 1) 9 (.string s) (.string s)).run Tryz.prog w = .ok true w := by
  have e : (s == s) = true := by rw [beq_ba]; exact decide_eq_true rfl
  simp [Op.equalIn, run_underlying Tryz.underlying9, e]
theorem bool_eqIn (d : Nat) (s : Bool) (w : World) : (Op.equalIn (d + 1) 4 (.bool s) (.bool s)).run Tryz.prog w = .ok true w := by
  simp [Op.equalIn, run_underlying Tryz.underlying4]
theorem ent_equal (x : EntD) (w : World) : (Op.equal 35 (enV x) (enV x)).run Tryz.prog w = .ok true w := by
  unfold Op.equal Op.maxDepth enV
  rw [show (10000 : Nat) = 9999 + 1 from rfl]
  unfold Op.equalIn
  simp only [run_underlying Tryz.underlying35, Sem.run_bind, program, Sem.run, Result.andThen_ok]
  have p1 : (part 9 #[.string x.name, .int .i64 x.node.t, .int .i64 x.node.w, .bool x.dir, .int .i64 x.size] 0).run Tryz.prog w = .ok (.string x.name) w := by kernel_rfl
  have p2 : (part 24 #[.string x.name, .int .i64 x.node.t, .int .i64 x.node.w, .bool x.dir, .int .i64 x.size] 1).run Tryz.prog w = .ok (.agg #[.int .i64 x.node.t, .int .i64 x.node.w]) w := by kernel_rfl
  have p3 : (part 4 #[.string x.name, .int .i64 x.node.t, .int .i64 x.node.w, .bool x.dir, .int .i64 x.size] 3).run Tryz.prog w = .ok (.bool x.dir) w := by kernel_rfl
  have p4 : (part 3 #[.string x.name, .int .i64 x.node.t, .int .i64 x.node.w, .bool x.dir, .int .i64 x.size] 4).run Tryz.prog w = .ok (.int .i64 x.size) w := by kernel_rfl
  have e1 := string_eqIn 9998 x.name w
  have e2 := stamp_eqIn 9997 x.node w
  have e3 := bool_eqIn 9998 x.dir w
  have e4 := int_equal 9998 x.size x.size w
  unfold stV at e2
  simp [p1, p2, p3, p4, e1, e2, e3, e4]
section
variable {ρ : Operand → Value} {w : World} {d : Option Tmp} {ty : TypeId} {pos : String} {af : Array Edge} {g : Option (Nat × Bool)}
theorem ent_noguard {T : TypeId} (hT : T = 35) : Tryz.prog.eqGuardType Tryz.prog.depth T = false := by subst hT; kernel_rfl
theorem r_neE {T T' : TypeId} (hT : T = 35) {x z : Operand} {y : EntD} (hx : ρ x = enV y) (hz : ρ z = enV y) : (execOp ρ ⟨d, .binOp .neq T x z T', ty, pos, af, g⟩).run Tryz.prog w = .ok (.value (.bool false)) w := by
  have hg := ent_noguard hT
  have e : (Op.equal T (enV y) (enV y)).run Tryz.prog w = .ok true w := by rw [hT]; exact ent_equal y w
  unfold enV at hx hz e
  simp [execOp, hx, hz, eqGuard, hg, binOp, e]
end
end Go.Proofs.YtefhfoioeoijlaaGreatDoor

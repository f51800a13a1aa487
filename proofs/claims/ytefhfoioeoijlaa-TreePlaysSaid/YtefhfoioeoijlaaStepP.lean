/- Steps at this program's own types: stamps compared, items looked up. -/
import Derived.Test.YtefhfoioeoijlaaTy
import Derived.Test.YtefhfoioeoijlaaMapB
set_option linter.unusedVariables false
set_option linter.unusedSimpArgs false
namespace Go.Proofs.Ytefhfoioeoijlaa
open Go Go.RowKit Go.Sort

theorem stamp_noguard : Try.prog.eqGuardType Try.prog.depth 24 = false := by kernel_rfl
theorem stamp_eq' (a b c e : Int) (w : World) : (Op.equal 24 (.agg #[.int .i64 a, .int .i64 b]) (.agg #[.int .i64 c, .int .i64 e])).run Try.prog w = .ok (decide ((⟨a, b⟩ : Stamp) = ⟨c, e⟩)) w := stamp_equal ⟨a, b⟩ ⟨c, e⟩ w
section
variable {d : Option Tmp} {ty : TypeId} {pos : String} {af : Array Edge} {g : Option (Nat × Bool)} {ρ : Operand → Value} {w : World}
theorem r_eqS {x y : Operand} {yt : TypeId} {a b c e : Int} (hx : ρ x = .agg #[.int .i64 a, .int .i64 b]) (hy : ρ y = .agg #[.int .i64 c, .int .i64 e]) :
    (execOp ρ ⟨d, .binOp .eql 24 x y yt, ty, pos, af, g⟩).run Try.prog w = .ok (.value (.bool (decide ((⟨a, b⟩ : Stamp) = ⟨c, e⟩)))) w := by
  have h := stamp_eq' a b c e w
  simp [execOp, hx, hy, eqGuard, stamp_noguard, binOp, h]
theorem r_neS {x y : Operand} {yt : TypeId} {a b c e : Int} (hx : ρ x = .agg #[.int .i64 a, .int .i64 b]) (hy : ρ y = .agg #[.int .i64 c, .int .i64 e]) :
    (execOp ρ ⟨d, .binOp .neq 24 x y yt, ty, pos, af, g⟩).run Try.prog w = .ok (.value (.bool (decide ((⟨a, b⟩ : Stamp) ≠ ⟨c, e⟩)))) w := by
  have h := stamp_eq' a b c e w
  simp [execOp, hx, hy, eqGuard, stamp_noguard, binOp, h]
theorem r_look {x k : Operand} {ok : Bool} {mv kv v : Value} (hx : ρ x = mv) (hk : ρ k = kv) (h : (Instr.lookup 85 mv kv ok).run Try.prog w = .ok v w) :
    (execOp ρ ⟨d, .lookup 85 x k ok, ty, pos, af, g⟩).run Try.prog w = .ok (.value v) w := by
  simp [execOp, hx, hk, h]
end
end Go.Proofs.Ytefhfoioeoijlaa

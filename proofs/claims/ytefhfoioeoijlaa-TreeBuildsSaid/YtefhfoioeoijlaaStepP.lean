/- Steps at this program's own types: stamps compared, items looked up. -/
import Derived.Test.YtefhfoioeoijlaaTy
import Derived.Test.YtefhfoioeoijlaaMapB
set_option linter.unusedVariables false
set_option linter.unusedSimpArgs false
namespace Go.Proofs.Ytefhfoioeoijlaa
open Go Go.RowKit Go.Sort

theorem stamp_noguard : Try.prog.eqGuardType Try.prog.depth 24 = false := by kernel_rfl
theorem stamp_eq' (a b c e : Int) (w : World) : (Op.equal 24 (.agg #[.int .i64 a, .int .i64 b]) (.agg #[.int .i64 c, .int .i64 e])).run Try.prog w = .ok (decide ((⟨a, b⟩ : Stamp) = ⟨c, e⟩)) w := stamp_equal ⟨a, b⟩ ⟨c, e⟩ w
section
variable {d : Option Tmp} {ty : TypeId} {pos : String} {af : Array Edge} {g : Option (Nat × Bool)} {ρ : Operand → Value} {w : World}
theorem r_eqS {x y : Operand} {yt : TypeId} {a b c e : Int} (hx : ρ x = .agg #[.int .i64 a, .int .i64 b]) (hy : ρ y = .agg #[.int .i64 c, .int .i64 e]) :
    (execOp ρ ⟨d, .binOp .eql 24 x y yt, ty, pos, af, g⟩).run Try.prog w = .ok (.value (.bool (decide ((⟨a, b⟩ : Stamp) = ⟨c, e⟩)))) w := by
  have h := stamp_eq' a b c e w
  simp [execOp, hx, hy, eqGuard, stamp_noguard, binOp, h]
theorem r_neS {x y : Operand} {yt : TypeId} {a b c e : Int} (hx : ρ x = .agg #[.int .i64 a, .int .i64 b]) (hy : ρ y = .agg #[.int .i64 c, .int .i64 e]) :
    (execOp ρ ⟨d, .binOp .neq 24 x y yt, ty, pos, af, g⟩).run Try.prog w = .ok (.value (.bool (decide ((⟨a, b⟩ : Stamp) ≠ ⟨c, e⟩)))) w := by
  have h := stamp_eq' a b c e w
  simp [execOp, hx, hy, eqGuard, stamp_noguard, binOp, h]
theorem r_look {x k : Operand} {ok : Bool} {mv kv v : Value} (hx : ρ x = mv) (hk : ρ k = kv) (h : (Instr.lookup 85 mv kv ok).run Try.prog w = .ok v w) :
    (execOp ρ ⟨d, .lookup 85 x k ok, ty, pos, af, g⟩).run Try.prog w = .ok (.value v) w := by
  simp [execOp, hx, hk, h]
end
theorem up_up {a b c : World} (h : Up a b) (k : Up b c) : Up a c := ⟨k.os.trans h.os, k.tape.trans h.tape, k.output.trans h.output, Nat.le_trans h.size k.size, fun i hi => (k.block i (Nat.lt_of_lt_of_le hi h.size)).trans (h.block i hi)⟩
theorem up_chgn {a b c : World} {q : Nat} (h : Up a b) (k : Chg b c q) (hq : a.heap.size ≤ q) : Up a c :=
  ⟨k.os.trans h.os, k.tape.trans h.tape, k.output.trans h.output, Nat.le_trans h.size k.size, fun i hi => (k.block i (Nat.lt_of_lt_of_le hi h.size) (by intro e; injection e with e; omega)).trans (h.block i hi)⟩
/-- The slots that nobody asks for, under one letter. -/
def tget : List Value → Nat → Value
  | [], _ => undef
  | v :: _, 0 => v
  | _ :: l, n + 1 => tget l n
section
variable {P : Program} {ρ : Operand → Value} {w : World}
theorem ne_same {o : Oper} {m : Int} (h : (execOp ρ o).run P w = .ok (.value (.bool (decide (m ≠ m)))) w) : (execOp ρ o).run P w = .ok (.value (.bool false)) w := by rw [h]; simp
end
end Go.Proofs.Ytefhfoioeoijlaa

/- Rows of an undo log: steps; slices.Backward, Insert, Delete (one text of several) -/
import Derived.Test.YtefhfoioeoijlaaGreatDoorOrd
import Derived.Test.YtefhfoioeoijlaaGreatDoorRws
import Derived.Test.YtefhfoioeoijlaaGreatDoorTyB
import Derived.Lib.AppendZerosOnto
import Derived.Lib.Overlaps
import Derived.Laws.Externs
set_option linter.unusedVariables false
set_option linter.unusedSimpArgs false
namespace Go.Proofs.YtefhfoioeoijlaaGreatDoor
open Go Go.RowKit Go.Sort

structure StepD where
  o : OpD
  was : Item
  there : Bool
  did : Bool
  deriving DecidableEq, Inhabited
end Go.Proofs.YtefhfoioeoijlaaGreatDoor

namespace Go.Proofs.YtefhfoioeoijlaaGreatDoor
open Go Go.RowKit Go.Sort
end Go.Proofs.YtefhfoioeoijlaaGreatDoor

namespace Go.Proofs.YtefhfoioeoijlaaGreatDoor
open Go Go.RowKit

/-- The fence that bars nothing, within a round or not. -/
abbrev wideAt (ro : Option Nat) : Fence := { Fence.wide with round := ro }
@[irreducible] def XL (ro : Option Nat) (n : Nat) (P : Program) (ops : Array Oper) (Q : Exit → Act → World → Prop) : List Oper → Act → World → Prop := wpListIn (wideAt ro) n P ops Q
variable {ro : Option Nat} {n : Nat} {P : Program} {ops : Array Oper} {Q : Exit → Act → World → Prop} {o : Oper} {rest : List Oper} {a : Act} {w : World}
theorem xl (hw : Region.wanted o (yielded ops a.tmps) = true) (hd : o.semAt ro a.eval = execOp a.eval o) (h : o.uponIn (wideAt ro) n P a (XL ro n P ops Q rest) Q ((execOp a.eval o).run P w)) : XL ro n P ops Q (o :: rest) a w := by
  unfold XL at h ⊢
  unfold wpListIn
  rw [if_pos hw]
  refine ⟨fun _ _ => trivial, ?_⟩
  rw [hd]
  exact h
theorem xv {v : Value} {w' : World} (hw : Region.wanted o (yielded ops a.tmps) = true) (hd : o.semAt ro a.eval = execOp a.eval o) (h : (execOp a.eval o).run P w = .ok (.value v) w') (k : XL ro n P ops Q rest (a.put o.dst v) w') : XL ro n P ops Q (o :: rest) a w :=
  xl hw hd (by rw [h]; exact k)
theorem xn {cs : Array Value} {T : TypeId} {V : Nat → Value} (hw : Region.wanted o (yielded ops a.tmps) = true) (hd : o.semAt ro a.eval = execOp a.eval o) (h : (execOp a.eval o).run P w = .ok (.value (V w.heap.size)) (w.alloc (.cells cs T)))
    (k : ∀ b w', b = w.heap.size → w'.heap[b]? = some (.cells cs T (0, 0)) → Up w w' → XL ro n P ops Q rest (a.put o.dst (V b)) w') : XL ro n P ops Q (o :: rest) a w :=
  xv hw hd h (k _ _ rfl (heap_alloc_new w _) (up_new _))
theorem callsAt {f : FuncId} {args : Array Value} {R : Ending → World → Prop} (h : Calls P f args w R) : CallsIn (wideAt ro) n P f args w R := by
  have := (callsIn_wide (n := n)).2 h
  cases ro with
  | none => exact this
  | some l => exact CallsIn.inRound l this
theorem xc {f : FuncId} {args : Array Value} {R : Ending → World → Prop} (hw : Region.wanted o (yielded ops a.tmps) = true) (hd : o.semAt ro a.eval = execOp a.eval o) (h : (execOp a.eval o).run P w = .ok (.enter f args) w) (hc : Calls P f args w R)
    (k : ∀ e w', R e w' → ∃ v, e = .returned v ∧ XL ro n P ops Q rest (a.put o.dst v) w') : XL ro n P ops Q (o :: rest) a w :=
  xl hw hd (by
    rw [h]
    refine ⟨fun hn => (by cases hn), (callsAt hc).mono fun e w' hR => ?_⟩
    obtain ⟨v, rfl, h⟩ := k e w' hR
    exact h)
end Go.Proofs.YtefhfoioeoijlaaGreatDoor

namespace Go.Proofs.YtefhfoioeoijlaaGreatDoor
open Go Go.RowKit Go.Sort

end Go.Proofs.YtefhfoioeoijlaaGreatDoor

namespace Go.Proofs.YtefhfoioeoijlaaGreatDoor
open Go Go.RowKit Go.Sort

structure DD where
  oA : Option Addr
  on : Nat
  oc : Nat
  iA : Option Addr
  in_ : Nat
  ic : Nat
end Go.Proofs.YtefhfoioeoijlaaGreatDoor

namespace Go.Proofs.YtefhfoioeoijlaaGreatDoor
open Go Go.RowKit Go.Sort

end Go.Proofs.YtefhfoioeoijlaaGreatDoor

namespace Go.Proofs.YtefhfoioeoijlaaGreatDoor
open Go Go.RowKit Go.Sort
section
variable {P : Program} {ops : Array Oper} {Q : Exit → Act → World → Prop} {a : Act} {w : World} {J : Act → World → Prop} {d : Option Tmp} {ty : TypeId} {pos : String} {af : Array Edge} {gd : Option (Nat × Bool)}
end
end Go.Proofs.YtefhfoioeoijlaaGreatDoor

namespace Go.Proofs.YtefhfoioeoijlaaGreatDoor
open Go Go.RowKit Go.Sort
section
variable {P : Program} {d : Option Tmp} {ty : TypeId} {pos : String} {af : Array Edge} {gd : Option (Nat × Bool)} {ρ : Operand → Value} {w : World}
end
end Go.Proofs.YtefhfoioeoijlaaGreatDoor

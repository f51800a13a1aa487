/- An operation that came in as an argument, and a list of one operation. -/
import Derived.Test.YtefhfoioeoijlaaPlayArg
import Derived.WideShapes
set_option linter.unusedVariables false
set_option linter.unusedSimpArgs false
namespace Go.Proofs.Ytefhfoioeoijlaa
open Go Go.RowKit Go.ChangeShapes Go.WideShapes Go.ChangeAt Go.Deep
section
variable {H : Type} {enc : TypeId × Value → H}
set_option maxRecDepth 20000 in
theorem open_opv {W : World} {sp : Nat → Bool} {held : Bool} {r : Reach} {b0 : Nat} {v : Value} {d : DataW H} {p : List MemPlace} (hv : Value.okWide Try.prog W r b0 40 v) (h : DataW.Trod enc Try.prog W 0 sp held 40 v d p) :
    ∃ (o : OpD) (oA : Option Addr) (on oc : Nat), v = opV o (.slice oA on oc) ∧ o.data.length = on ∧ o.name.size ≤ 9223372036854775807 ∧ (on ≤ 500 → Dat W.heap.size W (.slice oA on oc) o.data) := by
  obtain ⟨cs, rfl, hsz⟩ := okWide_struct Try.underlying40 hv
  obtain ⟨fuel, hf⟩ := h
  obtain ⟨o, oA, on, oc, hcs, h1, h2, h3⟩ := open_op hf
  refine ⟨o, oA, on, oc, ?_, h1, h2, h3⟩
  have e : cs.toList = opC o (.slice oA on oc) := by simpa [Value.cells] using hcs
  obtain ⟨l⟩ := cs
  have e : l = opC o (.slice oA on oc) := e
  rw [e]; rfl
end
theorem lit_row0 {w : World} {b : Nat} {o : OpD} {oA : Option Addr} {on oc : Nat} (hb : w.heap[b]? = some (.cells (opC o (.slice oA on oc)).toArray 40 (0, 0))) (hl : o.data.length = on) (hs : o.name.size ≤ 9223372036854775807) : OpRow0 w (some ⟨b, 0, none⟩) [o] := by
  intro i x hx
  cases i with
  | zero =>
    simp at hx; subst hx
    refine ⟨b, 0, oA, on, oc, rfl, lt_ob hb, fun j v hj => ?_, hl, hs⟩
    rw [Nat.zero_mul, Nat.add_zero, Nat.zero_add]
    have : (opC o (.slice oA on oc)).toArray[j]? = some v := by simpa using hj
    simp only [World.cell?, hb]; simpa using this
  | succ i => simp at hx
end Go.Proofs.Ytefhfoioeoijlaa

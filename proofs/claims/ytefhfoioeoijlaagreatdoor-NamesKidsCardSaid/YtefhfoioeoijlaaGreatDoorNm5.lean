/- What the law NamesKids asks of package names (virtual numbers of seat .ZD). -/
import Derived.Test.YtefhfoioeoijlaaGreatDoorNm4
import Derived.Test.YtefhfoioeoijlaaGreatDoorClash
set_option linter.unusedVariables false
set_option linter.unusedSimpArgs false
namespace Go.Proofs.YtefhfoioeoijlaaGreatDoor
open Go Go.RowKit Go.Sort
theorem kid_of {L : List Item} (hF : Fit L) {n : Stamp} {D : List EntD} (hL : Listed (entsI (kidsI n L)) D) {k : Nat} {y : EntD} (hy : D[k]? = some y) :
    ∃ x, gotI L ⟨y.node.t, y.node.w⟩ = x ∧ hasI L ⟨y.node.t, y.node.w⟩ = true ∧ x.parent = n ∧ x.gone = false ∧ x.dir = y.dir ∧ (x.data.length : Int) = y.size := by
  obtain ⟨j, hj⟩ := List.mem_iff_getElem?.1 (hL.mem hy)
  obtain ⟨x, hx, rfl⟩ := entsI_at hj
  obtain ⟨h1, h2, h3⟩ := kids_mem.1 (List.mem_of_getElem? hx)
  have hg : getI L x.node = some x := getI_mem hF.wf.srt h1
  refine ⟨x, ?_, ?_, h2, h3, rfl, rfl⟩
  · show gotI L x.node = x
    unfold gotI; rw [hg]; rfl
  · show hasI L x.node = true
    unfold hasI; rw [hg]; rfl
theorem kids_file {L : List Item} (hF : Fit L) {n : Stamp} (h1 : hasI L n = true) (h2 : (gotI L n).dir = false) : (kidsI n L).length = 0 := by
  rw [List.length_eq_zero_iff, List.eq_nil_iff_forall_not_mem]
  intro x hx
  obtain ⟨hxL, hp, _⟩ := kids_mem.1 hx
  obtain ⟨z, hz⟩ : ∃ z, getI L n = some z := by
    unfold hasI at h1
    cases hg : getI L n with
    | none => rw [hg] at h1; cases h1
    | some z => exact ⟨z, rfl⟩
  have hG : gotI L n = z := by unfold gotI; rw [hz]; rfl
  rw [hG] at h2
  obtain ⟨hzL, hzn⟩ := getI_some hz
  rcases hF.wf.dirs x hxL with e | ⟨y, hy, e1, e2⟩
  · exact hF.wf.nonil z hzL (by rw [hzn, ← hp, e])
  · have : y = z := hF.wf.srt.unique hy hzL (by rw [e1, hp, hzn])
    rw [this, h2] at e2
    cases e2
theorem listed_len {L : List Item} {n : Stamp} {D : List EntD} (hL : Listed (entsI (kidsI n L)) D) : D.length = (kidsI n L).length := by rw [hL.1.length_eq, entsI_len]
section
variable {ρ : Operand → Value} {P : Program} {w : World} {d : Option Tmp} {ty : TypeId} {pos : String} {af : Array Edge} {g : Option (Nat × Bool)}
theorem r_neb_eq {t : TypeId} {x y : Operand} {a b : Bool} (h : a = b) (hx : ρ x = .bool a) (hy : ρ y = .bool b) (hu : P.underlying t = some .bool) : (execOp ρ ⟨d, .binOp .neq t x y t, ty, pos, af, g⟩).run P w = .ok (.value (.bool false)) w := by
  subst h
  have h := run_equalIn_bool (P := P) w 9999 t a a hu
  simp [execOp, hx, hy, eqGuard, binOp, Op.equal, Op.maxDepth, h]
end
section
variable {d : Option Tmp} {ty : TypeId} {pos : String} {af : Array Edge} {g : Option (Nat × Bool)} {ρ : Operand → Value} {w : World}
theorem r_neS2 {x y : Operand} {yt : TypeId} {a b c e : Int} (hx : ρ x = .agg #[.int .i64 a, .int .i64 b]) (hy : ρ y = .agg #[.int .i64 c, .int .i64 e]) :
    (execOp ρ ⟨d, .binOp .neq 24 x y yt, ty, pos, af, g⟩).run Tryz.prog w = .ok (.value (.bool (decide ((⟨a, b⟩ : Stamp) ≠ ⟨c, e⟩)))) w := by
  have h := stamp_eq' a b c e w
  simp [execOp, hx, hy, eqGuard, stamp_noguard, binOp, h]
end
end Go.Proofs.YtefhfoioeoijlaaGreatDoor

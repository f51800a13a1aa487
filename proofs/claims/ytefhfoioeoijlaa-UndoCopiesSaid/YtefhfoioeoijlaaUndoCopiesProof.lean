/- 'cachettelaw17.UndoCopies' returns true for every two lists of steps, and its arguments read as before. No condition. -/
import Derived.Test.YtefhfoioeoijlaaRows
import Derived.WalkKit
import Derived.ProofKit
import Derived.OpenShut
import Derived.ShutString
import Derived.ChangeOld
import Derived.Below
import Derived.Carry
import Derived.Lib.SmallJoins
import Derived.SizedLaws
import Derived.Test.YtefhfoioeoijlaaGLI
namespace Go.Proofs.Ytefhfoioeoijlaa.undoCopies
open Go Go.RowKit Go.Joins Go.ChangeShapes Go.WideShapes Go.ChangeAt Go.RowKit
open Go.ChangeMaps (open_string shut_string)
set_option linter.unusedVariables false

theorem own : ownKnob Try.prog.godebug = none := by kernel_rfl
theorem laidOut : laidOutB Try.prog = true := by kernel_rfl

/-! ### THE ROW's STEP: WRITTEN OUT: LEAVE IT -/
set_option maxRecDepth 100000 in
theorem lifted (os : Os) (started : os.Started) (H : Type) (enc : TypeId × Value → H) :
    ReturnsInHanded {} Try.checked os 10 .any (Rows.undoCopiesSpec.pre6 enc Try.prog Try.f10 Rows.undoCopiesRow.domain false) (Rows.undoCopiesSpec.post enc Try.prog Try.f10 false true false false) := by
  refine returnsInHanded_of_change_sized (C := Try.checked) own started (by kernel_rfl) Try.func10
    (ChangeSpec.witness6 (enc := enc) (C := Try.checked) false ⟨#[], #[.slice none 0 0, .slice none 0 0], []⟩ 8 (by kernel_rfl) (by kernel_rfl) (by kernel_rfl) (by kernel_rfl)) ?_
  intro W base args ds gs before hval0 hW hcnd hsz _
  have hval : ∀ (j : Nat) t v, Try.f10.params[j]? = some t → args[j]? = some v → Value.okWide Try.prog W .any base t v := hval0
  have hW' := hW
  obtain ⟨p, q, hA0, hV, rfl, hfz, hnd⟩ := hW
  have hA : DataW.TrodAll enc Try.prog W 0 (fun _ => true) true Try.f10.params.toList args.toList ds p := hA0
  rw [Try.params10] at hA hval
  obtain ⟨v0, vs0, d0, ds0, p0, q0, hargs, rfl, rfl, h0, r0⟩ := trodAll_cons hA
  obtain ⟨v1, vs1, d1, ds1, p1, q1, rfl, rfl, rfl, h1, r1⟩ := trodAll_cons r0
  obtain ⟨rfl, rfl, rfl⟩ := trodAll_nil r1
  obtain ⟨rfl, rfl⟩ := trodVars_none hV
  obtain rfl : args = #[v0, v1] := by cases args; simp_all
  obtain ⟨a0, len0, cap0, rfl⟩ := okWide_slice Try.underlying60 (hval 0 60 v0 rfl rfl)
  have k0 := h0
  have lt0 : ∀ x ∈ p0, x.block < W.heap.size := by obtain ⟨m, hm⟩ := k0; exact DataW.trod_lt m _ _ _ hm
  obtain ⟨lA0, os0, lc0, hcs, hz0, w0, w0'⟩ : ∃ (A : Option Addr) (ss' : List GStep) (c : Nat), [Value.slice a0 len0 cap0] = [.slice A ss'.length c] ∧ (ss' = [] ∨ ∃ elems spare, d0 = .slice elems spare ∧ elems.length = ss'.length) ∧ StRow0 W A ss' ∧ (SmallS ss' → StRow W.heap.size W A ss') := by
    obtain ⟨fuel, hf⟩ := h0
    exact open_steps (by simpa [Value.cells] using hf)
  injection hcs with hcs _
  injection hcs with e1 e2 e3
  subst e1 e2 e3
  have hn0 : os0.length ≤ 1300000000000 := by
    rcases hz0 with rfl | ⟨el, sp, hd, hl⟩
    · simp
    · have hb := sized_slice (j := 0) (t := 60) (e := 67) hsz (by kernel_rfl) (by rw [hd]; rfl) Try.underlying60
      rw [show Try.checked.prog.bytesOf 67 = 112 from by kernel_rfl] at hb
      have := reachBytes_lt
      omega
  obtain ⟨a1, len1, cap1, rfl⟩ := okWide_slice Try.underlying60 (hval 1 60 v1 rfl rfl)
  have k1 := h1
  have lt1 : ∀ x ∈ p1, x.block < W.heap.size := by obtain ⟨m, hm⟩ := k1; exact DataW.trod_lt m _ _ _ hm
  obtain ⟨lA1, os1, lc1, hcs, hz1, w1, w1'⟩ : ∃ (A : Option Addr) (ss' : List GStep) (c : Nat), [Value.slice a1 len1 cap1] = [.slice A ss'.length c] ∧ (ss' = [] ∨ ∃ elems spare, d1 = .slice elems spare ∧ elems.length = ss'.length) ∧ StRow0 W A ss' ∧ (SmallS ss' → StRow W.heap.size W A ss') := by
    obtain ⟨fuel, hf⟩ := h1
    exact open_steps (by simpa [Value.cells] using hf)
  injection hcs with hcs _
  injection hcs with e1 e2 e3
  subst e1 e2 e3
  have hn1 : os1.length ≤ 1300000000000 := by
    rcases hz1 with rfl | ⟨el, sp, hd, hl⟩
    · simp
    · have hb := sized_slice (j := 1) (t := 60) (e := 67) hsz (by kernel_rfl) (by rw [hd]; rfl) Try.underlying60
      rw [show Try.checked.prog.bytesOf 67 = 112 from by kernel_rfl] at hb
      have := reachBytes_lt
      omega
  clear hA0 hval0
  refine (undoCopies_at w0 w0' (Nat.le_refl _) hn0 w1 w1' (Nat.le_refl _) hn1).mono fun e W' ⟨he, bel⟩ => ?_
  subst he
  exact ⟨_, rfl, _, _, _, [], _, [], hW', trodAll_mk1 (shut_bool Try.underlying4 _), (trodAll_cons_mk (Below.trod laidOut (by kernel_rfl) (of_decide_eq_true (by kernel_rfl)) k0 bel lt0) (trodAll_cons_mk (Below.trod laidOut (by kernel_rfl) (of_decide_eq_true (by kernel_rfl)) k1 bel lt1) trodAll_mk0)), rfl, bel.frame _, fun h => by cases h⟩

theorem over : Rows.undoCopiesRow.holds Try.pinned (OpenSpec.ofChange Rows.undoCopiesSpec) :=
  OpenClaim.holds_of_wide 10 Try.f10 rfl rfl rfl rfl rfl rfl rfl ⟨rfl, rfl, rfl, rfl, rfl⟩ rfl rfl rfl rfl rfl (by kernel_rfl) Try.func10 (by kernel_rfl)
    (of_decide_eq_true (by kernel_rfl)) (by unfold Func.isWrapper; first | (rw [if_pos (by decide +kernel)]; kernel_rfl) | (rw [if_neg (by decide +kernel)]; exact ⟨rfl, rfl⟩))
    (fun os started H enc _ => lifted os started H enc)

/-- ████ THE STATEMENT ████ -/
theorem proved : Rows.UndoCopiesSaid := over
#print axioms proved
end Go.Proofs.Ytefhfoioeoijlaa.undoCopies

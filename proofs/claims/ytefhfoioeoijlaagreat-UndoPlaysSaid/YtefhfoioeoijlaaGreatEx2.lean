/- Ex2 -/
import Derived.Test.YtefhfoioeoijlaaGreatEx1
import Derived.Test.YtefhfoioeoijlaaGreatArg
import Derived.Test.YtefhfoioeoijlaaGreatTreeJ
import Derived.Test.YtefhfoioeoijlaaGreatPlain
import Derived.Test.YtefhfoioeoijlaaGreatStpR
set_option linter.unusedVariables false
set_option linter.unusedSimpArgs false
namespace Go.Proofs.YtefhfoioeoijlaaGreat
open Go Go.RowKit Go.Sort
theorem right_kinds {o : OpD} (h : rightB o = true) : o.kind = 1 ∨ o.kind = 2 ∨ o.kind = 3 ∨ o.kind = 4 := by
  have hb : bodyB o = true := by unfold rightB at h; simp only [Bool.and_eq_true] at h; exact h.2.2.2.2
  unfold bodyB at hb
  by_cases h1 : o.kind = 1
  · exact .inl h1
  · by_cases h2 : o.kind = 2
    · exact .inr (.inl h2)
    · by_cases h3 : o.kind = 3
      · exact .inr (.inr (.inl h3))
      · by_cases h4 : o.kind = 4
        · exact .inr (.inr (.inr h4))
        · simp [h1, h2, h3, h4] at hb
theorem got_not {L : List Item} {o : OpD} (h : hasI L o.node = false) (hr : rightB o = true) : ¬ (gotI L o.node).node = o.node := by
  have hn : stR o.node = true := by unfold rightB at hr; simp only [Bool.and_eq_true] at hr; exact hr.2.1
  unfold hasI at h; unfold gotI
  cases hg : getI L o.node with
  | some x => rw [hg] at h; cases h
  | none =>
    intro e
    have : o.node.t = 0 := by rw [← e]; rfl
    unfold stR at hn; simp at hn; omega
theorem putI_len_has {it : Item} {L : List Item} (hs : Srt L) (h : hasI L it.node = true) (hL : L.length ≤ 300) : (putI it L).length ≤ 300 := by rw [putI_length_old hs h]; exact hL
theorem putI_len_new {it : Item} {L : List Item} (hL : L.length < 300) : (putI it L).length ≤ 300 := by have := putI_length (it := it) (L := L); omega
theorem row_sl {P : Program} {f : FuncId} {args : Array Value} {w : World} {T : TypeId} {B base : Nat} {L : List Item} (h : Calls P f args w fun e w' => ∃ v, e = .returned v ∧ IRow T B base w' v L ∧ Up w w') :
    Calls P f args w fun e w' => ∃ A c, e = .returned (.slice A L.length c) ∧ IRow T B base w' (.slice A L.length c) L ∧ Up w w' := by
  refine h.mono ?_
  rintro e w' ⟨v, rfl, hr, u⟩
  obtain ⟨A, c, rfl⟩ := hr.form
  exact ⟨A, c, rfl, hr, u⟩
theorem rdo_x {B : Nat} {w : World} {ub : Nat} {L : List Item} (h : RIs B w ub L) (hB : B ≤ w.heap.size) (hsrt : Srt L) (o : OpD) (oA : Option Addr) (on oc : Nat) (hDo : Dat B w (.slice oA on oc) o.data) (hs : o.name.size ≤ 9223372036854775807)
    (hr : Calls Tryz.prog 33 #[trP ub, opV o (.slice oA on oc)] w fun e w' => ∃ d, e = .returned (.tuple #[itV (doI L o).1.1 d, .bool (doI L o).1.2.1, .int .i64 (doI L o).1.2.2]) ∧ Dat B w' d (doI L o).1.1.data ∧ RIs B w' ub (doI L o).2 ∧ Chg w w' ub) :
    Calls Tryz.prog 33 #[trP ub, opV o (.slice oA on oc)] w fun e w' => ∃ A n c, e = .returned (.tuple #[itV (doI L o).1.1 (.slice A n c), .bool (doI L o).1.2.1, .int .i64 (doI L o).1.2.2]) ∧ Dat B w' (.slice A n c) (doI L o).1.1.data ∧ RIs B w' ub (doI L o).2 ∧ Chg w w' ub := by
  refine hr.mono ?_
  rintro e w' ⟨d, rfl, hD, hT, hC⟩
  obtain ⟨A, n, c, rfl⟩ := hD.form
  exact ⟨A, n, c, rfl, hD, hT, hC⟩
variable {ro : Option Nat} {n : Nat} {P : Program} {ops : Array Oper} {Q : Exit → Act → World → Prop} {o : Oper} {rest : List Oper} {a : Act} {w : World}
theorem doI_len {L : List Item} {o : OpD} (hs : Srt L) (hl : L.length ≤ 300) : (doI L o).2.length ≤ 300 := by
  unfold doI
  split
  · exact hl
  · split
    · exact hl
    · rename_i h1 h2
      show (if (nowI L (gotI L o.node) o).2 = true then putI (nowI L (gotI L o.node) o).1 L else L).length ≤ 300
      split
      · rename_i h3
        by_cases hh : hasI L o.node = true
        · exact putI_len_has hs (by rw [nowI_node h3]; exact hh) hl
        · refine putI_len_new (Nat.lt_of_not_le fun h4 => h2 ⟨h3, by simpa using hh, h4⟩)
      · exact hl
theorem fold_wf {l : List OpD} : ∀ {L : List Item}, Wf L → L.length ≤ 300 → Wf (l.foldl playI L) ∧ (l.foldl playI L).length ≤ 300 := by
  induction l with
  | nil => intro L h hl; exact ⟨h, hl⟩
  | cons o l ih => intro L h hl; exact ih (h.doI hl o) (doI_len h.srt hl)
end Go.Proofs.YtefhfoioeoijlaaGreat

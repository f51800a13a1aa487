/- The document's tree: dir. -/
import Derived.Test.YtefhfoioeoijlaaRefD
set_option linter.unusedVariables false
set_option linter.unusedSimpArgs false
namespace Go.Proofs.Ytefhfoioeoijlaa
open Go.RowKit Go.Sort

theorem dirI_no {L : List Item} {n : Stamp} (h : decide (n = ⟨0, 0⟩) = false) (hh : hasI L n = false) : dirI L n = false := by
  unfold dirI
  rw [show decide (n = nilS) = false from h]
  unfold hasI at hh
  unfold gotI
  cases hg : getI L n with
  | none => rfl
  | some x => rw [hg] at hh; cases hh
theorem dirI_is {L : List Item} {n : Stamp} (h : decide (n = ⟨0, 0⟩) = false) : dirI L n = (gotI L n).dir := by
  unfold dirI
  rw [show decide (n = nilS) = false from h]
  rfl

set_option maxRecDepth 4000 in
set_option maxHeartbeats 2000000 in
theorem rdir_at {B : Nat} {w : World} {ub : Nat} {L : List Item} (h : RIs B w ub L) (m1 m2 : Int) : Calls Try.prog 58 #[trP ub, .agg #[.int .i64 m1, .int .i64 m2]] w fun e w' => e = .returned (.bool (dirI L ⟨m1, m2⟩)) ∧ Below w.heap.size w w' := by
  have HG := Lib.hid (fun (W : World) (hb : Below w.heap.size w W) => rget_at (h.up hb) m1 m2)
  have H0 := Lib.hid (fun h hh => dirI_no (L := L) (n := ⟨m1, m2⟩) h hh)
  have H1 := Lib.hid (fun h => dirI_is (L := L) (n := ⟨m1, m2⟩) h)
  clear h
  unfold trP at HG ⊢
  have HC : ∀ b, dirI L ⟨m1, m2⟩ = b → Hid (dirI L ⟨m1, m2⟩ = b) := fun b h => h
  rcases stamp_cases m1 m2 0 0 with ⟨h1, h2⟩ | ⟨h1, h2⟩ | h1
  · subst h1; subst h2
    rw [dirI_zero]
    clear H0 H1 HC
    generalize gotI L ⟨0, 0⟩ = x at *
    generalize hasI L ⟨0, 0⟩ = is at *
    obtain ⟨⟨i1, i2⟩, ⟨p1, p2⟩, name, dir, gone, data, ⟨b1, b2⟩⟩ := x
    unfold itV at HG
    simp only at HG
    go_enter Try.func58, Try.ntmps58
    go_wp2_with fail
    refine (HG.out _ (up_alloc _ _)).mono ?_
    rintro e w1 ⟨d, rfl, hD, hb1⟩
    obtain ⟨dA, dn, dc, rfl⟩ := hD.form
    have hb := up_trans (up_trans (up_alloc w _) hb1) (up_alloc w1 (.cells #[.int .i64 i1, .int .i64 i2, .int .i64 p1, .int .i64 p2, .string name, .bool dir, .bool gone, .slice dA dn dc, .int .i64 b1, .int .i64 b2] 41))
    obtain ⟨hc1, hf1⟩ := bcell hb1
    have hz := hb1.size
    have q0 : w1.cell? ⟨w.heap.size, 0, none⟩ = some (.int .i64 0) := by go_simp
    have q1 : w1.cell? ⟨w.heap.size, 1, none⟩ = some (.int .i64 0) := by go_simp
    have hzz : w.heap.size < w1.heap.size := by simp at hz; omega
    go_wp2_with fail
    go_ret
    exact ⟨rfl, hb⟩
  · subst h1
    have hne : decide ((⟨0, m2⟩ : Stamp) = ⟨0, 0⟩) = false := stamp_eq_ff2 _ _ h2
    have H0' := Lib.hid (H0.out hne)
    have H1' := Lib.hid (H1.out hne)
    clear H0 H1 HC hne
    generalize dirI L ⟨0, m2⟩ = res at *
    generalize gotI L ⟨0, m2⟩ = x at *
    generalize hasI L ⟨0, m2⟩ = is at *
    obtain ⟨⟨i1, i2⟩, ⟨p1, p2⟩, name, dir, gone, data, ⟨b1, b2⟩⟩ := x
    unfold itV at HG
    simp only at HG H1'
    go_enter Try.func58, Try.ntmps58
    go_wp2_with fail
    refine (HG.out _ (up_alloc _ _)).mono ?_
    rintro e w1 ⟨d, rfl, hD, hb1⟩
    obtain ⟨dA, dn, dc, rfl⟩ := hD.form
    have hb := up_trans (up_trans (up_alloc w _) hb1) (up_alloc w1 (.cells #[.int .i64 i1, .int .i64 i2, .int .i64 p1, .int .i64 p2, .string name, .bool dir, .bool gone, .slice dA dn dc, .int .i64 b1, .int .i64 b2] 41))
    obtain ⟨hc1, hf1⟩ := bcell hb1
    have hz := hb1.size
    have q0 : w1.cell? ⟨w.heap.size, 0, none⟩ = some (.int .i64 0) := by go_simp
    have q1 : w1.cell? ⟨w.heap.size, 1, none⟩ = some (.int .i64 m2) := by go_simp
    have hzz : w.heap.size < w1.heap.size := by simp at hz; omega
    cases is
    · have H2 := Lib.hid (H0'.out rfl)
      go_wp2_with fail
      go_ret
      exact ⟨ret_bool H2.out.symm, hb⟩
    · go_wp2_with fail
      go_ret
      exact ⟨ret_bool H1'.out.symm, hb⟩
  · skip
    have hne : decide ((⟨m1, m2⟩ : Stamp) = ⟨0, 0⟩) = false := stamp_eq_ff1 _ _ h1
    have H0' := Lib.hid (H0.out hne)
    have H1' := Lib.hid (H1.out hne)
    clear H0 H1 HC hne
    generalize dirI L ⟨m1, m2⟩ = res at *
    generalize gotI L ⟨m1, m2⟩ = x at *
    generalize hasI L ⟨m1, m2⟩ = is at *
    obtain ⟨⟨i1, i2⟩, ⟨p1, p2⟩, name, dir, gone, data, ⟨b1, b2⟩⟩ := x
    unfold itV at HG
    simp only at HG H1'
    go_enter Try.func58, Try.ntmps58
    go_wp2_with fail
    refine (HG.out _ (up_alloc _ _)).mono ?_
    rintro e w1 ⟨d, rfl, hD, hb1⟩
    obtain ⟨dA, dn, dc, rfl⟩ := hD.form
    have hb := up_trans (up_trans (up_alloc w _) hb1) (up_alloc w1 (.cells #[.int .i64 i1, .int .i64 i2, .int .i64 p1, .int .i64 p2, .string name, .bool dir, .bool gone, .slice dA dn dc, .int .i64 b1, .int .i64 b2] 41))
    obtain ⟨hc1, hf1⟩ := bcell hb1
    have hz := hb1.size
    have q0 : w1.cell? ⟨w.heap.size, 0, none⟩ = some (.int .i64 m1) := by go_simp
    have q1 : w1.cell? ⟨w.heap.size, 1, none⟩ = some (.int .i64 m2) := by go_simp
    have hzz : w.heap.size < w1.heap.size := by simp at hz; omega
    cases is
    · have H2 := Lib.hid (H0'.out rfl)
      go_wp2_with fail
      go_ret
      exact ⟨ret_bool H2.out.symm, hb⟩
    · go_wp2_with fail
      go_ret
      exact ⟨ret_bool H1'.out.symm, hb⟩
end Go.Proofs.Ytefhfoioeoijlaa

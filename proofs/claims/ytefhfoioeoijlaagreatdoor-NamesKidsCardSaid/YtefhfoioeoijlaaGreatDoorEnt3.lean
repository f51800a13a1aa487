/- Numerals of the library; the sort of a directory's entries, whole. (Virtual numbers of seat .ZD.) -/
import Derived.Test.YtefhfoioeoijlaaGreatDoorLib2
import Derived.Test.YtefhfoioeoijlaaGreatDoorGMZ
import Derived.Test.YtefhfoioeoijlaaGreatDoorGMN
import Derived.Test.YtefhfoioeoijlaaGreatDoorNm3
set_option linter.unusedVariables false
set_option linter.unusedSimpArgs false
namespace Go.Proofs.YtefhfoioeoijlaaGreatDoor
open Go Go.RowKit Go.Sort
abbrev Tab (w : World) : Prop := Lib.TabIs Tryz.prog w "internal/strconv.uint64pow10" .u64 Lib.pow10Tab
theorem fmt_at {w : World} (htab : Tab w) (n : Int) (h0 : -9223372036854775808 ≤ n) (h1 : n ≤ 9223372036854775807) : Calls Tryz.prog 94 #[.int .i64 n, .int .i64 10] w fun e w' => e = .returned (.string ⟨(Lib.itoa n).toArray⟩) ∧ Up w w' := by
  refine (Tryz.strconv_FormatInt_10 n h0 h1 w htab).mono ?_
  rintro e w' ⟨rfl, k, os, rfl⟩
  exact ⟨rfl, Ups.below ⟨k, os, rfl⟩⟩
theorem itoa_at {w : World} (htab : Tab w) (n : Int) (h0 : -9223372036854775808 ≤ n) (h1 : n ≤ 9223372036854775807) : Calls Tryz.prog 95 #[.int .i64 n] w fun e w' => e = .returned (.string ⟨(Lib.itoa n).toArray⟩) ∧ Up w w' := by
  refine (Tryz.strconv_Itoa n h0 h1 w htab).mono ?_
  rintro e w' ⟨rfl, k, os, rfl⟩
  exact ⟨rfl, Ups.below ⟨k, os, rfl⟩⟩
theorem itoa_size {n : Int} (h0 : -9223372036854775808 ≤ n) (h1 : n ≤ 9223372036854775807) : (⟨(Lib.itoa n).toArray⟩ : ByteArray).size ≤ 21 := by
  have := Lib.itoa_length_le n h0 h1
  simpa [ByteArray.size] using this
theorem info_ent : ∃ i z, Tryz.prog.info? 35 = some i ∧ i.zero = some z ∧ i.size = 5 ∧ i.bytes = 48 ∧ z.cells.size = 5 := by
  have h : (Tryz.prog.info? 35).map (fun i => (i.zero.map (·.cells.size), i.size, i.bytes)) = some (some 5, 5, 48) := by kernel_rfl
  cases hi : Tryz.prog.info? 35 with
  | none => rw [hi] at h; cases h
  | some i =>
    rw [hi] at h; simp at h
    obtain ⟨⟨z, hz, h1⟩, h2, h3⟩ := h
    exact ⟨i, z, rfl, hz, h2, h3, h1⟩
theorem sortE_at {B base : Nat} {w : World} {v : Value} {E : List EntD} (h : ERow 35 B base w v E) (hBb : B ≤ base) (hn : E.length ≤ 1000000) (hN : ∀ e ∈ E, e.name.data.toList.length ≤ 100) (ha : E.Pairwise fun x y => x.name ≠ y.name) :
    Calls Tryz.prog 59 #[v, .func (.func 60) #[] #[]] w fun e w' => ∃ D, e = .returned (.tuple #[]) ∧ ERow 35 B base w' v D ∧ Listed E D ∧ w.grownBy w' v.ownBlock := by
  obtain ⟨A, c, rfl⟩ := h.form
  have h' := h
  obtain ⟨h1, ⟨e, h0⟩ | ⟨g, cap, cur, e, _⟩⟩ := h'
  · have hE : E = [] := List.length_eq_zero_iff.1 h0
    subst hE
    injection e with e1 e2 e3
    subst e1 e3
    refine (sortNil_at (w := w)).mono ?_
    rintro e w' ⟨rfl, u⟩
    exact ⟨[], rfl, ERow.nil _ _ _ _, ⟨List.Perm.refl _, List.Pairwise.nil⟩, ⟨u.os, u.tape, u.output, u.size, fun k hk _ => u.block k hk⟩⟩
  · injection e with e1 e2 e3
    subst e1 e3
    have h2 : ERow 35 B base w (.slice (some ⟨g, 0, none⟩) E.length c) ((List.range E.length).map (atE E)) := by rw [range_atE]; exact h
    refine (sortStable_atE (NN := 100) h2 hBb hn (fun i => atE_short hN i)).mono ?_
    rintro e w' ⟨D, rfl, hr, hM, hC⟩
    exact ⟨_, rfl, hr, listed_of hN ha hM, hC⟩
end Go.Proofs.YtefhfoioeoijlaaGreatDoor

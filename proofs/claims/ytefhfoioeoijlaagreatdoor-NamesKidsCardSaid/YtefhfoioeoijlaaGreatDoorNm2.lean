/- Names in a directory, plain (second part): what sorting gives; the chapter's example; what walks say of a round. -/
import Derived.Test.YtefhfoioeoijlaaGreatDoorNm
import Derived.Test.YtefhfoioeoijlaaGreatDoorSMap
set_option linter.unusedVariables false
set_option linter.unusedSimpArgs false
namespace Go.Proofs.YtefhfoioeoijlaaGreatDoor
open Go Go.RowKit Go.Sort
def atE (L : List EntD) (i : Nat) : EntD := L.getD i zeroE
theorem range_atE (L : List EntD) : (List.range L.length).map (atE L) = L := by
  apply List.ext_getElem?
  intro i
  rw [List.getElem?_map]
  by_cases h : i < L.length
  · rw [List.getElem?_range h, List.getElem?_eq_getElem h]
    simp [atE, List.getD_eq_getElem?_getD, List.getElem?_eq_getElem h]
  · rw [List.getElem?_eq_none (by simpa using h), List.getElem?_eq_none (by simpa using h)]; rfl
theorem ent_short {x : Item} {met : List ByteArray} (h : OKI x) : (entOf met x).name.data.toList.length ≤ 100 := by
  rw [ent_name]
  obtain ⟨_, h1, h2, h3, h4, h5⟩ := h
  have i1 := Lib.itoa_length_le x.node.t (by omega) (by omega)
  have i2 := Lib.itoa_length_le x.node.w (by omega) (by omega)
  split
  · simp only [markL, List.length_append, List.length_cons]; omega
  · omega
theorem ents_short {l : List Item} (hc : ∀ x ∈ l, OKI x) : ∀ e ∈ entsI l, e.name.data.toList.length ≤ 100 := fun e he => by
  obtain ⟨k, hk⟩ := List.mem_iff_getElem?.1 he
  obtain ⟨x, hx, rfl⟩ := entsI_at hk
  exact ent_short (hc x (List.mem_of_getElem? hx))
theorem atE_short {E : List EntD} (h : ∀ e ∈ E, e.name.data.toList.length ≤ 100) (i : Nat) : (atE E i).name.data.toList.length ≤ 100 := by
  unfold atE
  rw [List.getD_eq_getElem?_getD]
  cases hi : E[i]? with
  | none => decide
  | some e => exact h e (List.mem_of_getElem? hi)
theorem listed_of {E : List EntD} {D : List Nat} (hN : ∀ e ∈ E, e.name.data.toList.length ≤ 100) (ha : E.Pairwise fun x y => x.name ≠ y.name) (hM : AllSorted (ky 100 (atE E)) E.length D) : Listed E (D.map (atE E)) := by
  obtain ⟨h1, h2⟩ := hM
  refine ⟨?_, List.pairwise_map.2 (h1.imp_of_mem fun {i j} hi hj hl => ?_)⟩
  · have := h2.map (atE E)
    rw [range_atE] at this
    exact this
  · have hi' : i < E.length := List.mem_range.1 (h2.mem_iff.1 hi)
    have hj' : j < E.length := List.mem_range.1 (h2.mem_iff.1 hj)
    rcases hl with hl | ⟨hl, hij⟩
    · have hc : codeN 100 (atE E i).name.data.toList < codeN 100 (atE E j).name.data.toList := by
        unfold ltS ky keyE at hl
        simp only [decide_eq_true_eq] at hl
        omega
      exact (code_less 100 _ _ (atE_short hN i) (atE_short hN j)).2 hc
    · exfalso
      have hc : codeN 100 (atE E i).name.data.toList = codeN 100 (atE E j).name.data.toList := by
        unfold ky keyE at hl
        simp only [Stamp.mk.injEq, and_true] at hl
        omega
      have he := ba_ext (code_inj (atE_short hN i) (atE_short hN j) hc)
      have := List.pairwise_iff_getElem.1 ha i j hi' hj' hij
      unfold atE at he
      rw [List.getD_eq_getElem?_getD, List.getD_eq_getElem?_getD, List.getElem?_eq_getElem hi', List.getElem?_eq_getElem hj'] at he
      exact this he
/-! ### the chapter's example -/
def no1 : OpD := ⟨1, ⟨1, 1⟩, ⟨1, 1⟩, ⟨0, 0⟩, false, ⟨#[97]⟩, []⟩
def no2 : OpD := ⟨1, ⟨2, 1⟩, ⟨2, 1⟩, ⟨0, 0⟩, false, ⟨#[97]⟩, []⟩
def ni1 : Item := ⟨⟨1, 1⟩, ⟨0, 0⟩, ⟨#[97]⟩, false, false, [], ⟨0, 0⟩⟩
def ni2 : Item := ⟨⟨2, 1⟩, ⟨0, 0⟩, ⟨#[97]⟩, false, false, [], ⟨0, 0⟩⟩
def ne1 : EntD := ⟨⟨#[97]⟩, ⟨1, 1⟩, false, 0⟩
def ne2 : EntD := ⟨⟨#[97, 126, 50, 46, 49]⟩, ⟨2, 1⟩, false, 0⟩
theorem n_kids : kidsI ⟨0, 0⟩ (buildI [no1, no2]) = [ni1, ni2] := by kernel_rfl
theorem n_kind : kidK (buildI [no1, no2]) ⟨0, 0⟩ = 0 := by kernel_rfl
theorem n_mark : markB ⟨2, 1⟩ = ⟨#[126, 50, 46, 49]⟩ := by
  apply ba_ext
  rw [markB_list]
  simp only [markL, itoa_pos (show (0 : Int) ≤ 2 by decide), itoa_pos (show (0 : Int) ≤ 1 by decide)]
  rw [Lib.decDigits_one (by decide), Lib.decDigits_one (by decide)]
  decide
theorem n_ents : entsI (kidsI ⟨0, 0⟩ (buildI [no1, no2])) = [ne1, ne2] := by
  rw [n_kids]
  have h1 : metB [] ⟨#[97]⟩ = false := by decide
  have h2 : metB [⟨#[97]⟩] ⟨#[97]⟩ = true := by decide
  have h3 : (⟨#[97]⟩ : ByteArray) ++ (⟨#[126, 50, 46, 49]⟩ : ByteArray) = ⟨#[97, 126, 50, 46, 49]⟩ := by apply ba_ext; decide
  simp only [entsI, entsF, entOf, ni1, ni2, ne1, ne2, n_mark, h1, h2, h3, List.nil_append, Bool.false_eq_true, if_false, if_true, List.length_nil]
  rfl
theorem n_listed : Listed [ne1, ne2] [ne1, ne2] := ⟨List.Perm.refl _, by simp [ltN, ne1, ne2, Op.bytesLess]⟩
theorem n_list {D : List EntD} (h : Listed (entsI (kidsI ⟨0, 0⟩ (buildI [no1, no2]))) D) : D = [ne1, ne2] := by
  rw [n_ents] at h; exact h.one n_listed
end Go.Proofs.YtefhfoioeoijlaaGreatDoor

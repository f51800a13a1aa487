/- Which texts are names: no byte below 32, no 127, no slash, no tilde; asked of runes it is the same as asked of bytes. No program. -/
import Derived.Shelf.GgClosure.StringsIndexFunc
import Derived.Lib.IndexBytes
set_option linter.unusedVariables false
set_option linter.unusedSimpArgs false
namespace Go.Proofs.Ytefhfoioeoijlaa

def oddR (c : Nat) : Bool := decide (c < 32) || (decide (c = 127) || (decide (c = 47) || decide (c = 126)))

theorem oddR_big {c : Nat} (h : 128 ≤ c) : oddR c = false := by
  unfold oddR
  simp
  omega

/-- A byte of 128 and more: the rune is no less, and all its bytes are such. -/
theorem decode_big (s : ByteArray) (i : Nat) (h : 128 ≤ (s.get! i).toNat) :
    128 ≤ (Utf8.decode s i).1 ∧ 1 ≤ (Utf8.decode s i).2 ∧ ∀ k, k < (Utf8.decode s i).2 → 128 ≤ (s.get! (i + k)).toNat := by
  unfold Utf8.decode
  simp only [Nat.add_zero]
  rw [if_neg (by omega)]
  have key : ∀ k, (s.get! (i + k)).toNat / 64 = 2 → 128 ≤ (s.get! (i + k)).toNat := fun k hk => by omega
  have one : ∀ k, k < 1 → 128 ≤ (s.get! (i + k)).toNat := fun k hk => by
    obtain rfl : k = 0 := by omega
    exact h
  split
  · rename_i h1
    simp only [Bool.and_eq_true, beq_iff_eq, decide_eq_true_eq] at h1
    split
    · refine ⟨by assumption, by simp, fun k hk => ?_⟩
      simp only at hk
      rcases (show k = 0 ∨ k = 1 by omega) with rfl | rfl
      · exact h
      · exact key 1 h1.2.2
    · exact ⟨by decide, Nat.le_refl _, one⟩
  · split
    · rename_i h1
      simp only [Bool.and_eq_true, beq_iff_eq, decide_eq_true_eq] at h1
      split
      · rename_i h2
        simp only [Bool.and_eq_true, decide_eq_true_eq, ge_iff_le] at h2
        refine ⟨by simp only; omega, by simp, fun k hk => ?_⟩
        simp only at hk
        rcases (show k = 0 ∨ k = 1 ∨ k = 2 by omega) with rfl | rfl | rfl
        · exact h
        · exact key 1 h1.1.2.2
        · exact key 2 h1.2.2
      · exact ⟨by decide, Nat.le_refl _, one⟩
    · split
      · rename_i h1
        simp only [Bool.and_eq_true, beq_iff_eq, decide_eq_true_eq] at h1
        split
        · rename_i h2
          simp only [Bool.and_eq_true, decide_eq_true_eq, ge_iff_le] at h2
          refine ⟨by simp only; omega, by simp, fun k hk => ?_⟩
          simp only at hk
          rcases (show k = 0 ∨ k = 1 ∨ k = 2 ∨ k = 3 by omega) with rfl | rfl | rfl | rfl
          · exact h
          · exact key 1 h1.1.1.2.2
          · exact key 2 h1.1.2.2
          · exact key 3 h1.2.2
        · exact ⟨by decide, Nat.le_refl _, one⟩
      · exact ⟨by decide, Nat.le_refl _, one⟩

theorem decode_small (s : ByteArray) (i : Nat) (h : (s.get! i).toNat < 128) : Utf8.decode s i = ((s.get! i).toNat, 1) := by
  unfold Utf8.decode
  simp only [Nat.add_zero]
  rw [if_pos h]

def idxOK (i : Int) : Prop := 0 ≤ i

/-- Some rune is odd just where some byte is. -/
theorem idx_odd (s : ByteArray) : ∀ (f pos : Nat), s.size ≤ pos + f → (idxOK (Lib.idxFuncFrom oddR true s f pos) ↔ ∃ i, pos ≤ i ∧ i < s.size ∧ oddR (s.get! i).toNat = true) := by
  intro f
  induction f with
  | zero =>
    intro pos h
    simp only [Lib.idxFuncFrom, idxOK]
    constructor
    · intro h; omega
    · rintro ⟨i, h1, h2, _⟩; omega
  | succ f ih =>
    intro pos h
    by_cases hp : pos < s.size
    · simp only [Lib.idxFuncFrom, hp, if_true]
      by_cases hb : (s.get! pos).toNat < 128
      · rw [decode_small s pos hb]
        by_cases ho : oddR (s.get! pos).toNat = true
        · rw [if_pos ho]
          exact ⟨fun _ => ⟨pos, Nat.le_refl _, hp, ho⟩, fun _ => by unfold idxOK; omega⟩
        · rw [if_neg ho, ih _ (by simp only; omega)]
          constructor
          · rintro ⟨i, h1, h2, h3⟩
            exact ⟨i, by simp only at h1; omega, h2, h3⟩
          · rintro ⟨i, h1, h2, h3⟩
            refine ⟨i, ?_, h2, h3⟩
            by_cases e : i = pos
            · rw [e] at h3; exact absurd h3 ho
            · simp only; omega
      · obtain ⟨d1, d2, d3⟩ := decode_big s pos (by omega)
        rw [if_neg (by rw [oddR_big d1]; simp), ih _ (by omega)]
        constructor
        · rintro ⟨i, h1, h2, h3⟩
          exact ⟨i, by omega, h2, h3⟩
        · rintro ⟨i, h1, h2, h3⟩
          refine ⟨i, ?_, h2, h3⟩
          rcases Nat.lt_or_ge i (pos + (Utf8.decode s pos).2) with hlt | hge
          · have := d3 (i - pos) (by omega)
            rw [show pos + (i - pos) = i by omega] at this
            rw [oddR_big this] at h3
            cases h3
          · exact hge
    · rw [Lib.idxFuncFrom_end _ _ _ _ _ hp]
      unfold idxOK
      constructor
      · intro h; omega
      · rintro ⟨i, h1, h2, _⟩; omega

/-- Is a byte of a name allowed? -/
def byteOK (c : UInt8) : Bool := !oddR c.toNat
def nameCh (s : ByteArray) : Bool := s.data.toList.all byteOK
def nameB (s : ByteArray) : Bool := decide (1 ≤ s.size ∧ s.size ≤ 24) && (!(s.toList == [46]) && (!(s.toList == [46, 46]) && nameCh s))

theorem get_eq (s : ByteArray) (i : Nat) (h : i < s.size) : s.get! i = s[i] := by
  simp [ByteArray.get!, ByteArray.getElem_eq_getElem_data, getElem!_pos, h]

theorem odd_all (s : ByteArray) : decide (0 ≤ Lib.idxFunc oddR true s) = !nameCh s := by
  unfold nameCh
  have h := idx_odd s s.size 0 (by omega)
  rw [Bool.eq_iff_iff, decide_eq_true_eq]
  have e : (0 ≤ Lib.idxFunc oddR true s) ↔ idxOK (Lib.idxFuncFrom oddR true s s.size 0) := Iff.rfl
  rw [e, h]
  simp only [Bool.not_eq_true', List.all_eq_false, byteOK, Bool.not_eq_true, Bool.not_eq_false']
  constructor
  · rintro ⟨i, _, h2, h3⟩
    exact ⟨s[i], by rw [List.mem_iff_getElem?]; exact ⟨i, Lib.data_getElem? s i h2⟩, by rw [← get_eq s i h2]; simp [h3]⟩
  · rintro ⟨c, hc, h3⟩
    obtain ⟨i, hi⟩ := List.mem_iff_getElem?.1 hc
    have h2 : i < s.size := by
      have := (List.getElem?_eq_some_iff.1 hi).1
      simpa using this
    rw [Lib.data_getElem? s i h2] at hi
    injection hi with hi
    exact ⟨i, Nat.zero_le _, h2, by rw [get_eq s i h2, hi]; simpa using h3⟩
end Go.Proofs.Ytefhfoioeoijlaa

/- Byte strings as numbers, in their order: so a key that is a string is a stamp's first number. -/
import Derived.Test.YtefhfoioeoijlaaGreatDoorOrd
set_option linter.unusedVariables false
namespace Go.Proofs.YtefhfoioeoijlaaGreatDoor
open Go Go.RowKit Go.Sort
/-- A byte string of at most n bytes as a number, in their order. -/
def codeN : Nat → List UInt8 → Nat
  | 0, _ => 0
  | _ + 1, [] => 0
  | n + 1, b :: l => (b.toNat + 1) * 257 ^ n + codeN n l
theorem codeN_lt : ∀ (n : Nat) (l : List UInt8), codeN n l < 257 ^ n
  | 0, _ => by simp [codeN]
  | n + 1, [] => by simp only [codeN]; exact Nat.pow_pos (by decide)
  | n + 1, b :: l => by
    have h := codeN_lt n l
    have hb := b.toNat_lt
    simp only [codeN, Nat.pow_succ]
    generalize 257 ^ n = P at h ⊢
    have h1 : (b.toNat + 1) * P ≤ 256 * P := Nat.mul_le_mul_right P (by omega)
    omega
theorem code_less : ∀ (n : Nat) (x y : List UInt8), x.length ≤ n → y.length ≤ n → (Op.bytesLess x y = true ↔ codeN n x < codeN n y)
  | 0, x, y, hx, hy => by
    have h1 : x = [] := List.length_eq_zero_iff.1 (by omega)
    have h2 : y = [] := List.length_eq_zero_iff.1 (by omega)
    subst h1 h2; simp [Op.bytesLess, codeN]
  | n + 1, [], [], _, _ => by simp [Op.bytesLess, codeN]
  | n + 1, [], c :: y, _, _ => by
    have hp : 0 < 257 ^ n := Nat.pow_pos (by decide)
    have h1 : 1 * 257 ^ n ≤ (c.toNat + 1) * 257 ^ n := Nat.mul_le_mul_right _ (by omega)
    simp only [Op.bytesLess, codeN, true_iff]
    omega
  | n + 1, b :: x, [], _, _ => by simp [Op.bytesLess, codeN]
  | n + 1, b :: x, c :: y, hx, hy => by
    have ih := code_less n x y (by simpa using hx) (by simpa using hy)
    have lx := codeN_lt n x
    have ly := codeN_lt n y
    have hl : b < c ↔ b.toNat < c.toNat := UInt8.lt_iff_toNat_lt
    have he : b = c ↔ b.toNat = c.toNat := ⟨fun e => by rw [e], UInt8.toNat_inj.1⟩
    simp only [codeN, Op.bytesLess, Bool.or_eq_true, Bool.and_eq_true, decide_eq_true_eq, beq_iff_eq, hl, he, ih]
    generalize codeN n x = u at lx ⊢
    generalize codeN n y = v at ly ⊢
    generalize 257 ^ n = P at lx ly ⊢
    generalize b.toNat = i
    generalize c.toNat = j
    rcases Nat.lt_trichotomy i j with h | h | h
    · have h1 : (i + 1 + 1) * P ≤ (j + 1) * P := Nat.mul_le_mul_right P (by omega)
      rw [Nat.add_mul] at h1
      constructor
      · intro _; omega
      · intro _; exact .inl h
    · subst h; simp
    · have h1 : (j + 1 + 1) * P ≤ (i + 1) * P := Nat.mul_le_mul_right P (by omega)
      rw [Nat.add_mul] at h1
      constructor
      · rintro (h2 | ⟨h2, _⟩) <;> omega
      · intro h2; omega
theorem code_inj {n : Nat} : ∀ {x y : List UInt8}, x.length ≤ n → y.length ≤ n → codeN n x = codeN n y → x = y := by
  induction n with
  | zero => intro x y hx hy _; rw [List.length_eq_zero_iff.1 (by omega : x.length = 0), List.length_eq_zero_iff.1 (by omega : y.length = 0)]
  | succ n ih =>
    intro x y hx hy h
    have hp : 0 < 257 ^ n := Nat.pow_pos (by decide)
    cases x with
    | nil => cases y with
      | nil => rfl
      | cons c y =>
        have h1 : 1 * 257 ^ n ≤ (c.toNat + 1) * 257 ^ n := Nat.mul_le_mul_right _ (by omega)
        simp only [codeN] at h; omega
    | cons b x => cases y with
      | nil =>
        have h1 : 1 * 257 ^ n ≤ (b.toNat + 1) * 257 ^ n := Nat.mul_le_mul_right _ (by omega)
        simp only [codeN] at h; omega
      | cons c y =>
        have lx := codeN_lt n x
        have ly := codeN_lt n y
        simp only [codeN] at h
        have key : b.toNat = c.toNat := by
          rcases Nat.lt_trichotomy b.toNat c.toNat with g | g | g
          · have h1 : (b.toNat + 1 + 1) * 257 ^ n ≤ (c.toNat + 1) * 257 ^ n := Nat.mul_le_mul_right _ (by omega)
            rw [Nat.add_mul] at h1; omega
          · exact g
          · have h1 : (c.toNat + 1 + 1) * 257 ^ n ≤ (b.toNat + 1) * 257 ^ n := Nat.mul_le_mul_right _ (by omega)
            rw [Nat.add_mul] at h1; omega
        rw [key] at h
        have e1 : b = c := UInt8.toNat_inj.1 key
        have e2 : x = y := ih (by simpa using hx) (by simpa using hy) (by omega)
        rw [e1, e2]
end Go.Proofs.YtefhfoioeoijlaaGreatDoor

/- Plain facts on matching a name by a pattern with '?' and '*': lists of bytes alone, no program. -/
import Derived.Lib.IndexMore
import Derived.Lib.IndexLaws
import Derived.Lib.IndexBytes
set_option linter.unusedVariables false
set_option linter.unusedSimpArgs false
namespace Go.Proofs.Ytefhfoioeoijlaa

/-- Does a part without a star stand at a name's begin? -/
def atL : List UInt8 → List UInt8 → Bool
  | [], _ => true
  | c :: p, d :: s => (c == 63 || c == d) && atL p s
  | _ :: _, [] => false

/-- The document's answer. -/
def mt : List UInt8 → List UInt8 → Bool
  | [], s => s.isEmpty
  | c :: p, s => if c == 42 then (List.range (s.length + 1)).any fun i => mt p (s.drop i) else
    match s with
    | [] => false
    | d :: s' => (c == 63 || c == d) && mt p s'

theorem atL_at (p s : ByteArray) (k : Nat) (hk : k < p.size) (hk' : k < s.size) :
    atL (p.data.toList.drop k) (s.data.toList.drop k) = ((p[k] == 63 || p[k] == s[k]) && atL (p.data.toList.drop (k+1)) (s.data.toList.drop (k+1))) := by
  have h1 : p.data.toList.drop k = p[k] :: p.data.toList.drop (k+1) := by
    rw [List.drop_eq_getElem_cons (by simpa using hk)]; rfl
  have h2 : s.data.toList.drop k = s[k] :: s.data.toList.drop (k+1) := by
    rw [List.drop_eq_getElem_cons (by simpa using hk')]; rfl
  rw [h1, h2]; rfl

theorem byte_ne_byte (a b : UInt8) (h : ¬ (a.toNat : Int) = (b.toNat : Int)) : (a == b) = false := by
  rw [beq_eq_false_iff_ne]
  rintro rfl
  exact h rfl
theorem byte_eq_byte (a b : UInt8) (h : (a.toNat : Int) = (b.toNat : Int)) : (a == b) = true := by
  rw [beq_iff_eq]
  exact UInt8.toNat_inj.1 (by omega)
theorem byte_ne_num (a : UInt8) (n : Nat) (hn : n < 256) (h : ¬ (a.toNat : Int) = (n : Int)) : (a == UInt8.ofNat n) = false := by
  rw [beq_eq_false_iff_ne]
  rintro rfl
  apply h
  rw [UInt8.toNat_ofNat']
  omega
theorem byte_eq_num (a : UInt8) (n : Nat) (h : (a.toNat : Int) = (n : Int)) (hn : n < 256) : (a == UInt8.ofNat n) = true := by
  rw [beq_iff_eq]
  apply UInt8.toNat_inj.1
  rw [UInt8.toNat_ofNat']
  omega

theorem mt_nostar : ∀ (p s : List UInt8), 42 ∉ p → mt p s = (p.length == s.length && atL p s)
  | [], s, _ => by cases s <;> simp [mt, atL]
  | c :: p, s, h => by
    have hc : ¬ c = 42 := fun e => h (by simp [e])
    have hp : 42 ∉ p := fun e => h (by simp [e])
    cases s with
    | nil => simp [mt, hc]
    | cons d s =>
      simp only [mt, hc, beq_iff_eq, if_false, mt_nostar p s hp, atL, List.length_cons, Nat.add_right_cancel_iff]
      cases (c == 63 || c == d) <;> simp

theorem mt_star : ∀ (a b s : List UInt8), 42 ∉ a → mt (a ++ 42 :: b) s = (decide (a.length ≤ s.length) && (atL a s && (List.range (s.length - a.length + 1)).any fun i => mt b (s.drop (a.length + i))))
  | [], b, s, _ => by simp [mt, atL]
  | c :: a, b, s, h => by
    have hc : ¬ c = 42 := fun e => h (by simp [e])
    have ha : 42 ∉ a := fun e => h (by simp [e])
    cases s with
    | nil => simp [mt, hc]
    | cons d s =>
      simp only [List.cons_append, mt, hc, beq_iff_eq, if_false, mt_star a b s ha, atL, List.length_cons, Nat.add_le_add_iff_right, Nat.add_sub_add_right]
      have e : ∀ i, (d :: s).drop (a.length + 1 + i) = s.drop (a.length + i) := fun i => by
        rw [show a.length + 1 + i = (a.length + i) + 1 by omega, List.drop_succ_cons]
      simp only [e]
      cases (c == 63 || c == d) <;> simp

theorem cut_star (p : List UInt8) : (Lib.cut p [42] = (p, [], false) ∧ 42 ∉ p) ∨ ∃ a b, p = a ++ 42 :: b ∧ 42 ∉ a ∧ Lib.cut p [42] = (a, b, true) := by
  unfold Lib.cut
  rw [Lib.index_one]
  by_cases h : Lib.indexByte p 42 = -1
  · refine .inl ⟨by rw [h]; rfl, fun hm => ?_⟩
    obtain ⟨k, hk, he⟩ := List.getElem_of_mem hm
    exact Lib.indexByte_none h k (by rw [List.getElem?_eq_getElem hk, he])
  · have hge := Lib.index_ge p [42]
    rw [Lib.index_one] at hge
    obtain ⟨o, ho⟩ : ∃ o : Nat, Lib.indexByte p 42 = o := ⟨(Lib.indexByte p 42).toNat, by omega⟩
    obtain ⟨h1, h2⟩ := Lib.indexByte_some ho
    obtain ⟨hlt, he⟩ := List.getElem?_eq_some_iff.1 h1
    refine .inr ⟨p.take o, p.drop (o + 1), ?_, ?_, ?_⟩
    · rw [← he, ← List.drop_eq_getElem_cons hlt, List.take_append_drop]
    · intro hm
      obtain ⟨k, hk, he'⟩ := List.getElem_of_mem hm
      rw [List.length_take] at hk
      rw [List.getElem_take] at he'
      exact h2 k (by omega) (by rw [List.getElem?_eq_getElem (by omega), he'])
    · rw [ho, if_pos (by omega)]
      simp
end Go.Proofs.Ytefhfoioeoijlaa

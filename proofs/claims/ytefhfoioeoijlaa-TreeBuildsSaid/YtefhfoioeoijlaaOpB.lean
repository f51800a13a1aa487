/- Names and operations: which are right. The program's and the document's functions, each by one contract. -/
import Derived.Test.YtefhfoioeoijlaaOpA
import Derived.Test.YtefhfoioeoijlaaNamePure
import Derived.Test.YtefhfoioeoijlaaLib
set_option linter.unusedVariables false
set_option linter.unusedSimpArgs false
namespace Go.Proofs.Ytefhfoioeoijlaa
open Go.RowKit Go.Sort Go.Shelf

theorem odd_any (c : Nat) (hc : c ≤ 1114111) (w : World) : Calls Try.prog 107 #[.int .i32 c] w fun e w' => e = .returned (.bool (oddR c)) ∧ w' = w := by
  go_enter Try.func107, Try.ntmps107
  go_wp2
  all_goals (go_ret; exact ⟨ret_bool (by rw [Bool.eq_iff_iff]; simp [oddR]; try omega), rfl⟩)

theorem contains_odd (s : ByteArray) (w : World) :
    Calls Try.prog 106 #[.string s, .func (.func 107) #[] #[]] w fun e w' => e = .returned (.bool (!nameCh s)) ∧ Below w.heap.size w w' := by
  rw [← odd_all]
  exact Try.strings_ContainsFunc_runes 107 #[] (enters_of Try.func107 (by kernel_rfl) rfl) oddR s w (fun W x hx _ =>
    (odd_any x hx W).mono fun e w' ⟨he, hw⟩ => ⟨he, 0, hw⟩)

theorem opname_any (s : ByteArray) (w : World) (hs : s.size ≤ 9223372036854775807) : Calls Try.prog 82 #[.string s] w fun e w' => e = .returned (.bool (nameB s)) ∧ Below w.heap.size w w' := by
  go_enter Try.func82, Try.ntmps82
  go_wp2_with (go_at_call 106; refine (contains_odd _ _).mono ?_; rintro e w' ⟨rfl, hb⟩)
  all_goals first
    | (go_ret; exact ⟨ret_bool (by rw [Bool.eq_iff_iff]; simp [nameB, *]; try omega), Below.refl _ _⟩)
    | (go_ret; exact ⟨ret_bool (by rw [Bool.eq_iff_iff]; simp [nameB, *]; try omega), hb⟩)

/-- The document's: byte by byte. -/
theorem r15name_any (s : ByteArray) (w : World) (hs : s.size ≤ 9223372036854775807) : Calls Try.prog 86 #[.string s] w fun e w' => e = .returned (.bool (nameB s)) ∧ w' = w := by
  by_cases h0 : 1 ≤ s.size ∧ s.size ≤ 24 ∧ ¬ s.toList = [46] ∧ ¬ s.toList = [46, 46]
  · obtain ⟨h1, h2, h3, h4⟩ := h0
    have HN := Lib.hid (show nameB s = nameCh s by unfold nameB; rw [decide_eq_true ⟨h1, h2⟩, beq_eq_false_iff_ne.2 h3, beq_eq_false_iff_ne.2 h4]; rfl)
    have b1 : decide (s.size < 1) = false := decide_eq_false (by omega)
    have b2 : decide (24 < s.size) = false := decide_eq_false (by omega)
    have b3 : (s.toList == [46]) = false := beq_eq_false_iff_ne.2 h3
    have b4 : (s.toList == [46, 46]) = false := beq_eq_false_iff_ne.2 h4
    go_enter Try.func86, Try.ntmps86
    go_wp2
    go_loop [3] (fun i => ∃ k : Nat, k ≤ s.size ∧ i = .int .i64 k ∧ Hid (∀ j, j < k → byteOK (s.get! j) = true)) (fun i => s.size - (intOf i).toNat)
    case atStart => exact ⟨0, Nat.zero_le _, rfl, fun j hj => by omega⟩
    case round =>
      obtain ⟨k, hk, rfl, H⟩ := hrel
      by_cases hlt : k < s.size
      · have hltz : (k : Int) < (s.size : Int) := by omega
        have hg := get_eq s k hlt
        by_cases ho : byteOK (s.get! k) = true
        · have HO := Lib.hid ho
          have hb : oddR s[k].toNat = false := by rw [hg] at ho; simpa [byteOK] using ho
          have hb1 : ¬ (s[k].toNat : Int) < 32 ∧ ¬ (s[k].toNat : Int) = 127 ∧ ¬ (s[k].toNat : Int) = 47 ∧ ¬ (s[k].toNat : Int) = 126 := by
            simp [oddR] at hb; omega
          obtain ⟨c1, c2, c3, c4⟩ := hb1
          have d2 : ((s[k].toNat : Int) == 127) = false := beq_eq_false_iff_ne.2 c2
          have d3 : ((s[k].toNat : Int) == 47) = false := beq_eq_false_iff_ne.2 c3
          have d4 : ((s[k].toNat : Int) == 126) = false := beq_eq_false_iff_ne.2 c4
          clear hg ho hb c2 c3 c4
          go_wp2
          go_round
          case rel =>
            refine ⟨k + 1, by omega, by go_num, fun j hj => ?_⟩
            by_cases e : j = k
            · rw [e]; exact HO.out
            · exact H.out j (by omega)
          case measure => simp [intOf]; omega
        · have HF := Lib.hid (show nameB s = false by
            rw [HN.out]
            unfold nameCh
            rw [List.all_eq_false]
            exact ⟨s[k], List.mem_iff_getElem?.2 ⟨k, Lib.data_getElem? s k hlt⟩, by rw [← hg]; simpa using ho⟩)
          have hb : oddR s[k].toNat = true := by rw [hg] at ho; simpa [byteOK] using ho
          have hb1 : (s[k].toNat : Int) < 32 ∨ (s[k].toNat : Int) = 127 ∨ (s[k].toNat : Int) = 47 ∨ (s[k].toNat : Int) = 126 := by
            simp [oddR] at hb; omega
          clear hg ho hb
          rcases hb1 with c | c | c | c
          · go_wp2
            go_ret
            exact ⟨ret_bool HF.out.symm, rfl⟩
          · have c0 : ¬ (s[k].toNat : Int) < 32 := by omega
            have d127 : ((s[k].toNat : Int) == 127) = true := beq_iff_eq.2 c
            clear c
            go_wp2
            go_ret
            exact ⟨ret_bool HF.out.symm, rfl⟩
          · have c0 : ¬ (s[k].toNat : Int) < 32 := by omega
            have d127 : ((s[k].toNat : Int) == 127) = false := beq_eq_false_iff_ne.2 (by omega)
            have d47 : ((s[k].toNat : Int) == 47) = true := beq_iff_eq.2 c
            clear c
            go_wp2
            go_ret
            exact ⟨ret_bool HF.out.symm, rfl⟩
          · have c0 : ¬ (s[k].toNat : Int) < 32 := by omega
            have d127 : ((s[k].toNat : Int) == 127) = false := beq_eq_false_iff_ne.2 (by omega)
            have d47 : ((s[k].toNat : Int) == 47) = false := beq_eq_false_iff_ne.2 (by omega)
            have d126 : ((s[k].toNat : Int) == 126) = true := beq_iff_eq.2 c
            clear c
            go_wp2
            go_ret
            exact ⟨ret_bool HF.out.symm, rfl⟩
      · go_wp2
        go_ret
        refine ⟨ret_bool ?_, rfl⟩
        rw [HN.out]
        unfold nameCh
        symm
        rw [List.all_eq_true]
        intro c hc
        obtain ⟨i, hi⟩ := List.mem_iff_getElem?.1 hc
        have h2 : i < s.size := by
          have := (List.getElem?_eq_some_iff.1 hi).1
          simpa using this
        rw [Lib.data_getElem? s i h2] at hi
        injection hi with hi
        rw [← hi, ← get_eq s i h2]
        exact H.out i (by omega)
  · have HF := Lib.hid (show nameB s = false by
      unfold nameB
      by_cases g1 : 1 ≤ s.size ∧ s.size ≤ 24
      · by_cases g3 : s.toList = [46]
        · simp [g3]
        · by_cases g4 : s.toList = [46, 46]
          · simp [g4]
          · exact absurd ⟨g1.1, g1.2, g3, g4⟩ h0
      · simp [g1])
    by_cases g1 : s.size < 1
    · have b1 : decide (s.size < 1) = true := decide_eq_true g1
      clear h0
      go_enter Try.func86, Try.ntmps86
      go_wp2_with fail
      go_ret
      exact ⟨ret_bool HF.out.symm, rfl⟩
    · have b1 : decide (s.size < 1) = false := decide_eq_false g1
      by_cases g2 : 24 < s.size
      · have b2 : decide (24 < s.size) = true := decide_eq_true g2
        clear h0
        go_enter Try.func86, Try.ntmps86
        go_wp2_with fail
        go_ret
        exact ⟨ret_bool HF.out.symm, rfl⟩
      · have b2 : decide (24 < s.size) = false := decide_eq_false g2
        by_cases g3 : s.toList = [46]
        · have b3 : (s.toList == [46]) = true := beq_iff_eq.2 g3
          clear h0 g3
          go_enter Try.func86, Try.ntmps86
          go_wp2_with fail
          go_ret
          exact ⟨ret_bool HF.out.symm, rfl⟩
        · have b3 : (s.toList == [46]) = false := beq_eq_false_iff_ne.2 g3
          have g4 : s.toList = [46, 46] := by
            by_cases g4 : s.toList = [46, 46]
            · exact g4
            · exact absurd ⟨by omega, by omega, g3, g4⟩ h0
          have b4 : (s.toList == [46, 46]) = true := beq_iff_eq.2 g4
          clear h0 g3 g4
          go_enter Try.func86, Try.ntmps86
          go_wp2_with fail
          go_ret
          exact ⟨ret_bool HF.out.symm, rfl⟩
end Go.Proofs.Ytefhfoioeoijlaa

/- OpBD -/
import Derived.Test.YtefhfoioeoijlaaGreatDoorUaa
import Derived.Test.YtefhfoioeoijlaaGreatDoorUab
set_option linter.unusedVariables false
set_option linter.unusedSimpArgs false
namespace Go.Proofs.YtefhfoioeoijlaaGreatDoor
open Go.RowKit Go.Sort Go.Shelf
theorem odd_any (c : Nat) (hc : c ≤ 1114111) (w : World) : Calls Tryz.prog 121 #[.int .i32 c] w fun e w' => e = .returned (.bool (oddR c)) ∧ w' = w := by
  go_enter Tryz.func121, Tryz.ntmps121
  go_wp2
  all_goals (go_ret; exact ⟨ret_bool (by rw [Bool.eq_iff_iff]; simp [oddR]; try omega), rfl⟩)
theorem contains_odd (s : ByteArray) (w : World) :
    Calls Tryz.prog 120 #[.string s, .func (.func 121) #[] #[]] w fun e w' => e = .returned (.bool (!nameCh s)) ∧ Below w.heap.size w w' := by
  rw [← odd_all]
  exact Tryz.strings_ContainsFunc_runes 121 #[] (enters_of Tryz.func121 (by kernel_rfl) rfl) oddR s w (fun W x hx _ =>
    (odd_any x hx W).mono fun e w' ⟨he, hw⟩ => ⟨he, 0, hw⟩)
theorem opname_any (s : ByteArray) (w : World) (hs : s.size ≤ 9223372036854775807) : Calls Tryz.prog 62 #[.string s] w fun e w' => e = .returned (.bool (nameB s)) ∧ Below w.heap.size w w' := by
  go_enter Tryz.func62, Tryz.ntmps62
  go_wp2_with (go_at_call 120; refine (contains_odd _ _).mono ?_; rintro e w' ⟨rfl, hb⟩)
  all_goals first
    | (go_ret; exact ⟨ret_bool (by rw [Bool.eq_iff_iff]; simp [nameB, *]; try omega), Below.refl _ _⟩)
    | (go_ret; exact ⟨ret_bool (by rw [Bool.eq_iff_iff]; simp [nameB, *]; try omega), hb⟩)
theorem r15name_any (s : ByteArray) (w : World) (hs : s.size ≤ 9223372036854775807) : Calls Tryz.prog 88 #[.string s] w fun e w' => e = .returned (.bool (nameB s)) ∧ w' = w := by
  by_cases h0 : 1 ≤ s.size ∧ s.size ≤ 24 ∧ ¬ s.toList = [46] ∧ ¬ s.toList = [46, 46]
  · obtain ⟨h1, h2, h3, h4⟩ := h0
    have HN := Lib.hid (show nameB s = nameCh s by unfold nameB; rw [decide_eq_true ⟨h1, h2⟩, beq_eq_false_iff_ne.2 h3, beq_eq_false_iff_ne.2 h4]; rfl)
    have b1 : decide (s.size < 1) = false := decide_eq_false (by omega)
    have b2 : decide (24 < s.size) = false := decide_eq_false (by omega)
    have b3 : (s.toList == [46]) = false := beq_eq_false_iff_ne.2 h3
    have b4 : (s.toList == [46, 46]) = false := beq_eq_false_iff_ne.2 h4
    go_enter Tryz.func88, Tryz.ntmps88
    go_wp2
    go_loop [3] (fun i => ∃ k : Nat, k ≤ s.size ∧ i = .int .i64 k ∧ Hid (∀ j, j < k → byteOK (s.get! j) = true)) (fun i => s.size - (intOf i).toNat)
    case atStart => exact ⟨0, Nat.zero_le _, rfl, fun j hj => by omega⟩
    case round =>
      obtain ⟨k, hk, rfl, H⟩ := hrel
      by_cases hlt : k < s.size
      · have hltz : (k : Int) < (s.size : Int) := by omega
        have hg := get_eq s k hlt
        by_cases ho : byteOK (s.get! k) = true
        · have HO := Lib.hid ho
          have hb : oddR s[k].toNat = false := by rw [hg] at ho; simpa [byteOK] using ho
          have hb1 : ¬ (s[k].toNat : Int) < 32 ∧ ¬ (s[k].toNat : Int) = 127 ∧ ¬ (s[k].toNat : Int) = 47 ∧ ¬ (s[k].toNat : Int) = 126 := by
            simp [oddR] at hb; omega
          obtain ⟨c1, c2, c3, c4⟩ := hb1
          have d2 : ((s[k].toNat : Int) == 127) = false := beq_eq_false_iff_ne.2 c2
          have d3 : ((s[k].toNat : Int) == 47) = false := beq_eq_false_iff_ne.2 c3
          have d4 : ((s[k].toNat : Int) == 126) = false := beq_eq_false_iff_ne.2 c4
          clear hg ho hb c2 c3 c4
          go_wp2
          go_round
          case rel =>
            refine ⟨k + 1, by omega, by go_num, fun j hj => ?_⟩
            by_cases e : j = k
            · rw [e]; exact HO.out
            · exact H.out j (by omega)
          case measure => simp [intOf]; omega
        · have HF := Lib.hid (show nameB s = false by
            rw [HN.out]
            unfold nameCh
            rw [List.all_eq_false]
            exact ⟨s[k], List.mem_iff_getElem?.2 ⟨k, Lib.data_getElem? s k hlt⟩, by rw [← hg]; simpa using ho⟩)
          have hb : oddR s[k].toNat = true := by rw [hg] at ho; simpa [byteOK] using ho
          have hb1 : (s[k].toNat : Int) < 32 ∨ (s[k].toNat : Int) = 127 ∨ (s[k].toNat : Int) = 47 ∨ (s[k].toNat : Int) = 126 := by
            simp [oddR] at hb; omega
          clear hg ho hb
          rcases hb1 with c | c | c | c
          · go_wp2
            go_ret
            exact ⟨ret_bool HF.out.symm, rfl⟩
          · have c0 : ¬ (s[k].toNat : Int) < 32 := by omega
            have d127 : ((s[k].toNat : Int) == 127) = true := beq_iff_eq.2 c
            clear c
            go_wp2
            go_ret
            exact ⟨ret_bool HF.out.symm, rfl⟩
          · have c0 : ¬ (s[k].toNat : Int) < 32 := by omega
            have d127 : ((s[k].toNat : Int) == 127) = false := beq_eq_false_iff_ne.2 (by omega)
            have d47 : ((s[k].toNat : Int) == 47) = true := beq_iff_eq.2 c
            clear c
            go_wp2
            go_ret
            exact ⟨ret_bool HF.out.symm, rfl⟩
          · have c0 : ¬ (s[k].toNat : Int) < 32 := by omega
            have d127 : ((s[k].toNat : Int) == 127) = false := beq_eq_false_iff_ne.2 (by omega)
            have d47 : ((s[k].toNat : Int) == 47) = false := beq_eq_false_iff_ne.2 (by omega)
            have d126 : ((s[k].toNat : Int) == 126) = true := beq_iff_eq.2 c
            clear c
            go_wp2
            go_ret
            exact ⟨ret_bool HF.out.symm, rfl⟩
      · go_wp2
        go_ret
        refine ⟨ret_bool ?_, rfl⟩
        rw [HN.out]
        unfold nameCh
        symm
        rw [List.all_eq_true]
        intro c hc
        obtain ⟨i, hi⟩ := List.mem_iff_getElem?.1 hc
        have h2 : i < s.size := by
          have := (List.getElem?_eq_some_iff.1 hi).1
          simpa using this
        rw [Lib.data_getElem? s i h2] at hi
        injection hi with hi
        rw [← hi, ← get_eq s i h2]
        exact H.out i (by omega)
  · have HF := Lib.hid (show nameB s = false by
      unfold nameB
      by_cases g1 : 1 ≤ s.size ∧ s.size ≤ 24
      · by_cases g3 : s.toList = [46]
        · simp [g3]
        · by_cases g4 : s.toList = [46, 46]
          · simp [g4]
          · exact absurd ⟨g1.1, g1.2, g3, g4⟩ h0
      · simp [g1])
    by_cases g1 : s.size < 1
    · have b1 : decide (s.size < 1) = true := decide_eq_true g1
      clear h0
      go_enter Tryz.func88, Tryz.ntmps88
      go_wp2_with fail
      go_ret
      exact ⟨ret_bool HF.out.symm, rfl⟩
    · have b1 : decide (s.size < 1) = false := decide_eq_false g1
      by_cases g2 : 24 < s.size
      · have b2 : decide (24 < s.size) = true := decide_eq_true g2
        clear h0
        go_enter Tryz.func88, Tryz.ntmps88
        go_wp2_with fail
        go_ret
        exact ⟨ret_bool HF.out.symm, rfl⟩
      · have b2 : decide (24 < s.size) = false := decide_eq_false g2
        by_cases g3 : s.toList = [46]
        · have b3 : (s.toList == [46]) = true := beq_iff_eq.2 g3
          clear h0 g3
          go_enter Tryz.func88, Tryz.ntmps88
          go_wp2_with fail
          go_ret
          exact ⟨ret_bool HF.out.symm, rfl⟩
        · have b3 : (s.toList == [46]) = false := beq_eq_false_iff_ne.2 g3
          have g4 : s.toList = [46, 46] := by
            by_cases g4 : s.toList = [46, 46]
            · exact g4
            · exact absurd ⟨by omega, by omega, g3, g4⟩ h0
          have b4 : (s.toList == [46, 46]) = true := beq_iff_eq.2 g4
          clear h0 g3 g4
          go_enter Tryz.func88, Tryz.ntmps88
          go_wp2_with fail
          go_ret
          exact ⟨ret_bool HF.out.symm, rfl⟩
end Go.Proofs.YtefhfoioeoijlaaGreatDoor
namespace Go.Proofs.YtefhfoioeoijlaaGreatDoor
open Go.RowKit Go.Sort Go.Shelf
def bodyB (o : OpD) : Bool :=
  if o.kind = 1 then placeB o.parent && (nameB o.name && decide (o.node = o.at_))
  else if o.kind = 2 then placeB o.parent && nameB o.name
  else if o.kind = 3 then decide (o.parent = zeroS) && o.name.toList.isEmpty
  else if o.kind = 4 then decide (o.parent = zeroS) && (o.name.toList.isEmpty && decide (o.data.length ≤ 400))
  else false
def rightB (o : OpD) : Bool :=
  stR o.at_ && (stR o.node && (!(o.dir && !(o.kind == 1)) && (!(decide (0 < o.data.length) && !(o.kind == 4)) && bodyB o)))
theorem right_f1 (o : OpD) (h : stR o.at_ = false) : rightB o = false := by unfold rightB; rw [h]; rfl
theorem right_f2 (o : OpD) (h : stR o.node = false) : rightB o = false := by unfold rightB; rw [h]; simp
theorem right_f3 (o : OpD) (h : o.dir = true) (h' : (o.kind == 1) = false) : rightB o = false := by unfold rightB; rw [h, h']; simp
theorem right_f4 (o : OpD) (h : decide (0 < o.data.length) = true) (h' : (o.kind == 4) = false) : rightB o = false := by unfold rightB; rw [h, h']; simp
theorem right_b (o : OpD) (h1 : stR o.at_ = true) (h2 : stR o.node = true) (h3 : o.dir = false ∨ (o.kind == 1) = true) (h4 : decide (0 < o.data.length) = false ∨ (o.kind == 4) = true) : rightB o = bodyB o := by
  unfold rightB
  rw [h1, h2]
  rcases h3 with h3 | h3 <;> rcases h4 with h4 | h4 <;> rw [h3, h4] <;> simp
theorem body_1 (o : OpD) (h : (o.kind == 1) = true) : bodyB o = (placeB o.parent && (nameB o.name && decide (o.node = o.at_))) := by unfold bodyB; rw [if_pos (beq_iff_eq.1 h)]
theorem body_2 (o : OpD) (h1 : (o.kind == 1) = false) (h : (o.kind == 2) = true) : bodyB o = (placeB o.parent && nameB o.name) := by unfold bodyB; rw [if_neg (beq_eq_false_iff_ne.1 h1), if_pos (beq_iff_eq.1 h)]
theorem body_3 (o : OpD) (h1 : (o.kind == 1) = false) (h2 : (o.kind == 2) = false) (h : (o.kind == 3) = true) : bodyB o = (decide (o.parent = zeroS) && o.name.toList.isEmpty) := by
  unfold bodyB; rw [if_neg (beq_eq_false_iff_ne.1 h1), if_neg (beq_eq_false_iff_ne.1 h2), if_pos (beq_iff_eq.1 h)]
theorem body_4 (o : OpD) (h1 : (o.kind == 1) = false) (h2 : (o.kind == 2) = false) (h3 : (o.kind == 3) = false) (h : (o.kind == 4) = true) : bodyB o = (decide (o.parent = zeroS) && (o.name.toList.isEmpty && decide (o.data.length ≤ 400))) := by
  unfold bodyB; rw [if_neg (beq_eq_false_iff_ne.1 h1), if_neg (beq_eq_false_iff_ne.1 h2), if_neg (beq_eq_false_iff_ne.1 h3), if_pos (beq_iff_eq.1 h)]
theorem body_5 (o : OpD) (h1 : (o.kind == 1) = false) (h2 : (o.kind == 2) = false) (h3 : (o.kind == 3) = false) (h : (o.kind == 4) = false) : bodyB o = false := by
  unfold bodyB; rw [if_neg (beq_eq_false_iff_ne.1 h1), if_neg (beq_eq_false_iff_ne.1 h2), if_neg (beq_eq_false_iff_ne.1 h3), if_neg (beq_eq_false_iff_ne.1 h)]
set_option maxHeartbeats 2000000 in
theorem r15right_any (o : OpD) (A : Option Addr) (n c : Nat) (hn : o.data.length = n) (hs : o.name.size ≤ 9223372036854775807) (w : World) :
    Calls Tryz.prog 141 #[opV o (.slice A n c)] w fun e w' => e = .returned (.bool (rightB o)) ∧ Below w.heap.size w w' := by
  have f1 := Lib.hid (right_f1 o)
  have f2 := Lib.hid (right_f2 o)
  have f3 := Lib.hid (right_f3 o)
  have f4 := Lib.hid (right_f4 o)
  have fb := Lib.hid (right_b o)
  have g1 := Lib.hid (body_1 o)
  have g2 := Lib.hid (body_2 o)
  have g3 := Lib.hid (body_3 o)
  have g4 := Lib.hid (body_4 o)
  have g5 := Lib.hid (body_5 o)
  obtain ⟨kind, ⟨at1, at2⟩, ⟨n1, n2⟩, ⟨p1, p2⟩, dir, name, data⟩ := o
  have HN := Lib.hid hn
  clear hn
  simp only at f1 f2 f3 f4 fb g1 g2 g3 g4 g5 HN hs
  unfold opV
  generalize hR : rightB _ = R at f1 f2 f3 f4 fb ⊢
  generalize hB : bodyB _ = B at fb g1 g2 g3 g4 g5
  clear hR hB
  go_enter Tryz.func141, Tryz.ntmps141
  go_wp2_with fail
  refine (r04right_at _ _ _).mono ?_
  rintro e w1 ⟨rfl, hu⟩
  have hb1 := up_trans (up_alloc w _) hu.below
  obtain ⟨hc1, hf1⟩ := bcell hu.below
  cases hat : stR ⟨at1, at2⟩ with
  | false =>
    have E := Lib.hid (f1.out hat)
    go_wp2_with fail
    go_ret
    exact ⟨ret_bool E.out.symm, hb1⟩
  | true =>
    have HAT := Lib.hid hat
    clear hat
    go_wp2_with fail
    refine (r04right_at _ _ _).mono ?_
    rintro e w2 ⟨rfl, hu2⟩
    have hb2 := up_trans hb1 hu2.below
    obtain ⟨hc2, hf2⟩ := bcell hu2.below
    have hz2 : w.heap.size < w1.heap.size := by have := hu.size; simp at this; omega
    cases hnd : stR ⟨n1, n2⟩ with
    | false =>
      have E := Lib.hid (f2.out hnd)
      clear hnd
      go_wp2_with fail
      go_ret
      exact ⟨ret_bool E.out.symm, hb2⟩
    | true =>
      have HND := Lib.hid hnd
      clear hnd
      have FB := fun h3 h4 => fb.out HAT.out HND.out h3 h4
      have FBH := Lib.hid FB
      clear FB
      have hnn : decide (0 < data.length) = decide (0 < n) := by rw [HN.out]
      have HNN := Lib.hid hnn
      clear hnn
      by_cases k1 : kind = 1
      · subst k1
        by_cases h0 : 0 < n
        · have E := Lib.hid (f4.out (by rw [HNN.out]; exact decide_eq_true h0) (by decide))
          have h0z : (0 : Int) < (n : Int) := by omega
          go_wp2_with fail
          go_ret
          exact ⟨ret_bool E.out.symm, hb2⟩
        · have E := Lib.hid ((FBH.out (.inr (by decide)) (.inl (by rw [HNN.out]; exact decide_eq_false h0))).trans (g1.out (by decide)))
          have h0z : ¬ (0 : Int) < (n : Int) := by omega
          have b0 : decide ((0 : Int) < (n : Int)) = false := decide_eq_false h0z
          go_wp2_with (first
            | (go_at_call 174; refine (r15place_at _ _ _).mono ?_; rintro e w3 ⟨rfl, hu3⟩; have hb3 := up_trans hb2 hu3.below; obtain ⟨hc3, hf3⟩ := bcell hu3.below; have hz3 : w.heap.size < w2.heap.size := by have := hu2.size; omega)
            | (go_at_call 88; refine (r15name_any _ _ hs).mono ?_; rintro e w4 ⟨rfl, rfl⟩))
          all_goals (go_ret; exact ⟨ret_bool (by rw [E.out]; simp [*]), by first | exact hb3 | exact hb2⟩)
      · by_cases k2 : kind = 2
        · subst k2
          by_cases h0 : 0 < n
          · have h0z : (0 : Int) < (n : Int) := by omega
            have E := Lib.hid (f4.out (by rw [HNN.out]; exact decide_eq_true h0) (by decide))
            go_wp2_with fail
            go_ret
            exact ⟨ret_bool E.out.symm, hb2⟩
          · have h0z : ¬ (0 : Int) < (n : Int) := by omega
            have b0 : decide ((0 : Int) < (n : Int)) = false := decide_eq_false h0z
            cases dir with
            | true =>
              have E := Lib.hid (f3.out rfl (by decide))
              go_wp2_with fail
              go_ret
              exact ⟨ret_bool E.out.symm, hb2⟩
            | false =>
              have E := Lib.hid ((FBH.out (.inl rfl) (.inl (by rw [HNN.out]; exact decide_eq_false h0))).trans (g2.out (by decide) (by decide)))
              go_wp2_with (first
                | (go_at_call 174; refine (r15place_at _ _ _).mono ?_; rintro e w3 ⟨rfl, hu3⟩; have hb3 := up_trans hb2 hu3.below; obtain ⟨hc3, hf3⟩ := bcell hu3.below; have hz3 : w.heap.size < w2.heap.size := by have := hu2.size; omega)
                | (go_at_call 88; refine (r15name_any _ _ hs).mono ?_; rintro e w4 ⟨rfl, rfl⟩))
              all_goals (go_ret; exact ⟨ret_bool (by rw [E.out]; simp [*, zeroS]), by first | exact hb3 | exact hb2⟩)
        · by_cases k3 : kind = 3
          · subst k3
            by_cases h0 : 0 < n
            · have h0z : (0 : Int) < (n : Int) := by omega
              have E := Lib.hid (f4.out (by rw [HNN.out]; exact decide_eq_true h0) (by decide))
              go_wp2_with fail
              go_ret
              exact ⟨ret_bool E.out.symm, hb2⟩
            · have h0z : ¬ (0 : Int) < (n : Int) := by omega
              have b0 : decide ((0 : Int) < (n : Int)) = false := decide_eq_false h0z
              cases dir with
              | true =>
                have E := Lib.hid (f3.out rfl (by decide))
                go_wp2_with fail
                go_ret
                exact ⟨ret_bool E.out.symm, hb2⟩
              | false =>
                have E := Lib.hid ((FBH.out (.inl rfl) (.inl (by rw [HNN.out]; exact decide_eq_false h0))).trans (g3.out (by decide) (by decide) (by decide)))
                go_wp2_with (first
                  | (go_at_call 174; refine (r15place_at _ _ _).mono ?_; rintro e w3 ⟨rfl, hu3⟩; have hb3 := up_trans hb2 hu3.below; obtain ⟨hc3, hf3⟩ := bcell hu3.below; have hz3 : w.heap.size < w2.heap.size := by have := hu2.size; omega)
                  | (go_at_call 88; refine (r15name_any _ _ hs).mono ?_; rintro e w4 ⟨rfl, rfl⟩))
                all_goals (go_ret; exact ⟨ret_bool (by rw [E.out]; simp [*, zeroS]), by first | exact hb3 | exact hb2⟩)
          · by_cases k4 : kind = 4
            · subst k4
              have HL := Lib.hid (show decide (data.length ≤ 400) = decide ((n : Int) ≤ 400) by rw [HN.out]; exact decide_eq_decide.2 (by omega))
              cases dir with
              | true =>
                  have E := Lib.hid (f3.out rfl (by decide))
                  go_wp2_with fail
                  go_ret
                  exact ⟨ret_bool E.out.symm, hb2⟩
              | false =>
                have E := Lib.hid ((FBH.out (.inl rfl) (.inr (by decide))).trans ((g4.out (by decide) (by decide) (by decide) (by decide)).trans (by rw [HL.out])))
                go_wp2_with (first
                  | (go_at_call 174; refine (r15place_at _ _ _).mono ?_; rintro e w3 ⟨rfl, hu3⟩; have hb3 := up_trans hb2 hu3.below; obtain ⟨hc3, hf3⟩ := bcell hu3.below; have hz3 : w.heap.size < w2.heap.size := by have := hu2.size; omega)
                  | (go_at_call 88; refine (r15name_any _ _ hs).mono ?_; rintro e w4 ⟨rfl, rfl⟩))
                all_goals (go_ret; exact ⟨ret_bool (by rw [E.out]; simp [*, zeroS]), by first | exact hb3 | exact hb2⟩)
            · have b1 : (kind == 1) = false := beq_eq_false_iff_ne.2 k1
              have b2 : (kind == 2) = false := beq_eq_false_iff_ne.2 k2
              have b3 : (kind == 3) = false := beq_eq_false_iff_ne.2 k3
              have b4 : (kind == 4) = false := beq_eq_false_iff_ne.2 k4
              by_cases h0 : 0 < n
              · have h0z : (0 : Int) < (n : Int) := by omega
                have E := Lib.hid (f4.out (by rw [HNN.out]; exact decide_eq_true h0) b4)
                go_wp2_with fail
                go_ret
                exact ⟨ret_bool E.out.symm, hb2⟩
              · have h0z : ¬ (0 : Int) < (n : Int) := by omega
                have b0 : decide ((0 : Int) < (n : Int)) = false := decide_eq_false h0z
                cases dir with
                | true =>
                  have E := Lib.hid (f3.out rfl b1)
                  go_wp2_with fail
                  go_ret
                  exact ⟨ret_bool E.out.symm, hb2⟩
                | false =>
                  have E := Lib.hid ((FBH.out (.inl rfl) (.inl (by rw [HNN.out]; exact decide_eq_false h0))).trans (g5.out b1 b2 b3 b4))
                  go_wp2_with fail
                  go_ret
                  exact ⟨ret_bool E.out.symm, hb2⟩
end Go.Proofs.YtefhfoioeoijlaaGreatDoor
namespace Go.Proofs.YtefhfoioeoijlaaGreatDoor
open Go.RowKit Go.Sort Go.Shelf
set_option maxHeartbeats 4000000 in
theorem opright_any (o : OpD) (A : Option Addr) (n c : Nat) (hn : o.data.length = n) (hs : o.name.size ≤ 9223372036854775807) (w : World) :
    Calls Tryz.prog 66 #[opV o (.slice A n c)] w fun e w' => e = .returned (.bool (rightB o)) ∧ Below w.heap.size w w' := by
  have HR := Lib.hid (fun (W : World) n os => grown_ups (root_at (grow (W.drewN n) os)))
  have f1 := Lib.hid (right_f1 o)
  have f2 := Lib.hid (right_f2 o)
  have f3 := Lib.hid (right_f3 o)
  have f4 := Lib.hid (right_f4 o)
  have fb := Lib.hid (right_b o)
  have g1 := Lib.hid (body_1 o)
  have g2 := Lib.hid (body_2 o)
  have g3 := Lib.hid (body_3 o)
  have g4 := Lib.hid (body_4 o)
  have g5 := Lib.hid (body_5 o)
  obtain ⟨kind, ⟨at1, at2⟩, ⟨n1, n2⟩, ⟨p1, p2⟩, dir, name, data⟩ := o
  have HN := Lib.hid hn
  clear hn
  simp only at f1 f2 f3 f4 fb g1 g2 g3 g4 g5 HN hs
  unfold opV
  generalize hR : rightB _ = R at f1 f2 f3 f4 fb ⊢
  generalize hB : bodyB _ = B at fb g1 g2 g3 g4 g5
  clear hR hB
  go_enter Tryz.func66, Tryz.ntmps66
  go_wp2_with fail
  refine (sright_at _ _ _).mono ?_
  rintro e w1 ⟨rfl, hu⟩
  have hb1 := up_trans (up_alloc w _) hu.below
  obtain ⟨hc1, hf1⟩ := bcell hu.below
  cases hat : stR ⟨at1, at2⟩ with
  | false =>
    have E := Lib.hid (f1.out hat)
    go_wp2_with fail
    go_ret
    exact ⟨ret_bool E.out.symm, hb1⟩
  | true =>
    have HAT := Lib.hid hat
    clear hat
    go_wp2_with fail
    refine (sright_at _ _ _).mono ?_
    rintro e w2 ⟨rfl, hu2⟩
    have hb2 := up_trans hb1 hu2.below
    obtain ⟨hc2, hf2⟩ := bcell hu2.below
    have hz2 : w.heap.size < w1.heap.size := by have := hu.size; simp at this; omega
    cases hnd : stR ⟨n1, n2⟩ with
    | false =>
      have E := Lib.hid (f2.out hnd)
      clear hnd
      go_wp2_with fail
      all_goals (go_ret; exact ⟨ret_bool E.out.symm, hb2⟩)
    | true =>
      have HND := Lib.hid hnd
      clear hnd
      have FB := fun h3 h4 => fb.out HAT.out HND.out h3 h4
      have FBH := Lib.hid FB
      clear FB
      have hnn : decide (0 < data.length) = decide (0 < n) := by rw [HN.out]
      have HNN := Lib.hid hnn
      clear hnn
      by_cases k1 : kind = 1
      · subst k1
        by_cases h0 : 0 < n
        · have h0z : (0 : Int) < (n : Int) := by omega
          have E := Lib.hid (f4.out (by rw [HNN.out]; exact decide_eq_true h0) (by decide))
          go_wp2_with fail
          all_goals (go_ret; exact ⟨ret_bool E.out.symm, hb2⟩)
        · have h0z : ¬ (0 : Int) < (n : Int) := by omega
          have b0 : decide ((0 : Int) < (n : Int)) = false := decide_eq_false h0z
          have E := Lib.hid ((FBH.out (.inr (by decide)) (.inl (by rw [HNN.out]; exact decide_eq_false h0))).trans (g1.out (by decide)))
          go_wp2_with (first
            | (go_at_call 124; refine (place_at _ _ _).mono ?_; rintro e w3 ⟨rfl, hu3⟩; have hb3 := up_trans hb2 hu3.below; obtain ⟨hc3, hf3⟩ := bcell hu3.below; have hz3 : w.heap.size < w2.heap.size := by have := hu2.size; omega)
            | (go_at_call 62; refine (opname_any _ _ hs).mono ?_; rintro e w4 ⟨rfl, hu4⟩; have hb4 := up_trans hb3 hu4; obtain ⟨hc4, hf4⟩ := bcell hu4; have hz4 : w.heap.size < w3.heap.size := by have := hu3.size; omega))
          all_goals (go_ret; exact ⟨ret_bool (by rw [E.out]; simp [*, zeroS]), by first | exact hb4 | exact hb3 | exact hb2⟩)
      · by_cases k2 : kind = 2
        · subst k2
          cases dir with
          | true =>
            have E := Lib.hid (f3.out rfl (by decide))
            go_wp2_with fail
            all_goals (go_ret; exact ⟨ret_bool E.out.symm, hb2⟩)
          | false =>
            by_cases h0 : 0 < n
            · have h0z : (0 : Int) < (n : Int) := by omega
              have E := Lib.hid (f4.out (by rw [HNN.out]; exact decide_eq_true h0) (by decide))
              go_wp2_with fail
              all_goals (go_ret; exact ⟨ret_bool E.out.symm, hb2⟩)
            · have h0z : ¬ (0 : Int) < (n : Int) := by omega
              have b0 : decide ((0 : Int) < (n : Int)) = false := decide_eq_false h0z
              have E := Lib.hid ((FBH.out (.inl rfl) (.inl (by rw [HNN.out]; exact decide_eq_false h0))).trans (g2.out (by decide) (by decide)))
              go_wp2_with (first
                | (go_at_call 124; refine (place_at _ _ _).mono ?_; rintro e w3 ⟨rfl, hu3⟩; have hb3 := up_trans hb2 hu3.below; obtain ⟨hc3, hf3⟩ := bcell hu3.below; have hz3 : w.heap.size < w2.heap.size := by have := hu2.size; omega)
                | (go_at_call 62; refine (opname_any _ _ hs).mono ?_; rintro e w4 ⟨rfl, hu4⟩; have hb4 := up_trans hb3 hu4; obtain ⟨hc4, hf4⟩ := bcell hu4; have hz4 : w.heap.size < w3.heap.size := by have := hu3.size; omega))
              all_goals (go_ret; exact ⟨ret_bool (by rw [E.out]; simp [*, zeroS]), by first | exact hb4 | exact hb3 | exact hb2⟩)
        · by_cases k3 : kind = 3
          · subst k3
            cases dir with
            | true =>
              have E := Lib.hid (f3.out rfl (by decide))
              go_wp2_with fail
              all_goals (go_ret; exact ⟨ret_bool E.out.symm, hb2⟩)
            | false =>
              by_cases h0 : 0 < n
              · have h0z : (0 : Int) < (n : Int) := by omega
                have E := Lib.hid (f4.out (by rw [HNN.out]; exact decide_eq_true h0) (by decide))
                go_wp2_with fail
                all_goals (go_ret; exact ⟨ret_bool E.out.symm, hb2⟩)
              · have h0z : ¬ (0 : Int) < (n : Int) := by omega
                have b0 : decide ((0 : Int) < (n : Int)) = false := decide_eq_false h0z
                have b400 : decide ((n : Int) ≤ 400) = true := decide_eq_true (by omega)
                have E := Lib.hid ((FBH.out (.inl rfl) (.inl (by rw [HNN.out]; exact decide_eq_false h0))).trans (g3.out (by decide) (by decide) (by decide)))
                have hsz2 : w.heap.size < w2.heap.size := by have := hu2.size; omega
                have e5 : w2.cell? ⟨w.heap.size, 5, none⟩ = some (.int .i64 p1) := by go_simp
                have e6 : w2.cell? ⟨w.heap.size, 6, none⟩ = some (.int .i64 p2) := by go_simp
                have e8 : w2.cell? ⟨w.heap.size, 8, none⟩ = some (.string name) := by go_simp
                have e9 : w2.cell? ⟨w.heap.size, 9, none⟩ = some (.slice A n c) := by go_simp
                have d5 := grown_cell e5
                have d6 := grown_cell e6
                have d8 := grown_cell e8
                have d9 := grown_cell e9
                by_cases hp1 : p1 = 0
                · by_cases hp2 : p2 = 0
                  · subst hp1; subst hp2
                    by_cases hnm : name.toList.isEmpty = true
                    · go_wp2_with fail
                      all_goals
                        clear e5 e6 e8 e9 hc1 hc2
                        refine wp_region_grown_all (by kernel_rfl) (by kernel_rfl) ?_
                        repeat (quiet_step ((exact HR.out _ _ _)))
                        refine wpQuiet_nil ?_
                        rintro _ ⟨⟨nq, osq⟩, rfl⟩
                        go_wp2_with fail
                        go_ret
                        exact ⟨ret_bool (by rw [E.out, hnm]; simp [zeroS]), up_trans hb2 (ups_grow _ _ _).below⟩
                    · have hnm' : name.toList.isEmpty = false := Bool.eq_false_iff.2 hnm
                      clear hnm
                      go_wp2_with fail
                      all_goals
                        clear e5 e6 e8 e9 hc1 hc2
                        refine wp_region_grown_all (by kernel_rfl) (by kernel_rfl) ?_
                        repeat (quiet_step ((exact HR.out _ _ _)))
                        refine wpQuiet_nil ?_
                        rintro _ ⟨⟨nq, osq⟩, rfl⟩
                        go_wp2_with fail
                        go_ret
                        exact ⟨ret_bool (by rw [E.out, hnm']; simp), up_trans hb2 (ups_grow _ _ _).below⟩
                  · have hp2' : (p2 == 0) = false := beq_eq_false_iff_ne.2 hp2
                    subst hp1
                    have HP2 := Lib.hid hp2
                    clear hp2
                    go_wp2_with fail
                    all_goals
                      clear e5 e6 e8 e9 hc1 hc2
                      refine wp_region_grown_all (by kernel_rfl) (by kernel_rfl) ?_
                      repeat (quiet_step ((exact HR.out _ _ _)))
                      refine wpQuiet_nil ?_
                      rintro _ ⟨⟨nq, osq⟩, rfl⟩
                      go_wp2_with fail
                      go_ret
                      exact ⟨ret_bool (by rw [E.out]; simp [zeroS, HP2.out]), up_trans hb2 (ups_grow _ _ _).below⟩
                · have hp1' : (p1 == 0) = false := beq_eq_false_iff_ne.2 hp1
                  have HP1 := Lib.hid hp1
                  clear hp1
                  go_wp2_with fail
                  all_goals
                    clear e5 e6 e8 e9 hc1 hc2
                    refine wp_region_grown_all (by kernel_rfl) (by kernel_rfl) ?_
                    repeat (quiet_step ((exact HR.out _ _ _)))
                    refine wpQuiet_nil ?_
                    rintro _ ⟨⟨nq, osq⟩, rfl⟩
                    go_wp2_with fail
                    go_ret
                    exact ⟨ret_bool (by rw [E.out]; simp [zeroS, HP1.out]), up_trans hb2 (ups_grow _ _ _).below⟩
          · by_cases k4 : kind = 4
            · subst k4
              have HL := Lib.hid (show decide (data.length ≤ 400) = decide ((n : Int) ≤ 400) by rw [HN.out]; exact decide_eq_decide.2 (by omega))
              cases dir with
              | true =>
                have E := Lib.hid (f3.out rfl (by decide))
                go_wp2_with fail
                all_goals (go_ret; exact ⟨ret_bool E.out.symm, hb2⟩)
              | false =>
                have E := Lib.hid ((FBH.out (.inl rfl) (.inr (by decide))).trans ((g4.out (by decide) (by decide) (by decide) (by decide)).trans (by rw [HL.out])))
                by_cases h400 : (n : Int) ≤ 400
                · have b400 : decide ((n : Int) ≤ 400) = true := decide_eq_true h400
                  have hsz2 : w.heap.size < w2.heap.size := by have := hu2.size; omega
                  have e5 : w2.cell? ⟨w.heap.size, 5, none⟩ = some (.int .i64 p1) := by go_simp
                  have e6 : w2.cell? ⟨w.heap.size, 6, none⟩ = some (.int .i64 p2) := by go_simp
                  have e8 : w2.cell? ⟨w.heap.size, 8, none⟩ = some (.string name) := by go_simp
                  have e9 : w2.cell? ⟨w.heap.size, 9, none⟩ = some (.slice A n c) := by go_simp
                  have d5 := grown_cell e5
                  have d6 := grown_cell e6
                  have d8 := grown_cell e8
                  have d9 := grown_cell e9
                  by_cases hp1 : p1 = 0
                  · by_cases hp2 : p2 = 0
                    · subst hp1; subst hp2
                      by_cases hnm : name.toList.isEmpty = true
                      · go_wp2_with fail
                        all_goals
                          clear e5 e6 e8 e9 hc1 hc2
                          refine wp_region_grown_all (by kernel_rfl) (by kernel_rfl) ?_
                          repeat (quiet_step ((exact HR.out _ _ _)))
                          refine wpQuiet_nil ?_
                          rintro _ ⟨⟨nq, osq⟩, rfl⟩
                          go_wp2_with fail
                          go_ret
                          exact ⟨ret_bool (by rw [E.out, hnm]; simp [zeroS, h400]), up_trans hb2 (ups_grow _ _ _).below⟩
                      · have hnm' : name.toList.isEmpty = false := Bool.eq_false_iff.2 hnm
                        clear hnm
                        go_wp2_with fail
                        all_goals
                          clear e5 e6 e8 e9 hc1 hc2
                          refine wp_region_grown_all (by kernel_rfl) (by kernel_rfl) ?_
                          repeat (quiet_step ((exact HR.out _ _ _)))
                          refine wpQuiet_nil ?_
                          rintro _ ⟨⟨nq, osq⟩, rfl⟩
                          go_wp2_with fail
                          go_ret
                          exact ⟨ret_bool (by rw [E.out, hnm']; simp), up_trans hb2 (ups_grow _ _ _).below⟩
                    · have hp2' : (p2 == 0) = false := beq_eq_false_iff_ne.2 hp2
                      subst hp1
                      have HP2 := Lib.hid hp2
                      clear hp2
                      go_wp2_with fail
                      all_goals
                        clear e5 e6 e8 e9 hc1 hc2
                        refine wp_region_grown_all (by kernel_rfl) (by kernel_rfl) ?_
                        repeat (quiet_step ((exact HR.out _ _ _)))
                        refine wpQuiet_nil ?_
                        rintro _ ⟨⟨nq, osq⟩, rfl⟩
                        go_wp2_with fail
                        go_ret
                        exact ⟨ret_bool (by rw [E.out]; simp [zeroS, HP2.out]), up_trans hb2 (ups_grow _ _ _).below⟩
                  · have hp1' : (p1 == 0) = false := beq_eq_false_iff_ne.2 hp1
                    have HP1 := Lib.hid hp1
                    clear hp1
                    go_wp2_with fail
                    all_goals
                      clear e5 e6 e8 e9 hc1 hc2
                      refine wp_region_grown_all (by kernel_rfl) (by kernel_rfl) ?_
                      repeat (quiet_step ((exact HR.out _ _ _)))
                      refine wpQuiet_nil ?_
                      rintro _ ⟨⟨nq, osq⟩, rfl⟩
                      go_wp2_with fail
                      go_ret
                      exact ⟨ret_bool (by rw [E.out]; simp [zeroS, HP1.out]), up_trans hb2 (ups_grow _ _ _).below⟩
                · have b400 : decide ((n : Int) ≤ 400) = false := decide_eq_false h400
                  have HF := Lib.hid h400
                  clear h400
                  have hsz2 : w.heap.size < w2.heap.size := by have := hu2.size; omega
                  have e5 : w2.cell? ⟨w.heap.size, 5, none⟩ = some (.int .i64 p1) := by go_simp
                  have e6 : w2.cell? ⟨w.heap.size, 6, none⟩ = some (.int .i64 p2) := by go_simp
                  have e8 : w2.cell? ⟨w.heap.size, 8, none⟩ = some (.string name) := by go_simp
                  have e9 : w2.cell? ⟨w.heap.size, 9, none⟩ = some (.slice A n c) := by go_simp
                  have d5 := grown_cell e5
                  have d6 := grown_cell e6
                  have d8 := grown_cell e8
                  have d9 := grown_cell e9
                  by_cases hp1 : p1 = 0
                  · by_cases hp2 : p2 = 0
                    · subst hp1; subst hp2
                      by_cases hnm : name.toList.isEmpty = true
                      · go_wp2_with fail
                        all_goals
                          clear e5 e6 e8 e9 hc1 hc2
                          refine wp_region_grown_all (by kernel_rfl) (by kernel_rfl) ?_
                          repeat (quiet_step ((exact HR.out _ _ _)))
                          refine wpQuiet_nil ?_
                          rintro _ ⟨⟨nq, osq⟩, rfl⟩
                          go_wp2_with fail
                          go_ret
                          exact ⟨ret_bool (by rw [E.out, hnm]; simp [zeroS, HF.out]), up_trans hb2 (ups_grow _ _ _).below⟩
                      · have hnm' : name.toList.isEmpty = false := Bool.eq_false_iff.2 hnm
                        clear hnm
                        go_wp2_with fail
                        all_goals
                          clear e5 e6 e8 e9 hc1 hc2
                          refine wp_region_grown_all (by kernel_rfl) (by kernel_rfl) ?_
                          repeat (quiet_step ((exact HR.out _ _ _)))
                          refine wpQuiet_nil ?_
                          rintro _ ⟨⟨nq, osq⟩, rfl⟩
                          go_wp2_with fail
                          go_ret
                          exact ⟨ret_bool (by rw [E.out, hnm']; simp), up_trans hb2 (ups_grow _ _ _).below⟩
                    · have hp2' : (p2 == 0) = false := beq_eq_false_iff_ne.2 hp2
                      subst hp1
                      have HP2 := Lib.hid hp2
                      clear hp2
                      go_wp2_with fail
                      all_goals
                        clear e5 e6 e8 e9 hc1 hc2
                        refine wp_region_grown_all (by kernel_rfl) (by kernel_rfl) ?_
                        repeat (quiet_step ((exact HR.out _ _ _)))
                        refine wpQuiet_nil ?_
                        rintro _ ⟨⟨nq, osq⟩, rfl⟩
                        go_wp2_with fail
                        go_ret
                        exact ⟨ret_bool (by rw [E.out]; simp [zeroS, HP2.out]), up_trans hb2 (ups_grow _ _ _).below⟩
                  · have hp1' : (p1 == 0) = false := beq_eq_false_iff_ne.2 hp1
                    have HP1 := Lib.hid hp1
                    clear hp1
                    go_wp2_with fail
                    all_goals
                      clear e5 e6 e8 e9 hc1 hc2
                      refine wp_region_grown_all (by kernel_rfl) (by kernel_rfl) ?_
                      repeat (quiet_step ((exact HR.out _ _ _)))
                      refine wpQuiet_nil ?_
                      rintro _ ⟨⟨nq, osq⟩, rfl⟩
                      go_wp2_with fail
                      go_ret
                      exact ⟨ret_bool (by rw [E.out]; simp [zeroS, HP1.out]), up_trans hb2 (ups_grow _ _ _).below⟩
            · have b1 : (kind == 1) = false := beq_eq_false_iff_ne.2 k1
              have b2 : (kind == 2) = false := beq_eq_false_iff_ne.2 k2
              have b3 : (kind == 3) = false := beq_eq_false_iff_ne.2 k3
              have b4 : (kind == 4) = false := beq_eq_false_iff_ne.2 k4
              cases dir with
              | true =>
                have E := Lib.hid (f3.out rfl b1)
                go_wp2_with fail
                all_goals (go_ret; exact ⟨ret_bool E.out.symm, hb2⟩)
              | false =>
                by_cases h0 : 0 < n
                · have h0z : (0 : Int) < (n : Int) := by omega
                  have E := Lib.hid (f4.out (by rw [HNN.out]; exact decide_eq_true h0) b4)
                  go_wp2_with fail
                  all_goals (go_ret; exact ⟨ret_bool E.out.symm, hb2⟩)
                · have h0z : ¬ (0 : Int) < (n : Int) := by omega
                  have b0 : decide ((0 : Int) < (n : Int)) = false := decide_eq_false h0z
                  have E := Lib.hid ((FBH.out (.inl rfl) (.inl (by rw [HNN.out]; exact decide_eq_false h0))).trans (g5.out b1 b2 b3 b4))
                  go_wp2_with fail
                  all_goals (go_ret; exact ⟨ret_bool E.out.symm, hb2⟩)
end Go.Proofs.YtefhfoioeoijlaaGreatDoor

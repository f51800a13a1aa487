/- OpBD, Step -/
import Derived.Laws.CopyRow
import Derived.OrdersHeld
import Derived.Test.YtefhfoioeoijlaaGreatDoorVaa
import Derived.Test.YtefhfoioeoijlaaGreatDoorVab
set_option linter.unusedVariables false
set_option linter.unusedSimpArgs false
namespace Go.Proofs.YtefhfoioeoijlaaGreatDoor
open Go.RowKit Go.Sort Go.Shelf
theorem odd_any (c : Nat) (hc : c ≤ 1114111) (w : World) : Calls Tryz.prog 121 #[.int .i32 c] w fun e w' => e = .returned (.bool (oddR c)) ∧ w' = w := by
  go_enter Tryz.func121, Tryz.ntmps121
  go_wp2
  all_goals (go_ret; exact ⟨ret_bool (by rw [Bool.eq_iff_iff]; simp [oddR]; try omega), rfl⟩)
theorem contains_odd (s : ByteArray) (w : World) :
    Calls Tryz.prog 120 #[.string s, .func (.func 121) #[] #[]] w fun e w' => e = .returned (.bool (!nameCh s)) ∧ Below w.heap.size w w' := by
  rw [← odd_all]
  exact Tryz.strings_ContainsFunc_runes 121 #[] (enters_of Tryz.func121 (by kernel_rfl) rfl) oddR s w (fun W x hx _ =>
    (odd_any x hx W).mono fun e w' ⟨he, hw⟩ => ⟨he, 0, hw⟩)
theorem opname_any (s : ByteArray) (w : World) (hs : s.size ≤ 9223372036854775807) : Calls Tryz.prog 62 #[.string s] w fun e w' => e = .returned (.bool (nameB s)) ∧ Below w.heap.size w w' := by
  go_enter Tryz.func62, Tryz.ntmps62
  go_wp2_with (go_at_call 120; refine (contains_odd _ _).mono ?_; rintro e w' ⟨rfl, hb⟩)
  all_goals first
    | (go_ret; exact ⟨ret_bool (by rw [Bool.eq_iff_iff]; simp [nameB, *]; try omega), Below.refl _ _⟩)
    | (go_ret; exact ⟨ret_bool (by rw [Bool.eq_iff_iff]; simp [nameB, *]; try omega), hb⟩)
end Go.Proofs.YtefhfoioeoijlaaGreatDoor
namespace Go.Proofs.YtefhfoioeoijlaaGreatDoor
open Go.RowKit Go.Sort Go.Shelf
def bodyB (o : OpD) : Bool :=
  if o.kind = 1 then placeB o.parent && (nameB o.name && decide (o.node = o.at_))
  else if o.kind = 2 then placeB o.parent && nameB o.name
  else if o.kind = 3 then decide (o.parent = zeroS) && o.name.toList.isEmpty
  else if o.kind = 4 then decide (o.parent = zeroS) && (o.name.toList.isEmpty && decide (o.data.length ≤ 400))
  else false
def rightB (o : OpD) : Bool :=
  stR o.at_ && (stR o.node && (!(o.dir && !(o.kind == 1)) && (!(decide (0 < o.data.length) && !(o.kind == 4)) && bodyB o)))
theorem right_f1 (o : OpD) (h : stR o.at_ = false) : rightB o = false := by unfold rightB; rw [h]; rfl
theorem right_f2 (o : OpD) (h : stR o.node = false) : rightB o = false := by unfold rightB; rw [h]; simp
theorem right_f3 (o : OpD) (h : o.dir = true) (h' : (o.kind == 1) = false) : rightB o = false := by unfold rightB; rw [h, h']; simp
theorem right_f4 (o : OpD) (h : decide (0 < o.data.length) = true) (h' : (o.kind == 4) = false) : rightB o = false := by unfold rightB; rw [h, h']; simp
theorem right_b (o : OpD) (h1 : stR o.at_ = true) (h2 : stR o.node = true) (h3 : o.dir = false ∨ (o.kind == 1) = true) (h4 : decide (0 < o.data.length) = false ∨ (o.kind == 4) = true) : rightB o = bodyB o := by
  unfold rightB
  rw [h1, h2]
  rcases h3 with h3 | h3 <;> rcases h4 with h4 | h4 <;> rw [h3, h4] <;> simp
theorem body_1 (o : OpD) (h : (o.kind == 1) = true) : bodyB o = (placeB o.parent && (nameB o.name && decide (o.node = o.at_))) := by unfold bodyB; rw [if_pos (beq_iff_eq.1 h)]
theorem body_2 (o : OpD) (h1 : (o.kind == 1) = false) (h : (o.kind == 2) = true) : bodyB o = (placeB o.parent && nameB o.name) := by unfold bodyB; rw [if_neg (beq_eq_false_iff_ne.1 h1), if_pos (beq_iff_eq.1 h)]
theorem body_3 (o : OpD) (h1 : (o.kind == 1) = false) (h2 : (o.kind == 2) = false) (h : (o.kind == 3) = true) : bodyB o = (decide (o.parent = zeroS) && o.name.toList.isEmpty) := by
  unfold bodyB; rw [if_neg (beq_eq_false_iff_ne.1 h1), if_neg (beq_eq_false_iff_ne.1 h2), if_pos (beq_iff_eq.1 h)]
theorem body_4 (o : OpD) (h1 : (o.kind == 1) = false) (h2 : (o.kind == 2) = false) (h3 : (o.kind == 3) = false) (h : (o.kind == 4) = true) : bodyB o = (decide (o.parent = zeroS) && (o.name.toList.isEmpty && decide (o.data.length ≤ 400))) := by
  unfold bodyB; rw [if_neg (beq_eq_false_iff_ne.1 h1), if_neg (beq_eq_false_iff_ne.1 h2), if_neg (beq_eq_false_iff_ne.1 h3), if_pos (beq_iff_eq.1 h)]
theorem body_5 (o : OpD) (h1 : (o.kind == 1) = false) (h2 : (o.kind == 2) = false) (h3 : (o.kind == 3) = false) (h : (o.kind == 4) = false) : bodyB o = false := by
  unfold bodyB; rw [if_neg (beq_eq_false_iff_ne.1 h1), if_neg (beq_eq_false_iff_ne.1 h2), if_neg (beq_eq_false_iff_ne.1 h3), if_neg (beq_eq_false_iff_ne.1 h)]
end Go.Proofs.YtefhfoioeoijlaaGreatDoor
namespace Go.Proofs.YtefhfoioeoijlaaGreatDoor
open Go.RowKit Go.Sort Go.Shelf
set_option maxHeartbeats 4000000 in
theorem opright_any (o : OpD) (A : Option Addr) (n c : Nat) (hn : o.data.length = n) (hs : o.name.size ≤ 9223372036854775807) (w : World) :
    Calls Tryz.prog 66 #[opV o (.slice A n c)] w fun e w' => e = .returned (.bool (rightB o)) ∧ Below w.heap.size w w' := by
  have HR := Lib.hid (fun (W : World) n os => grown_ups (root_at (grow (W.drewN n) os)))
  have f1 := Lib.hid (right_f1 o)
  have f2 := Lib.hid (right_f2 o)
  have f3 := Lib.hid (right_f3 o)
  have f4 := Lib.hid (right_f4 o)
  have fb := Lib.hid (right_b o)
  have g1 := Lib.hid (body_1 o)
  have g2 := Lib.hid (body_2 o)
  have g3 := Lib.hid (body_3 o)
  have g4 := Lib.hid (body_4 o)
  have g5 := Lib.hid (body_5 o)
  obtain ⟨kind, ⟨at1, at2⟩, ⟨n1, n2⟩, ⟨p1, p2⟩, dir, name, data⟩ := o
  have HN := Lib.hid hn
  clear hn
  simp only at f1 f2 f3 f4 fb g1 g2 g3 g4 g5 HN hs
  unfold opV
  generalize hR : rightB _ = R at f1 f2 f3 f4 fb ⊢
  generalize hB : bodyB _ = B at fb g1 g2 g3 g4 g5
  clear hR hB
  go_enter Tryz.func66, Tryz.ntmps66
  go_wp2_with fail
  refine (sright_at _ _ _).mono ?_
  rintro e w1 ⟨rfl, hu⟩
  have hb1 := up_trans (up_alloc w _) hu.below
  obtain ⟨hc1, hf1⟩ := bcell hu.below
  cases hat : stR ⟨at1, at2⟩ with
  | false =>
    have E := Lib.hid (f1.out hat)
    go_wp2_with fail
    go_ret
    exact ⟨ret_bool E.out.symm, hb1⟩
  | true =>
    have HAT := Lib.hid hat
    clear hat
    go_wp2_with fail
    refine (sright_at _ _ _).mono ?_
    rintro e w2 ⟨rfl, hu2⟩
    have hb2 := up_trans hb1 hu2.below
    obtain ⟨hc2, hf2⟩ := bcell hu2.below
    have hz2 : w.heap.size < w1.heap.size := by have := hu.size; simp at this; omega
    cases hnd : stR ⟨n1, n2⟩ with
    | false =>
      have E := Lib.hid (f2.out hnd)
      clear hnd
      go_wp2_with fail
      all_goals (go_ret; exact ⟨ret_bool E.out.symm, hb2⟩)
    | true =>
      have HND := Lib.hid hnd
      clear hnd
      have FB := fun h3 h4 => fb.out HAT.out HND.out h3 h4
      have FBH := Lib.hid FB
      clear FB
      have hnn : decide (0 < data.length) = decide (0 < n) := by rw [HN.out]
      have HNN := Lib.hid hnn
      clear hnn
      by_cases k1 : kind = 1
      · subst k1
        by_cases h0 : 0 < n
        · have h0z : (0 : Int) < (n : Int) := by omega
          have E := Lib.hid (f4.out (by rw [HNN.out]; exact decide_eq_true h0) (by decide))
          go_wp2_with fail
          all_goals (go_ret; exact ⟨ret_bool E.out.symm, hb2⟩)
        · have h0z : ¬ (0 : Int) < (n : Int) := by omega
          have b0 : decide ((0 : Int) < (n : Int)) = false := decide_eq_false h0z
          have E := Lib.hid ((FBH.out (.inr (by decide)) (.inl (by rw [HNN.out]; exact decide_eq_false h0))).trans (g1.out (by decide)))
          go_wp2_with (first
            | (go_at_call 124; refine (place_at _ _ _).mono ?_; rintro e w3 ⟨rfl, hu3⟩; have hb3 := up_trans hb2 hu3.below; obtain ⟨hc3, hf3⟩ := bcell hu3.below; have hz3 : w.heap.size < w2.heap.size := by have := hu2.size; omega)
            | (go_at_call 62; refine (opname_any _ _ hs).mono ?_; rintro e w4 ⟨rfl, hu4⟩; have hb4 := up_trans hb3 hu4; obtain ⟨hc4, hf4⟩ := bcell hu4; have hz4 : w.heap.size < w3.heap.size := by have := hu3.size; omega))
          all_goals (go_ret; exact ⟨ret_bool (by rw [E.out]; simp [*, zeroS]), by first | exact hb4 | exact hb3 | exact hb2⟩)
      · by_cases k2 : kind = 2
        · subst k2
          cases dir with
          | true =>
            have E := Lib.hid (f3.out rfl (by decide))
            go_wp2_with fail
            all_goals (go_ret; exact ⟨ret_bool E.out.symm, hb2⟩)
          | false =>
            by_cases h0 : 0 < n
            · have h0z : (0 : Int) < (n : Int) := by omega
              have E := Lib.hid (f4.out (by rw [HNN.out]; exact decide_eq_true h0) (by decide))
              go_wp2_with fail
              all_goals (go_ret; exact ⟨ret_bool E.out.symm, hb2⟩)
            · have h0z : ¬ (0 : Int) < (n : Int) := by omega
              have b0 : decide ((0 : Int) < (n : Int)) = false := decide_eq_false h0z
              have E := Lib.hid ((FBH.out (.inl rfl) (.inl (by rw [HNN.out]; exact decide_eq_false h0))).trans (g2.out (by decide) (by decide)))
              go_wp2_with (first
                | (go_at_call 124; refine (place_at _ _ _).mono ?_; rintro e w3 ⟨rfl, hu3⟩; have hb3 := up_trans hb2 hu3.below; obtain ⟨hc3, hf3⟩ := bcell hu3.below; have hz3 : w.heap.size < w2.heap.size := by have := hu2.size; omega)
                | (go_at_call 62; refine (opname_any _ _ hs).mono ?_; rintro e w4 ⟨rfl, hu4⟩; have hb4 := up_trans hb3 hu4; obtain ⟨hc4, hf4⟩ := bcell hu4; have hz4 : w.heap.size < w3.heap.size := by have := hu3.size; omega))
              all_goals (go_ret; exact ⟨ret_bool (by rw [E.out]; simp [*, zeroS]), by first | exact hb4 | exact hb3 | exact hb2⟩)
        · by_cases k3 : kind = 3
          · subst k3
            cases dir with
            | true =>
              have E := Lib.hid (f3.out rfl (by decide))
              go_wp2_with fail
              all_goals (go_ret; exact ⟨ret_bool E.out.symm, hb2⟩)
            | false =>
              by_cases h0 : 0 < n
              · have h0z : (0 : Int) < (n : Int) := by omega
                have E := Lib.hid (f4.out (by rw [HNN.out]; exact decide_eq_true h0) (by decide))
                go_wp2_with fail
                all_goals (go_ret; exact ⟨ret_bool E.out.symm, hb2⟩)
              · have h0z : ¬ (0 : Int) < (n : Int) := by omega
                have b0 : decide ((0 : Int) < (n : Int)) = false := decide_eq_false h0z
                have b400 : decide ((n : Int) ≤ 400) = true := decide_eq_true (by omega)
                have E := Lib.hid ((FBH.out (.inl rfl) (.inl (by rw [HNN.out]; exact decide_eq_false h0))).trans (g3.out (by decide) (by decide) (by decide)))
                have hsz2 : w.heap.size < w2.heap.size := by have := hu2.size; omega
                have e5 : w2.cell? ⟨w.heap.size, 5, none⟩ = some (.int .i64 p1) := by go_simp
                have e6 : w2.cell? ⟨w.heap.size, 6, none⟩ = some (.int .i64 p2) := by go_simp
                have e8 : w2.cell? ⟨w.heap.size, 8, none⟩ = some (.string name) := by go_simp
                have e9 : w2.cell? ⟨w.heap.size, 9, none⟩ = some (.slice A n c) := by go_simp
                have d5 := grown_cell e5
                have d6 := grown_cell e6
                have d8 := grown_cell e8
                have d9 := grown_cell e9
                by_cases hp1 : p1 = 0
                · by_cases hp2 : p2 = 0
                  · subst hp1; subst hp2
                    by_cases hnm : name.toList.isEmpty = true
                    · go_wp2_with fail
                      all_goals
                        clear e5 e6 e8 e9 hc1 hc2
                        refine wp_region_grown_all (by kernel_rfl) (by kernel_rfl) ?_
                        repeat (quiet_step ((exact HR.out _ _ _)))
                        refine wpQuiet_nil ?_
                        rintro _ ⟨⟨nq, osq⟩, rfl⟩
                        go_wp2_with fail
                        go_ret
                        exact ⟨ret_bool (by rw [E.out, hnm]; simp [zeroS]), up_trans hb2 (ups_grow _ _ _).below⟩
                    · have hnm' : name.toList.isEmpty = false := Bool.eq_false_iff.2 hnm
                      clear hnm
                      go_wp2_with fail
                      all_goals
                        clear e5 e6 e8 e9 hc1 hc2
                        refine wp_region_grown_all (by kernel_rfl) (by kernel_rfl) ?_
                        repeat (quiet_step ((exact HR.out _ _ _)))
                        refine wpQuiet_nil ?_
                        rintro _ ⟨⟨nq, osq⟩, rfl⟩
                        go_wp2_with fail
                        go_ret
                        exact ⟨ret_bool (by rw [E.out, hnm']; simp), up_trans hb2 (ups_grow _ _ _).below⟩
                  · have hp2' : (p2 == 0) = false := beq_eq_false_iff_ne.2 hp2
                    subst hp1
                    have HP2 := Lib.hid hp2
                    clear hp2
                    go_wp2_with fail
                    all_goals
                      clear e5 e6 e8 e9 hc1 hc2
                      refine wp_region_grown_all (by kernel_rfl) (by kernel_rfl) ?_
                      repeat (quiet_step ((exact HR.out _ _ _)))
                      refine wpQuiet_nil ?_
                      rintro _ ⟨⟨nq, osq⟩, rfl⟩
                      go_wp2_with fail
                      go_ret
                      exact ⟨ret_bool (by rw [E.out]; simp [zeroS, HP2.out]), up_trans hb2 (ups_grow _ _ _).below⟩
                · have hp1' : (p1 == 0) = false := beq_eq_false_iff_ne.2 hp1
                  have HP1 := Lib.hid hp1
                  clear hp1
                  go_wp2_with fail
                  all_goals
                    clear e5 e6 e8 e9 hc1 hc2
                    refine wp_region_grown_all (by kernel_rfl) (by kernel_rfl) ?_
                    repeat (quiet_step ((exact HR.out _ _ _)))
                    refine wpQuiet_nil ?_
                    rintro _ ⟨⟨nq, osq⟩, rfl⟩
                    go_wp2_with fail
                    go_ret
                    exact ⟨ret_bool (by rw [E.out]; simp [zeroS, HP1.out]), up_trans hb2 (ups_grow _ _ _).below⟩
          · by_cases k4 : kind = 4
            · subst k4
              have HL := Lib.hid (show decide (data.length ≤ 400) = decide ((n : Int) ≤ 400) by rw [HN.out]; exact decide_eq_decide.2 (by omega))
              cases dir with
              | true =>
                have E := Lib.hid (f3.out rfl (by decide))
                go_wp2_with fail
                all_goals (go_ret; exact ⟨ret_bool E.out.symm, hb2⟩)
              | false =>
                have E := Lib.hid ((FBH.out (.inl rfl) (.inr (by decide))).trans ((g4.out (by decide) (by decide) (by decide) (by decide)).trans (by rw [HL.out])))
                by_cases h400 : (n : Int) ≤ 400
                · have b400 : decide ((n : Int) ≤ 400) = true := decide_eq_true h400
                  have hsz2 : w.heap.size < w2.heap.size := by have := hu2.size; omega
                  have e5 : w2.cell? ⟨w.heap.size, 5, none⟩ = some (.int .i64 p1) := by go_simp
                  have e6 : w2.cell? ⟨w.heap.size, 6, none⟩ = some (.int .i64 p2) := by go_simp
                  have e8 : w2.cell? ⟨w.heap.size, 8, none⟩ = some (.string name) := by go_simp
                  have e9 : w2.cell? ⟨w.heap.size, 9, none⟩ = some (.slice A n c) := by go_simp
                  have d5 := grown_cell e5
                  have d6 := grown_cell e6
                  have d8 := grown_cell e8
                  have d9 := grown_cell e9
                  by_cases hp1 : p1 = 0
                  · by_cases hp2 : p2 = 0
                    · subst hp1; subst hp2
                      by_cases hnm : name.toList.isEmpty = true
                      · go_wp2_with fail
                        all_goals
                          clear e5 e6 e8 e9 hc1 hc2
                          refine wp_region_grown_all (by kernel_rfl) (by kernel_rfl) ?_
                          repeat (quiet_step ((exact HR.out _ _ _)))
                          refine wpQuiet_nil ?_
                          rintro _ ⟨⟨nq, osq⟩, rfl⟩
                          go_wp2_with fail
                          go_ret
                          exact ⟨ret_bool (by rw [E.out, hnm]; simp [zeroS, h400]), up_trans hb2 (ups_grow _ _ _).below⟩
                      · have hnm' : name.toList.isEmpty = false := Bool.eq_false_iff.2 hnm
                        clear hnm
                        go_wp2_with fail
                        all_goals
                          clear e5 e6 e8 e9 hc1 hc2
                          refine wp_region_grown_all (by kernel_rfl) (by kernel_rfl) ?_
                          repeat (quiet_step ((exact HR.out _ _ _)))
                          refine wpQuiet_nil ?_
                          rintro _ ⟨⟨nq, osq⟩, rfl⟩
                          go_wp2_with fail
                          go_ret
                          exact ⟨ret_bool (by rw [E.out, hnm']; simp), up_trans hb2 (ups_grow _ _ _).below⟩
                    · have hp2' : (p2 == 0) = false := beq_eq_false_iff_ne.2 hp2
                      subst hp1
                      have HP2 := Lib.hid hp2
                      clear hp2
                      go_wp2_with fail
                      all_goals
                        clear e5 e6 e8 e9 hc1 hc2
                        refine wp_region_grown_all (by kernel_rfl) (by kernel_rfl) ?_
                        repeat (quiet_step ((exact HR.out _ _ _)))
                        refine wpQuiet_nil ?_
                        rintro _ ⟨⟨nq, osq⟩, rfl⟩
                        go_wp2_with fail
                        go_ret
                        exact ⟨ret_bool (by rw [E.out]; simp [zeroS, HP2.out]), up_trans hb2 (ups_grow _ _ _).below⟩
                  · have hp1' : (p1 == 0) = false := beq_eq_false_iff_ne.2 hp1
                    have HP1 := Lib.hid hp1
                    clear hp1
                    go_wp2_with fail
                    all_goals
                      clear e5 e6 e8 e9 hc1 hc2
                      refine wp_region_grown_all (by kernel_rfl) (by kernel_rfl) ?_
                      repeat (quiet_step ((exact HR.out _ _ _)))
                      refine wpQuiet_nil ?_
                      rintro _ ⟨⟨nq, osq⟩, rfl⟩
                      go_wp2_with fail
                      go_ret
                      exact ⟨ret_bool (by rw [E.out]; simp [zeroS, HP1.out]), up_trans hb2 (ups_grow _ _ _).below⟩
                · have b400 : decide ((n : Int) ≤ 400) = false := decide_eq_false h400
                  have HF := Lib.hid h400
                  clear h400
                  have hsz2 : w.heap.size < w2.heap.size := by have := hu2.size; omega
                  have e5 : w2.cell? ⟨w.heap.size, 5, none⟩ = some (.int .i64 p1) := by go_simp
                  have e6 : w2.cell? ⟨w.heap.size, 6, none⟩ = some (.int .i64 p2) := by go_simp
                  have e8 : w2.cell? ⟨w.heap.size, 8, none⟩ = some (.string name) := by go_simp
                  have e9 : w2.cell? ⟨w.heap.size, 9, none⟩ = some (.slice A n c) := by go_simp
                  have d5 := grown_cell e5
                  have d6 := grown_cell e6
                  have d8 := grown_cell e8
                  have d9 := grown_cell e9
                  by_cases hp1 : p1 = 0
                  · by_cases hp2 : p2 = 0
                    · subst hp1; subst hp2
                      by_cases hnm : name.toList.isEmpty = true
                      · go_wp2_with fail
                        all_goals
                          clear e5 e6 e8 e9 hc1 hc2
                          refine wp_region_grown_all (by kernel_rfl) (by kernel_rfl) ?_
                          repeat (quiet_step ((exact HR.out _ _ _)))
                          refine wpQuiet_nil ?_
                          rintro _ ⟨⟨nq, osq⟩, rfl⟩
                          go_wp2_with fail
                          go_ret
                          exact ⟨ret_bool (by rw [E.out, hnm]; simp [zeroS, HF.out]), up_trans hb2 (ups_grow _ _ _).below⟩
                      · have hnm' : name.toList.isEmpty = false := Bool.eq_false_iff.2 hnm
                        clear hnm
                        go_wp2_with fail
                        all_goals
                          clear e5 e6 e8 e9 hc1 hc2
                          refine wp_region_grown_all (by kernel_rfl) (by kernel_rfl) ?_
                          repeat (quiet_step ((exact HR.out _ _ _)))
                          refine wpQuiet_nil ?_
                          rintro _ ⟨⟨nq, osq⟩, rfl⟩
                          go_wp2_with fail
                          go_ret
                          exact ⟨ret_bool (by rw [E.out, hnm']; simp), up_trans hb2 (ups_grow _ _ _).below⟩
                    · have hp2' : (p2 == 0) = false := beq_eq_false_iff_ne.2 hp2
                      subst hp1
                      have HP2 := Lib.hid hp2
                      clear hp2
                      go_wp2_with fail
                      all_goals
                        clear e5 e6 e8 e9 hc1 hc2
                        refine wp_region_grown_all (by kernel_rfl) (by kernel_rfl) ?_
                        repeat (quiet_step ((exact HR.out _ _ _)))
                        refine wpQuiet_nil ?_
                        rintro _ ⟨⟨nq, osq⟩, rfl⟩
                        go_wp2_with fail
                        go_ret
                        exact ⟨ret_bool (by rw [E.out]; simp [zeroS, HP2.out]), up_trans hb2 (ups_grow _ _ _).below⟩
                  · have hp1' : (p1 == 0) = false := beq_eq_false_iff_ne.2 hp1
                    have HP1 := Lib.hid hp1
                    clear hp1
                    go_wp2_with fail
                    all_goals
                      clear e5 e6 e8 e9 hc1 hc2
                      refine wp_region_grown_all (by kernel_rfl) (by kernel_rfl) ?_
                      repeat (quiet_step ((exact HR.out _ _ _)))
                      refine wpQuiet_nil ?_
                      rintro _ ⟨⟨nq, osq⟩, rfl⟩
                      go_wp2_with fail
                      go_ret
                      exact ⟨ret_bool (by rw [E.out]; simp [zeroS, HP1.out]), up_trans hb2 (ups_grow _ _ _).below⟩
            · have b1 : (kind == 1) = false := beq_eq_false_iff_ne.2 k1
              have b2 : (kind == 2) = false := beq_eq_false_iff_ne.2 k2
              have b3 : (kind == 3) = false := beq_eq_false_iff_ne.2 k3
              have b4 : (kind == 4) = false := beq_eq_false_iff_ne.2 k4
              cases dir with
              | true =>
                have E := Lib.hid (f3.out rfl b1)
                go_wp2_with fail
                all_goals (go_ret; exact ⟨ret_bool E.out.symm, hb2⟩)
              | false =>
                by_cases h0 : 0 < n
                · have h0z : (0 : Int) < (n : Int) := by omega
                  have E := Lib.hid (f4.out (by rw [HNN.out]; exact decide_eq_true h0) b4)
                  go_wp2_with fail
                  all_goals (go_ret; exact ⟨ret_bool E.out.symm, hb2⟩)
                · have h0z : ¬ (0 : Int) < (n : Int) := by omega
                  have b0 : decide ((0 : Int) < (n : Int)) = false := decide_eq_false h0z
                  have E := Lib.hid ((FBH.out (.inl rfl) (.inl (by rw [HNN.out]; exact decide_eq_false h0))).trans (g5.out b1 b2 b3 b4))
                  go_wp2_with fail
                  all_goals (go_ret; exact ⟨ret_bool E.out.symm, hb2⟩)
end Go.Proofs.YtefhfoioeoijlaaGreatDoor
set_option linter.unusedVariables false
set_option linter.unusedSimpArgs false
namespace Go.Proofs.YtefhfoioeoijlaaGreatDoor
open Go Go.RowKit Go.Sort
abbrev Up (w w' : World) : Prop := Below w.heap.size w w'
abbrev Chg (w w' : World) (b : Nat) : Prop := w.grownBy w' (some b)
theorem lt_ob {w : World} {b : Nat} {o : Obj} (h : w.heap[b]? = some o) : b < w.heap.size := (Array.getElem?_eq_some_iff.1 h).1
theorem up_ob {w w' : World} {b : Nat} {o : Obj} (u : Up w w') (h : w.heap[b]? = some o) : w'.heap[b]? = some o := (u.block b (lt_ob h)).trans h
theorem chg_ob {w w' : World} {b c : Nat} {o : Obj} (u : Chg w w' c) (hne : b ≠ c) (h : w.heap[b]? = some o) : w'.heap[b]? = some o := (u.block b (lt_ob h) (by simpa using hne)).trans h
theorem up_sz {w w' : World} (u : Up w w') : w.heap.size ≤ w'.heap.size := u.size
theorem up_new {w : World} (o : Obj) : Up w (w.alloc o) := up_alloc w o
theorem to_chg {w w' : World} (u : Up w w') (c : Nat) : Chg w w' c := ⟨u.os, u.tape, u.output, u.size, fun k hk _ => u.block k hk⟩
structure Mod (X : List Nat) (w w' : World) : Prop where
  os : w'.os = w.os
  tape : w'.tape = w.tape
  output : w'.output = w.output
  size : w.heap.size ≤ w'.heap.size
  block : ∀ k, k < w.heap.size → k ∉ X → w'.heap[k]? = w.heap[k]?
theorem Mod.refl (X : List Nat) (w : World) : Mod X w w := ⟨rfl, rfl, rfl, Nat.le_refl _, fun _ _ _ => rfl⟩
theorem Mod.trans {X : List Nat} {a b c : World} (h : Mod X a b) (k : Mod X b c) : Mod X a c :=
  ⟨k.os.trans h.os, k.tape.trans h.tape, k.output.trans h.output, Nat.le_trans h.size k.size, fun i hi hn => (k.block i (Nat.lt_of_lt_of_le hi h.size) hn).trans (h.block i hi hn)⟩
theorem Mod.of_mod {X Y : List Nat} {a b : World} (h : Mod X a b) (hX : ∀ x ∈ X, x ∈ Y) : Mod Y a b := ⟨h.os, h.tape, h.output, h.size, fun k hk hn => h.block k hk (fun hm => hn (hX k hm))⟩
theorem Mod.of_up {X : List Nat} {a b : World} (h : Up a b) : Mod X a b := ⟨h.os, h.tape, h.output, h.size, fun k hk _ => h.block k hk⟩
theorem Mod.of_chg {X : List Nat} {a b : World} {c : Nat} (h : Chg a b c) (hc : c ∈ X) : Mod X a b := ⟨h.os, h.tape, h.output, h.size, fun k hk hn => h.block k hk (by intro e; injection e with e; rw [e] at hn; exact hn hc)⟩
theorem Mod.up {a b : World} (h : Mod [] a b) : Up a b := ⟨h.os, h.tape, h.output, h.size, fun k hk => h.block k hk (by simp)⟩
theorem Mod.chg {a b : World} {c : Nat} (h : Mod [c] a b) : Chg a b c := ⟨h.os, h.tape, h.output, h.size, fun k hk hn => h.block k hk (by intro e; simp at e; exact hn (by rw [e]))⟩
theorem Mod.thin {X Y : List Nat} {a b c : World} (h : Mod X a b) (k : Mod Y b c) (hY : ∀ y ∈ Y, y ∈ X ∨ a.heap.size ≤ y) : Mod X a c :=
  ⟨k.os.trans h.os, k.tape.trans h.tape, k.output.trans h.output, Nat.le_trans h.size k.size, fun i hi hn => (k.block i (Nat.lt_of_lt_of_le hi h.size) (fun hy => by
    rcases hY i hy with h1 | h1
    · exact hn h1
    · omega)).trans (h.block i hi hn)⟩
theorem Mod.trans' {X : List Nat} {a b c : World} {q : Option Nat} (h : Mod X a b) (k : b.grownBy c q) (hq : ∀ i, q = some i → a.heap.size ≤ i) : Mod X a c :=
  ⟨k.os.trans h.os, k.tape.trans h.tape, k.output.trans h.output, Nat.le_trans h.size k.size, fun i hi hn => (k.block i (Nat.lt_of_lt_of_le hi h.size) (by intro e; have := hq i e.symm; omega)).trans (h.block i hi hn)⟩
theorem own_ob {w w' : World} {b : Nat} {o : Obj} {q : Option Nat} (u : w.grownBy w' q) (hne : q ≠ some b) (h : w.heap[b]? = some o) : w'.heap[b]? = some o := (u.block b (lt_ob h) (fun e => hne e.symm)).trans h
theorem md_old {X : List Nat} {a b c : World} {q : Nat} (h : Mod X a b) (k : Chg b c q) : Mod (q :: X) a c :=
  (h.of_mod (Y := q :: X) (fun x hx => by simp [hx])).trans (Mod.of_chg k (by simp))
theorem md_ob {X : List Nat} {w w' : World} {b : Nat} {o : Obj} (u : Mod X w w') (hne : b ∉ X) (h : w.heap[b]? = some o) : w'.heap[b]? = some o := (u.block b (lt_ob h) hne).trans h
section
variable {P : Program} {Q : Exit → Act → World → Prop} {a : Act} {w : World} {next : Act → World → Prop}
theorem then_n (h : next a w) : Exit.then next Q .normal a w := h
theorem then_x {e : Exit} (he : e ≠ .normal) (h : Q e a w) : Exit.then next Q e a w := by cases e <;> first | exact absurd rfl he | exact h
theorem inb_n {id : Nat} (h : Q .normal a w) : Exit.inBlock id Q .normal a w := h
theorem inb_r {id : Nat} (h : Q .ret a w) : Exit.inBlock id Q .ret a w := h
theorem inb_hit {id : Nat} (h : Q .normal a w) : Exit.inBlock id Q (.exit id) a w := by simp only [Exit.inBlock, if_true]; exact h
theorem least {p : Nat → Prop} (h : ∃ n, p n) : ∃ n, p n ∧ ∀ m, p m → n ≤ m := by
  obtain ⟨n, hn⟩ := h
  induction n using Nat.strongRecOn with
  | _ n ih =>
    by_cases hm : ∃ m, m < n ∧ p m
    · obtain ⟨m, h1, h2⟩ := hm; exact ih m h1 h2
    · exact ⟨n, hn, fun m hp => Nat.le_of_not_lt fun hlt => hm ⟨m, hlt, hp⟩⟩
theorem lp {c : Code} (I : Nat → Act → World → Prop) (h0 : ∃ n, I n a w) (round : ∀ n a w, I n a w → c.wp P (Exit.then (fun a' w' => ∃ m, m < n ∧ I m a' w') Q) a w) : (Code.loop c).wp P Q a w := by
  classical
  refine wp_loop (fun a w => ∃ n, I n a w) (fun a w => if h : ∃ n, I n a w then (least h).choose else 0) h0 fun a w h => ?_
  have hl := (least h).choose_spec
  refine wp_mono (round _ a w hl.1) fun e a' w' hq => ?_
  cases e with
  | normal =>
    obtain ⟨m, hm, hI⟩ := hq
    refine ⟨⟨m, hI⟩, ?_⟩
    have h' : ∃ n, I n a' w' := ⟨m, hI⟩
    show (if h : ∃ n, I n a' w' then (least h).choose else 0) < (if h : ∃ n, I n a w then (least h).choose else 0)
    rw [dif_pos h', dif_pos h]
    exact Nat.lt_of_le_of_lt ((least h').choose_spec.2 m hI) hm
  | _ => exact hq
end
section
variable {P : Program} {ops : Array Oper} {Q : Exit → Act → World → Prop} {a : Act} {w : World} {rest : List Oper} {o : Oper} {J : Act → World → Prop}
@[irreducible] def WL (P : Program) (ops : Array Oper) (Q : Exit → Act → World → Prop) (l : List Oper) (a : Act) (w : World) : Prop := wpList P ops Q l a w
@[irreducible] def QL (P : Program) (ops : Array Oper) (C : World → Prop) (Q : Act → Prop) (l : List Oper) (a : Act) : Prop := wpQuiet P ops C Q l a
@[irreducible] def HL (P : Program) (ops : Array Oper) (Q : Exit → Act → World → Prop) (S : World → Prop) (n : Nat) (listed : Array Bool) (a : Act) (w : World) : Prop := wpAnyH P .any ops Q S n listed a w
theorem wl_un {P : Program} {ops : Array Oper} {Q : Exit → Act → World → Prop} : WL P ops Q = wpList P ops Q := by funext l a w; unfold WL; rfl
theorem ql_un {P : Program} {ops : Array Oper} {C : World → Prop} {Q : Act → Prop} : QL P ops C Q = wpQuiet P ops C Q := by funext l a; unfold QL; rfl
theorem hl_un {P : Program} {ops : Array Oper} {Q : Exit → Act → World → Prop} {S : World → Prop} : HL P ops Q S = wpAnyH P .any ops Q S := by funext n l a w; unfold HL; rfl
@[irreducible] def St1 (P : Program) (ops : Array Oper) (Q : Exit → Act → World → Prop) (o : Oper) (J : Act → World → Prop) (a : Act) (w : World) : Prop :=
  if Region.wanted o (yielded ops a.tmps) then o.wp P a w J Q ∨ (o.asks P a w ∧ LetsOut Q) else J (a.put o.dst undef) w
theorem wl (h : St1 P ops Q o (WL P ops Q rest) a w) : WL P ops Q (o :: rest) a w := by
  rw [wl_un] at h ⊢; unfold St1 at h; unfold wpList; exact h
theorem wnil (h : Q .normal a w) : WL P ops Q [] a w := by rw [wl_un]; exact h
theorem rg_lit {id : Nat} {l : List Oper} (h : WL P l.toArray Q l a w) : (Code.region id l.toArray false).wp P Q a w := wp_region_lit (by rw [wl_un] at h; exact h)
theorem sv {v : Value} {w' : World} (hw : Region.wanted o (yielded ops a.tmps) = true) (h : (execOp a.eval o).run P w = .ok (.value v) w') (k : J (a.put o.dst v) w') : St1 P ops Q o J a w := by
  unfold St1; rw [if_pos hw]; refine .inl ?_; unfold Oper.wp; rw [h]; exact k
theorem sk {w' : World} (hw : Region.wanted o (yielded ops a.tmps) = true) (h : (execOp a.eval o).run P w = .ok .skip w') (k : J (a.put o.dst undef) w') : St1 P ops Q o J a w := by
  unfold St1; rw [if_pos hw]; refine .inl ?_; unfold Oper.wp; rw [h]; exact k
theorem sp (hw : Region.wanted o (yielded ops a.tmps) = false) (k : J (a.put o.dst undef) w) : St1 P ops Q o J a w := by
  unfold St1; rw [if_neg (by rw [hw]; simp)]; exact k
theorem sb {c : Bool} (hw : Region.wanted o (yielded ops a.tmps) = true) (h : (execOp a.eval o).run P w = .ok (.value (.bool c)) w) (k : ∀ b, c = b → J (a.put o.dst (.bool b)) w) : St1 P ops Q o J a w :=
  sv hw h (k c rfl)
theorem sc {f : FuncId} {args : Array Value} {R : Ending → World → Prop} (hw : Region.wanted o (yielded ops a.tmps) = true) (h : (execOp a.eval o).run P w = .ok (.enter f args) w) (hc : Calls P f args w R)
    (k : ∀ e w', R e w' → ∃ v, e = .returned v ∧ J (a.put o.dst v) w') : St1 P ops Q o J a w := by
  unfold St1; rw [if_pos hw]; refine .inl ?_; unfold Oper.wp; rw [h]
  refine hc.mono fun e w' hR => ?_
  obtain ⟨v, rfl, h⟩ := k e w' hR
  exact h
theorem bcase {p : Prop} (b : Bool) (f : b = false → p) (t : b = true → p) : p := by cases b; exact f rfl; exact t rfl
theorem ebool {x : Value} {b c : Bool} (h : x = .bool b) (hb : b = c) : x = .bool c := by rw [h, hb]
theorem bneg {b c : Bool} (h : b = c) : (!b) = !c := by rw [h]
theorem wt {f : Nat → Option Bool} {j : Nat} {want b : Bool} (hg : o.guard = some (j, want)) (hy : f j = some b) (hb : b = want) : Region.wanted o f = true := by
  unfold Region.wanted; rw [hg]; simp [hy, hb]
theorem wf {f : Nat → Option Bool} {j : Nat} {want b : Bool} (hg : o.guard = some (j, want)) (hy : f j = some b) (hb : b = !want) : Region.wanted o f = false := by
  unfold Region.wanted; rw [hg]; simp [hy, hb]
theorem sn {cs : Array Value} {T : TypeId} {V : Nat → Value} (hw : Region.wanted o (yielded ops a.tmps) = true) (h : (execOp a.eval o).run P w = .ok (.value (V w.heap.size)) (w.alloc (.cells cs T)))
    (k : ∀ b w', b = w.heap.size → w'.heap[b]? = some (.cells cs T (0, 0)) → Up w w' → J (a.put o.dst (V b)) w') : St1 P ops Q o J a w :=
  sv hw h (k _ _ rfl (heap_alloc_new w _) (up_alloc w _))
theorem snm {V : Nat → Value} (hw : Region.wanted o (yielded ops a.tmps) = true) (h : (execOp a.eval o).run P w = .ok (.value (V w.heap.size)) (w.alloc (.map #[] 0)))
    (k : ∀ b w', b = w.heap.size → w'.heap[b]? = some (.map #[] 0) → Up w w' → J (a.put o.dst (V b)) w') : St1 P ops Q o J a w :=
  sv hw h (k _ _ rfl (heap_alloc_new w _) (up_alloc w _))
variable {S : World → Prop}
theorem hv {i : Nat} {oi : Oper} {v : Value} {fuel : Nat} {listed : Array Bool} (hi : ops[i]? = some oi) (hs : Region.noSelect ops = true) (hf : Region.free .any ops listed i = true) (hr : (Region.ready .any ops listed).contains i = true)
    (hQ : ∀ c a w, Q (.panic c) (a.put oi.dst v) w → Q (.panic c) a w) (hS : S w) (hw : Region.wanted oi (yielded ops a.tmps) = true) (h : ∀ w', S w' → (execOp a.eval oi).run P w' = .ok (.value v) w')
    (k : HL P ops Q S fuel (listed.setIfInBounds i true) (a.put oi.dst v) w) : HL P ops Q S (fuel + 1) listed a w :=
  by rw [hl_un] at k ⊢; exact wpAnyH_take hi hs hf hr hQ (.inl ⟨hw, h⟩) hS k
theorem hb {i : Nat} {oi : Oper} {c : Bool} {fuel : Nat} {listed : Array Bool} (hi : ops[i]? = some oi) (hs : Region.noSelect ops = true) (hf : Region.free .any ops listed i = true) (hr : (Region.ready .any ops listed).contains i = true)
    (hQ : ∀ c' a w, Q (.panic c') (a.put oi.dst (.bool c)) w → Q (.panic c') a w) (hS : S w) (hw : Region.wanted oi (yielded ops a.tmps) = true) (h : ∀ w', S w' → (execOp a.eval oi).run P w' = .ok (.value (.bool c)) w')
    (k : ∀ b, c = b → HL P ops Q S fuel (listed.setIfInBounds i true) (a.put oi.dst (.bool b)) w) : HL P ops Q S (fuel + 1) listed a w :=
  hv hi hs hf hr hQ hS hw h (k c rfl)
theorem hp {i : Nat} {oi : Oper} {fuel : Nat} {listed : Array Bool} (hi : ops[i]? = some oi) (hs : Region.noSelect ops = true) (hf : Region.free .any ops listed i = true) (hr : (Region.ready .any ops listed).contains i = true)
    (hQ : ∀ c a w, Q (.panic c) (a.put oi.dst undef) w → Q (.panic c) a w) (hS : S w) (hw : Region.wanted oi (yielded ops a.tmps) = false)
    (k : HL P ops Q S fuel (listed.setIfInBounds i true) (a.put oi.dst undef) w) : HL P ops Q S (fuel + 1) listed a w :=
  by rw [hl_un] at k ⊢; exact wpAnyH_take hi hs hf hr hQ (.inr ⟨hw, rfl⟩) hS k
theorem h1 {i : Nat} {oi : Oper} {fuel : Nat} {listed : Array Bool} (hr : Region.ready .any ops listed = [i]) (hi : ops[i]? = some oi)
    (k : St1 P ops Q oi (fun a' w' => S w' ∧ HL P ops Q S fuel (listed.setIfInBounds i true) a' w') a w) : HL P ops Q S (fuel + 1) listed a w := by
  rw [hl_un] at *
  refine wpAnyH_all hr (by simp) fun j hj => ?_
  obtain rfl : j = i := by simpa using hj
  unfold wpOp; simp only [hi]; unfold St1 at k; exact k
theorem h2 {i j : Nat} {oi oj : Oper} {fuel : Nat} {listed : Array Bool} (hr : Region.ready .any ops listed = [i, j]) (hi : ops[i]? = some oi) (hj : ops[j]? = some oj)
    (k : St1 P ops Q oi (fun a' w' => S w' ∧ HL P ops Q S fuel (listed.setIfInBounds i true) a' w') a w)
    (k2 : St1 P ops Q oj (fun a' w' => S w' ∧ HL P ops Q S fuel (listed.setIfInBounds j true) a' w') a w) : HL P ops Q S (fuel + 1) listed a w := by
  rw [hl_un] at *
  refine wpAnyH_all hr (by simp) fun l hl => ?_
  rcases List.mem_cons.1 hl with rfl | hl
  · unfold wpOp; simp only [hi]; unfold St1 at k; exact k
  · obtain rfl : l = j := by simpa using hl
    unfold wpOp; simp only [hj]; unfold St1 at k2; exact k2
theorem held_mono {S S' : World → Prop} (hS : ∀ w, S' w → S w) : ∀ (fuel : Nat) (listed : Array Bool) (a : Act) (w : World), wpAnyH P .any ops Q S' fuel listed a w → wpAnyH P .any ops Q S fuel listed a w
  | 0, _, _, _, h => h
  | fuel + 1, _, _, _, h => ⟨h.1, fun i hi => wpOp_mono (fun a' w' h' => ⟨hS _ h'.1, held_mono hS fuel _ a' w' h'.2⟩) (h.2 i hi)⟩
theorem hx {X Y : List Nat} {w0 : World} {fuel : Nat} {listed : Array Bool} (hm : Mod X w0 w) (hY : ∀ y ∈ Y, y ∈ X ∨ w0.heap.size ≤ y) (k : HL P ops Q (Mod Y w) fuel listed a w) : Mod X w0 w ∧ HL P ops Q (Mod X w0) fuel listed a w :=
  ⟨hm, by rw [hl_un] at k ⊢; exact held_mono (fun _ h => hm.thin h hY) _ _ _ _ k⟩
theorem hend {fuel : Nat} {listed : Array Bool} (hr : Region.ready .any ops listed = []) (h : Q .normal a w) : HL P ops Q S fuel listed a w := by rw [hl_un]; exact wpAnyH_done hr h fuel
theorem rg_held {id n : Nat} {l : List Oper} (X : List Nat) (hm : P.follows .mixedOrders = true) (hn : l.length = n) (h : ∀ w', Up w w' → HL P l.toArray Q (Mod X w') n (Array.replicate n false) a w') : (Code.region id l.toArray true).wp P Q a w := by
  subst hn
  have h' := h w.drew (up_drew w)
  rw [hl_un] at h'
  exact wp_region_held (S := Mod X w.drew) hm (by simpa using h')
theorem nin0 {b : Nat} : b ∉ ([] : List Nat) := by simp
theorem nin1 {b c : Nat} (h : b ≠ c) : b ∉ [c] := by simpa using h
theorem ynew {X : List Nat} {b n : Nat} (h : b = n) : ∀ y ∈ b :: X, y ∈ X ∨ n ≤ y := by
  intro y hy
  rcases List.mem_cons.1 hy with rfl | hy
  · exact .inr (Nat.le_of_eq h.symm)
  · exact .inl hy
variable {C : World → Prop} {Qq : Act → Prop}
theorem qv {v : Value} (hw : Region.wanted o (yielded ops a.tmps) = true) (h : ∀ w', C w' → (execOp a.eval o).run P w' = .ok (.value v) w') (k : QL P ops C Qq rest (a.put o.dst v)) : QL P ops C Qq (o :: rest) a := by
  rw [ql_un] at k ⊢; unfold wpQuiet; rw [if_pos hw]
  refine ⟨v, fun w' hC => ?_, k⟩
  unfold Oper.quietAt; rw [h w' hC]; exact ⟨rfl, rfl⟩
theorem qb {c : Bool} (hw : Region.wanted o (yielded ops a.tmps) = true) (h : ∀ w', C w' → (execOp a.eval o).run P w' = .ok (.value (.bool c)) w') (k : ∀ b, c = b → QL P ops C Qq rest (a.put o.dst (.bool b))) : QL P ops C Qq (o :: rest) a :=
  qv hw h (k c rfl)
theorem qnil (h : Qq a) : QL P ops C Qq [] a := by rw [ql_un]; exact h
theorem qp (hw : Region.wanted o (yielded ops a.tmps) = false) (k : QL P ops C Qq rest (a.put o.dst undef)) : QL P ops C Qq (o :: rest) a := by
  rw [ql_un] at k ⊢; unfold wpQuiet; rw [if_neg (by rw [hw]; simp)]; exact k
theorem qc {f : FuncId} {args : Array Value} {v : Value} {R : World → Ending → World → Prop} (hw : Region.wanted o (yielded ops a.tmps) = true) (h : ∀ w', C w' → (execOp a.eval o).run P w' = .ok (.enter f args) w')
    (hc : ∀ w', C w' → Calls P f args w' (R w')) (hR : ∀ w' e w'', C w' → R w' e w'' → e = .returned v ∧ C w'') (k : QL P ops C Qq rest (a.put o.dst v)) : QL P ops C Qq (o :: rest) a := by
  rw [ql_un] at k ⊢; unfold wpQuiet; rw [if_pos hw]
  refine ⟨v, fun w' hC => ?_, k⟩
  unfold Oper.quietAt; rw [h w' hC]
  exact ⟨rfl, (hc w' hC).mono fun e w'' he => hR w' e w'' hC he⟩
theorem rg_tail {id : Nat} {l hd tl : List Oper} (n : Nat) (hm : P.follows .mixedOrders = true) (hB : Region.lexTailB .any l.toArray n = true) (hhd : l.take n = hd) (htl : l.drop n = tl)
    (h : QL P l.toArray (fun w' => Up w w') (fun a' => ∀ w', Up w w' → WL P l.toArray Q tl a' w') hd a) : (Code.region id l.toArray true).wp P Q a w := by
  subst hhd; subst htl
  rw [ql_un] at h; simp only [wl_un] at h
  exact wp_region_quiet_tail (fun w' => Up w w') n hm hB (up_drew w) h
theorem rg_all {id : Nat} {l : List Oper} (hm : P.follows .mixedOrders = true) (hB : Region.lexB .any l.toArray = true)
    (h : QL P l.toArray (fun w' => Up w w') (fun a' => ∀ w', Up w w' → Q .normal a' w') l a) : (Code.region id l.toArray true).wp P Q a w :=
  wp_region_quiet (C := fun w' => Up w w') hm hB (up_drew w) (by rw [ql_un] at h; simpa using h)
theorem up_step {a b c : World} (h : Up a b) (k : Up b c) : Up a c := up_trans h k
end
section
variable {P : Program} {d : Option Tmp} {ty : TypeId} {pos : String} {af : Array Edge} {g : Option (Nat × Bool)} {ρ : Operand → Value} {w : World}
theorem r_move {x : Operand} {v : Value} (h : ρ x = v) : (execOp ρ ⟨d, .move x, ty, pos, af, g⟩).run P w = .ok (.value v) w := by subst h; rfl
theorem r_assign {x : Operand} {v : Value} (h : ρ x = v) : (execOp ρ ⟨d, .assign x, ty, pos, af, g⟩).run P w = .ok (.value v) w := by subst h; rfl
theorem r_pick {c x y : Operand} {b : Bool} {u v : Value} (hc : ρ c = .bool b) (hx : ρ x = u) (hy : ρ y = v) : (execOp ρ ⟨d, .pick c x y, ty, pos, af, g⟩).run P w = .ok (.value (if b then u else v)) w := by
  simp [execOp, hc, hx, hy, asBool]
theorem r_pkT {c x y : Operand} {v : Value} (hc : ρ c = .bool true) (hx : ρ x = v) : (execOp ρ ⟨d, .pick c x y, ty, pos, af, g⟩).run P w = .ok (.value v) w := r_pick (u := v) (b := true) hc hx rfl
theorem r_pkF {c x y : Operand} {v : Value} (hc : ρ c = .bool false) (hy : ρ y = v) : (execOp ρ ⟨d, .pick c x y, ty, pos, af, g⟩).run P w = .ok (.value v) w := r_pick (v := v) (b := false) hc rfl hy
theorem r_load {t : TypeId} {x : Operand} {b k : Nat} {v : Value} {cs : Array Value} {T : TypeId} {fr : Nat × Nat} (hx : ρ x = .pointer (some ⟨b, k, none⟩)) (ht : ∀ w, (isAgg t).run P w = .ok false w)
    (hb : w.heap[b]? = some (.cells cs T fr)) (hv : cs.toList[k]? = some v) : (execOp ρ ⟨d, .load t x, ty, pos, af, g⟩).run P w = .ok (.value v) w := by
  have hc : w.cell? ⟨b, k, none⟩ = some v := by rw [Array.getElem?_toList] at hv; simp [World.cell?, hb, hv]
  simp [execOp, hx, Instr.loadAt, Instr.sureAddr, loadVar, ht, hc]
theorem r_loadc {t : TypeId} {x : Operand} {p : Addr} {v : Value} (hx : ρ x = .pointer (some p)) (ht : ∀ w, (isAgg t).run P w = .ok false w) (hc : w.cell? p = some v) : (execOp ρ ⟨d, .load t x, ty, pos, af, g⟩).run P w = .ok (.value v) w := by
  simp [execOp, hx, Instr.loadAt, Instr.sureAddr, loadVar, ht, hc]
theorem add_at (b k j : Nat) : (⟨b, k, none⟩ : Addr).add j = ⟨b, k + j, none⟩ := by unfold Addr.add; split <;> simp_all
theorem run_loadVars {t : TypeId} {b k : Nat} {vs : List Value} {cs : Array Value} {T : TypeId} {fr : Nat × Nat} (ht : ∀ w, (isAgg t).run P w = .ok true w) (hs : ∀ w, (sizeOf t).run P w = .ok vs.length w)
    (hb : w.heap[b]? = some (.cells cs T fr)) (hv : (cs.toList.drop k).take vs.length = vs) : (loadVar t ⟨b, k, none⟩).run P w = .ok (.agg vs.toArray) w := by
  have := run_loadCells_list (P := P) w ⟨b, k, none⟩ vs (fun j v hj => by
    rw [add_at]
    rw [← hv] at hj
    have hj2 : ((cs.toList.drop k).take vs.length)[j]? = some v := hj
    rw [List.getElem?_take] at hj2
    split at hj2
    · rw [List.getElem?_drop, Array.getElem?_toList] at hj2
      simp [World.cell?, hb, hj2]
    · cases hj2)
  simp [loadVar, ht, hs, this]
theorem run_loadVar1 {t : TypeId} {b k : Nat} {v : Value} {cs : Array Value} {T : TypeId} {fr : Nat × Nat} (ht : ∀ w, (isAgg t).run P w = .ok false w)
    (hb : w.heap[b]? = some (.cells cs T fr)) (hv : cs.toList[k]? = some v) : (loadVar t ⟨b, k, none⟩).run P w = .ok v w := by
  have hc : w.cell? ⟨b, k, none⟩ = some v := by rw [Array.getElem?_toList] at hv; simp [World.cell?, hb, hv]
  simp [loadVar, ht, hc]
theorem r_loads {t : TypeId} {x : Operand} {b k : Nat} {vs : List Value} {cs : Array Value} {T : TypeId} {fr : Nat × Nat} (hx : ρ x = .pointer (some ⟨b, k, none⟩)) (ht : ∀ w, (isAgg t).run P w = .ok true w) (hs : ∀ w, (sizeOf t).run P w = .ok vs.length w)
    (hb : w.heap[b]? = some (.cells cs T fr)) (hv : (cs.toList.drop k).take vs.length = vs) : (execOp ρ ⟨d, .load t x, ty, pos, af, g⟩).run P w = .ok (.value (.agg vs.toArray)) w := by
  simp [execOp, hx, Instr.loadAt, Instr.sureAddr, run_loadVars ht hs hb hv]
theorem r_store {t : TypeId} {x y : Operand} {b k : Nat} {v : Value} {vs cs' : List Value} {cs : Array Value} {T : TypeId} (hx : ρ x = .pointer (some ⟨b, k, none⟩)) (hy : ρ y = v) (hvs : v.cells = vs.toArray) (hs : ∀ w, (sizeOf t).run P w = .ok vs.length w)
    (hb : w.heap[b]? = some (.cells cs T (0, 0))) (hone : vs.all Value.oneCell' = true) (hk : k + vs.length ≤ cs.toList.length) (hcs : cs.toList.take k ++ vs ++ cs.toList.drop (k + vs.length) = cs') :
    ∃ w', (execOp ρ ⟨d, .store t x y, ty, pos, af, g⟩).run P w = .ok .skip w' ∧ w'.heap[b]? = some (.cells cs'.toArray T (0, 0)) ∧ Chg w w' b ∧ w'.heap.size = w.heap.size := by
  have hst := run_storeCells_at P b k T vs 0 cs w hb (by simpa using hk) (fun v hv => List.all_eq_true.1 hone v hv)
  rw [Nat.add_zero, hcs] at hst
  refine ⟨w.setRow b cs'.toArray, ?_, setRow_heap w b cs _ T _ hb, ⟨rfl, rfl, rfl, by simp, fun k _ hk => setRow_other w b k _ (fun e => hk (by rw [e]))⟩, by simp⟩
  simp [execOp, hx, hy, Instr.storeAt, Instr.sureAddr, storeVar, hs, hvs, hst]
theorem ss {P : Program} {ops : Array Oper} {Q : Exit → Act → World → Prop} {a : Act} {w : World} {J : Act → World → Prop} {d : Option Tmp} {ty : TypeId} {pos : String} {af : Array Edge} {g : Option (Nat × Bool)}
    {t : TypeId} {x y : Operand} {b k : Nat} {v : Value} {vs cs' : List Value} {cs : Array Value} {T : TypeId} (hw : Region.wanted (⟨d, .store t x y, ty, pos, af, g⟩ : Oper) (yielded ops a.tmps) = true) (hx : a.eval x = .pointer (some ⟨b, k, none⟩)) (hy : a.eval y = v) (hvs : v.cells = vs.toArray) (hs : ∀ w, (sizeOf t).run P w = .ok vs.length w)
    (hb : w.heap[b]? = some (.cells cs T (0, 0))) (hone : vs.all Value.oneCell' = true) (hk : k + vs.length ≤ cs.toList.length) (hcs : cs.toList.take k ++ vs ++ cs.toList.drop (k + vs.length) = cs')
    (kk : ∀ w', w'.heap[b]? = some (.cells cs'.toArray T (0, 0)) → Chg w w' b → J (a.put d undef) w') : St1 P ops Q ⟨d, .store t x y, ty, pos, af, g⟩ J a w := by
  obtain ⟨w', h1, h2, h3, _⟩ := r_store (P := P) (d := d) (ty := ty) (pos := pos) (af := af) (g := g) hx hy hvs hs hb hone hk hcs
  exact sk hw h1 (kk w' h2 h3)
theorem r_callv {f : FuncId} {x : Operand} {xs : List Operand} {ats : Array TypeId} {caps all : List Value} (hf : ∀ args w, (callFunc f args).run P w = .ok (.enter f args) w) (hx : ρ x = .func (.func f) #[] caps.toArray) (ha : xs.map ρ ++ caps = all) :
    (execOp ρ ⟨d, .call ⟨.value x, xs.toArray, ats⟩, ty, pos, af, g⟩).run P w = .ok (.enter f all.toArray) w := by
  subst ha
  simp [execOp, resolve, hx, Deferred.ofValue, invoke, hf]
theorem r_add {t yt : TypeId} {x y : Operand} {k : IntKind} {m n c : Int} (hx : ρ x = .int k m) (hy : ρ y = .int k n) (h : k.wrap (m + n) = c) : (execOp ρ ⟨d, .binOp .add t x y yt, ty, pos, af, g⟩).run P w = .ok (.value (.int k c)) w := by
  subst h; simp [execOp, hx, hy, eqGuard, binOp, Op.intArith]
theorem r_sub {t yt : TypeId} {x y : Operand} {k : IntKind} {m n c : Int} (hx : ρ x = .int k m) (hy : ρ y = .int k n) (h : k.wrap (m - n) = c) : (execOp ρ ⟨d, .binOp .sub t x y yt, ty, pos, af, g⟩).run P w = .ok (.value (.int k c)) w := by
  subst h; simp [execOp, hx, hy, eqGuard, binOp, Op.intArith]
theorem r_mul {t yt : TypeId} {x y : Operand} {k : IntKind} {m n c : Int} (hx : ρ x = .int k m) (hy : ρ y = .int k n) (h : k.wrap (m * n) = c) : (execOp ρ ⟨d, .binOp .mul t x y yt, ty, pos, af, g⟩).run P w = .ok (.value (.int k c)) w := by
  subst h; simp [execOp, hx, hy, eqGuard, binOp, Op.intArith]
theorem r_lt {t yt : TypeId} {x y : Operand} {k : IntKind} {m n : Int} (hx : ρ x = .int k m) (hy : ρ y = .int k n) : (execOp ρ ⟨d, .binOp .lss t x y yt, ty, pos, af, g⟩).run P w = .ok (.value (.bool (decide (m < n)))) w := by
  simp [execOp, hx, hy, eqGuard, binOp, Op.intCmp]
theorem r_le {t yt : TypeId} {x y : Operand} {k : IntKind} {m n : Int} (hx : ρ x = .int k m) (hy : ρ y = .int k n) : (execOp ρ ⟨d, .binOp .leq t x y yt, ty, pos, af, g⟩).run P w = .ok (.value (.bool (decide (m ≤ n)))) w := by
  simp [execOp, hx, hy, eqGuard, binOp, Op.intCmp]
theorem r_gt {t yt : TypeId} {x y : Operand} {k : IntKind} {m n : Int} (hx : ρ x = .int k m) (hy : ρ y = .int k n) : (execOp ρ ⟨d, .binOp .gtr t x y yt, ty, pos, af, g⟩).run P w = .ok (.value (.bool (decide (n < m)))) w := by
  simp [execOp, hx, hy, eqGuard, binOp, Op.intCmp]
theorem r_eq {t yt : TypeId} {x y : Operand} {k : IntKind} {m n : Int} (hx : ρ x = .int k m) (hy : ρ y = .int k n) : (execOp ρ ⟨d, .binOp .eql t x y yt, ty, pos, af, g⟩).run P w = .ok (.value (.bool (decide (m = n)))) w := by
  simp [execOp, hx, hy, eqGuard, binOp, Op.intCmp]; rfl
theorem r_ne {t yt : TypeId} {x y : Operand} {k : IntKind} {m n : Int} (hx : ρ x = .int k m) (hy : ρ y = .int k n) : (execOp ρ ⟨d, .binOp .neq t x y yt, ty, pos, af, g⟩).run P w = .ok (.value (.bool (decide (m ≠ n)))) w := by
  simp [execOp, hx, hy, eqGuard, binOp, Op.intCmp, bne]; rfl
theorem beq_bytes (m n : ByteArray) : (m.toList == n.toList) = decide (m = n) := by
  rw [Bool.eq_iff_iff]; simp only [beq_iff_eq, decide_eq_true_eq]
  constructor
  · intro h
    rw [ByteArray.toList_eq, ByteArray.toList_eq] at h
    cases m; cases n; simp only [ByteArray.mk.injEq]; exact Array.toList_inj.1 h
  · rintro rfl; rfl
theorem r_eqs {t yt : TypeId} {x y : Operand} {m n : ByteArray} (hx : ρ x = .string m) (hy : ρ y = .string n) : (execOp ρ ⟨d, .binOp .eql t x y yt, ty, pos, af, g⟩).run P w = .ok (.value (.bool (decide (m = n)))) w := by
  rw [← beq_bytes]; simp [execOp, hx, hy, eqGuard, binOp, Op.stringOp]
theorem r_nes {t yt : TypeId} {x y : Operand} {m n : ByteArray} (hx : ρ x = .string m) (hy : ρ y = .string n) : (execOp ρ ⟨d, .binOp .neq t x y yt, ty, pos, af, g⟩).run P w = .ok (.value (.bool (decide (m ≠ n)))) w := by
  rw [decide_not, ← beq_bytes]; simp [execOp, hx, hy, eqGuard, binOp, Op.stringOp]
theorem r_not {t : TypeId} {x : Operand} {b : Bool} (hx : ρ x = .bool b) : (execOp ρ ⟨d, .unOp .not t x, ty, pos, af, g⟩).run P w = .ok (.value (.bool (!b))) w := by
  simp [execOp, hx, Op.unary]
theorem r_len {t : TypeId} {x : Operand} {ad : Option Addr} {n c : Nat} {e : TypeId} (hu : P.underlying t = some (.slice e)) (hx : ρ x = .slice ad n c) :
    (execOp ρ ⟨d, .call ⟨.builtin .len, #[x], #[t]⟩, ty, pos, af, g⟩).run P w = .ok (.value (.int .i64 n)) w := by
  simp [execOp, resolve, hx, invoke, builtin, Builtin.len_, run_underlying hu, goInt]
theorem r_lens {t : TypeId} {x : Operand} {s : ByteArray} (hu : P.underlying t = some .string) (hx : ρ x = .string s) :
    (execOp ρ ⟨d, .call ⟨.builtin .len, #[x], #[t]⟩, ty, pos, af, g⟩).run P w = .ok (.value (.int .i64 s.size)) w := by
  simp [execOp, resolve, hx, invoke, builtin, Builtin.len_, run_underlying hu, goInt]
theorem r_ixaddr {t e : TypeId} {x i : Operand} {b o n c m sz : Nat} {k : IntKind} {j : Int} (hx : ρ x = .slice (some ⟨b, o, none⟩) n c) (hi : ρ i = .int k j) (hu : P.underlying t = some (.slice e)) (hsz : ∀ w, (sizeOf e).run P w = .ok sz w)
    (h0 : 0 ≤ j) (h1 : j < n) (hm : o + j.toNat * sz = m) : (execOp ρ ⟨d, .indexAddr t x i, ty, pos, af, g⟩).run P w = .ok (.value (.pointer (some ⟨b, m, none⟩))) w := by
  subst hm
  simp [execOp, hx, hi, Instr.indexAt, asIntOf, run_underlying hu, h0, h1, hsz, add_at]
theorem r_fieldAddr {t : TypeId} {x : Operand} {i : Nat} {u v : Value} (hx : ρ x = u) (h : ∀ w, (Instr.fieldAt t u i).run P w = .ok v w) : (execOp ρ ⟨d, .fieldAddr t x i, ty, pos, af, g⟩).run P w = .ok (.value v) w := by
  simp [execOp, hx, h]
theorem r_extract {x : Operand} {i : Nat} {vs : List Value} {v : Value} (hx : ρ x = .tuple vs.toArray) (h : vs[i]? = some v) : (execOp ρ ⟨d, .extract x i, ty, pos, af, g⟩).run P w = .ok (.value v) w := by
  simp [execOp, hx, Instr.extract, h]
theorem r_nilCheck {x : Operand} {p : Addr} (hx : ρ x = .pointer (some p)) : (execOp ρ ⟨d, .nilCheck x, ty, pos, af, g⟩).run P w = .ok (.value (.pointer (some p))) w := by
  simp [execOp, hx]
theorem r_box {t : TypeId} {x : Operand} {v : Value} {cs : Array Value} (hx : ρ x = v) (hv : v.cells = cs) : (execOp ρ ⟨d, .box t x, ty, pos, af, g⟩).run P w = .ok (.value ((fun b => .pointer (some ⟨b, 0, none⟩)) w.heap.size)) (w.alloc (.cells cs t)) := by
  subst hx; subst hv
  simp [execOp, Instr.box, newVar, newRow]
theorem r_alloc {t : TypeId} {z : Value} {cs : Array Value} (hz : ∀ w, (zeroValue t).run P w = .ok z w) (hv : z.cells = cs) : (execOp ρ ⟨d, .alloc t, ty, pos, af, g⟩).run P w = .ok (.value ((fun b => .pointer (some ⟨b, 0, none⟩)) w.heap.size)) (w.alloc (.cells cs t)) := by
  subst hv
  simp [execOp, Instr.alloc, hz, newVar, newRow]
theorem r_makeFunc {fn : Fn} {xs ys : List Operand} {us vs : List Value} (hx : xs.map ρ = us) (hy : ys.map ρ = vs) : (execOp ρ ⟨d, .makeFunc fn xs.toArray ys.toArray, ty, pos, af, g⟩).run P w = .ok (.value (.func fn us.toArray vs.toArray)) w := by
  subst hx; subst hy
  simp [execOp, Instr.makeFunc]
theorem r_makeMap {t : TypeId} : (execOp ρ ⟨d, .makeMap t none, ty, pos, af, g⟩).run P w = .ok (.value ((fun b => .map (some b)) w.heap.size)) (w.alloc (.map #[] 0)) := by
  simp [execOp, Instr.makeMap]
theorem r_build {t : TypeId} {fs : List Field} {pl : List (Nat × Nat)} {z : Value} {xs : List (Nat × Operand)} {ps : List (Nat × Value)} {cs : List Value} (hu : P.underlying t = some (.struct fs.toArray)) (hz : ∀ w, (zeroValue t).run P w = .ok z w)
    (hpl : ∀ w, (fs.mapM fun f => Prod.mk f.offset <$> sizeOf f.type : Sem (List (Nat × Nat))).run P w = .ok pl w) (hps : xs.map (fun x => (x.1, ρ x.2)) = ps) (hf : Instr.fill (fun i => pl[i]?) z.cells ps = some cs.toArray) :
    (execOp ρ ⟨d, .build t xs.toArray, ty, pos, af, g⟩).run P w = .ok (.value (.agg cs.toArray)) w := by
  subst hps
  simp [execOp, Instr.build, hz, run_underlying hu, hpl, hf]
theorem r_buildSlice {t e : TypeId} {n sz : Nat} {z : Value} {xs : List (Nat × Operand)} {ps : List (Nat × Value)} {cs : Array Value} (hu : P.underlying t = some (.slice e)) (hs : ∀ w, (sizeOf e).run P w = .ok sz w) (hz : ∀ w, (zeroValue e).run P w = .ok z w)
    (hn : n * sz ≤ 16777216) (h0 : n * sz ≠ 0) (hps : xs.map (fun x => (x.1, ρ x.2)) = ps) (hf : Instr.fill (fun i => some (i * sz, sz)) ((List.range (n * sz)).map fun i => z.cells[i % z.cells.size]!).toArray ps = some cs) :
    (execOp ρ ⟨d, .buildSlice t n xs.toArray, ty, pos, af, g⟩).run P w = .ok (.value ((fun b => .slice (some ⟨b, 0, none⟩) n n) w.heap.size)) (w.alloc (.cells cs e)) := by
  subst hps
  have hr : (Array.range (n * sz)).map (fun i => z.cells[i % z.cells.size]!) = ((List.range (n * sz)).map fun i => z.cells[i % z.cells.size]!).toArray := by
    apply Array.ext'
    simp [Array.toList_map, Array.toList_range]
  have hle : ¬ n * sz > 2 ^ 24 := by simp only [gt_iff_lt, Nat.not_lt]; exact hn
  simp only [execOp, Instr.buildSlice, Sem.run_bind, run_underlying hu, Result.andThen_ok, hs, hz, if_neg hle, if_neg h0, hr, List.map_toArray, Sem.run_pure, hf]
  simp [newRow]
end
section
variable {P : Program} {ops : Array Oper} {Q : Exit → Act → World → Prop} {C : World → Prop} {Qq : Act → Prop} {a : Act} {w : World} {rest : List Oper} {d : Option Tmp} {ty : TypeId} {pos : String} {af : Array Edge} {x : Operand} {v : Value}
theorem wmv (k : WL P ops Q rest (a.put d v) w) (h : a.eval x = v := by kernel_rfl) : WL P ops Q (⟨d, .move x, ty, pos, af, none⟩ :: rest) a w := wl (sv rfl (r_move h) k)
theorem was (k : WL P ops Q rest (a.put d v) w) (h : a.eval x = v := by kernel_rfl) : WL P ops Q (⟨d, .assign x, ty, pos, af, none⟩ :: rest) a w := wl (sv rfl (r_assign h) k)
theorem qmv (k : QL P ops C Qq rest (a.put d v)) (h : a.eval x = v := by kernel_rfl) : QL P ops C Qq (⟨d, .move x, ty, pos, af, none⟩ :: rest) a := qv rfl (fun _ _ => r_move h) k
theorem qas (k : QL P ops C Qq rest (a.put d v)) (h : a.eval x = v := by kernel_rfl) : QL P ops C Qq (⟨d, .assign x, ty, pos, af, none⟩ :: rest) a := qv rfl (fun _ _ => r_assign h) k
end
section
variable {P : Program} {ops : Array Oper} {Q : Exit → Act → World → Prop} {a : Act} {w : World} {rest : List Oper} {o : Oper} {S : World → Prop}
theorem wsp (k : WL P ops Q rest (a.put o.dst undef) w) (hw : Region.wanted o (yielded ops a.tmps) = false := by kernel_rfl) : WL P ops Q (o :: rest) a w := wl (sp hw k)
theorem hvq {i : Nat} {oi : Oper} {v : Value} {fuel : Nat} {listed : Array Bool} (hi : ops[i]? = some oi) (hQ : ∀ c a w, Q (.panic c) (a.put oi.dst v) w → Q (.panic c) a w) (hS : S w) (hw : Region.wanted oi (yielded ops a.tmps) = true) (h : ∀ w', S w' → (execOp a.eval oi).run P w' = .ok (.value v) w')
    (k : HL P ops Q S fuel (listed.setIfInBounds i true) (a.put oi.dst v) w) (hs : Region.noSelect ops = true := by kernel_rfl) (hf : Region.free .any ops listed i = true := by kernel_rfl) (hr : (Region.ready .any ops listed).contains i = true := by kernel_rfl) : HL P ops Q S (fuel + 1) listed a w :=
  hv hi hs hf hr hQ hS hw h k
end
section
variable {P : Program} {fn : Func} {tmps : Array Value} {w : World}
def RV (P : Program) (w : World) (tmps : Array Value) : ResultVar → Value → Prop
  | .tmp t, v => tmps[t]?.getD undef = v
  | .cell a t, v => ∃ p, tmps[a]?.getD undef = .pointer (some p) ∧ (loadVar t p).run P w = .ok v w
theorem rv_t {t : Tmp} {v : Value} (h : tmps[t]?.getD undef = v) : RV P w tmps (.tmp t) v := h
theorem rv_c {a : Tmp} {t : TypeId} {p : Addr} {v : Value} (h : tmps[a]?.getD undef = .pointer (some p)) (hl : (loadVar t p).run P w = .ok v w) : RV P w tmps (.cell a t) v := ⟨p, h, hl⟩
theorem res0 (h : fn.results = #[]) : (results fn tmps).run P w = .ok (.tuple #[]) w := results_none h tmps P w
theorem res1 {r : ResultVar} {v : Value} (h : fn.results = #[r]) (h1 : RV P w tmps r v) : (results fn tmps).run P w = .ok v w := by
  cases r <;> simp only [RV] at h1 <;> (try obtain ⟨p, h1, h1'⟩ := h1) <;> simp [results, h, asAddr, *]
theorem res2 {r s : ResultVar} {u v : Value} (h : fn.results = #[r, s]) (h1 : RV P w tmps r u) (h2 : RV P w tmps s v) : (results fn tmps).run P w = .ok (.tuple #[u, v]) w := by
  cases r <;> cases s <;> simp only [RV] at h1 h2 <;> (try obtain ⟨p, h1, h1'⟩ := h1) <;> (try obtain ⟨q, h2, h2'⟩ := h2) <;> simp [results, h, asAddr, *]
end
end Go.Proofs.YtefhfoioeoijlaaGreatDoor

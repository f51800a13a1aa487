/- Ex1 -/
import Derived.Test.YtefhfoioeoijlaaGreatRws
import Derived.Test.YtefhfoioeoijlaaGreatOrd
import Derived.Test.YtefhfoioeoijlaaGreatOpBD
import Derived.Test.YtefhfoioeoijlaaGreatTrA
set_option linter.unusedVariables false
set_option linter.unusedSimpArgs false
namespace Go.Proofs.YtefhfoioeoijlaaGreat
open Go Go.RowKit Go.Sort
theorem up_drewN (w : World) (n : Nat) : Below w.heap.size w (w.drewN n) := (Ups.drewN w n).below
theorem r04right_any (s : Stamp) (w : World) : Calls Tryz.prog 43 #[stV s] w fun e w' => e = .returned (.bool (stR s)) ∧ Ups w w' := by
  unfold stV
  go_enter Tryz.func43, Tryz.ntmps43
  go_wp2
  all_goals (go_ret; exact ⟨ret_bool (by rw [Bool.eq_iff_iff]; simp [stR, mbB]; try omega), Ups.alloc _ _⟩)

theorem r04right_at (t u : Int) (w : World) : Calls Tryz.prog 43 #[.agg #[.int .i64 t, .int .i64 u]] w fun e w' => e = .returned (.bool (stR ⟨t, u⟩)) ∧ Ups w w' := r04right_any ⟨t, u⟩ w
theorem r15place_at (t u : Int) (w : World) : Calls Tryz.prog 44 #[.agg #[.int .i64 t, .int .i64 u]] w fun e w' => e = .returned (.bool (placeB ⟨t, u⟩)) ∧ Ups w w' := by
  by_cases ht : t = 0
  · by_cases hu : u = 0
    · subst ht; subst hu
      have HP := Lib.hid placeB_zero
      go_enter Tryz.func44, Tryz.ntmps44
      go_wp2_with fail
      go_ret
      exact ⟨ret_bool HP.out.symm, Ups.alloc _ _⟩
    · have HP := Lib.hid (placeB_w (t := t) hu)
      subst ht
      have hu' : (u == 0) = false := beq_eq_false_iff_ne.2 hu
      go_enter Tryz.func44, Tryz.ntmps44
      go_wp2_with fail
      refine (r04right_at _ _ _).mono ?_
      rintro e w' ⟨rfl, hu⟩
      go_wp2_with fail
      go_ret
      exact ⟨ret_bool HP.out.symm, (Ups.alloc _ _).trans hu⟩
  · have HP := Lib.hid (placeB_t (u := u) ht)
    have ht' : (t == 0) = false := beq_eq_false_iff_ne.2 ht
    go_enter Tryz.func44, Tryz.ntmps44
    go_wp2_with fail
    refine (r04right_at _ _ _).mono ?_
    rintro e w' ⟨rfl, hu⟩
    go_wp2_with fail
    go_ret
    exact ⟨ret_bool HP.out.symm, (Ups.alloc _ _).trans hu⟩

/-- The document's: byte by byte. -/
theorem r15name_any (s : ByteArray) (w : World) (hs : s.size ≤ 9223372036854775807) : Calls Tryz.prog 45 #[.string s] w fun e w' => e = .returned (.bool (nameB s)) ∧ w' = w := by
  by_cases h0 : 1 ≤ s.size ∧ s.size ≤ 24 ∧ ¬ s.toList = [46] ∧ ¬ s.toList = [46, 46]
  · obtain ⟨h1, h2, h3, h4⟩ := h0
    have HN := Lib.hid (show nameB s = nameCh s by unfold nameB; rw [decide_eq_true ⟨h1, h2⟩, beq_eq_false_iff_ne.2 h3, beq_eq_false_iff_ne.2 h4]; rfl)
    have b1 : decide (s.size < 1) = false := decide_eq_false (by omega)
    have b2 : decide (24 < s.size) = false := decide_eq_false (by omega)
    have b3 : (s.toList == [46]) = false := beq_eq_false_iff_ne.2 h3
    have b4 : (s.toList == [46, 46]) = false := beq_eq_false_iff_ne.2 h4
    go_enter Tryz.func45, Tryz.ntmps45
    go_wp2
    go_loop [3] (fun i => ∃ k : Nat, k ≤ s.size ∧ i = .int .i64 k ∧ Hid (∀ j, j < k → byteOK (s.get! j) = true)) (fun i => s.size - (intOf i).toNat)
    case atStart => exact ⟨0, Nat.zero_le _, rfl, fun j hj => by omega⟩
    case round =>
      obtain ⟨k, hk, rfl, H⟩ := hrel
      by_cases hlt : k < s.size
      · have hltz : (k : Int) < (s.size : Int) := by omega
        have hg := get_eq s k hlt
        by_cases ho : byteOK (s.get! k) = true
        · have HO := Lib.hid ho
          have hb : oddR s[k].toNat = false := by rw [hg] at ho; simpa [byteOK] using ho
          have hb1 : ¬ (s[k].toNat : Int) < 32 ∧ ¬ (s[k].toNat : Int) = 127 ∧ ¬ (s[k].toNat : Int) = 47 ∧ ¬ (s[k].toNat : Int) = 126 := by
            simp [oddR] at hb; omega
          obtain ⟨c1, c2, c3, c4⟩ := hb1
          have d2 : ((s[k].toNat : Int) == 127) = false := beq_eq_false_iff_ne.2 c2
          have d3 : ((s[k].toNat : Int) == 47) = false := beq_eq_false_iff_ne.2 c3
          have d4 : ((s[k].toNat : Int) == 126) = false := beq_eq_false_iff_ne.2 c4
          clear hg ho hb c2 c3 c4
          go_wp2
          go_round
          case rel =>
            refine ⟨k + 1, by omega, by go_num, fun j hj => ?_⟩
            by_cases e : j = k
            · rw [e]; exact HO.out
            · exact H.out j (by omega)
          case measure => simp [intOf]; omega
        · have HF := Lib.hid (show nameB s = false by
            rw [HN.out]
            unfold nameCh
            rw [List.all_eq_false]
            exact ⟨s[k], List.mem_iff_getElem?.2 ⟨k, Lib.data_getElem? s k hlt⟩, by rw [← hg]; simpa using ho⟩)
          have hb : oddR s[k].toNat = true := by rw [hg] at ho; simpa [byteOK] using ho
          have hb1 : (s[k].toNat : Int) < 32 ∨ (s[k].toNat : Int) = 127 ∨ (s[k].toNat : Int) = 47 ∨ (s[k].toNat : Int) = 126 := by
            simp [oddR] at hb; omega
          clear hg ho hb
          rcases hb1 with c | c | c | c
          · go_wp2
            go_ret
            exact ⟨ret_bool HF.out.symm, rfl⟩
          · have c0 : ¬ (s[k].toNat : Int) < 32 := by omega
            have d127 : ((s[k].toNat : Int) == 127) = true := beq_iff_eq.2 c
            clear c
            go_wp2
            go_ret
            exact ⟨ret_bool HF.out.symm, rfl⟩
          · have c0 : ¬ (s[k].toNat : Int) < 32 := by omega
            have d127 : ((s[k].toNat : Int) == 127) = false := beq_eq_false_iff_ne.2 (by omega)
            have d47 : ((s[k].toNat : Int) == 47) = true := beq_iff_eq.2 c
            clear c
            go_wp2
            go_ret
            exact ⟨ret_bool HF.out.symm, rfl⟩
          · have c0 : ¬ (s[k].toNat : Int) < 32 := by omega
            have d127 : ((s[k].toNat : Int) == 127) = false := beq_eq_false_iff_ne.2 (by omega)
            have d47 : ((s[k].toNat : Int) == 47) = false := beq_eq_false_iff_ne.2 (by omega)
            have d126 : ((s[k].toNat : Int) == 126) = true := beq_iff_eq.2 c
            clear c
            go_wp2
            go_ret
            exact ⟨ret_bool HF.out.symm, rfl⟩
      · go_wp2
        go_ret
        refine ⟨ret_bool ?_, rfl⟩
        rw [HN.out]
        unfold nameCh
        symm
        rw [List.all_eq_true]
        intro c hc
        obtain ⟨i, hi⟩ := List.mem_iff_getElem?.1 hc
        have h2 : i < s.size := by
          have := (List.getElem?_eq_some_iff.1 hi).1
          simpa using this
        rw [Lib.data_getElem? s i h2] at hi
        injection hi with hi
        rw [← hi, ← get_eq s i h2]
        exact H.out i (by omega)
  · have HF := Lib.hid (show nameB s = false by
      unfold nameB
      by_cases g1 : 1 ≤ s.size ∧ s.size ≤ 24
      · by_cases g3 : s.toList = [46]
        · simp [g3]
        · by_cases g4 : s.toList = [46, 46]
          · simp [g4]
          · exact absurd ⟨g1.1, g1.2, g3, g4⟩ h0
      · simp [g1])
    by_cases g1 : s.size < 1
    · have b1 : decide (s.size < 1) = true := decide_eq_true g1
      clear h0
      go_enter Tryz.func45, Tryz.ntmps45
      go_wp2_with fail
      go_ret
      exact ⟨ret_bool HF.out.symm, rfl⟩
    · have b1 : decide (s.size < 1) = false := decide_eq_false g1
      by_cases g2 : 24 < s.size
      · have b2 : decide (24 < s.size) = true := decide_eq_true g2
        clear h0
        go_enter Tryz.func45, Tryz.ntmps45
        go_wp2_with fail
        go_ret
        exact ⟨ret_bool HF.out.symm, rfl⟩
      · have b2 : decide (24 < s.size) = false := decide_eq_false g2
        by_cases g3 : s.toList = [46]
        · have b3 : (s.toList == [46]) = true := beq_iff_eq.2 g3
          clear h0 g3
          go_enter Tryz.func45, Tryz.ntmps45
          go_wp2_with fail
          go_ret
          exact ⟨ret_bool HF.out.symm, rfl⟩
        · have b3 : (s.toList == [46]) = false := beq_eq_false_iff_ne.2 g3
          have g4 : s.toList = [46, 46] := by
            by_cases g4 : s.toList = [46, 46]
            · exact g4
            · exact absurd ⟨by omega, by omega, g3, g4⟩ h0
          have b4 : (s.toList == [46, 46]) = true := beq_iff_eq.2 g4
          clear h0 g3 g4
          go_enter Tryz.func45, Tryz.ntmps45
          go_wp2_with fail
          go_ret
          exact ⟨ret_bool HF.out.symm, rfl⟩
set_option maxHeartbeats 2000000 in
theorem r15right_any (o : OpD) (A : Option Addr) (n c : Nat) (hn : o.data.length = n) (hs : o.name.size ≤ 9223372036854775807) (w : World) :
    Calls Tryz.prog 25 #[opV o (.slice A n c)] w fun e w' => e = .returned (.bool (rightB o)) ∧ Below w.heap.size w w' := by
  have f1 := Lib.hid (right_f1 o)
  have f2 := Lib.hid (right_f2 o)
  have f3 := Lib.hid (right_f3 o)
  have f4 := Lib.hid (right_f4 o)
  have fb := Lib.hid (right_b o)
  have g1 := Lib.hid (body_1 o)
  have g2 := Lib.hid (body_2 o)
  have g3 := Lib.hid (body_3 o)
  have g4 := Lib.hid (body_4 o)
  have g5 := Lib.hid (body_5 o)
  obtain ⟨kind, ⟨at1, at2⟩, ⟨n1, n2⟩, ⟨p1, p2⟩, dir, name, data⟩ := o
  have HN := Lib.hid hn
  clear hn
  simp only at f1 f2 f3 f4 fb g1 g2 g3 g4 g5 HN hs
  unfold opV
  generalize hR : rightB _ = R at f1 f2 f3 f4 fb ⊢
  generalize hB : bodyB _ = B at fb g1 g2 g3 g4 g5
  clear hR hB
  go_enter Tryz.func25, Tryz.ntmps25
  go_wp2_with fail
  refine (r04right_at _ _ _).mono ?_
  rintro e w1 ⟨rfl, hu⟩
  have hb1 := up_trans (up_alloc w _) hu.below
  obtain ⟨hc1, hf1⟩ := bcell hu.below
  cases hat : stR ⟨at1, at2⟩ with
  | false =>
    have E := Lib.hid (f1.out hat)
    go_wp2_with fail
    go_ret
    exact ⟨ret_bool E.out.symm, hb1⟩
  | true =>
    have HAT := Lib.hid hat
    clear hat
    go_wp2_with fail
    refine (r04right_at _ _ _).mono ?_
    rintro e w2 ⟨rfl, hu2⟩
    have hb2 := up_trans hb1 hu2.below
    obtain ⟨hc2, hf2⟩ := bcell hu2.below
    have hz2 : w.heap.size < w1.heap.size := by have := hu.size; simp at this; omega
    cases hnd : stR ⟨n1, n2⟩ with
    | false =>
      have E := Lib.hid (f2.out hnd)
      clear hnd
      go_wp2_with fail
      go_ret
      exact ⟨ret_bool E.out.symm, hb2⟩
    | true =>
      have HND := Lib.hid hnd
      clear hnd
      have FB := fun h3 h4 => fb.out HAT.out HND.out h3 h4
      have FBH := Lib.hid FB
      clear FB
      have hnn : decide (0 < data.length) = decide (0 < n) := by rw [HN.out]
      have HNN := Lib.hid hnn
      clear hnn
      by_cases k1 : kind = 1
      · subst k1
        by_cases h0 : 0 < n
        · have E := Lib.hid (f4.out (by rw [HNN.out]; exact decide_eq_true h0) (by decide))
          have h0z : (0 : Int) < (n : Int) := by omega
          go_wp2_with fail
          go_ret
          exact ⟨ret_bool E.out.symm, hb2⟩
        · have E := Lib.hid ((FBH.out (.inr (by decide)) (.inl (by rw [HNN.out]; exact decide_eq_false h0))).trans (g1.out (by decide)))
          have h0z : ¬ (0 : Int) < (n : Int) := by omega
          have b0 : decide ((0 : Int) < (n : Int)) = false := decide_eq_false h0z
          go_wp2_with (first
            | (go_at_call 44; refine (r15place_at _ _ _).mono ?_; rintro e w3 ⟨rfl, hu3⟩; have hb3 := up_trans hb2 hu3.below; obtain ⟨hc3, hf3⟩ := bcell hu3.below; have hz3 : w.heap.size < w2.heap.size := by have := hu2.size; omega)
            | (go_at_call 45; refine (r15name_any _ _ hs).mono ?_; rintro e w4 ⟨rfl, rfl⟩))
          all_goals (go_ret; exact ⟨ret_bool (by rw [E.out]; simp [*]), by first | exact hb3 | exact hb2⟩)
      · by_cases k2 : kind = 2
        · subst k2
          by_cases h0 : 0 < n
          · have h0z : (0 : Int) < (n : Int) := by omega
            have E := Lib.hid (f4.out (by rw [HNN.out]; exact decide_eq_true h0) (by decide))
            go_wp2_with fail
            go_ret
            exact ⟨ret_bool E.out.symm, hb2⟩
          · have h0z : ¬ (0 : Int) < (n : Int) := by omega
            have b0 : decide ((0 : Int) < (n : Int)) = false := decide_eq_false h0z
            cases dir with
            | true =>
              have E := Lib.hid (f3.out rfl (by decide))
              go_wp2_with fail
              go_ret
              exact ⟨ret_bool E.out.symm, hb2⟩
            | false =>
              have E := Lib.hid ((FBH.out (.inl rfl) (.inl (by rw [HNN.out]; exact decide_eq_false h0))).trans (g2.out (by decide) (by decide)))
              go_wp2_with (first
                | (go_at_call 44; refine (r15place_at _ _ _).mono ?_; rintro e w3 ⟨rfl, hu3⟩; have hb3 := up_trans hb2 hu3.below; obtain ⟨hc3, hf3⟩ := bcell hu3.below; have hz3 : w.heap.size < w2.heap.size := by have := hu2.size; omega)
                | (go_at_call 45; refine (r15name_any _ _ hs).mono ?_; rintro e w4 ⟨rfl, rfl⟩))
              all_goals (go_ret; exact ⟨ret_bool (by rw [E.out]; simp [*, zeroS]), by first | exact hb3 | exact hb2⟩)
        · by_cases k3 : kind = 3
          · subst k3
            by_cases h0 : 0 < n
            · have h0z : (0 : Int) < (n : Int) := by omega
              have E := Lib.hid (f4.out (by rw [HNN.out]; exact decide_eq_true h0) (by decide))
              go_wp2_with fail
              go_ret
              exact ⟨ret_bool E.out.symm, hb2⟩
            · have h0z : ¬ (0 : Int) < (n : Int) := by omega
              have b0 : decide ((0 : Int) < (n : Int)) = false := decide_eq_false h0z
              cases dir with
              | true =>
                have E := Lib.hid (f3.out rfl (by decide))
                go_wp2_with fail
                go_ret
                exact ⟨ret_bool E.out.symm, hb2⟩
              | false =>
                have E := Lib.hid ((FBH.out (.inl rfl) (.inl (by rw [HNN.out]; exact decide_eq_false h0))).trans (g3.out (by decide) (by decide) (by decide)))
                go_wp2_with (first
                  | (go_at_call 44; refine (r15place_at _ _ _).mono ?_; rintro e w3 ⟨rfl, hu3⟩; have hb3 := up_trans hb2 hu3.below; obtain ⟨hc3, hf3⟩ := bcell hu3.below; have hz3 : w.heap.size < w2.heap.size := by have := hu2.size; omega)
                  | (go_at_call 45; refine (r15name_any _ _ hs).mono ?_; rintro e w4 ⟨rfl, rfl⟩))
                all_goals (go_ret; exact ⟨ret_bool (by rw [E.out]; simp [*, zeroS]), by first | exact hb3 | exact hb2⟩)
          · by_cases k4 : kind = 4
            · subst k4
              have HL := Lib.hid (show decide (data.length ≤ 400) = decide ((n : Int) ≤ 400) by rw [HN.out]; exact decide_eq_decide.2 (by omega))
              cases dir with
              | true =>
                  have E := Lib.hid (f3.out rfl (by decide))
                  go_wp2_with fail
                  go_ret
                  exact ⟨ret_bool E.out.symm, hb2⟩
              | false =>
                have E := Lib.hid ((FBH.out (.inl rfl) (.inr (by decide))).trans ((g4.out (by decide) (by decide) (by decide) (by decide)).trans (by rw [HL.out])))
                go_wp2_with (first
                  | (go_at_call 44; refine (r15place_at _ _ _).mono ?_; rintro e w3 ⟨rfl, hu3⟩; have hb3 := up_trans hb2 hu3.below; obtain ⟨hc3, hf3⟩ := bcell hu3.below; have hz3 : w.heap.size < w2.heap.size := by have := hu2.size; omega)
                  | (go_at_call 45; refine (r15name_any _ _ hs).mono ?_; rintro e w4 ⟨rfl, rfl⟩))
                all_goals (go_ret; exact ⟨ret_bool (by rw [E.out]; simp [*, zeroS]), by first | exact hb3 | exact hb2⟩)
            · have b1 : (kind == 1) = false := beq_eq_false_iff_ne.2 k1
              have b2 : (kind == 2) = false := beq_eq_false_iff_ne.2 k2
              have b3 : (kind == 3) = false := beq_eq_false_iff_ne.2 k3
              have b4 : (kind == 4) = false := beq_eq_false_iff_ne.2 k4
              by_cases h0 : 0 < n
              · have h0z : (0 : Int) < (n : Int) := by omega
                have E := Lib.hid (f4.out (by rw [HNN.out]; exact decide_eq_true h0) b4)
                go_wp2_with fail
                go_ret
                exact ⟨ret_bool E.out.symm, hb2⟩
              · have h0z : ¬ (0 : Int) < (n : Int) := by omega
                have b0 : decide ((0 : Int) < (n : Int)) = false := decide_eq_false h0z
                cases dir with
                | true =>
                  have E := Lib.hid (f3.out rfl b1)
                  go_wp2_with fail
                  go_ret
                  exact ⟨ret_bool E.out.symm, hb2⟩
                | false =>
                  have E := Lib.hid ((FBH.out (.inl rfl) (.inl (by rw [HNN.out]; exact decide_eq_false h0))).trans (g5.out b1 b2 b3 b4))
                  go_wp2_with fail
                  go_ret
                  exact ⟨ret_bool E.out.symm, hb2⟩
section
variable {P : Program} {fn : Func} {tmps : Array Value} {w : World}
theorem res3 {r s t : ResultVar} {u v x : Value} (h : fn.results = #[r, s, t]) (h1 : RV P w tmps r u) (h2 : RV P w tmps s v) (h3 : RV P w tmps t x) : (results fn tmps).run P w = .ok (.tuple #[u, v, x]) w := by
  cases r <;> cases s <;> cases t <;> simp only [RV] at h1 h2 h3 <;> (try obtain ⟨p, h1, h1'⟩ := h1) <;> (try obtain ⟨q, h2, h2'⟩ := h2) <;> (try obtain ⟨q', h3, h3'⟩ := h3) <;> simp [results, h, asAddr, *]
end
theorem placeI_at {L : List Item} {n : Stamp} {k : Nat} {x : Item} (hx : L[k]? = some x) (e : x.node = n) (h : ∀ (j : Nat) (y : Item), j < k → L[j]? = some y → y.node ≠ n) : placeI L n = k := by
  have hk := (List.getElem?_eq_some_iff.1 hx).1
  have : idxI L n = k := by
    unfold idxI
    rw [List.findIdx_eq hk]
    refine ⟨by have := (List.getElem?_eq_some_iff.1 hx).2; simp [this, e], fun j hj => ?_⟩
    have := h j L[j] hj (List.getElem?_eq_getElem (by omega))
    simp [this]
  unfold placeI
  rw [this, if_pos hk]
theorem placeI_none {L : List Item} {n : Stamp} (h : ∀ (j : Nat) (y : Item), L[j]? = some y → y.node ≠ n) : placeI L n = -1 := by
  unfold placeI
  rw [if_neg]
  intro hl
  have h1 := List.findIdx_getElem (w := hl)
  have := h _ _ (List.getElem?_eq_getElem hl)
  simp at h1
  exact this h1
theorem rowI_is (B base : Nat) (w : World) (v : Value) (L : List Item) : RowI B base w v L = IRow 76 B base w v L := rfl
theorem fold1 {it : Item} {there : Bool} {L : List Item} {k : Nat} {x : Item} (h : L[k]? = some x) : foldI it there (L.take (k + 1)) = stepI it (foldI it there (L.take k)) x := by
  unfold foldI; rw [tk h, List.foldl_append]; rfl
section
variable {it x : Item} {p : List Item × Bool}
theorem step_in (hi : p.2 = true) (hn : x.node ≠ it.node) : stepI it p x = (p.1 ++ [x], true) := by simp [stepI, hi, hn]
theorem step_in' (hi : p.2 = true) (hn : x.node = it.node) : stepI it p x = (p.1, true) := by cases p; simp at hi; simp [stepI, hi, hn]
theorem step_lt (hi : p.2 = false) (hl : lessS it.node x.node = true) (hn : x.node ≠ it.node) : stepI it p x = (p.1 ++ [it] ++ [x], true) := by simp [stepI, hi, hl, hn]
theorem step_lt' (hi : p.2 = false) (hl : lessS it.node x.node = true) (hn : x.node = it.node) : stepI it p x = (p.1 ++ [it], true) := by unfold stepI; rw [hi, hl, if_pos (by rfl), if_pos hn]
theorem step_ge (hi : p.2 = false) (hl : lessS it.node x.node = false) (hn : x.node ≠ it.node) : stepI it p x = (p.1 ++ [x], false) := by simp [stepI, hi, hl, hn]
theorem step_ge' (hi : p.2 = false) (hl : lessS it.node x.node = false) (hn : x.node = it.node) : stepI it p x = (p.1, false) := by unfold stepI; rw [if_neg (by rw [hi, hl]; simp), if_pos hn]; cases p; simp at hi; rw [hi]
end
theorem lessS_eq (a b : Stamp) : lessS a b = ltS a b := rfl
theorem fold_in (it : Item) : ∀ (L acc : List Item), L.foldl (stepI it) (acc, true) = (acc ++ L.filter (fun x => !decide (x.node = it.node)), true)
  | [], acc => by simp
  | x :: L, acc => by
    rw [List.foldl_cons]
    by_cases h : x.node = it.node
    · rw [step_in' rfl h, fold_in it L]; simp [h]
    · rw [step_in rfl h, fold_in it L]; simp [h]
theorem filter_none {it : Item} {L : List Item} (h : ∀ x ∈ L, x.node ≠ it.node) : L.filter (fun x => !decide (x.node = it.node)) = L := by
  rw [List.filter_eq_self]; intro x hx; simpa using h x hx
theorem fold_out (it : Item) : ∀ (L acc : List Item), Srt L → (let p := L.foldl (stepI it) (acc, false); if p.2 then p.1 else p.1 ++ [it]) = acc ++ putI it L
  | [], acc, _ => by simp [putI]
  | x :: L, acc, h => by
    obtain ⟨h1, h2⟩ := List.pairwise_cons.1 h
    rw [List.foldl_cons]
    by_cases hl : lessS it.node x.node = true
    · have hn : x.node ≠ it.node := fun e => by rw [e, lessS_eq, ltS_irrefl] at hl; cases hl
      rw [step_lt rfl hl hn, fold_in]
      have hno : ∀ y ∈ L, y.node ≠ it.node := fun y hy e => by
        have a := h1 y hy
        rw [e] at a
        rw [lessS_eq] at hl
        rw [ltS_asymm a] at hl; cases hl
      simp only [if_true]
      rw [filter_none hno]
      simp only [putI]
      rw [if_pos (by rw [← lessS_eq]; exact hl)]
      simp
    · have hl' : lessS it.node x.node = false := by simpa using hl
      by_cases hn : x.node = it.node
      · rw [step_ge' rfl hl' hn]
        have hall : ∀ y ∈ L, lessS it.node y.node = true := fun y hy => by rw [← hn]; exact h1 y hy
        have hput : putI it (x :: L) = it :: L := by simp only [putI]; rw [if_neg (by rw [← lessS_eq, hl']; simp), if_pos hn]
        rw [hput]
        cases L with
        | nil => simp
        | cons y M =>
          have hy := hall y (by simp)
          have hyn : y.node ≠ it.node := fun e => by rw [e, lessS_eq, ltS_irrefl] at hy; cases hy
          rw [List.foldl_cons, step_lt rfl hy hyn, fold_in]
          have hno : ∀ z ∈ M, z.node ≠ it.node := fun z hz e => by
            have := hall z (by simp [hz]); rw [e, lessS_eq, ltS_irrefl] at this; cases this
          simp only [if_true]
          rw [filter_none hno]; simp
      · rw [step_ge rfl hl' hn]
        have := fold_out it L (acc ++ [x]) h2
        have hput : putI it (x :: L) = x :: putI it L := by simp only [putI]; rw [if_neg (by rw [← lessS_eq, hl']; simp), if_neg hn]
        simp only at this ⊢
        rw [this, hput]
        simp
theorem setI_true {it : Item} {L : List Item} (h : Srt L) : setI it true L = putI it L := by
  have := fold_out it L [] h
  simpa [setI, foldI] using this
theorem setI_in {it : Item} {there : Bool} {L : List Item} (h : (foldI it there L).2 = true) : setI it there L = (foldI it there L).1 := by unfold setI; rw [h]; rfl
theorem setI_out {it : Item} {there : Bool} {L : List Item} (h : (foldI it there L).2 = false) : setI it there L = (foldI it there L).1 ++ [it] := by unfold setI; rw [h]; rfl
theorem fold_len (it : Item) : ∀ (L : List Item) (p : List Item × Bool), (L.foldl (stepI it) p).1.length ≤ p.1.length + 2 * L.length
  | [], p => by simp
  | x :: L, p => by
    rw [List.foldl_cons]
    refine Nat.le_trans (fold_len it L _) ?_
    have : (stepI it p x).1.length ≤ p.1.length + 2 := by unfold stepI; split <;> split <;> simp
    simp only [List.length_cons]; omega
theorem foldI_len (it : Item) (there : Bool) (L : List Item) : (foldI it there L).1.length ≤ 2 * L.length := by
  have := fold_len it L ([], !there); simpa [foldI] using this
theorem RIb.ris {B base : Nat} {w : World} {ub : Nat} {L : List Item} (h : RIb B base w ub L) (hB : B ≤ base) : RIs B w ub L := by
  obtain ⟨h0, v, h1, h2, h3, h4⟩ := h; exact ⟨h0, v, h1, by rw [rowI_is]; exact h2.base hB, h3, h4⟩
end Go.Proofs.YtefhfoioeoijlaaGreat

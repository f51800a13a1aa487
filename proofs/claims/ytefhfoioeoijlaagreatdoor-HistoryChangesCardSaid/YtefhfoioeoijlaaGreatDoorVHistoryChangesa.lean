/- Bas, OpBD, Step, Ty, Rws, Ord, Arg, Plain, Nm, Pth3, Pth5, Pth7 -/
import Derived.Below
import Derived.BigQuiet
import Derived.ChangeOld
import Derived.ChangeSame
import Derived.Deep.Draws
import Derived.Deep.Fields
import Derived.Deep.LoopGhost
import Derived.Deep.Quiet
import Derived.Deep.QuietTactic
import Derived.Deep.RegionWith
import Derived.Deep.Slices
import Derived.Handy
import Derived.KernelRfl
import Derived.Laws.CopyRow
import Derived.Laws.OwnMore
import Derived.Lib.Hide
import Derived.Lib.IndexBytes
import Derived.Lib.ItoaLen
import Derived.Lib.SplitLaws
import Derived.LoopIn
import Derived.LoopNIn
import Derived.Maps.AppendAt
import Derived.OpenShut
import Derived.OrdersHeld
import Derived.OwnWalkIn
import Derived.ProofKit
import Derived.RangeFuncBound
import Derived.RangeFuncCalls
import Derived.RangeFuncGives
import Derived.RangeFuncLeaves
import Derived.RangeFuncNested
import Derived.Shelf.Abstract
import Derived.Shelf.GgClosure.StringsIndexFunc
import Derived.Shelf.RegionOpen
import Derived.Shelf.SlSortCmp.NoneTotal
import Derived.Shelf.SlSortCmp.QuietGrown
import Derived.Shelf.Strings.SlTrimAscii
import Derived.ShutString
import Derived.Sort.Grow
import Derived.StillTail
import Derived.StillTailTactics
import Derived.TacticsInMore
import Derived.Test.YtefhfoioeoijlaaGreatDoorProg
import Derived.WalkKit
import Derived.WalkLawsBesides
import Derived.WalkSpells
import Derived.WideShapes
import Derived.Test.YtefhfoioeoijlaaGreatDoorVaa
import Derived.Test.YtefhfoioeoijlaaGreatDoorVab
import Derived.Test.YtefhfoioeoijlaaGreatDoorVac
import Derived.Test.YtefhfoioeoijlaaGreatDoorVad
import Derived.Test.YtefhfoioeoijlaaGreatDoorVae
import Derived.Test.YtefhfoioeoijlaaGreatDoorVaf
import Derived.Test.YtefhfoioeoijlaaGreatDoorVag
import Derived.Test.YtefhfoioeoijlaaGreatDoorVah
import Derived.Test.YtefhfoioeoijlaaGreatDoorVai
import Derived.Test.YtefhfoioeoijlaaGreatDoorVaj
import Derived.Test.YtefhfoioeoijlaaGreatDoorVak
import Derived.Test.YtefhfoioeoijlaaGreatDoorVal
import Derived.Test.YtefhfoioeoijlaaGreatDoorVam
import Derived.Test.YtefhfoioeoijlaaGreatDoorVan
import Derived.Test.YtefhfoioeoijlaaGreatDoorVao
import Derived.Test.YtefhfoioeoijlaaGreatDoorVap
import Derived.Test.YtefhfoioeoijlaaGreatDoorVaq
import Derived.Test.YtefhfoioeoijlaaGreatDoorVar
import Derived.Test.YtefhfoioeoijlaaGreatDoorVas
import Derived.Test.YtefhfoioeoijlaaGreatDoorVat
set_option linter.unusedVariables false
set_option linter.unusedSimpArgs false
namespace Go.Proofs.YtefhfoioeoijlaaGreatDoor
open Go.RowKit Go.Sort
theorem up_drewN (w : World) (n : Nat) : Below w.heap.size w (w.drewN n) := (Ups.drewN w n).below
end Go.Proofs.YtefhfoioeoijlaaGreatDoor
namespace Go.Proofs.YtefhfoioeoijlaaGreatDoor
open Go.RowKit Go.Sort
def lessS (a b : Stamp) : Bool := decide (a.t < b.t ∨ a.t = b.t ∧ a.w < b.w)
theorem r04right_any (s : Stamp) (w : World) : Calls Tryz.prog 173 #[stV s] w fun e w' => e = .returned (.bool (stR s)) ∧ Ups w w' := by
  unfold stV
  go_enter Tryz.func173, Tryz.ntmps173
  go_wp2
  all_goals (go_ret; exact ⟨ret_bool (by rw [Bool.eq_iff_iff]; simp [stR, mbB]; try omega), Ups.alloc _ _⟩)
theorem r04less_any (a b : Stamp) (w : World) : Calls Tryz.prog 139 #[stV a, stV b] w fun e w' => e = .returned (.bool (lessS a b)) ∧ Ups w w' := by
  unfold stV
  go_enter Tryz.func139, Tryz.ntmps139
  go_wp2
  all_goals (go_ret; exact ⟨ret_bool (by rw [Bool.eq_iff_iff]; simp [lessS]; try omega), (Ups.alloc _ _).trans (Ups.alloc _ _)⟩)
theorem r04right_at (t u : Int) (w : World) : Calls Tryz.prog 173 #[.agg #[.int .i64 t, .int .i64 u]] w fun e w' => e = .returned (.bool (stR ⟨t, u⟩)) ∧ Ups w w' := r04right_any ⟨t, u⟩ w
theorem r15place_at (t u : Int) (w : World) : Calls Tryz.prog 174 #[.agg #[.int .i64 t, .int .i64 u]] w fun e w' => e = .returned (.bool (placeB ⟨t, u⟩)) ∧ Ups w w' := by
  by_cases ht : t = 0
  · by_cases hu : u = 0
    · subst ht; subst hu
      have HP := Lib.hid placeB_zero
      go_enter Tryz.func174, Tryz.ntmps174
      go_wp2_with fail
      go_ret
      exact ⟨ret_bool HP.out.symm, Ups.alloc _ _⟩
    · have HP := Lib.hid (placeB_w (t := t) hu)
      subst ht
      have hu' : (u == 0) = false := beq_eq_false_iff_ne.2 hu
      go_enter Tryz.func174, Tryz.ntmps174
      go_wp2_with fail
      refine (r04right_at _ _ _).mono ?_
      rintro e w' ⟨rfl, hu⟩
      go_wp2_with fail
      go_ret
      exact ⟨ret_bool HP.out.symm, (Ups.alloc _ _).trans hu⟩
  · have HP := Lib.hid (placeB_t (u := u) ht)
    have ht' : (t == 0) = false := beq_eq_false_iff_ne.2 ht
    go_enter Tryz.func174, Tryz.ntmps174
    go_wp2_with fail
    refine (r04right_at _ _ _).mono ?_
    rintro e w' ⟨rfl, hu⟩
    go_wp2_with fail
    go_ret
    exact ⟨ret_bool HP.out.symm, (Ups.alloc _ _).trans hu⟩
end Go.Proofs.YtefhfoioeoijlaaGreatDoor
set_option linter.unusedVariables false
set_option linter.unusedSimpArgs false
namespace Go.Proofs.YtefhfoioeoijlaaGreatDoor
open Go.RowKit Go.Sort Go.Shelf
theorem r15name_any (s : ByteArray) (w : World) (hs : s.size ≤ 9223372036854775807) : Calls Tryz.prog 88 #[.string s] w fun e w' => e = .returned (.bool (nameB s)) ∧ w' = w := by
  by_cases h0 : 1 ≤ s.size ∧ s.size ≤ 24 ∧ ¬ s.toList = [46] ∧ ¬ s.toList = [46, 46]
  · obtain ⟨h1, h2, h3, h4⟩ := h0
    have HN := Lib.hid (show nameB s = nameCh s by unfold nameB; rw [decide_eq_true ⟨h1, h2⟩, beq_eq_false_iff_ne.2 h3, beq_eq_false_iff_ne.2 h4]; rfl)
    have b1 : decide (s.size < 1) = false := decide_eq_false (by omega)
    have b2 : decide (24 < s.size) = false := decide_eq_false (by omega)
    have b3 : (s.toList == [46]) = false := beq_eq_false_iff_ne.2 h3
    have b4 : (s.toList == [46, 46]) = false := beq_eq_false_iff_ne.2 h4
    go_enter Tryz.func88, Tryz.ntmps88
    go_wp2
    go_loop [3] (fun i => ∃ k : Nat, k ≤ s.size ∧ i = .int .i64 k ∧ Hid (∀ j, j < k → byteOK (s.get! j) = true)) (fun i => s.size - (intOf i).toNat)
    case atStart => exact ⟨0, Nat.zero_le _, rfl, fun j hj => by omega⟩
    case round =>
      obtain ⟨k, hk, rfl, H⟩ := hrel
      by_cases hlt : k < s.size
      · have hltz : (k : Int) < (s.size : Int) := by omega
        have hg := get_eq s k hlt
        by_cases ho : byteOK (s.get! k) = true
        · have HO := Lib.hid ho
          have hb : oddR s[k].toNat = false := by rw [hg] at ho; simpa [byteOK] using ho
          have hb1 : ¬ (s[k].toNat : Int) < 32 ∧ ¬ (s[k].toNat : Int) = 127 ∧ ¬ (s[k].toNat : Int) = 47 ∧ ¬ (s[k].toNat : Int) = 126 := by
            simp [oddR] at hb; omega
          obtain ⟨c1, c2, c3, c4⟩ := hb1
          have d2 : ((s[k].toNat : Int) == 127) = false := beq_eq_false_iff_ne.2 c2
          have d3 : ((s[k].toNat : Int) == 47) = false := beq_eq_false_iff_ne.2 c3
          have d4 : ((s[k].toNat : Int) == 126) = false := beq_eq_false_iff_ne.2 c4
          clear hg ho hb c2 c3 c4
          go_wp2
          go_round
          case rel =>
            refine ⟨k + 1, by omega, by go_num, fun j hj => ?_⟩
            by_cases e : j = k
            · rw [e]; exact HO.out
            · exact H.out j (by omega)
          case measure => simp [intOf]; omega
        · have HF := Lib.hid (show nameB s = false by
            rw [HN.out]
            unfold nameCh
            rw [List.all_eq_false]
            exact ⟨s[k], List.mem_iff_getElem?.2 ⟨k, Lib.data_getElem? s k hlt⟩, by rw [← hg]; simpa using ho⟩)
          have hb : oddR s[k].toNat = true := by rw [hg] at ho; simpa [byteOK] using ho
          have hb1 : (s[k].toNat : Int) < 32 ∨ (s[k].toNat : Int) = 127 ∨ (s[k].toNat : Int) = 47 ∨ (s[k].toNat : Int) = 126 := by
            simp [oddR] at hb; omega
          clear hg ho hb
          rcases hb1 with c | c | c | c
          · go_wp2
            go_ret
            exact ⟨ret_bool HF.out.symm, rfl⟩
          · have c0 : ¬ (s[k].toNat : Int) < 32 := by omega
            have d127 : ((s[k].toNat : Int) == 127) = true := beq_iff_eq.2 c
            clear c
            go_wp2
            go_ret
            exact ⟨ret_bool HF.out.symm, rfl⟩
          · have c0 : ¬ (s[k].toNat : Int) < 32 := by omega
            have d127 : ((s[k].toNat : Int) == 127) = false := beq_eq_false_iff_ne.2 (by omega)
            have d47 : ((s[k].toNat : Int) == 47) = true := beq_iff_eq.2 c
            clear c
            go_wp2
            go_ret
            exact ⟨ret_bool HF.out.symm, rfl⟩
          · have c0 : ¬ (s[k].toNat : Int) < 32 := by omega
            have d127 : ((s[k].toNat : Int) == 127) = false := beq_eq_false_iff_ne.2 (by omega)
            have d47 : ((s[k].toNat : Int) == 47) = false := beq_eq_false_iff_ne.2 (by omega)
            have d126 : ((s[k].toNat : Int) == 126) = true := beq_iff_eq.2 c
            clear c
            go_wp2
            go_ret
            exact ⟨ret_bool HF.out.symm, rfl⟩
      · go_wp2
        go_ret
        refine ⟨ret_bool ?_, rfl⟩
        rw [HN.out]
        unfold nameCh
        symm
        rw [List.all_eq_true]
        intro c hc
        obtain ⟨i, hi⟩ := List.mem_iff_getElem?.1 hc
        have h2 : i < s.size := by
          have := (List.getElem?_eq_some_iff.1 hi).1
          simpa using this
        rw [Lib.data_getElem? s i h2] at hi
        injection hi with hi
        rw [← hi, ← get_eq s i h2]
        exact H.out i (by omega)
  · have HF := Lib.hid (show nameB s = false by
      unfold nameB
      by_cases g1 : 1 ≤ s.size ∧ s.size ≤ 24
      · by_cases g3 : s.toList = [46]
        · simp [g3]
        · by_cases g4 : s.toList = [46, 46]
          · simp [g4]
          · exact absurd ⟨g1.1, g1.2, g3, g4⟩ h0
      · simp [g1])
    by_cases g1 : s.size < 1
    · have b1 : decide (s.size < 1) = true := decide_eq_true g1
      clear h0
      go_enter Tryz.func88, Tryz.ntmps88
      go_wp2_with fail
      go_ret
      exact ⟨ret_bool HF.out.symm, rfl⟩
    · have b1 : decide (s.size < 1) = false := decide_eq_false g1
      by_cases g2 : 24 < s.size
      · have b2 : decide (24 < s.size) = true := decide_eq_true g2
        clear h0
        go_enter Tryz.func88, Tryz.ntmps88
        go_wp2_with fail
        go_ret
        exact ⟨ret_bool HF.out.symm, rfl⟩
      · have b2 : decide (24 < s.size) = false := decide_eq_false g2
        by_cases g3 : s.toList = [46]
        · have b3 : (s.toList == [46]) = true := beq_iff_eq.2 g3
          clear h0 g3
          go_enter Tryz.func88, Tryz.ntmps88
          go_wp2_with fail
          go_ret
          exact ⟨ret_bool HF.out.symm, rfl⟩
        · have b3 : (s.toList == [46]) = false := beq_eq_false_iff_ne.2 g3
          have g4 : s.toList = [46, 46] := by
            by_cases g4 : s.toList = [46, 46]
            · exact g4
            · exact absurd ⟨by omega, by omega, g3, g4⟩ h0
          have b4 : (s.toList == [46, 46]) = true := beq_iff_eq.2 g4
          clear h0 g3 g4
          go_enter Tryz.func88, Tryz.ntmps88
          go_wp2_with fail
          go_ret
          exact ⟨ret_bool HF.out.symm, rfl⟩
end Go.Proofs.YtefhfoioeoijlaaGreatDoor
namespace Go.Proofs.YtefhfoioeoijlaaGreatDoor
open Go.RowKit Go.Sort Go.Shelf
set_option maxHeartbeats 2000000 in
theorem r15right_any (o : OpD) (A : Option Addr) (n c : Nat) (hn : o.data.length = n) (hs : o.name.size ≤ 9223372036854775807) (w : World) :
    Calls Tryz.prog 141 #[opV o (.slice A n c)] w fun e w' => e = .returned (.bool (rightB o)) ∧ Below w.heap.size w w' := by
  have f1 := Lib.hid (right_f1 o)
  have f2 := Lib.hid (right_f2 o)
  have f3 := Lib.hid (right_f3 o)
  have f4 := Lib.hid (right_f4 o)
  have fb := Lib.hid (right_b o)
  have g1 := Lib.hid (body_1 o)
  have g2 := Lib.hid (body_2 o)
  have g3 := Lib.hid (body_3 o)
  have g4 := Lib.hid (body_4 o)
  have g5 := Lib.hid (body_5 o)
  obtain ⟨kind, ⟨at1, at2⟩, ⟨n1, n2⟩, ⟨p1, p2⟩, dir, name, data⟩ := o
  have HN := Lib.hid hn
  clear hn
  simp only at f1 f2 f3 f4 fb g1 g2 g3 g4 g5 HN hs
  unfold opV
  generalize hR : rightB _ = R at f1 f2 f3 f4 fb ⊢
  generalize hB : bodyB _ = B at fb g1 g2 g3 g4 g5
  clear hR hB
  go_enter Tryz.func141, Tryz.ntmps141
  go_wp2_with fail
  refine (r04right_at _ _ _).mono ?_
  rintro e w1 ⟨rfl, hu⟩
  have hb1 := up_trans (up_alloc w _) hu.below
  obtain ⟨hc1, hf1⟩ := bcell hu.below
  cases hat : stR ⟨at1, at2⟩ with
  | false =>
    have E := Lib.hid (f1.out hat)
    go_wp2_with fail
    go_ret
    exact ⟨ret_bool E.out.symm, hb1⟩
  | true =>
    have HAT := Lib.hid hat
    clear hat
    go_wp2_with fail
    refine (r04right_at _ _ _).mono ?_
    rintro e w2 ⟨rfl, hu2⟩
    have hb2 := up_trans hb1 hu2.below
    obtain ⟨hc2, hf2⟩ := bcell hu2.below
    have hz2 : w.heap.size < w1.heap.size := by have := hu.size; simp at this; omega
    cases hnd : stR ⟨n1, n2⟩ with
    | false =>
      have E := Lib.hid (f2.out hnd)
      clear hnd
      go_wp2_with fail
      go_ret
      exact ⟨ret_bool E.out.symm, hb2⟩
    | true =>
      have HND := Lib.hid hnd
      clear hnd
      have FB := fun h3 h4 => fb.out HAT.out HND.out h3 h4
      have FBH := Lib.hid FB
      clear FB
      have hnn : decide (0 < data.length) = decide (0 < n) := by rw [HN.out]
      have HNN := Lib.hid hnn
      clear hnn
      by_cases k1 : kind = 1
      · subst k1
        by_cases h0 : 0 < n
        · have E := Lib.hid (f4.out (by rw [HNN.out]; exact decide_eq_true h0) (by decide))
          have h0z : (0 : Int) < (n : Int) := by omega
          go_wp2_with fail
          go_ret
          exact ⟨ret_bool E.out.symm, hb2⟩
        · have E := Lib.hid ((FBH.out (.inr (by decide)) (.inl (by rw [HNN.out]; exact decide_eq_false h0))).trans (g1.out (by decide)))
          have h0z : ¬ (0 : Int) < (n : Int) := by omega
          have b0 : decide ((0 : Int) < (n : Int)) = false := decide_eq_false h0z
          go_wp2_with (first
            | (go_at_call 174; refine (r15place_at _ _ _).mono ?_; rintro e w3 ⟨rfl, hu3⟩; have hb3 := up_trans hb2 hu3.below; obtain ⟨hc3, hf3⟩ := bcell hu3.below; have hz3 : w.heap.size < w2.heap.size := by have := hu2.size; omega)
            | (go_at_call 88; refine (r15name_any _ _ hs).mono ?_; rintro e w4 ⟨rfl, rfl⟩))
          all_goals (go_ret; exact ⟨ret_bool (by rw [E.out]; simp [*]), by first | exact hb3 | exact hb2⟩)
      · by_cases k2 : kind = 2
        · subst k2
          by_cases h0 : 0 < n
          · have h0z : (0 : Int) < (n : Int) := by omega
            have E := Lib.hid (f4.out (by rw [HNN.out]; exact decide_eq_true h0) (by decide))
            go_wp2_with fail
            go_ret
            exact ⟨ret_bool E.out.symm, hb2⟩
          · have h0z : ¬ (0 : Int) < (n : Int) := by omega
            have b0 : decide ((0 : Int) < (n : Int)) = false := decide_eq_false h0z
            cases dir with
            | true =>
              have E := Lib.hid (f3.out rfl (by decide))
              go_wp2_with fail
              go_ret
              exact ⟨ret_bool E.out.symm, hb2⟩
            | false =>
              have E := Lib.hid ((FBH.out (.inl rfl) (.inl (by rw [HNN.out]; exact decide_eq_false h0))).trans (g2.out (by decide) (by decide)))
              go_wp2_with (first
                | (go_at_call 174; refine (r15place_at _ _ _).mono ?_; rintro e w3 ⟨rfl, hu3⟩; have hb3 := up_trans hb2 hu3.below; obtain ⟨hc3, hf3⟩ := bcell hu3.below; have hz3 : w.heap.size < w2.heap.size := by have := hu2.size; omega)
                | (go_at_call 88; refine (r15name_any _ _ hs).mono ?_; rintro e w4 ⟨rfl, rfl⟩))
              all_goals (go_ret; exact ⟨ret_bool (by rw [E.out]; simp [*, zeroS]), by first | exact hb3 | exact hb2⟩)
        · by_cases k3 : kind = 3
          · subst k3
            by_cases h0 : 0 < n
            · have h0z : (0 : Int) < (n : Int) := by omega
              have E := Lib.hid (f4.out (by rw [HNN.out]; exact decide_eq_true h0) (by decide))
              go_wp2_with fail
              go_ret
              exact ⟨ret_bool E.out.symm, hb2⟩
            · have h0z : ¬ (0 : Int) < (n : Int) := by omega
              have b0 : decide ((0 : Int) < (n : Int)) = false := decide_eq_false h0z
              cases dir with
              | true =>
                have E := Lib.hid (f3.out rfl (by decide))
                go_wp2_with fail
                go_ret
                exact ⟨ret_bool E.out.symm, hb2⟩
              | false =>
                have E := Lib.hid ((FBH.out (.inl rfl) (.inl (by rw [HNN.out]; exact decide_eq_false h0))).trans (g3.out (by decide) (by decide) (by decide)))
                go_wp2_with (first
                  | (go_at_call 174; refine (r15place_at _ _ _).mono ?_; rintro e w3 ⟨rfl, hu3⟩; have hb3 := up_trans hb2 hu3.below; obtain ⟨hc3, hf3⟩ := bcell hu3.below; have hz3 : w.heap.size < w2.heap.size := by have := hu2.size; omega)
                  | (go_at_call 88; refine (r15name_any _ _ hs).mono ?_; rintro e w4 ⟨rfl, rfl⟩))
                all_goals (go_ret; exact ⟨ret_bool (by rw [E.out]; simp [*, zeroS]), by first | exact hb3 | exact hb2⟩)
          · by_cases k4 : kind = 4
            · subst k4
              have HL := Lib.hid (show decide (data.length ≤ 400) = decide ((n : Int) ≤ 400) by rw [HN.out]; exact decide_eq_decide.2 (by omega))
              cases dir with
              | true =>
                  have E := Lib.hid (f3.out rfl (by decide))
                  go_wp2_with fail
                  go_ret
                  exact ⟨ret_bool E.out.symm, hb2⟩
              | false =>
                have E := Lib.hid ((FBH.out (.inl rfl) (.inr (by decide))).trans ((g4.out (by decide) (by decide) (by decide) (by decide)).trans (by rw [HL.out])))
                go_wp2_with (first
                  | (go_at_call 174; refine (r15place_at _ _ _).mono ?_; rintro e w3 ⟨rfl, hu3⟩; have hb3 := up_trans hb2 hu3.below; obtain ⟨hc3, hf3⟩ := bcell hu3.below; have hz3 : w.heap.size < w2.heap.size := by have := hu2.size; omega)
                  | (go_at_call 88; refine (r15name_any _ _ hs).mono ?_; rintro e w4 ⟨rfl, rfl⟩))
                all_goals (go_ret; exact ⟨ret_bool (by rw [E.out]; simp [*, zeroS]), by first | exact hb3 | exact hb2⟩)
            · have b1 : (kind == 1) = false := beq_eq_false_iff_ne.2 k1
              have b2 : (kind == 2) = false := beq_eq_false_iff_ne.2 k2
              have b3 : (kind == 3) = false := beq_eq_false_iff_ne.2 k3
              have b4 : (kind == 4) = false := beq_eq_false_iff_ne.2 k4
              by_cases h0 : 0 < n
              · have h0z : (0 : Int) < (n : Int) := by omega
                have E := Lib.hid (f4.out (by rw [HNN.out]; exact decide_eq_true h0) b4)
                go_wp2_with fail
                go_ret
                exact ⟨ret_bool E.out.symm, hb2⟩
              · have h0z : ¬ (0 : Int) < (n : Int) := by omega
                have b0 : decide ((0 : Int) < (n : Int)) = false := decide_eq_false h0z
                cases dir with
                | true =>
                  have E := Lib.hid (f3.out rfl b1)
                  go_wp2_with fail
                  go_ret
                  exact ⟨ret_bool E.out.symm, hb2⟩
                | false =>
                  have E := Lib.hid ((FBH.out (.inl rfl) (.inl (by rw [HNN.out]; exact decide_eq_false h0))).trans (g5.out b1 b2 b3 b4))
                  go_wp2_with fail
                  go_ret
                  exact ⟨ret_bool E.out.symm, hb2⟩
end Go.Proofs.YtefhfoioeoijlaaGreatDoor
set_option linter.unusedVariables false
set_option linter.unusedSimpArgs false
namespace Go.Proofs.YtefhfoioeoijlaaGreatDoor
open Go Go.RowKit Go.Sort
section
variable {P : Program} {d : Option Tmp} {ty : TypeId} {pos : String} {af : Array Edge} {g : Option (Nat × Bool)} {ρ : Operand → Value} {w : World}
theorem r_ge {t yt : TypeId} {x y : Operand} {k : IntKind} {m n : Int} (hx : ρ x = .int k m) (hy : ρ y = .int k n) : (execOp ρ ⟨d, .binOp .geq t x y yt, ty, pos, af, g⟩).run P w = .ok (.value (.bool (decide (n ≤ m)))) w := by
  simp [execOp, hx, hy, eqGuard, binOp, Op.intCmp]
end
section
variable {P : Program} {fn : Func} {tmps : Array Value} {w : World}
theorem res3 {r s t : ResultVar} {u v x : Value} (h : fn.results = #[r, s, t]) (h1 : RV P w tmps r u) (h2 : RV P w tmps s v) (h3 : RV P w tmps t x) : (results fn tmps).run P w = .ok (.tuple #[u, v, x]) w := by
  cases r <;> cases s <;> cases t <;> simp only [RV] at h1 h2 h3 <;> (try obtain ⟨p, h1, h1'⟩ := h1) <;> (try obtain ⟨q, h2, h2'⟩ := h2) <;> (try obtain ⟨q', h3, h3'⟩ := h3) <;> simp [results, h, asAddr, *]
end
end Go.Proofs.YtefhfoioeoijlaaGreatDoor
set_option linter.unusedVariables false
namespace Go.Proofs.YtefhfoioeoijlaaGreatDoor
open Go Go.RowKit Go.Sort
theorem Ty.sz4 : ∀ w, (sizeOf 4).run Tryz.prog w = .ok 1 w := fun _ => by kernel_rfl
theorem Ty.ag5 : ∀ w, (isAgg 5).run Tryz.prog w = .ok false w := fun _ => by kernel_rfl
theorem Ty.ag64 : ∀ w, (isAgg 64).run Tryz.prog w = .ok false w := fun _ => by kernel_rfl
theorem Ty.sz64 : ∀ w, (sizeOf 64).run Tryz.prog w = .ok 1 w := fun _ => by kernel_rfl
theorem Ty.un64 : Tryz.prog.underlying 64 = some (.slice 127) := by kernel_rfl
theorem Ty.zv126 : ∀ w, (zeroValue 126).run Tryz.prog w = .ok (.agg #[.slice none 0 0]) w := fun _ => by kernel_rfl
noncomputable def Ty.fs126 : List Field := match Tryz.prog.underlying 126 with | some (.struct fs) => fs.toList | _ => []
theorem Ty.un126 : Tryz.prog.underlying 126 = some (.struct Ty.fs126.toArray) := by kernel_rfl
theorem Ty.pl126 : ∀ w, (Ty.fs126.mapM fun f => Prod.mk f.offset <$> sizeOf f.type : Sem (List (Nat × Nat))).run Tryz.prog w = .ok [(0, 1)] w := fun _ => by kernel_rfl
theorem Ty.ag127 : ∀ w, (isAgg 127).run Tryz.prog w = .ok true w := fun _ => by kernel_rfl
theorem Ty.sz127 : ∀ w, (sizeOf 127).run Tryz.prog w = .ok 10 w := fun _ => by kernel_rfl
theorem Ty.zv127 : ∀ w, (zeroValue 127).run Tryz.prog w = .ok (.agg #[.int .i64 0, .int .i64 0, .int .i64 0, .int .i64 0, .string (⟨#[]⟩), .bool false, .bool false, .slice none 0 0, .int .i64 0, .int .i64 0]) w := fun _ => by kernel_rfl
noncomputable def Ty.fs127 : List Field := match Tryz.prog.underlying 127 with | some (.struct fs) => fs.toList | _ => []
theorem Ty.un127 : Tryz.prog.underlying 127 = some (.struct Ty.fs127.toArray) := by kernel_rfl
theorem Ty.pl127 : ∀ w, (Ty.fs127.mapM fun f => Prod.mk f.offset <$> sizeOf f.type : Sem (List (Nat × Nat))).run Tryz.prog w = .ok [(0, 2), (2, 2), (4, 1), (5, 1), (6, 1), (7, 1), (8, 2)] w := fun _ => by kernel_rfl
theorem En.f27 : ∀ args w, (callFunc 27 args).run Tryz.prog w = .ok (.enter 27 args) w := enters_of Tryz.func27 (by kernel_rfl) rfl
theorem En.f28 : ∀ args w, (callFunc 28 args).run Tryz.prog w = .ok (.enter 28 args) w := enters_of Tryz.func28 (by kernel_rfl) rfl
theorem En.f37 : ∀ args w, (callFunc 37 args).run Tryz.prog w = .ok (.enter 37 args) w := enters_of Tryz.func37 (by kernel_rfl) rfl
theorem En.f53 : ∀ args w, (callFunc 53 args).run Tryz.prog w = .ok (.enter 53 args) w := enters_of Tryz.func53 (by kernel_rfl) rfl
theorem En.f77 : ∀ args w, (callFunc 77 args).run Tryz.prog w = .ok (.enter 77 args) w := enters_of Tryz.func77 (by kernel_rfl) rfl
theorem En.f78 : ∀ args w, (callFunc 78 args).run Tryz.prog w = .ok (.enter 78 args) w := enters_of Tryz.func78 (by kernel_rfl) rfl
theorem En.f79 : ∀ args w, (callFunc 79 args).run Tryz.prog w = .ok (.enter 79 args) w := enters_of Tryz.func79 (by kernel_rfl) rfl
theorem En.f80 : ∀ args w, (callFunc 80 args).run Tryz.prog w = .ok (.enter 80 args) w := enters_of Tryz.func80 (by kernel_rfl) rfl
theorem En.f81 : ∀ args w, (callFunc 81 args).run Tryz.prog w = .ok (.enter 81 args) w := enters_of Tryz.func81 (by kernel_rfl) rfl
theorem En.f82 : ∀ args w, (callFunc 82 args).run Tryz.prog w = .ok (.enter 82 args) w := enters_of Tryz.func82 (by kernel_rfl) rfl
theorem En.f85 : ∀ args w, (callFunc 85 args).run Tryz.prog w = .ok (.enter 85 args) w := enters_of Tryz.func85 (by kernel_rfl) rfl
theorem En.f87 : ∀ args w, (callFunc 87 args).run Tryz.prog w = .ok (.enter 87 args) w := enters_of Tryz.func87 (by kernel_rfl) rfl
theorem En.f96 : ∀ args w, (callFunc 96 args).run Tryz.prog w = .ok (.enter 96 args) w := enters_of Tryz.func96 (by kernel_rfl) rfl
theorem En.f111 : ∀ args w, (callFunc 111 args).run Tryz.prog w = .ok (.enter 111 args) w := enters_of Tryz.func111 (by kernel_rfl) rfl
theorem En.f139 : ∀ args w, (callFunc 139 args).run Tryz.prog w = .ok (.enter 139 args) w := enters_of Tryz.func139 (by kernel_rfl) rfl
theorem En.f141 : ∀ args w, (callFunc 141 args).run Tryz.prog w = .ok (.enter 141 args) w := enters_of Tryz.func141 (by kernel_rfl) rfl
theorem En.f142 : ∀ args w, (callFunc 142 args).run Tryz.prog w = .ok (.enter 142 args) w := enters_of Tryz.func142 (by kernel_rfl) rfl
theorem En.f143 : ∀ args w, (callFunc 143 args).run Tryz.prog w = .ok (.enter 143 args) w := enters_of Tryz.func143 (by kernel_rfl) rfl
theorem En.f144 : ∀ args w, (callFunc 144 args).run Tryz.prog w = .ok (.enter 144 args) w := enters_of Tryz.func144 (by kernel_rfl) rfl
end Go.Proofs.YtefhfoioeoijlaaGreatDoor
set_option linter.unusedVariables false
set_option linter.unusedSimpArgs false
namespace Go.Proofs.YtefhfoioeoijlaaGreatDoor
open Go.RowKit Go.Sort
def RowI (B base : Nat) (w : World) (v : Value) (L : List Item) : Prop :=
  ∃ ds, Pair (fun x d => Dat B w d x.data) L ds ∧ w.ownsRow base 127 10 v L.length (flatI L ds)
theorem RowI.nil (B base : Nat) (w : World) : RowI B base w (.slice none 0 0) [] := ⟨[], trivial, World.ownsRow_nil w base _ 10⟩
def RIs (B : Nat) (w : World) (ub : Nat) (L : List Item) : Prop :=
  B ≤ ub ∧ ∃ v, w.heap[ub]? = some (.cells #[v] 126 (0, 0)) ∧ RowI B B w v L ∧ v.ownBlock ≠ some ub ∧ L.length ≤ 300
theorem RowI.keep {B base : Nat} {w w' : World} {v : Value} {L : List Item} (h : RowI B base w v L) {q : Option Nat} (hg : w.grownBy w' q) (hv : v.ownBlock = none ∨ v.ownBlock ≠ q)
    (hq : ∀ k, q = some k → B ≤ k ∧ NotU8 w k) : RowI B base w' v L := by
  obtain ⟨ds, hp, ho⟩ := h
  refine ⟨ds, hp.mono fun x d hd => ?_, ho.kept hg hv⟩
  cases q with
  | none => exact hd.keep hg.size fun b hb _ => hg.block b hb (by simp)
  | some k => exact hd.grown hg (hq k rfl).1 (hq k rfl).2
theorem RowI.up {B base : Nat} {w w' : World} {v : Value} {L : List Item} (h : RowI B base w v L) (hb : Below w.heap.size w w') : RowI B base w' v L :=
  h.keep (q := none) ⟨hb.os, hb.tape, hb.output, hb.size, fun k hk _ => hb.block k hk⟩ (by cases hv : v.ownBlock <;> simp) (by simp)
theorem RowI.form {B base : Nat} {w : World} {v : Value} {L : List Item} (h : RowI B base w v L) : ∃ A c, v = .slice A L.length c := by
  obtain ⟨ds, _, _, ⟨rfl, h0⟩ | ⟨g, cap, cur, rfl, _⟩⟩ := h
  · exact ⟨none, 0, by rw [h0]⟩
  · exact ⟨_, cap, rfl⟩
theorem RowI.get {B base : Nat} {w : World} {v : Value} {L : List Item} (h : RowI B base w v L) {i : Nat} {x : Item} (hi : L[i]? = some x) :
    ∃ g cap dA dn dc, v = .slice (some ⟨g, 0, none⟩) L.length cap ∧ L.length ≤ cap ∧ base ≤ g ∧ g < w.heap.size ∧ Dat B w (.slice dA dn dc) x.data ∧ ∀ k u, (itC x (.slice dA dn dc))[k]? = some u → w.cell? ⟨g, i * 10 + k, none⟩ = some u := by
  obtain ⟨ds, hp, ho⟩ := h
  obtain ⟨d, hd, hD⟩ := hp.ex hi
  obtain ⟨dA, dn, dc, rfl⟩ := hD.form
  have hil := (List.getElem?_eq_some_iff.1 hi).1
  rcases ho.2 with ⟨rfl, h0⟩ | ⟨g, cap, cur, rfl, hb, hg, hc, hm, hcs, htk⟩
  · omega
  · refine ⟨g, cap, dA, dn, dc, rfl, hc, hb, (Array.getElem?_eq_some_iff.1 hg).1, hD, fun k u hk => ?_⟩
    have hk10 : k < 10 := by have := (List.getElem?_eq_some_iff.1 hk).1; simpa [itC] using this
    have := ho.cells (g := g) rfl (i * 10 + k) u (by rw [flatI_get hi hd hk10]; exact hk)
    rwa [show (⟨g, 0, none⟩ : Addr).add (i * 10 + k) = ⟨g, i * 10 + k, none⟩ by unfold Addr.add; split <;> simp_all] at this
theorem RIs.up {B : Nat} {w w' : World} {ub : Nat} {L : List Item} (h : RIs B w ub L) (hb : Below w.heap.size w w') : RIs B w' ub L := by
  obtain ⟨h0, v, h1, h2, h3⟩ := h
  exact ⟨h0, v, (hb.block ub (Array.getElem?_eq_some_iff.1 h1).1).trans h1, h2.up hb, h3⟩
def idxI (L : List Item) (n : Stamp) : Nat := L.findIdx fun x => decide (x.node = n)
def placeI (L : List Item) (n : Stamp) : Int := if idxI L n < L.length then (idxI L n : Int) else -1
theorem placeI_at {L : List Item} {n : Stamp} {k : Nat} {x : Item} (hx : L[k]? = some x) (e : x.node = n) (h : ∀ (j : Nat) (y : Item), j < k → L[j]? = some y → y.node ≠ n) : placeI L n = k := by
  have hk := (List.getElem?_eq_some_iff.1 hx).1
  have : idxI L n = k := by
    unfold idxI
    rw [List.findIdx_eq hk]
    refine ⟨by have := (List.getElem?_eq_some_iff.1 hx).2; simp [this, e], fun j hj => ?_⟩
    have := h j L[j] hj (List.getElem?_eq_getElem (by omega))
    simp [this]
  unfold placeI
  rw [this, if_pos hk]
theorem placeI_none {L : List Item} {n : Stamp} (h : ∀ (j : Nat) (y : Item), L[j]? = some y → y.node ≠ n) : placeI L n = -1 := by
  unfold placeI
  rw [if_neg]
  intro hl
  have h1 := List.findIdx_getElem (w := hl)
  have := h _ _ (List.getElem?_eq_getElem hl)
  simp at h1
  exact this h1
end Go.Proofs.YtefhfoioeoijlaaGreatDoor
namespace Go.Proofs.YtefhfoioeoijlaaGreatDoor
open Go Go.RowKit Go.Sort
section
variable {d : Option Tmp} {ty : TypeId} {pos : String} {af : Array Edge} {g : Option (Nat × Bool)} {ρ : Operand → Value} {w : World}
theorem r_neS {x y : Operand} {yt : TypeId} {a b c e : Int} (hx : ρ x = .agg #[.int .i64 a, .int .i64 b]) (hy : ρ y = .agg #[.int .i64 c, .int .i64 e]) :
    (execOp ρ ⟨d, .binOp .neq 24 x y yt, ty, pos, af, g⟩).run Tryz.prog w = .ok (.value (.bool (decide ((⟨a, b⟩ : Stamp) ≠ ⟨c, e⟩)))) w := by
  have h := stamp_eq' a b c e w
  simp [execOp, hx, hy, eqGuard, stamp_noguard, binOp, h]
end
end Go.Proofs.YtefhfoioeoijlaaGreatDoor
namespace Go.Proofs.YtefhfoioeoijlaaGreatDoor
open Go Go.RowKit Go.Sort
theorem rowI_is (B base : Nat) (w : World) (v : Value) (L : List Item) : RowI B base w v L = IRow 127 B base w v L := rfl
theorem IRow.chg {T : TypeId} {B base : Nat} {w w' : World} {v : Value} {L : List Item} {b : Nat} (h : IRow T B base w v L) (c : Chg w w' b) (hb : B ≤ b) (hn : NotU8 w b) (hne : v.ownBlock ≠ some b) : IRow T B base w' v L :=
  h.keep c (.inr hne) (fun k e => by injection e with e; subst e; exact ⟨hb, hn⟩)
theorem IRow.ne_old {T : TypeId} {B base b : Nat} {w : World} {v : Value} {L : List Item} (h : IRow T B base w v L) (e : b < base) : v.ownBlock ≠ some b := fun hh => by have := (h.own _ hh).1; omega
theorem Dat.get {B : Nat} {w : World} {A : Option Addr} {n c : Nat} {xs : List Int} (h : Dat B w (.slice A n c) xs) {i : Nat} (hi : i < n) :
    ∃ b o, A = some ⟨b, o, none⟩ ∧ b < w.heap.size ∧ w.cell? ⟨b, o + i, none⟩ = some (.int .u8 (xs.getD i 0)) := by
  obtain ⟨A', n', c', e, h1, h2, h3, h4, h5⟩ := h
  injection e with e1 e2 e3
  subst e1; subst e2; subst e3
  obtain ⟨b, o, hA, hb, _, hc⟩ := h5 (by omega)
  exact ⟨b, o, hA, hb, hc i hi⟩
theorem info_ritem : ∃ i z, Tryz.prog.info? 127 = some i ∧ i.zero = some z ∧ i.size = 10 ∧ i.bytes = 96 ∧ z.cells.size = 10 := by
  have h : (Tryz.prog.info? 127).map (fun i => (i.zero.map (·.cells.size), i.size, i.bytes)) = some (some 10, 10, 96) := by kernel_rfl
  cases hi : Tryz.prog.info? 127 with
  | none => rw [hi] at h; cases h
  | some i =>
    rw [hi] at h; simp at h
    obtain ⟨⟨z, hz, h1⟩, h2, h3⟩ := h
    exact ⟨i, z, rfl, hz, h2, h3, h1⟩
end Go.Proofs.YtefhfoioeoijlaaGreatDoor
namespace Go.Proofs.YtefhfoioeoijlaaGreatDoor
open Go.RowKit
def stepI (it : Item) (p : List Item × Bool) (x : Item) : List Item × Bool :=
  if (!p.2 && lessS it.node x.node) = true then (if x.node = it.node then (p.1 ++ [it], true) else (p.1 ++ [it] ++ [x], true))
  else (if x.node = it.node then p else (p.1 ++ [x], p.2))
def foldI (it : Item) (there : Bool) (L : List Item) : List Item × Bool := L.foldl (stepI it) ([], !there)
def setI (it : Item) (there : Bool) (L : List Item) : List Item := if (foldI it there L).2 then (foldI it there L).1 else (foldI it there L).1 ++ [it]
theorem fold1 {it : Item} {there : Bool} {L : List Item} {k : Nat} {x : Item} (h : L[k]? = some x) : foldI it there (L.take (k + 1)) = stepI it (foldI it there (L.take k)) x := by
  unfold foldI; rw [tk h, List.foldl_append]; rfl
section
variable {it x : Item} {p : List Item × Bool}
theorem step_in (hi : p.2 = true) (hn : x.node ≠ it.node) : stepI it p x = (p.1 ++ [x], true) := by simp [stepI, hi, hn]
theorem step_in' (hi : p.2 = true) (hn : x.node = it.node) : stepI it p x = (p.1, true) := by cases p; simp at hi; simp [stepI, hi, hn]
theorem step_lt (hi : p.2 = false) (hl : lessS it.node x.node = true) (hn : x.node ≠ it.node) : stepI it p x = (p.1 ++ [it] ++ [x], true) := by simp [stepI, hi, hl, hn]
theorem step_lt' (hi : p.2 = false) (hl : lessS it.node x.node = true) (hn : x.node = it.node) : stepI it p x = (p.1 ++ [it], true) := by unfold stepI; rw [hi, hl, if_pos (by rfl), if_pos hn]
theorem step_ge (hi : p.2 = false) (hl : lessS it.node x.node = false) (hn : x.node ≠ it.node) : stepI it p x = (p.1 ++ [x], false) := by simp [stepI, hi, hl, hn]
theorem step_ge' (hi : p.2 = false) (hl : lessS it.node x.node = false) (hn : x.node = it.node) : stepI it p x = (p.1, false) := by unfold stepI; rw [if_neg (by rw [hi, hl]; simp), if_pos hn]; cases p; simp at hi; rw [hi]
end
theorem lessS_eq (a b : Stamp) : lessS a b = ltS a b := rfl
theorem fold_in (it : Item) : ∀ (L acc : List Item), L.foldl (stepI it) (acc, true) = (acc ++ L.filter (fun x => !decide (x.node = it.node)), true)
  | [], acc => by simp
  | x :: L, acc => by
    rw [List.foldl_cons]
    by_cases h : x.node = it.node
    · rw [step_in' rfl h, fold_in it L]; simp [h]
    · rw [step_in rfl h, fold_in it L]; simp [h]
theorem filter_none {it : Item} {L : List Item} (h : ∀ x ∈ L, x.node ≠ it.node) : L.filter (fun x => !decide (x.node = it.node)) = L := by
  rw [List.filter_eq_self]; intro x hx; simpa using h x hx
theorem fold_out (it : Item) : ∀ (L acc : List Item), Srt L → (let p := L.foldl (stepI it) (acc, false); if p.2 then p.1 else p.1 ++ [it]) = acc ++ putI it L
  | [], acc, _ => by simp [putI]
  | x :: L, acc, h => by
    obtain ⟨h1, h2⟩ := List.pairwise_cons.1 h
    rw [List.foldl_cons]
    by_cases hl : lessS it.node x.node = true
    · have hn : x.node ≠ it.node := fun e => by rw [e, lessS_eq, ltS_irrefl] at hl; cases hl
      rw [step_lt rfl hl hn, fold_in]
      have hno : ∀ y ∈ L, y.node ≠ it.node := fun y hy e => by
        have a := h1 y hy
        rw [e] at a
        rw [lessS_eq] at hl
        rw [ltS_asymm a] at hl; cases hl
      simp only [if_true]
      rw [filter_none hno]
      simp only [putI]
      rw [if_pos (by rw [← lessS_eq]; exact hl)]
      simp
    · have hl' : lessS it.node x.node = false := by simpa using hl
      by_cases hn : x.node = it.node
      · rw [step_ge' rfl hl' hn]
        have hall : ∀ y ∈ L, lessS it.node y.node = true := fun y hy => by rw [← hn]; exact h1 y hy
        have hput : putI it (x :: L) = it :: L := by simp only [putI]; rw [if_neg (by rw [← lessS_eq, hl']; simp), if_pos hn]
        rw [hput]
        cases L with
        | nil => simp
        | cons y M =>
          have hy := hall y (by simp)
          have hyn : y.node ≠ it.node := fun e => by rw [e, lessS_eq, ltS_irrefl] at hy; cases hy
          rw [List.foldl_cons, step_lt rfl hy hyn, fold_in]
          have hno : ∀ z ∈ M, z.node ≠ it.node := fun z hz e => by
            have := hall z (by simp [hz]); rw [e, lessS_eq, ltS_irrefl] at this; cases this
          simp only [if_true]
          rw [filter_none hno]; simp
      · rw [step_ge rfl hl' hn]
        have := fold_out it L (acc ++ [x]) h2
        have hput : putI it (x :: L) = x :: putI it L := by simp only [putI]; rw [if_neg (by rw [← lessS_eq, hl']; simp), if_neg hn]
        simp only at this ⊢
        rw [this, hput]
        simp
theorem setI_true {it : Item} {L : List Item} (h : Srt L) : setI it true L = putI it L := by
  have := fold_out it L [] h
  simpa [setI, foldI] using this
theorem setI_in {it : Item} {there : Bool} {L : List Item} (h : (foldI it there L).2 = true) : setI it there L = (foldI it there L).1 := by unfold setI; rw [h]; rfl
theorem setI_out {it : Item} {there : Bool} {L : List Item} (h : (foldI it there L).2 = false) : setI it there L = (foldI it there L).1 ++ [it] := by unfold setI; rw [h]; rfl
theorem fold_len (it : Item) : ∀ (L : List Item) (p : List Item × Bool), (L.foldl (stepI it) p).1.length ≤ p.1.length + 2 * L.length
  | [], p => by simp
  | x :: L, p => by
    rw [List.foldl_cons]
    refine Nat.le_trans (fold_len it L _) ?_
    have : (stepI it p x).1.length ≤ p.1.length + 2 := by unfold stepI; split <;> split <;> simp
    simp only [List.length_cons]; omega
theorem foldI_len (it : Item) (there : Bool) (L : List Item) : (foldI it there L).1.length ≤ 2 * L.length := by
  have := fold_len it L ([], !there); simpa [foldI] using this
theorem IRow.chg' {T : TypeId} {B base : Nat} {w w' : World} {v : Value} {L : List Item} {b : Nat} (h : IRow T B base w v L) (c : Chg w w' b) (hb : B ≤ b ∧ NotU8 w b) (hne : b < base) : IRow T B base w' v L :=
  h.chg c hb.1 hb.2 (h.ne_old hne)
def RIb (B base : Nat) (w : World) (ub : Nat) (L : List Item) : Prop :=
  B ≤ ub ∧ ∃ v, w.heap[ub]? = some (.cells #[v] 126 (0, 0)) ∧ IRow 127 B base w v L ∧ v.ownBlock ≠ some ub ∧ L.length ≤ 300
theorem RIb.ris {B base : Nat} {w : World} {ub : Nat} {L : List Item} (h : RIb B base w ub L) (hB : B ≤ base) : RIs B w ub L := by
  obtain ⟨h0, v, h1, h2, h3, h4⟩ := h; exact ⟨h0, v, h1, by rw [rowI_is]; exact h2.base hB, h3, h4⟩
theorem RIb.chg {B base : Nat} {w w' : World} {ub b : Nat} {L : List Item} (h : RIb B base w ub L) (c : Chg w w' b) (hb : B ≤ b ∧ NotU8 w b) (hne : ub ≠ b) (hlt : b < base) : RIb B base w' ub L := by
  obtain ⟨h0, v, h1, h2, h3, h4⟩ := h; exact ⟨h0, v, chg_ob c hne h1, h2.chg' c hb hlt, h3, h4⟩
end Go.Proofs.YtefhfoioeoijlaaGreatDoor
namespace Go.Proofs.YtefhfoioeoijlaaGreatDoor
open Go Go.RowKit Go.Sort Go.Shelf
attribute [local go_sem] Oper.semAt_some
end Go.Proofs.YtefhfoioeoijlaaGreatDoor
set_option linter.unusedVariables false
set_option linter.unusedSimpArgs false
namespace Go.Proofs.YtefhfoioeoijlaaGreatDoor
open Go Go.RowKit Go.Sort
theorem ORow.nil (T : TypeId) (B base : Nat) (w : World) : ORow T B base w (.slice none 0 0) [] := ⟨[], trivial, World.ownsRow_nil w base _ 10⟩
theorem ORow.base {T : TypeId} {B base base' : Nat} {w : World} {v : Value} {L : List OpD} (h : ORow T B base w v L) (hb : base' ≤ base) : ORow T B base' w v L := by
  obtain ⟨ds, hp, h1, h2⟩ := h
  refine ⟨ds, hp, h1, ?_⟩
  rcases h2 with hn | ⟨g, cap, cur, hv, hbg, rest⟩
  · exact .inl hn
  · exact .inr ⟨g, cap, cur, hv, Nat.le_trans hb hbg, rest⟩
end Go.Proofs.YtefhfoioeoijlaaGreatDoor
set_option linter.unusedVariables false
set_option linter.unusedSimpArgs false
namespace Go.Proofs.YtefhfoioeoijlaaGreatDoor
open Go Go.RowKit Go.Sort Go.Shelf
theorem right_kinds {o : OpD} (h : rightB o = true) : o.kind = 1 ∨ o.kind = 2 ∨ o.kind = 3 ∨ o.kind = 4 := by
  have hb : bodyB o = true := by unfold rightB at h; simp only [Bool.and_eq_true] at h; exact h.2.2.2.2
  unfold bodyB at hb
  by_cases h1 : o.kind = 1
  · exact .inl h1
  · by_cases h2 : o.kind = 2
    · exact .inr (.inl h2)
    · by_cases h3 : o.kind = 3
      · exact .inr (.inr (.inl h3))
      · by_cases h4 : o.kind = 4
        · exact .inr (.inr (.inr h4))
        · simp [h1, h2, h3, h4] at hb
theorem gotI_node {L : List Item} {n : Stamp} (h : hasI L n = true) : (gotI L n).node = n := by
  unfold hasI at h; unfold gotI
  cases hg : getI L n with
  | none => rw [hg] at h; cases h
  | some x => exact (getI_some hg).2
theorem got_not {L : List Item} {o : OpD} (h : hasI L o.node = false) (hr : rightB o = true) : ¬ (gotI L o.node).node = o.node := by
  have hn : stR o.node = true := by unfold rightB at hr; simp only [Bool.and_eq_true] at hr; exact hr.2.1
  unfold hasI at h; unfold gotI
  cases hg : getI L o.node with
  | some x => rw [hg] at h; cases h
  | none =>
    intro e
    have : o.node.t = 0 := by rw [← e]; rfl
    unfold stR at hn; simp at hn; omega
theorem rdo_x {B : Nat} {w : World} {ub : Nat} {L : List Item} (h : RIs B w ub L) (hB : B ≤ w.heap.size) (hsrt : Srt L) (o : OpD) (oA : Option Addr) (on oc : Nat) (hDo : Dat B w (.slice oA on oc) o.data) (hs : o.name.size ≤ 9223372036854775807)
    (hr : Calls Tryz.prog 82 #[trP ub, opV o (.slice oA on oc)] w fun e w' => ∃ d, e = .returned (.tuple #[itV (doI L o).1.1 d, .bool (doI L o).1.2.1, .int .i64 (doI L o).1.2.2]) ∧ Dat B w' d (doI L o).1.1.data ∧ RIs B w' ub (doI L o).2 ∧ Chg w w' ub) :
    Calls Tryz.prog 82 #[trP ub, opV o (.slice oA on oc)] w fun e w' => ∃ A n c, e = .returned (.tuple #[itV (doI L o).1.1 (.slice A n c), .bool (doI L o).1.2.1, .int .i64 (doI L o).1.2.2]) ∧ Dat B w' (.slice A n c) (doI L o).1.1.data ∧ RIs B w' ub (doI L o).2 ∧ Chg w w' ub := by
  refine hr.mono ?_
  rintro e w' ⟨d, rfl, hD, hT, hC⟩
  obtain ⟨A, n, c, rfl⟩ := hD.form
  exact ⟨A, n, c, rfl, hD, hT, hC⟩
end Go.Proofs.YtefhfoioeoijlaaGreatDoor
set_option linter.unusedVariables false
set_option linter.unusedSimpArgs false
namespace Go.Proofs.YtefhfoioeoijlaaGreatDoor
theorem fold_wf {l : List OpD} : ∀ {L : List Item}, Wf L → L.length ≤ 300 → Wf (l.foldl playI L) ∧ (l.foldl playI L).length ≤ 300 := by
  induction l with
  | nil => intro L h hl; exact ⟨h, hl⟩
  | cons o l ih => intro L h hl; exact ih (h.doI hl o) (doI_len h.srt hl)
end Go.Proofs.YtefhfoioeoijlaaGreatDoor
namespace Go.Proofs.YtefhfoioeoijlaaGreatDoor
open Go Go.RowKit Go.Sort
theorem SubO.up {B : Nat} {w w' : World} {v : Value} {L : List OpD} (h : SubO B w v L) (u : Up w w') : SubO B w' v L := by
  obtain ⟨A, c, rfl, h1⟩ := h
  refine ⟨A, c, rfl, fun hL => ?_⟩
  obtain ⟨b, o, ds, hA, hb, hp, hc⟩ := h1 hL
  exact ⟨b, o, ds, hA, Nat.lt_of_lt_of_le hb u.size, hp.mono fun x d hd => hd.up u, fun j v hj => (u.cell (p := ⟨b, o + j, none⟩) hb).trans (hc j v hj)⟩
theorem flatO_drop : ∀ {L : List OpD} {ds : List Value} (k : Nat), L.length = ds.length → flatO (L.drop k) (ds.drop k) = (flatO L ds).drop (k * 10)
  | [], [], k, _ => by simp [flatO]
  | x :: L, d :: ds, 0, _ => by simp
  | x :: L, d :: ds, k + 1, h => by
    have ih := flatO_drop (L := L) (ds := ds) k (by simpa using h)
    simp only [List.drop_succ_cons, flatO, ih]
    rw [show (k + 1) * 10 = (opC x d).length + k * 10 by simp [opC]; omega, List.drop_length_add_append]
theorem Pair.drop {α β : Type} {R : α → β → Prop} : ∀ {xs : List α} {ys : List β} (k : Nat), Pair R xs ys → Pair R (xs.drop k) (ys.drop k)
  | [], [], k, _ => by simp [Pair]
  | [], _ :: _, _, h => h.elim
  | _ :: _, [], _, h => h.elim
  | x :: xs, y :: ys, 0, h => h
  | x :: xs, y :: ys, k + 1, h => Pair.drop k h.2
theorem ORow.cells {T : TypeId} {B base : Nat} {w : World} {A : Option Addr} {n c : Nat} {L : List OpD} (h : ORow T B base w (.slice A n c) L) (hL : L ≠ []) :
    ∃ g ds, A = some ⟨g, 0, none⟩ ∧ g < w.heap.size ∧ Pair (fun x d => Dat B w d x.data) L ds ∧ ∀ (j : Nat) (u : Value), (flatO L ds)[j]? = some u → w.cell? ⟨g, j, none⟩ = some u := by
  obtain ⟨ds, hp, h1, ⟨e, h0⟩ | ⟨g, cap, cur, e, hb, hg, hc, hm, hcs, htk⟩⟩ := h
  · exact absurd (List.eq_nil_of_length_eq_zero h0) hL
  · injection e with e1 _ _
    refine ⟨g, ds, e1, lt_ob hg, hp, fun j u hj => ?_⟩
    rw [← htk, List.getElem?_take] at hj
    split at hj
    · rw [Array.getElem?_toList] at hj
      simp only [World.cell?, hg]; simpa using hj
    · cases hj
theorem ORow.addr {T : TypeId} {B base : Nat} {w : World} {A : Option Addr} {n c : Nat} {L : List OpD} (h : ORow T B base w (.slice A n c) L) : n = L.length ∧ n ≤ c ∧ (A = none ∧ c = 0 ∨ ∃ g, A = some ⟨g, 0, none⟩) := by
  obtain ⟨ds, hp, h1, ⟨e, h0⟩ | ⟨g, cap, cur, e, hb, hg, hc, hm, hcs, htk⟩⟩ := h
  · injection e with e1 e2 e3
    exact ⟨by omega, by omega, .inl ⟨e1, e3⟩⟩
  · injection e with e1 e2 e3
    exact ⟨by omega, by omega, .inr ⟨g, e1⟩⟩
section
variable {P : Program}
theorem ORow.headCut {T : TypeId} {B base : Nat} {w : World} {A : Option Addr} {n c k : Nat} {L : List OpD} (h : ORow T B base w (.slice A n c) L) (hk : k ≤ n) (t e : TypeId) (hu : P.underlying t = some (.slice e)) (hsz : ∀ w, (sizeOf e).run P w = .ok 10 w) :
    SubO B w (.slice A k c) (L.take k) ∧ ∀ (d : Option Tmp) (ty : TypeId) (pos : String) (af : Array Edge) (gd : Option (Nat × Bool)) (ρ : Operand → Value) (x hi : Operand) (W : World), ρ x = .slice A n c → ρ hi = .int .i64 (k : Int) → (execOp ρ ⟨d, .slice t x none (some hi) none, ty, pos, af, gd⟩).run P W = .ok (.value (.slice A k c)) W := by
  obtain ⟨hn, hnc, hA⟩ := h.addr
  refine ⟨⟨A, c, by rw [List.length_take, Nat.min_eq_left (by omega)], fun hL => ?_⟩, ?_⟩
  · have hL' : L ≠ [] := by rintro rfl; simp at hL
    obtain ⟨g, ds, rfl, hg, hp, hc⟩ := h.cells hL'
    refine ⟨g, 0, ds.take k, rfl, hg, hp.take k, fun j u hj => ?_⟩
    rw [flatO_take k hp.length, List.getElem?_take] at hj
    split at hj
    · rw [Nat.zero_add]; exact hc j u hj
    · cases hj
  · intro d ty pos af gd ρ x hi W hx hhi
    have h1 : (0 : Int) ≤ (k : Int) ∧ (k : Int) ≤ (c : Int) := by omega
    rcases hA with ⟨rfl, rfl⟩ | ⟨g, rfl⟩
    · have : k = 0 := by omega
      subst this
      simp [execOp, hx, hhi, Instr.sliceAt, Instr.slice, Instr.sliceBounds, Instr.sliceBound, asIntOf, run_underlying hu, hsz]
    · exact r_sliceHi hx hhi hu hsz (by omega)
theorem ORow.tailCut {T : TypeId} {B base : Nat} {w : World} {A : Option Addr} {n c k : Nat} {L : List OpD} (h : ORow T B base w (.slice A n c) L) (hk : k ≤ n) (t e : TypeId) (hu : P.underlying t = some (.slice e)) (hsz : ∀ w, (sizeOf e).run P w = .ok 10 w) :
    ∃ A', SubO B w (.slice A' (n - k) (c - k)) (L.drop k) ∧ ∀ (d : Option Tmp) (ty : TypeId) (pos : String) (af : Array Edge) (gd : Option (Nat × Bool)) (ρ : Operand → Value) (x lo : Operand) (W : World), ρ x = .slice A n c → ρ lo = .int .i64 (k : Int) → (execOp ρ ⟨d, .slice t x (some lo) none none, ty, pos, af, gd⟩).run P W = .ok (.value (.slice A' (n - k) (c - k))) W := by
  obtain ⟨hn, hnc, hA⟩ := h.addr
  have h1 : (0 : Int) ≤ (k : Int) ∧ (k : Int) ≤ (n : Int) := by omega
  by_cases hkc : k < c
  · rcases hA with ⟨rfl, rfl⟩ | ⟨g, rfl⟩
    · omega
    · refine ⟨some ⟨g, 0 + k * 10, none⟩, ⟨_, _, by rw [List.length_drop, hn], fun hL => ?_⟩, fun d ty pos af gd ρ x lo W hx hlo => r_sliceLo hx hlo hu hsz hk hkc⟩
      have hL' : L ≠ [] := by rintro rfl; simp at hL
      obtain ⟨g', ds, e, hg, hp, hc⟩ := h.cells hL'
      injection e with e; injection e with e _ _
      subst e
      refine ⟨g, 0 + k * 10, ds.drop k, rfl, hg, hp.drop k, fun j u hj => ?_⟩
      rw [flatO_drop k hp.length, List.getElem?_drop] at hj
      rw [Nat.zero_add]; exact hc _ u hj
  · have hck : c = k := by omega
    refine ⟨A, ⟨_, _, by rw [List.length_drop, hn], fun hL => ?_⟩, fun d ty pos af gd ρ x lo W hx hlo => ?_⟩
    · exact absurd (List.drop_eq_nil_of_le (by omega)) hL
    · simp [execOp, hx, hlo, Instr.sliceAt, Instr.slice, Instr.sliceBounds, Instr.sliceBound, asIntOf, run_underlying hu, hsz, h1, hck, hk]
end
theorem SubO.one {B : Nat} {w : World} {b : Nat} {x : OpD} {d : Value} {T : TypeId} (hb : w.heap[b]? = some (.cells (opC x d).toArray T (0, 0))) (hD : Dat B w d x.data) : SubO B w (.slice (some ⟨b, 0, none⟩) 1 1) [x] := by
  refine ⟨_, _, rfl, fun _ => ⟨b, 0, [d], rfl, lt_ob hb, ⟨hD, trivial⟩, fun j u hj => ?_⟩⟩
  simp only [flatO, List.append_nil] at hj
  have : (opC x d).toArray[j]? = some u := by simpa using hj
  rw [Nat.zero_add]
  simp only [World.cell?, hb]; simpa using this
theorem flatO_app : ∀ {L M : List OpD} {ds es : List Value}, L.length = ds.length → flatO (L ++ M) (ds ++ es) = flatO L ds ++ flatO M es
  | [], M, [], es, _ => by simp [flatO]
  | x :: L, M, d :: ds, es, h => by simp [flatO, flatO_app (L := L) (ds := ds) (by simpa using h)]
theorem Pair.app {α β : Type} {R : α → β → Prop} : ∀ {xs xs' : List α} {ys ys' : List β}, Pair R xs ys → Pair R xs' ys' → Pair R (xs ++ xs') (ys ++ ys')
  | [], _, [], _, _, h => h
  | [], _, _ :: _, _, h, _ => h.elim
  | _ :: _, _, [], _, h, _ => h.elim
  | x :: xs, _, y :: ys, _, h, k => ⟨h.1, Pair.app h.2 k⟩
section
variable {T : TypeId} {ops : Array Oper} {Q : Exit → Act → World → Prop} {a : Act} {w : World} {J : Act → World → Prop} {d : Option Tmp} {ty : TypeId} {pos : String} {af : Array Edge} {gd : Option (Nat × Bool)} {B base : Nat} {L M : List OpD} {t : TypeId} {i : TypeInfo} {z : Value}
theorem litO (hw : Region.wanted (⟨d, .buildSlice t 0 #[], ty, pos, af, gd⟩ : Oper) (yielded ops a.tmps) = true) (ht : Tryz.prog.underlying t = some (.slice T)) (hsz : ∀ w, (sizeOf T).run Tryz.prog w = .ok 10 w) (hbase : base ≤ w.heap.size)
    (k : ∀ b w', b = w.heap.size → w'.heap[b]? = some (.cells #[] T (0, 0)) → ORow T B base w' (.slice (some ⟨b, 0, none⟩) 0 0) [] → Up w w' → J (a.put d (.slice (some ⟨b, 0, none⟩) 0 0)) w') : St1 Tryz.prog ops Q ⟨d, .buildSlice t 0 #[], ty, pos, af, gd⟩ J a w := by
  have hrun : (execOp a.eval ⟨d, .buildSlice t 0 #[], ty, pos, af, gd⟩).run Tryz.prog w = .ok (.value (.slice (some ⟨w.heap.size, 0, none⟩) 0 0)) (w.alloc (.cells #[] T)) := by
    simp [execOp, Instr.buildSlice, run_underlying ht, hsz, Instr.fill, newRow, Array.range_zero']
  exact sv hw hrun (k _ _ rfl (heap_alloc_new w _) ⟨[], trivial, World.ownsRow_lit w #[] 0 hbase (by unfold maxLen; omega) (by simp)⟩ (up_alloc w _))
theorem apO {s y : Operand} {b n c : Nat} {v : Value} (hw : Region.wanted (⟨d, .call ⟨.builtin .append, #[s, y], #[t, t]⟩, ty, pos, af, gd⟩ : Oper) (yielded ops a.tmps) = true) (hs : a.eval s = .slice (some ⟨b, 0, none⟩) n c) (hy : a.eval y = v)
    (h : ORow T B base w (.slice (some ⟨b, 0, none⟩) n c) L) (hM : SubO B w v M) (ht : Tryz.prog.underlying t = some (.slice T)) (hi : Tryz.prog.info? T = some i) (hz : i.zero = some z) (hsize : i.size = 10) (hby : i.bytes = 104) (hzs : z.cells.size = 10) (hT : T ≠ 5) (hB : B ≤ base) (hbase : base ≤ w.heap.size) (hlen : L.length + M.length ≤ 1000000)
    (k : ∀ b' n' c' w', n' = (L ++ M).length → ORow T B base w' (.slice (some ⟨b', 0, none⟩) n' c') (L ++ M) → base ≤ b' → Chg w w' b → J (a.put d (.slice (some ⟨b', 0, none⟩) n' c')) w') : St1 Tryz.prog ops Q ⟨d, .call ⟨.builtin .append, #[s, y], #[t, t]⟩, ty, pos, af, gd⟩ J a w := by
  have hbg := h.ge hB
  obtain ⟨hn, hnc, _, cur, hg, _⟩ := h.blk
  have hk : B ≤ b ∧ NotU8 w b := ⟨hbg, NotU8.of hg hT⟩
  obtain ⟨ds, hp, ho⟩ := h
  rw [← hn] at ho
  obtain ⟨A, c2, rfl, hM⟩ := hM
  by_cases hM0 : M = []
  · subst hM0
    have hrun : (Builtin.append_ #[t, t] ty #[.slice (some ⟨b, 0, none⟩) n c, .slice A 0 c2]).run Tryz.prog w = .ok (.slice (some ⟨b, 0, none⟩) n c) w := by
      cases A <;> simp [Builtin.append_, run_underlying ht, sizeOf, typeInfo, hi, Builtin.lenOf, Builtin.firstCells, hnc, storeCells, loadCells, loadCellsFrom]
    refine sv hw ?_ (k b n c w (by simpa using hn) ⟨ds, by simpa using hp, by rw [List.append_nil, ← hn]; exact ho⟩ ?_ ⟨rfl, rfl, rfl, Nat.le_refl _, fun _ _ _ => rfl⟩)
    · simp only [List.length_nil] at hy
      simp [execOp, resolve, invoke, builtin, hs, hy, hrun]
    · exact (ho.lt b rfl).1
  · obtain ⟨g, o, es, rfl, hgl, hp2, hc⟩ := hM hM0
    obtain ⟨v', w', h1, h2, h3, h4⟩ := run_append_own (P := Tryz.prog) w base t ty T i z 10 104 ht hi hz hsize hby hzs (by decide) _ n (flatO L ds) ho ⟨g, o, none⟩ M.length c2 (flatO M es) (flatO_length hp2.length)
      (fun j u hj => by rw [add_at]; exact hc j u hj) (flatO_one hp2) (by unfold maxLen; omega) (by omega) hbase
    have hnn : v' ≠ .slice none 0 0 := fun e => by have := (h4.1 e).1; cases this
    have hR : ORow T B base w' v' (L ++ M) := ⟨ds ++ es, Pair.app (hp.mono fun x d hd => hd.chg h3 hk) (hp2.mono fun x d hd => hd.chg h3 hk), by rw [flatO_app hp.length, List.length_append, ← hn]; exact h2⟩
    obtain ⟨A', c', rfl⟩ := hR.form
    rcases hR.addr.2.2 with ⟨rfl, rfl⟩ | ⟨b', rfl⟩
    · exfalso
      obtain ⟨_, _, _, ⟨e, h0⟩ | ⟨_, _, _, e, _⟩⟩ := hR
      · exact hnn e
      · cases e
    · refine sv hw ?_ (k b' _ c' w' rfl hR (hR.own b' rfl).1 h3)
      simp [execOp, resolve, invoke, builtin, hs, hy, h1]
end
theorem insO_at {x : OpD} : ∀ {L : List OpD} {k : Nat}, (∀ j y, j < k → L[j]? = some y → ltS y.at_ x.at_ = true) → (k = L.length ∨ ∃ y, L[k]? = some y ∧ ltS y.at_ x.at_ = false ∧ y.at_ ≠ x.at_) → insO L x = L.take k ++ [x] ++ L.drop k
  | [], k, _, _ => by simp [insO]
  | y :: L, 0, _, h => by
    rcases h with h | ⟨z, hz, h1, h2⟩
    · simp at h
    · simp at hz; subst hz
      simp [insO, h1, h2]
  | y :: L, k + 1, hlt, h => by
    have hy := hlt 0 y (by omega) rfl
    have ih := insO_at (x := x) (L := L) (k := k) (fun j z hj hz => hlt (j + 1) z (by omega) (by simpa using hz)) (by
      rcases h with h | ⟨z, hz, h1, h2⟩
      · exact .inl (by simpa using h)
      · exact .inr ⟨z, by simpa using hz, h1, h2⟩)
    rw [insO, if_pos hy, ih]; simp
theorem insO_skip {x : OpD} : ∀ {L : List OpD} {k : Nat} {y : OpD}, (∀ j y, j < k → L[j]? = some y → ltS y.at_ x.at_ = true) → L[k]? = some y → y.at_ = x.at_ → insO L x = L
  | z :: L, 0, y, _, hy, e => by
    simp at hy; subst hy
    simp [insO, e, ltS_irrefl]
  | z :: L, k + 1, y, hlt, hy, e => by
    have hz := hlt 0 z (by omega) rfl
    have ih := insO_skip (x := x) (L := L) (k := k) (y := y) (fun j z hj hz => hlt (j + 1) z (by omega) (by simpa using hz)) (by simpa using hy) e
    rw [insO, if_pos hz, ih]
theorem lt_next {L : List OpD} {k : Nat} {x y : OpD} (h : Hid (∀ (j : Nat) (y : OpD), j < k → L[j]? = some y → ltS y.at_ x.at_ = true)) (hy : L[k]? = some y) (hl : ltS y.at_ x.at_ = true) : Hid (∀ (j : Nat) (y : OpD), j < k + 1 → L[j]? = some y → ltS y.at_ x.at_ = true) := fun j z hj hz => by
  rcases Nat.lt_or_ge j k with h1 | h1
  · exact h.out j z h1 hz
  · obtain rfl : j = k := by omega
    rw [hy] at hz; injection hz with hz; subst hz; exact hl
end Go.Proofs.YtefhfoioeoijlaaGreatDoor
namespace Go.Proofs.YtefhfoioeoijlaaGreatDoor
open Go Go.RowKit Go.Sort
section
variable {P : Program} {d : Option Tmp} {ty : TypeId} {pos : String} {af : Array Edge} {gd : Option (Nat × Bool)} {ρ : Operand → Value} {w : World}
theorem r_rem {t yt : TypeId} {x y : Operand} {m n c : Int} (hx : ρ x = .int .i64 m) (hy : ρ y = .int .i64 n) (hn : n ≠ 0) (hc : Int.tmod m n = c) : (execOp ρ ⟨d, .binOp .rem t x y yt, ty, pos, af, gd⟩).run P w = .ok (.value (.int .i64 c)) w := by
  subst hc
  simp [execOp, hx, hy, eqGuard, binOp, Op.intArith, Op.intDiv, hn]
end
end Go.Proofs.YtefhfoioeoijlaaGreatDoor
set_option linter.unusedVariables false
set_option linter.unusedSimpArgs false
namespace Go.Proofs.YtefhfoioeoijlaaGreatDoor
open Go Go.RowKit Go.Sort
theorem itoa_pos {n : Int} (h : 0 ≤ n) : Lib.itoa n = Lib.decDigits n.toNat := by unfold Lib.itoa; rw [if_neg (by omega)]
theorem metB_iff {met : List ByteArray} {s : ByteArray} : metB met s = true ↔ s ∈ met := by
  unfold metB
  rw [List.any_eq_true]
  constructor
  · rintro ⟨m, hm, e⟩; rw [← of_decide_eq_true e]; exact hm
  · intro h; exact ⟨s, h, by simp⟩
theorem ba_ext {a b : ByteArray} (h : a.data.toList = b.data.toList) : a = b := by
  cases a; cases b; simp only at h; rw [Array.toList_inj.1 h]
end Go.Proofs.YtefhfoioeoijlaaGreatDoor
set_option linter.unusedVariables false
set_option linter.unusedSimpArgs false
namespace Go.Proofs.YtefhfoioeoijlaaGreatDoor
open Go Go.RowKit Go.Sort
theorem join_cons2 (x y : List UInt8) (t : List (List UInt8)) (c : UInt8) : Lib.join (x :: y :: t) [c] = x ++ ([c] ++ Lib.join (y :: t) [c]) := by simp [Lib.join, List.intercalate, List.intersperse]
end Go.Proofs.YtefhfoioeoijlaaGreatDoor
set_option linter.unusedVariables false
set_option linter.unusedSimpArgs false
namespace Go.Proofs.YtefhfoioeoijlaaGreatDoor
open Go Go.RowKit Go.Sort
theorem join_oneB (x : ByteArray) : joinB [x] = x := by
  apply ba_ext; show Lib.join [x.data.toList] [47] = _; rw [Lib.join_one]
end Go.Proofs.YtefhfoioeoijlaaGreatDoor
set_option linter.unusedVariables false
set_option linter.unusedSimpArgs false
namespace Go.Proofs.YtefhfoioeoijlaaGreatDoor
open Go Go.RowKit Go.Sort
def slashL : List ByteArray → ByteArray
  | [] => ⟨#[]⟩
  | x :: l => ((⟨#[47]⟩ : ByteArray) ++ x) ++ slashL l
theorem slashL_snoc (x : ByteArray) : ∀ l : List ByteArray, slashL (l ++ [x]) = (slashL l ++ (⟨#[47]⟩ : ByteArray)) ++ x
  | [] => by apply ba_ext; simp [slashL]
  | y :: l => by
    rw [List.cons_append, slashL, slashL_snoc x l, slashL]
    apply ba_ext; simp
theorem slashL_is : ∀ {l : List ByteArray}, l ≠ [] → slashL l = (⟨#[47]⟩ : ByteArray) ++ joinB l
  | [x], _ => by apply ba_ext; rw [join_oneB]; simp [slashL]
  | x :: y :: l, _ => by
    rw [slashL, slashL_is (l := y :: l) (by simp)]
    apply ba_ext
    have e : (joinB (x :: y :: l)).data.toList = x.data.toList ++ ([47] ++ (joinB (y :: l)).data.toList) := by
      show Lib.join _ _ = _ ++ (_ ++ Lib.join _ _)
      exact join_cons2 _ _ _ _
    simp [e]
end Go.Proofs.YtefhfoioeoijlaaGreatDoor
namespace Go.Proofs.YtefhfoioeoijlaaGreatDoor
open Go Go.RowKit Go.Sort
theorem sz_len (s : ByteArray) : s.size = s.data.toList.length := by simp
end Go.Proofs.YtefhfoioeoijlaaGreatDoor

/- The walks of ViewMatches: each Go function that it reaches computes the plain matching of VmPure, and turns nothing but the count of draws; no condition but sizes. -/
import Derived.WalkKit
import Derived.WalkSpells
import Derived.WalkLawsBesides
import Derived.Deep.LoopGhost
import Derived.Deep.QuietTactic
import Derived.BigQuiet
import Derived.Lib.Hide
import Derived.Deep.Draws
import Derived.Test.YtefhfoioeoijlaaProg
import Derived.Test.YtefhfoioeoijlaaVmPure
import Derived.Test.YtefhfoioeoijlaaShelf
set_option linter.unusedVariables false
set_option linter.unusedSimpArgs false
namespace Go.Proofs.Ytefhfoioeoijlaa
open Go.RowKit

set_option maxHeartbeats 400000 in
theorem at_any (p s : ByteArray) (w : World) (hp : p.size ≤ s.size) (hs : s.size ≤ 1000) :
    Calls Try.prog 105 #[.string p, .string s] w fun e w' => e = .returned (.bool (atL p.data.toList s.data.toList)) ∧ ∃ n, w' = w.drewN n := by
  go_enter Try.func105, Try.ntmps105
  go_wp2
  go_loopw [8] (fun i wr => ∃ k n : Nat, k ≤ p.size ∧ i = .int .i64 k ∧ wr = w.drewN n ∧ Hid (atL p.data.toList s.data.toList = atL (p.data.toList.drop k) (s.data.toList.drop k))) (fun i _ => p.size - (intOf i).toNat)
  case atStart => exact ⟨0, 0, Nat.zero_le _, rfl, rfl, rfl⟩
  case round =>
    obtain ⟨k, n, hk, rfl, rfl, H⟩ := hrel
    by_cases hlt : k < p.size
    · have hlt2 : k < s.size := by omega
      have hlt2z : (k : Int) < (s.size : Int) := by omega
      have hltz : (k : Int) < (p.size : Int) := by omega
      have hat := atL_at p s k hlt hlt2
      have HA := Lib.hid hat
      clear hat
      by_cases hc : ((p[k].toNat : Int) != 63) = true
      · by_cases hd : ((p[k].toNat : Int) != (s[k].toNat : Int)) = true
        · have e : atL p.data.toList s.data.toList = false := by
            rw [H.out, HA.out]
            have h1 : (p[k] == 63) = false := byte_ne_num _ 63 (by omega) (by simpa using hc)
            have h2 : (p[k] == s[k]) = false := byte_ne_byte _ _ (by simpa using hd)
            rw [h1, h2]; rfl
          have HE := Lib.hid e
          clear e
          go_wp2
          go_quiet (fail)
          go_wp2
          go_ret
          exact ⟨by rw [HE.out]; rfl, _, World.drewN_drewN ..⟩
        · have e : (p[k] == s[k]) = true := byte_eq_byte _ _ (by simpa using hd)
          have HE := Lib.hid e
          clear e
          have hd' : ((p[k].toNat : Int) != (s[k].toNat : Int)) = false := by simpa using hd
          go_wp2
          go_quiet (fail)
          go_wp2
          go_roundw
          case rel => exact ⟨k + 1, _, by omega, by go_num, rfl, (by rw [H.out, HA.out, HE.out]; simp : _ = _)⟩
          case measure => simp [intOf]; omega
      · have e : (p[k] == 63) = true := byte_eq_num _ 63 (by simpa using hc) (by omega)
        have HE := Lib.hid e
        clear e
        have hc' : ((p[k].toNat : Int) != 63) = false := by simpa using hc
        go_wp2
        go_quiet (fail)
        go_wp2
        go_roundw
        case rel => exact ⟨k + 1, _, by omega, by go_num, rfl, (by rw [H.out, HA.out, HE.out]; simp : _ = _)⟩
        case measure => simp [intOf]; omega
    · go_wp2
      go_ret
      refine ⟨?_, _, rfl⟩
      have : k = p.size := by omega
      subst this
      rw [H.out, List.drop_of_length_le (by simp)]; rfl

theorem mk_len (l : List UInt8) : (⟨l.toArray⟩ : ByteArray).size = l.length := by show l.toArray.size = _; simp
theorem size_data (s : ByteArray) : s.size = s.data.toList.length := by rw [Array.length_toList]; rfl
theorem mk_data (s : ByteArray) : (⟨s.data.toList.toArray⟩ : ByteArray) = s := by cases s; simp

set_option maxHeartbeats 1000000 in
theorem match_any (m : Int) : ∀ (N : Nat) (p s : ByteArray) (w : World), p.size < N → N ≤ 1000 → s.size ≤ 1000 → w.cell? ⟨0, 0, none⟩ = some (.int .i64 m) →
    Calls Try.prog 80 #[.string p, .string s] w fun e w' => e = .returned (.bool (mt p.data.toList s.data.toList)) ∧ ∃ n, w' = w.drewN n := by
  intro N
  induction N with
  | zero => intro p s w h; omega
  | succ N ih =>
    intro p s w hp hN hs hm
    have HI := Lib.hid ih
    clear ih
    rcases cut_star p.data.toList with ⟨hc, hns⟩ | ⟨a, b, hp', hns, hc⟩
    · have HC := Lib.hid hc
      have HM := Lib.hid (mt_nostar p.data.toList s.data.toList hns)
      clear hc hns
      go_enter Try.func80, Try.ntmps80
      go_wp2_with fail
      refine (Try.strings_Cut p ⟨#[42]⟩ m w (by omega) hm).mono ?_
      rintro e w' ⟨rfl, n1, rfl⟩
      rw [HC.out]
      simp only [mk_data]
      by_cases hl : (p.size : Int) = (s.size : Int)
      · go_wp2_with fail
        refine (at_any p s _ (by omega) hs).mono ?_
        rintro e w' ⟨rfl, n2, rfl⟩
        go_wp2_with fail
        go_ret
        refine ⟨?_, _, by first | rfl | exact World.drewN_drewN ..⟩
        rw [HM.out, ← size_data, ← size_data]
        simp [Int.ofNat_inj.1 hl]
      · go_wp2_with fail
        go_ret
        refine ⟨?_, _, rfl⟩
        rw [HM.out, ← size_data, ← size_data]
        have : ¬ p.size = s.size := fun e => hl (by rw [e])
        simp [this]
    · have HC := Lib.hid hc
      have HM := Lib.hid (mt_star a b s.data.toList hns)
      have HP := Lib.hid hp'
      have hab : p.size = a.length + (b.length + 1) := by rw [size_data, hp']; simp
      have HAB := Lib.hid hab
      have hbN : b.length < N := by omega
      have haN : a.length ≤ 1000 := by omega
      clear hc hns hp' hab
      obtain ⟨A, hA⟩ : ∃ A : ByteArray, A = ⟨a.toArray⟩ := ⟨_, rfl⟩
      obtain ⟨B, hB⟩ : ∃ B : ByteArray, B = ⟨b.toArray⟩ := ⟨_, rfl⟩
      have hA1 : A.data.toList = a := by rw [hA]
      have hB1 : B.data.toList = b := by rw [hB]
      have hAs : A.size = a.length := by rw [hA, mk_len]
      have hBs : B.size < N := by rw [hB, mk_len]; exact hbN
      have hAm : A.size ≤ 1000 := by omega
      have HA := Lib.hid hA1
      have HB := Lib.hid hB1
      have HAs := Lib.hid hAs
      go_enter Try.func80, Try.ntmps80
      go_wp2_with fail
      refine (Try.strings_Cut p ⟨#[42]⟩ m w (by omega) hm).mono ?_
      rintro e w' ⟨rfl, n1, rfl⟩
      rw [HC.out]
      rw [← hA, ← hB]
      clear hA hB hA1 hB1 hAs hbN haN
      by_cases hl : s.size < A.size
      · go_wp2_with fail
        go_ret
        refine ⟨?_, _, rfl⟩
        rw [HP.out, HM.out, ← size_data]
        have : ¬ a.length ≤ s.size := by have := HAs.out; omega
        simp [this]
      · have hlb : decide (s.size < A.size) = false := decide_eq_false hl
        by_cases hat : atL a s.data.toList = true
        · have HT := Lib.hid hat
          clear hat
          go_wp2_with fail
          refine (at_any A s _ (by omega) hs).mono ?_
          rintro e w' ⟨rfl, n2, rfl⟩
          rw [HA.out, HT.out]
          go_wp2_with fail
          go_loopw [8] (fun i wr => ∃ k n : Nat, A.size ≤ k ∧ k ≤ s.size + 1 ∧ i = .int .i64 k ∧ wr = w.drewN n ∧ Hid (∀ j, A.size ≤ j → j < k → mt b (s.data.toList.drop j) = false)) (fun i _ => s.size + 1 - (intOf i).toNat)
          case atStart => exact ⟨A.size, _, Nat.le_refl _, by omega, rfl, by first | rfl | exact World.drewN_drewN .., fun j h1 h2 => by omega⟩
          case round =>
            obtain ⟨k, n, hk1, hk2, rfl, rfl, H⟩ := hrel
            by_cases hlt : k ≤ s.size
            · have hltz : (k : Int) ≤ (s.size : Int) := by omega
              by_cases hm' : mt b (s.data.toList.drop k) = true
              · have HM' := Lib.hid hm'
                clear hm'
                go_wp2_with fail
                refine (HI.out B (s.extract k s.size) _ (by omega) (by omega) (by rw [ByteArray.size_extract]; omega) (by simpa using hm)).mono ?_
                rintro e w' ⟨rfl, n3, rfl⟩
                rw [Lib.extract_to_end, HB.out, HM'.out]
                go_wp2_with fail
                go_ret
                refine ⟨?_, _, by first | rfl | exact World.drewN_drewN ..⟩
                have hAs := HAs.out
                have hfin : mt p.data.toList s.data.toList = true := by
                  rw [HP.out, HM.out, HT.out, ← size_data]
                  simp only [Bool.and_eq_true, decide_eq_true_eq, Bool.true_and, List.any_eq_true, List.mem_range]
                  exact ⟨by omega, k - a.length, by omega, by rw [show a.length + (k - a.length) = k by omega]; exact HM'.out⟩
                rw [hfin]; rfl
              · have HM' := Lib.hid (Bool.eq_false_iff.2 hm')
                clear hm'
                go_wp2_with fail
                refine (HI.out B (s.extract k s.size) _ (by omega) (by omega) (by rw [ByteArray.size_extract]; omega) (by simpa using hm)).mono ?_
                rintro e w' ⟨rfl, n3, rfl⟩
                rw [Lib.extract_to_end, HB.out, HM'.out]
                go_wp2_with fail
                go_roundw
                case rel =>
                  refine ⟨k + 1, _, by omega, by omega, by go_num, by first | rfl | exact World.drewN_drewN .., fun j h1 h2 => ?_⟩
                  by_cases e : j = k
                  · rw [e]; exact HM'.out
                  · exact H.out j h1 (by omega)
                case measure => simp [intOf]; omega
            · go_wp2_with fail
              go_ret
              refine ⟨?_, _, rfl⟩
              have hAs := HAs.out
              have hfin : mt p.data.toList s.data.toList = false := by
                rw [HP.out, HM.out, HT.out, ← size_data]
                simp only [Bool.true_and, Bool.and_eq_false_iff, decide_eq_false_iff_not, List.any_eq_false, List.mem_range]
                exact .inr fun i hi => by rw [H.out _ (by omega) (by omega)]; simp
              rw [hfin]; rfl
        · have HT := Lib.hid (Bool.eq_false_iff.2 hat)
          clear hat
          go_wp2_with fail
          refine (at_any A s _ (by omega) hs).mono ?_
          rintro e w' ⟨rfl, n2, rfl⟩
          rw [HA.out, HT.out]
          go_wp2_with fail
          go_ret
          refine ⟨?_, _, by first | rfl | exact World.drewN_drewN ..⟩
          rw [HP.out, HM.out, HT.out]
          simp

/-! ### the document's answer -/
set_option maxHeartbeats 1000000 in
theorem refMatch_any : ∀ (N : Nat) (p s : ByteArray) (w : World), p.size < N → N ≤ 1000 → s.size ≤ 1000 →
    Calls Try.prog 50 #[.string p, .string s] w fun e w' => e = .returned (.bool (mt p.data.toList s.data.toList)) ∧ ∃ n, w' = w.drewN n := by
  intro N
  induction N with
  | zero => intro p s w h; omega
  | succ N ih =>
    intro p s w hp hN hs
    have HI := Lib.hid ih
    clear ih
    by_cases h0 : p.size = 0
    · have hp0 : p.data.toList = [] := List.eq_nil_of_length_eq_zero (by rw [← size_data]; exact h0)
      have H0 := Lib.hid (show mt p.data.toList s.data.toList = s.data.toList.isEmpty by rw [hp0]; rfl)
      have he : p.toList.isEmpty = true := by rw [ByteArray.toList_eq]; simp [hp0]
      clear h0
      go_enter Try.func50, Try.ntmps50
      go_wp2_with fail
      go_ret
      exact ⟨by rw [H0.out, ByteArray.toList_eq]; rfl, 0, rfl⟩
    · have hpos : 0 < p.size := by omega
      obtain ⟨c, q, hcq⟩ : ∃ c q, p.data.toList = c :: q := by
        cases hd : p.data.toList with
        | nil => rw [size_data, hd] at hpos; simp at hpos
        | cons c q => exact ⟨c, q, rfl⟩
      have he : p.toList.isEmpty = false := by rw [ByteArray.toList_eq, hcq]; rfl
      have hc0 : p[0] = c := by
        have h1 : p.data.toList[0]? = some p[0] := Lib.data_getElem? p 0 hpos
        rw [hcq] at h1
        simpa using h1.symm
      have hq : (p.extract 1 p.size).data.toList = q := by rw [Lib.extract_to_end, hcq]; rfl
      have hqs : (p.extract 1 p.size).size < N := by rw [ByteArray.size_extract]; omega
      obtain ⟨Q, hQ⟩ : ∃ Q, Q = p.extract 1 p.size := ⟨_, rfl⟩
      rw [← hQ] at hq hqs
      have HQ := Lib.hid hQ
      have HQL := Lib.hid hq
      have HCQ := Lib.hid hcq
      have HC0 := Lib.hid hc0
      have hp1 : 1 ≤ p.size := hpos
      clear h0 hQ hq hcq hc0
      by_cases hst : ((p[0].toNat : Int) == 42) = true
      · have hc42 : c = 42 := by
          have h1 : p[0] = 42 := UInt8.toNat_inj.1 (by have := beq_iff_eq.1 hst; show _ = 42; omega)
          rw [← HC0.out, h1]
        have HM := Lib.hid (show mt p.data.toList s.data.toList = (List.range (s.size + 1)).any fun i => mt q (s.data.toList.drop i) by rw [HCQ.out, hc42, size_data]; simp [mt])
        clear hc42
        go_enter Try.func50, Try.ntmps50
        go_wp2_with fail
        go_loopw [5] (fun i wr => ∃ k n : Nat, k ≤ s.size + 1 ∧ i = .int .i64 k ∧ wr = w.drewN n ∧ Hid (∀ j, j < k → mt q (s.data.toList.drop j) = false)) (fun i _ => s.size + 1 - (intOf i).toNat)
        case atStart => exact ⟨0, 0, by omega, rfl, rfl, fun j h2 => by omega⟩
        case round =>
          obtain ⟨k, n, hk2, rfl, rfl, H⟩ := hrel
          by_cases hlt : k ≤ s.size
          · have hltz : (k : Int) ≤ (s.size : Int) := by omega
            have hcall := fun (W : World) => HI.out Q (s.extract k s.size) W hqs (by omega) (by rw [ByteArray.size_extract]; omega)
            simp only [Lib.extract_to_end, HQL.out] at hcall
            have hcall' := fun (W : World) => hcall W
            rw [HQ.out] at hcall'
            clear hcall
            obtain ⟨W, hW⟩ : ∃ W, W = w.drewN n := ⟨_, rfl⟩
            rw [← hW]
            have HW := Lib.hid hW
            clear hW
            by_cases hm' : mt q (s.data.toList.drop k) = true
            · have HM' := Lib.hid hm'
              rw [hm'] at hcall'
              clear hm'
              have HCALL := Lib.hid hcall'
              clear hcall'
              go_wp2_with fail
              go_quiet ((go_at_call 50; exact Calls.quiet_of (HCALL.out _)))
              go_wp2_with fail
              go_ret
              refine ⟨?_, _, by rw [HW.out]; exact World.drewN_drewN ..⟩
              have hfin : mt p.data.toList s.data.toList = true := by
                rw [HM.out, List.any_eq_true]
                exact ⟨k, List.mem_range.2 (by omega), HM'.out⟩
              rw [hfin]; rfl
            · have hm2 := Bool.eq_false_iff.2 hm'
              have HM' := Lib.hid hm2
              rw [hm2] at hcall'
              clear hm' hm2
              have HCALL := Lib.hid hcall'
              clear hcall'
              go_wp2_with fail
              go_quiet ((go_at_call 50; exact Calls.quiet_of (HCALL.out _)))
              go_wp2_with fail
              go_roundw
              case rel =>
                refine ⟨k + 1, _, by omega, by go_num, by rw [HW.out]; exact World.drewN_drewN .., fun j h2 => ?_⟩
                by_cases e : j = k
                · rw [e]; exact HM'.out
                · exact H.out j (by omega)
              case measure => simp [intOf]; omega
          · go_wp2_with fail
            go_ret
            refine ⟨?_, _, rfl⟩
            have hfin : mt p.data.toList s.data.toList = false := by
              rw [HM.out, List.any_eq_false]
              intro i hi
              rw [H.out _ (by have := List.mem_range.1 hi; omega)]; simp
            rw [hfin]; rfl
      · have hst' : ((p[0].toNat : Int) == 42) = false := Bool.eq_false_iff.2 hst
        have hc42 : (c == 42) = false := byte_ne_num c 42 (by omega) (by rw [← HC0.out]; simpa using hst)
        clear hst
        by_cases hs0 : s.size = 0
        · have hsl : s.data.toList = [] := List.eq_nil_of_length_eq_zero (by rw [← size_data]; exact hs0)
          have hse : s.toList.isEmpty = true := by rw [ByteArray.toList_eq]; simp [hsl]
          have HM := Lib.hid (show mt p.data.toList s.data.toList = false by rw [HCQ.out, hsl]; simp only [mt, hc42, Bool.false_eq_true, if_false])
          clear hs0 hsl hc42
          go_enter Try.func50, Try.ntmps50
          go_wp2_with fail
          go_quiet (fail)
          go_wp2_with fail
          go_ret
          exact ⟨by rw [HM.out]; rfl, _, rfl⟩
        · have hs1 : 0 < s.size := by omega
          obtain ⟨d, r, hdr⟩ : ∃ d r, s.data.toList = d :: r := by
            cases hd : s.data.toList with
            | nil => rw [size_data, hd] at hs1; simp at hs1
            | cons d r => exact ⟨d, r, rfl⟩
          have hse : s.toList.isEmpty = false := by rw [ByteArray.toList_eq, hdr]; rfl
          have hd0 : s[0] = d := by
            have h1 : s.data.toList[0]? = some s[0] := Lib.data_getElem? s 0 hs1
            rw [hdr] at h1
            simpa using h1.symm
          have hr : (s.extract 1 s.size).data.toList = r := by rw [Lib.extract_to_end, hdr]; rfl
          have HM := Lib.hid (show mt p.data.toList s.data.toList = ((c == 63 || c == d) && mt q r) by rw [HCQ.out, hdr]; simp only [mt, hc42, Bool.false_eq_true, if_false])
          have hcall' := fun (W : World) => HI.out Q (s.extract 1 s.size) W hqs (by omega) (by rw [ByteArray.size_extract]; omega)
          rw [hr] at hcall'
          simp only [HQL.out] at hcall'
          rw [HQ.out] at hcall'
          have HCALL := Lib.hid hcall'
          have HR := Lib.hid hr
          have HD0 := Lib.hid hd0
          clear hs0 hdr hc42 hcall' hr hd0
          have hs2 : 1 ≤ s.size := hs1
          by_cases h63 : ((p[0].toNat : Int) == 63) = true
          · have HF := Lib.hid (show mt p.data.toList s.data.toList = mt q r by
              have : (c == 63) = true := byte_eq_num c 63 (by rw [← HC0.out]; simpa using h63) (by omega)
              rw [HM.out, this]; rfl)
            go_enter Try.func50, Try.ntmps50
            go_wp2_with fail
            go_quiet ((go_at_call 50; exact Calls.quiet_of (HCALL.out _)))
            go_wp2_with fail
            go_ret
            exact ⟨by rw [HF.out]; rfl, _, rfl⟩
          · have h63' : ((p[0].toNat : Int) == 63) = false := Bool.eq_false_iff.2 h63
            have hcc : (c == 63) = false := byte_ne_num c 63 (by omega) (by rw [← HC0.out]; simpa using h63)
            have HCC := Lib.hid hcc
            clear h63 hcc
            by_cases hcd : ((p[0].toNat : Int) == (s[0].toNat : Int)) = true
            · have HF := Lib.hid (show mt p.data.toList s.data.toList = mt q r by
                have : (c == d) = true := byte_eq_byte c d (by rw [← HC0.out, ← HD0.out]; simpa using hcd)
                rw [HM.out, this]; simp)
              go_enter Try.func50, Try.ntmps50
              go_wp2_with fail
              go_quiet ((go_at_call 50; exact Calls.quiet_of (HCALL.out _)))
              go_wp2_with fail
              go_ret
              exact ⟨by rw [HF.out]; rfl, _, rfl⟩
            · have hcd' : ((p[0].toNat : Int) == (s[0].toNat : Int)) = false := Bool.eq_false_iff.2 hcd
              have HF := Lib.hid (show mt p.data.toList s.data.toList = false by
                have : (c == d) = false := byte_ne_byte c d (by rw [← HC0.out, ← HD0.out]; simpa using hcd)
                rw [HM.out, HCC.out, this]; rfl)
              clear hcd
              go_enter Try.func50, Try.ntmps50
              go_wp2_with fail
              go_quiet (fail)
              go_wp2_with fail
              go_ret
              exact ⟨by rw [HF.out]; rfl, _, rfl⟩

/-! ### the law -/
theorem viewMatch_any (m : Int) (p s : ByteArray) (w : World) (hp : p.size < 1000) (hs : s.size ≤ 1000) (hm : w.cell? ⟨0, 0, none⟩ = some (.int .i64 m)) :
    Calls Try.prog 49 #[.string p, .string s] w fun e w' => e = .returned (.bool (mt p.data.toList s.data.toList)) ∧ ∃ n, w' = w.drewN n := by
  go_enter Try.func49, Try.ntmps49
  go_wp2_with fail
  refine (match_any m 1000 p s w hp (by omega) hs hm).mono ?_
  rintro e w' ⟨rfl, n, rfl⟩
  go_wp2_with fail
  go_ret
  exact ⟨rfl, _, rfl⟩

theorem vmAlive_any (m : Int) (w : World) (hm : w.cell? ⟨0, 0, none⟩ = some (.int .i64 m)) :
    Calls Try.prog 48 #[] w fun e w' => e = .returned (.bool true) ∧ ∃ n, w' = w.drewN n := by
  have h1 : mt [110, 42, 46, 116, 63, 116] [110, 111, 116, 101, 115, 46, 116, 120, 116] = true := by decide
  have h2 : mt [110, 42, 46, 116, 63, 116] [110, 111, 116, 101, 115, 46, 116, 116] = false := by decide
  have h3 : mt [42] [] = true := by decide
  have H1 := Lib.hid h1
  have H2 := Lib.hid h2
  have H3 := Lib.hid h3
  clear h1 h2 h3
  go_enter Try.func48, Try.ntmps48
  go_wp2_with fail
  refine (viewMatch_any m ⟨#[110, 42, 46, 116, 63, 116]⟩ ⟨#[110, 111, 116, 101, 115, 46, 116, 120, 116]⟩ _ (by decide) (by decide) hm).mono ?_
  rintro e w' ⟨rfl, n1, rfl⟩
  rw [H1.out]
  go_wp2_with fail
  refine (viewMatch_any m ⟨#[110, 42, 46, 116, 63, 116]⟩ ⟨#[110, 111, 116, 101, 115, 46, 116, 116]⟩ _ (by decide) (by decide) (by simpa using hm)).mono ?_
  rintro e w' ⟨rfl, n2, rfl⟩
  rw [H2.out]
  go_wp2_with fail
  refine (viewMatch_any m ⟨#[42]⟩ ⟨#[]⟩ _ (by decide) (by decide) (by simpa using hm)).mono ?_
  rintro e w' ⟨rfl, n3, rfl⟩
  rw [H3.out]
  go_wp2_with fail
  go_ret
  exact ⟨rfl, _, by first | rfl | exact World.drewN_drewN ..⟩

set_option maxHeartbeats 1000000 in
theorem viewMatches_any (m : Int) (p s : ByteArray) (w : World) (hpm : p.size ≤ maxLen) (hsm : s.size ≤ maxLen) (hm : w.cell? ⟨0, 0, none⟩ = some (.int .i64 m)) :
    Calls Try.prog 11 #[.string p, .string s] w fun e w' => e = .returned (.bool true) ∧ ∃ n, w' = w.drewN n := by
  unfold maxLen at hpm hsm
  go_enter Try.func11, Try.ntmps11
  go_wp2
  go_loop [5, 6] (fun t i => ∃ k q : Nat, k ≤ p.size ∧ q ≤ k ∧ i = .int .i64 k ∧ t = .int .i64 q) (fun _ i => p.size - (intOf i).toNat)
  case atStart => exact ⟨0, 0, by omega, by omega, rfl, rfl⟩
  case round =>
    obtain ⟨k, q, hk, hq, rfl, rfl⟩ := hrel
    by_cases hlt : k < p.size
    · have hltz : (k : Int) < (p.size : Int) := by omega
      go_wp2
      · go_round
        case rel => exact ⟨k + 1, q + 1, by omega, by omega, by go_num, by go_num⟩
        case measure => simp [intOf]; omega
      · go_round
        case rel => exact ⟨k + 1, q, by omega, by omega, by go_num, rfl⟩
        case measure => simp [intOf]; omega
    · go_wp2_with fail
      all_goals first
        | (go_at_call 48
           refine (vmAlive_any m w hm).mono ?_
           rintro e w' ⟨rfl, n1, rfl⟩
           go_wp2_with fail
           go_ret
           exact ⟨rfl, _, rfl⟩)
        | (go_at_call 49
           have hp20 : p.size ≤ 20 := by omega
           have hs30 : s.size ≤ 30 := by omega
           refine (viewMatch_any m p s w (by omega) (by omega) hm).mono ?_
           rintro e w' ⟨rfl, n1, rfl⟩
           go_wp2_with fail
           refine (refMatch_any 1000 p s _ (by omega) (by omega) (by omega)).mono ?_
           rintro e w' ⟨rfl, n2, rfl⟩
           go_wp2_with fail
           refine (vmAlive_any m _ (by simpa using hm)).mono ?_
           rintro e w' ⟨rfl, n3, rfl⟩
           go_wp2_with fail
           go_ret
           exact ⟨rfl, _, by first | rfl | exact World.drewN_drewN ..⟩)
end Go.Proofs.Ytefhfoioeoijlaa

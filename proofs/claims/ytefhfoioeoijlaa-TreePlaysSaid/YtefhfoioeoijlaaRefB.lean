/- The document's tree: find, Get. -/
import Derived.Test.YtefhfoioeoijlaaRefA
import Derived.Test.YtefhfoioeoijlaaTreeE
import Derived.BigQuiet
set_option linter.unusedVariables false
set_option linter.unusedSimpArgs false
namespace Go.Proofs.Ytefhfoioeoijlaa
open Go.RowKit Go.Sort

set_option maxRecDepth 4000 in
set_option maxHeartbeats 2000000 in
theorem rfind_at {B : Nat} {w : World} {ub : Nat} {L : List Item} (h : RIs B w ub L) (m1 m2 : Int) : Calls Try.prog 63 #[trP ub, .agg #[.int .i64 m1, .int .i64 m2]] w fun e w' => e = .returned (.int .i64 (placeI L ⟨m1, m2⟩)) ∧ Below w.heap.size w w' := by
  obtain ⟨_, v, hv, hR, _, hL⟩ := h
  obtain ⟨A, c, rfl⟩ := hR.form
  have hlt := (Array.getElem?_eq_some_iff.1 hv).1
  have hc : w.cell? ⟨ub, 0, none⟩ = some (.slice A L.length c) := by simp [World.cell?, hv]
  have HG := Lib.hid (fun (i : Nat) (x : Item) (hi : L[i]? = some x) => hR.get hi)
  have HP := Lib.hid (fun (k : Nat) (x : Item) hx e h => placeI_at (L := L) (n := ⟨m1, m2⟩) (k := k) (x := x) hx e h)
  have HN := Lib.hid (fun h => placeI_none (L := L) (n := ⟨m1, m2⟩) h)
  clear hR hv
  generalize placeI L ⟨m1, m2⟩ = res at *
  unfold trP
  go_enter Try.func63, Try.ntmps63
  go_wp2_with fail
  go_loopw [5] (fun i wr => ∃ (k n : Nat), k ≤ L.length ∧ i = .int .i64 k ∧ wr = (w.alloc (.cells #[.int .i64 m1, .int .i64 m2] 24)).drewN n ∧ Hid (∀ (j : Nat) (y : Item), j < k → L[j]? = some y → y.node ≠ ⟨m1, m2⟩)) (fun i _ => L.length - (intOf i).toNat)
  case atStart => exact ⟨0, 0, by omega, rfl, rfl, fun j y hj => by omega⟩
  case round =>
    obtain ⟨k, n, hk, rfl, rfl, H⟩ := hrel
    rcases Nat.lt_or_ge k L.length with hk1 | hk1
    · obtain ⟨g, cap, dA, dn, dc, hA, hcap, hgb, hglt, hD, hcell⟩ := HG.out k L[k] (List.getElem?_eq_getElem hk1)
      injection hA with hA1 hA2 hA3
      subst hA1
      have x0 := hcell 0 _ rfl
      have x1 := hcell 1 _ rfl
      clear hcell hD
      have HX := Lib.hid (List.getElem?_eq_getElem hk1)
      generalize L[k] = x at *
      obtain ⟨⟨i1, i2⟩, par, name, dir, gone, data, by_⟩ := x
      simp only at x0 x1
      rw [Nat.add_zero] at x0
      have hgs : g < w.heap.size + 1 := by omega
      have hul : ub < w.heap.size + 1 := by omega
      have hkI : (k : Int) < (L.length : Int) := by omega
      have hk0 : (0 : Int) ≤ (k : Int) := by omega
      clear HG
      rcases stamp_cases i1 i2 m1 m2 with ⟨h1, h2⟩ | ⟨h1, h2⟩ | h1
      · subst h1; subst h2
        go_wp2_with fail
        go_quiet (fail)
        go_wp2_with fail
        go_ret
        exact ⟨ret_int (HP.out k _ HX.out rfl H.out).symm, up_trans (up_alloc _ _) (by rw [World.drewN_drewN]; exact up_drewN _ _)⟩
      · subst h1
        go_wp2_with fail
        go_quiet (fail)
        go_wp2_with fail
        go_roundw
        case rel =>
          refine ⟨k + 1, n + nq, by omega, by go_num, rfl, fun j y hj hy => ?_⟩
          rcases Nat.lt_or_ge j k with h | h
          · exact H.out j y h hy
          · obtain rfl : j = k := by omega
            rw [HX.out] at hy
            injection hy with hy
            subst hy
            intro e
            injection e with e1 e2
            simp_all
        case measure => simp [intOf]; omega
      · skip
        go_wp2_with fail
        go_quiet (fail)
        go_wp2_with fail
        go_roundw
        case rel =>
          refine ⟨k + 1, n + nq, by omega, by go_num, rfl, fun j y hj hy => ?_⟩
          rcases Nat.lt_or_ge j k with h | h
          · exact H.out j y h hy
          · obtain rfl : j = k := by omega
            rw [HX.out] at hy
            injection hy with hy
            subst hy
            intro e
            injection e with e1 e2
            simp_all
        case measure => simp [intOf]; omega
    · have hk2 : k = L.length := by omega
      subst hk2
      go_wp2_with fail
      go_ret
      exact ⟨ret_int (HN.out fun j y hy => H.out j y (List.getElem?_eq_some_iff.1 hy).1 hy).symm, up_trans (up_alloc _ _) (up_drewN _ _)⟩
end Go.Proofs.Ytefhfoioeoijlaa

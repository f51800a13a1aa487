/- What the law NamesUnique asks of package names (virtual numbers of seat .ZD). -/
import Derived.Test.YtefhfoioeoijlaaGreatDoorNB
set_option linter.unusedVariables false
set_option linter.unusedSimpArgs false
namespace Go.Proofs.YtefhfoioeoijlaaGreatDoor
open Go Go.RowKit Go.Sort
abbrev mkOp (a m : Stamp) (s : ByteArray) : OpD := ⟨1, a, a, m, false, s, []⟩
theorem bool_eq' {P : Program} {f : FuncId} {args : Array Value} {w : World} {b c : Bool} (hb : b = c) (h : Calls P f args w fun e w' => e = .returned (.bool b) ∧ Up w w') : Calls P f args w fun e w' => e = .returned (.bool c) ∧ Up w w' := hb ▸ h
theorem foundN_at {B : Nat} {w : World} {tb r : Nat} {L : List Item} (h : TreeIs B w tb r L) (hB : B ≤ w.heap.size) (hF : Fit L) (htab : Tab w) {n1 n2 : Int} (hk : kidK L ⟨n1, n2⟩ = 0) {D : List EntD} (hL : Listed (entsI (kidsI ⟨n1, n2⟩ L)) D) {k : Nat} {y : EntD} (hy : D[k]? = some y) :
    Calls Tryz.prog 18 #[trP tb, .agg #[.int .i64 n1, .int .i64 n2], .string y.name] w fun e w' => e = .returned (.tuple #[enV y, .int .i64 0]) ∧ Up w w' := by
  have h9 := find_hit hF hk hL hy rfl
  have h8 := find18_at h hB hF htab n1 n2 y.name
  rw [h9.1, h9.2] at h8
  exact h8
theorem shownL_at {B : Nat} {w : World} {tb r : Nat} {L : List Item} (h : TreeIs B w tb r L) (hB : B ≤ w.heap.size) (hF : Fit L) (htab : Tab w) {n1 n2 : Int} (hk : kidK L ⟨n1, n2⟩ = 0) {D : List EntD} (hL : Listed (entsI (kidsI ⟨n1, n2⟩ L)) D) {k : Nat} {y : EntD} (hy : D[k]? = some y) :
    Calls Tryz.prog 19 #[trP tb, .agg #[.int .i64 y.node.t, .int .i64 y.node.w]] w fun e w' => e = .returned (.tuple #[.string y.name, .int .i64 0]) ∧ Up w w' := by
  have h9 := hF.shown hk (hL.mem hy)
  have h8 := shown18_at h hB hF htab y.node.t y.node.w
  rw [show (⟨y.node.t, y.node.w⟩ : Stamp) = y.node from rfl, h9.1, h9.2] at h8
  exact h8
theorem madeF_at {B : Nat} {w : World} {tb r : Nat} {L : List Item} {n1 n2 : Int} {a : Stamp} {s : ByteArray} (h : TreeIs B w tb r L) (hB : B ≤ w.heap.size) (hF : Fit L) (htab : Tab w) (hk : findK L ⟨n1, n2⟩ s = 0) (hn : (findE L ⟨n1, n2⟩ s).node = a) :
    Calls Tryz.prog 18 #[trP tb, .agg #[.int .i64 n1, .int .i64 n2], .string s] w fun e w' => ∃ x, e = .returned (.tuple #[enV x, .int .i64 0]) ∧ x.node = a ∧ Up w w' := by
  refine (find18_at h hB hF htab n1 n2 s).mono ?_
  rintro e w' ⟨rfl, u⟩
  rw [hk]
  exact ⟨_, rfl, hn, u⟩
theorem two_row {B : Nat} {w : World} {g : Nat} (h : w.heap[g]? = some (.cells ((opC no1 (.slice none 0 0) ++ opC no2 (.slice none 0 0)).toArray) 49 (0, 0))) : OpRow B w (some ⟨g, 0, none⟩) [no1, no2] := fun i o hi => by
  have hlt : g < w.heap.size := lt_ob h
  match i, hi with
  | 0, hi =>
    simp at hi; subst hi
    refine ⟨g, 0, none, 0, 0, rfl, hlt, fun j v hj => ?_, Dat.nil B w, by decide⟩
    have hj10 : j < 10 := (List.getElem?_eq_some_iff.1 hj).1
    simp only [World.cell?, h, Nat.zero_add, Nat.zero_mul]
    rw [List.getElem?_toArray, List.getElem?_append_left (by exact hj10)]
    exact hj
  | 1, hi =>
    simp at hi; subst hi
    refine ⟨g, 0, none, 0, 0, rfl, hlt, fun j v hj => ?_, Dat.nil B w, by decide⟩
    have hj10 : j < 10 := (List.getElem?_eq_some_iff.1 hj).1
    simp only [World.cell?, h, Nat.zero_add, Nat.one_mul]
    rw [List.getElem?_toArray, List.getElem?_append_right (by show 10 ≤ 10 + j; omega)]
    have e : 10 + j - (opC no1 (.slice none 0 0)).length = j := by show 10 + j - 10 = j; omega
    rw [e]; exact hj
  | i + 2, hi => simp at hi
theorem build2_at {B : Nat} {w : World} {g : Nat} (h : w.heap[g]? = some (.cells ((opC no1 (.slice none 0 0) ++ opC no2 (.slice none 0 0)).toArray) 49 (0, 0))) (hB : B ≤ w.heap.size) :
    Calls Tryz.prog 15 #[.slice (some ⟨g, 0, none⟩) 2 2] w fun e w' => ∃ tb r, e = .returned (trP tb) ∧ TreeIs B w' tb r (buildI [no1, no2]) ∧ Up w w' ∧ w.heap.size ≤ tb ∧ w.heap.size ≤ r := build_at (two_row h) hB (by decide)
theorem list2_at {B : Nat} {w : World} {tb r : Nat} (h : TreeIs B w tb r (buildI [no1, no2])) (hB : B ≤ w.heap.size) (htab : Tab w) :
    Calls Tryz.prog 16 #[trP tb, .agg #[.int .i64 0, .int .i64 0]] w fun e w' => ∃ A c, e = .returned (.tuple #[.slice A 2 c, .int .i64 0]) ∧ ERow 35 B w.heap.size w' (.slice A 2 c) [ne1, ne2] ∧ Up w w' := by
  refine (list_at h hB (fit_build _) htab 0 0).mono ?_
  rintro e w' ⟨v, D, rfl, hr, hl, _, u⟩
  obtain rfl := n_list (hl n_kind)
  obtain ⟨A, c, rfl⟩ := hr.form
  rw [n_kind]
  exact ⟨A, c, rfl, hr, u⟩
end Go.Proofs.YtefhfoioeoijlaaGreatDoor

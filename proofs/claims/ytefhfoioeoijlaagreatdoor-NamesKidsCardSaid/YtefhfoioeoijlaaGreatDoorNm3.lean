/- What the walks of names say of a round. -/
import Derived.Test.YtefhfoioeoijlaaGreatDoorNm2
set_option linter.unusedVariables false
set_option linter.unusedSimpArgs false
namespace Go.Proofs.YtefhfoioeoijlaaGreatDoor
open Go Go.RowKit Go.Sort
def metF (ns : List ByteArray) (s : ByteArray) : Option Value := if metB ns s = true then some (.bool true) else none
theorem metF_get (ns : List ByteArray) (s : ByteArray) : (metF ns s).getD (.bool false) = .bool (metB ns s) := by
  unfold metF; cases metB ns s <;> rfl
theorem metF_nil (l : List Item) : ∀ s, (none : Option Value) = metF (namesI (l.take 0)) s := fun s => by simp [metF, namesI, metB]
theorem metF_next {l : List Item} {k : Nat} {x : Item} (h : l[k]? = some x) : ∀ s, (if s = x.name then some (.bool true) else metF (namesI (l.take k)) s) = metF (namesI (l.take (k + 1))) s := fun s => by
  rw [names_next h]
  unfold metF metB
  rw [List.any_append]
  by_cases e : s = x.name
  · subst e; simp
  · rw [if_neg e]
    have e' : ¬ x.name = s := fun h => e h.symm
    simp only [List.any_cons, List.any_nil, decide_eq_false e', Bool.or_false]
theorem ents_yes {l : List Item} {k dn : Nat} {x : Item} (hx : l[k]? = some x) (hd : x.data.length = dn) (h : metB (namesI (l.take k)) x.name = true) :
    entsI (l.take k) ++ [(⟨x.name ++ markB ⟨x.node.t, x.node.w⟩, ⟨x.node.t, x.node.w⟩, x.dir, (dn : Int)⟩ : EntD)] = entsI (l.take (k + 1)) := by
  rw [entsI_next hx]; unfold entOf; rw [if_pos h, hd]
theorem ents_not {l : List Item} {k dn : Nat} {x : Item} (hx : l[k]? = some x) (hd : x.data.length = dn) (h : metB (namesI (l.take k)) x.name = false) :
    entsI (l.take k) ++ [(⟨x.name, ⟨x.node.t, x.node.w⟩, x.dir, (dn : Int)⟩ : EntD)] = entsI (l.take (k + 1)) := by
  rw [entsI_next hx]; unfold entOf; rw [if_neg (by rw [h]; decide), hd]
theorem mark_size {x : Item} (h : OKI x) : x.name.size + (markB ⟨x.node.t, x.node.w⟩).size ≤ 9223372036854775807 := by
  obtain ⟨_, h1, h2, h3, h4, h5⟩ := h
  have i1 := Lib.itoa_length_le x.node.t (by omega) (by omega)
  have i2 := Lib.itoa_length_le x.node.w (by omega) (by omega)
  have e : (markB ⟨x.node.t, x.node.w⟩).size = (markL x.node).length := by rw [← markB_list]; simp
  rw [e]
  have e2 : x.name.size = x.name.data.toList.length := by simp
  rw [e2]
  simp only [markL, List.length_append, List.length_cons]
  omega
theorem entsI_take {l : List Item} {k : Nat} (h : l.length ≤ k) : entsI (l.take k) = entsI l := by rw [List.take_of_length_le h]
theorem ents_le (l : List Item) (k : Nat) : (entsI (l.take k)).length ≤ l.length := by rw [entsI_len]; exact List.length_take_le' _ _
/-! ### counting -/
def cntF (l : List Item) (s : ByteArray) : Option Value := if cntI l s = 0 then none else some (.int .i64 ((cntI l s : Nat) : Int))
theorem cntF_get (l : List Item) (s : ByteArray) : (cntF l s).getD (.int .i64 0) = .int .i64 ((cntI l s : Nat) : Int) := by
  unfold cntF
  by_cases h : cntI l s = 0
  · rw [if_pos h, h]; rfl
  · rw [if_neg h]; rfl
theorem cntF_nil (l : List Item) : ∀ s, (none : Option Value) = cntF (l.take 0) s := fun s => by simp [cntF, cntI]
theorem cnt_le (l : List Item) (k : Nat) (s : ByteArray) : cntI (l.take k) s ≤ l.length := Nat.le_trans (List.length_filter_le _ _) (List.length_take_le' _ _)
theorem cnt_next {l : List Item} {k : Nat} {x : Item} (h : l[k]? = some x) (s : ByteArray) : cntI (l.take (k + 1)) s = cntI (l.take k) s + (if s = x.name then 1 else 0) := by
  unfold cntI
  rw [List.take_add_one, h, List.filter_append, List.length_append]
  by_cases e : s = x.name
  · subst e; simp
  · have e' : ¬ x.name = s := fun h => e h.symm
    simp [e, e']
theorem cntF_next {l : List Item} {k : Nat} {x : Item} (h : l[k]? = some x) : ∀ s, (if s = x.name then some (.int .i64 (((cntI (l.take k) x.name : Nat) : Int) + 1)) else cntF (l.take k) s) = cntF (l.take (k + 1)) s := fun s => by
  unfold cntF
  rw [cnt_next h s]
  by_cases e : s = x.name
  · subst e
    rw [if_pos rfl, if_pos rfl, if_neg (by omega)]
    simp
  · rw [if_neg e, if_neg e]; rfl
theorem cntF_all {l : List Item} {k : Nat} (h : l.length ≤ k) : ∀ s, cntF (l.take k) s = cntF l s := fun s => by rw [List.take_of_length_le h]
/-! ### a directory -/
def kidsO (L : List Item) (n : Stamp) : List Item := if kidK L n = 0 then kidsI n L else []
theorem kidsO_yes {L : List Item} {n : Stamp} (h : kidK L n = 0) : kidsO L n = kidsI n L := by unfold kidsO; rw [if_pos h]
theorem kidsO_no {L : List Item} {n : Stamp} (h : kidK L n ≠ 0) : kidsO L n = [] := by unfold kidsO; rw [if_neg h]
theorem kidK_12 {L : List Item} {n : Stamp} (h : hangsI L 301 n = false) : kidK L n = 12 := by unfold kidK; rw [if_pos h]
theorem kidK_14 {L : List Item} {n : Stamp} (h : hangsI L 301 n = true) (h1 : hasI L n = true) (h2 : (gotI L n).dir = false) : kidK L n = 14 := by unfold kidK; rw [if_neg (by rw [h]; decide), h1, h2]; rfl
theorem kidK_0a {L : List Item} {n : Stamp} (h : hangsI L 301 n = true) (h1 : hasI L n = false) : kidK L n = 0 := by unfold kidK; rw [if_neg (by rw [h]; decide), h1]; rfl
theorem kidK_0b {L : List Item} {n : Stamp} (h : hangsI L 301 n = true) (h1 : hasI L n = true) (h2 : (gotI L n).dir = true) : kidK L n = 0 := by unfold kidK; rw [if_neg (by rw [h]; decide), h1, h2]; rfl
theorem IRow.kidsNo {T : TypeId} {B base : Nat} {w : World} {L : List Item} {n : Stamp} (h : kidK L n ≠ 0) : IRow T B base w (.slice none 0 0) (kidsO L n) := by rw [kidsO_no h]; exact IRow.nil _ _ _ _
theorem IRow.kidsYes {T : TypeId} {B base : Nat} {w : World} {v : Value} {L : List Item} {n : Stamp} (h : IRow T B base w v (kidsI n L)) (hk : kidK L n = 0) : IRow T B base w v (kidsO L n) := by rw [kidsO_yes hk]; exact h
theorem kidsO_ok {L : List Item} (h : Fit L) (n : Stamp) : ∀ x ∈ kidsO L n, OKI x := by
  unfold kidsO; split
  · exact (h.kids n).1
  · simp
theorem kids_300 {L : List Item} (h : Fit L) (n : Stamp) : (kidsI n L).length ≤ 300 := Nat.le_trans (kids_len n L) h.len
theorem kidsO_300 {L : List Item} (h : Fit L) (n : Stamp) : (kidsO L n).length ≤ 300 := by
  unfold kidsO; split
  · exact kids_300 h n
  · simp
theorem kidsO_apart {L : List Item} (h : Fit L) (n : Stamp) : (entsI (kidsO L n)).Pairwise fun x y => x.name ≠ y.name := by
  unfold kidsO; split
  · exact h.apart n
  · exact List.Pairwise.nil
theorem find_hit {L : List Item} {n : Stamp} {D : List EntD} {k : Nat} {y : EntD} {s : ByteArray} (hF : Fit L) (hk : kidK L n = 0) (hL : Listed (entsI (kidsI n L)) D) (hy : D[k]? = some y) (e : y.name = s) : findE L n s = y ∧ findK L n s = 0 := by
  subst e; exact hF.found hk (hL.mem hy)
theorem find_miss {L : List Item} {n : Stamp} {D : List EntD} {s : ByteArray} (hk : kidK L n = 0) (hL : Listed (entsI (kidsI n L)) D) (h : ∀ (j : Nat) (y : EntD), D[j]? = some y → y.name ≠ s) : findE L n s = zeroE ∧ findK L n s = 12 := by
  have hn : lookE L n s = none := by
    unfold lookE
    rw [List.find?_eq_none]
    intro e he
    obtain ⟨j, hj⟩ := List.mem_iff_getElem?.1 (hL.1.mem_iff.2 he)
    simpa using h j e hj
  unfold findE findK
  rw [if_pos hk, if_pos hk, hn]
  exact ⟨rfl, rfl⟩
theorem find_bad {L : List Item} {n : Stamp} {s : ByteArray} (hk : kidK L n ≠ 0) : findE L n s = zeroE ∧ findK L n s = kidK L n := by
  unfold findE findK; rw [if_neg hk, if_neg hk]; exact ⟨rfl, rfl⟩
theorem find_ret {L : List Item} {n : Stamp} {s : ByteArray} {y : EntD} {k : Int} (h : findE L n s = y ∧ findK L n s = k) : Ending.returned (.tuple #[enV y, .int .i64 k]) = .returned (.tuple #[enV (findE L n s), .int .i64 (findK L n s)]) := by rw [h.1, h.2]
theorem shown_no1 {L : List Item} {m : Stamp} (h : hasI L m = false) : shownB L m = ⟨#[]⟩ ∧ shownK L m = 12 := by
  unfold shownB shownK; rw [h]; exact ⟨rfl, rfl⟩
theorem shown_no2 {L : List Item} {m : Stamp} (h : hangsI L 301 m = false) : shownB L m = ⟨#[]⟩ ∧ shownK L m = 12 := by
  unfold shownB shownK; rw [h, Bool.and_false]; exact ⟨rfl, rfl⟩
theorem shown_hit {L : List Item} {m : Stamp} {k : Nat} {y : EntD} (hF : Fit L) (h1 : hasI L m = true) (h2 : hangsI L 301 m = true) (hy : (entsI (kidsI (gotI L m).parent L))[k]? = some y) (e : y.node = m) : shownB L m = y.name ∧ shownK L m = 0 := by
  have hn : nodeE L m = some y := by
    unfold nodeE
    have := find_one (f := fun e : EntD => e.node) (hF.nodes (gotI L m).parent) (List.mem_of_getElem? hy)
    rw [e] at this; exact this
  unfold shownB shownK
  rw [h1, h2, hn]; exact ⟨rfl, rfl⟩
theorem shown_miss {L : List Item} {m : Stamp} (h : ∀ (j : Nat) (y : EntD), (entsI (kidsI (gotI L m).parent L))[j]? = some y → y.node ≠ m) : shownB L m = ⟨#[]⟩ ∧ shownK L m = 12 := by
  have hn : nodeE L m = none := by
    unfold nodeE
    rw [List.find?_eq_none]
    intro e he
    obtain ⟨j, hj⟩ := List.mem_iff_getElem?.1 he
    simpa using h j e hj
  unfold shownB shownK
  rw [hn]; split <;> exact ⟨rfl, rfl⟩
theorem shown_ret {L : List Item} {m : Stamp} {b : ByteArray} {k : Int} (h : shownB L m = b ∧ shownK L m = k) : Ending.returned (.tuple #[.string b, .int .i64 k]) = .returned (.tuple #[.string (shownB L m), .int .i64 (shownK L m)]) := by rw [h.1, h.2]
theorem free_k {L : List Item} {n : Stamp} {s : ByteArray} (h : kidK L n ≠ 0) : freeI L n s = false := by unfold freeI; rw [decide_eq_false h]; rfl
theorem free_n {L : List Item} {n : Stamp} {s : ByteArray} (h : nameB s = false) : freeI L n s = false := by unfold freeI; rw [h]; simp
theorem free_is {L : List Item} {n : Stamp} {s : ByteArray} {b : Bool} (hk : kidK L n = 0) (h : nameB s = true) (hb : decide (((cntI (kidsO L n) s : Nat) : Int) = 0) = b) : freeI L n s = b := by
  unfold freeI
  rw [decide_eq_true hk, h, ← hb, kidsO_yes hk]
  simp
/-- What has been looked at has it not. -/
theorem none_next {α : Type} {D : List α} {k : Nat} {x : α} {p : α → Prop} (h : Hid (∀ (j : Nat) (y : α), j < k → D[j]? = some y → ¬ p y)) (hx : D[k]? = some x) (hp : ¬ p x) : Hid (∀ (j : Nat) (y : α), j < k + 1 → D[j]? = some y → ¬ p y) := fun j y hj hy => by
  rcases Nat.lt_or_ge j k with h1 | h1
  · exact h.out j y h1 hy
  · obtain rfl : j = k := by omega
    rw [hx] at hy; injection hy with hy; subst hy; exact hp
theorem none_end {α : Type} {D : List α} {k : Nat} {p : α → Prop} (h : Hid (∀ (j : Nat) (y : α), j < k → D[j]? = some y → ¬ p y)) (hk : D.length ≤ k) : ∀ (j : Nat) (y : α), D[j]? = some y → ¬ p y := fun j y hy => h.out j y (by have := (List.getElem?_eq_some_iff.1 hy).1; omega) hy
end Go.Proofs.YtefhfoioeoijlaaGreatDoor

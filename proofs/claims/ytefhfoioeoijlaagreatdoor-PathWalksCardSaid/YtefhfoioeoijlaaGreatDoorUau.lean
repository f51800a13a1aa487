/- Pth7, Pth8, CmpS, GRow, Side, Doc -/
import Derived.ArgAppend
import Derived.Lib.AppendZerosOnto
import Derived.Test.YtefhfoioeoijlaaGreatDoorUaf
import Derived.Test.YtefhfoioeoijlaaGreatDoorUah
import Derived.Test.YtefhfoioeoijlaaGreatDoorUao
import Derived.Test.YtefhfoioeoijlaaGreatDoorUaq
import Derived.Test.YtefhfoioeoijlaaGreatDoorUas
import Derived.Test.YtefhfoioeoijlaaGreatDoorUat
set_option linter.unusedVariables false
set_option linter.unusedSimpArgs false
namespace Go.Proofs.YtefhfoioeoijlaaGreatDoor
open Go Go.RowKit Go.Sort
def cutL (c : UInt8) (s : ByteArray) : List ByteArray := (splC c s.data.toList).map bys
theorem cutL_47 (s : ByteArray) : cutL 47 s = splB s := rfl
theorem cutL_len (c : UInt8) (s : ByteArray) : (cutL c s).length = (splC c s.data.toList).length := List.length_map _
theorem cutL_pos (c : UInt8) (s : ByteArray) : 1 ≤ (cutL c s).length := by
  rw [cutL_len]; exact List.length_pos_iff.2 (splC_ne c _)
theorem cutL_count (c : UInt8) (s : ByteArray) : (cutL c s).length ≤ s.size + 1 := by
  rw [cutL_len]
  have h := splC_count c s.data.toList
  have e2 : s.size = s.data.toList.length := by simp
  omega
theorem cutL_size {c : UInt8} {s x : ByteArray} (hx : x ∈ cutL c s) : x.size ≤ s.size := by
  obtain ⟨y, hy, rfl⟩ := List.mem_map.1 hx
  have h := splC_len c _ y hy
  have e1 : (bys y).size = y.length := by simp [bys, ByteArray.size]
  have e2 : s.size = s.data.toList.length := by simp
  omega
theorem cutL_one {c : UInt8} {s : ByteArray} (h : (cutL c s).length = 1) : c ∉ s.data.toList := by
  rw [cutL_len] at h
  obtain ⟨x, hx⟩ := List.length_eq_one_iff.1 h
  have h1 := join_splC c s.data.toList
  have h2 := splC_no c s.data.toList x (by rw [hx]; simp)
  rw [hx, Lib.join_one] at h1
  rwa [h1] at h2
theorem cutL_more {c : UInt8} {s : ByteArray} {x y : List UInt8} {t : List (List UInt8)} (e : splC c s.data.toList = x :: y :: t) : cutA s c = bys x ∧ cutZ s c = bys (Lib.join (y :: t) [c]) ∧ cutB s c = true := by
  have h1 := join_splC c s.data.toList
  have h2 := splC_no c s.data.toList x (by rw [e]; simp)
  rw [e, join_cons2] at h1
  exact cut_some (by rw [← h1]; simp) h2
theorem digs_mem {c : UInt8} (h : digs.data.toList.contains c = true) : 48 ≤ c.toNat ∧ c.toNat ≤ 57 := by
  have h2 : c ∈ digs.data.toList := by simpa using h
  simp only [digs, List.mem_cons, List.not_mem_nil, or_false] at h2
  rcases h2 with e | e | e | e | e | e | e | e | e | e <;> rw [e] <;> decide
theorem take_all {p : UInt8 → Bool} {c : UInt8} : ∀ {l : List UInt8}, c ∈ l.takeWhile p → p c = true
  | [], h => absurd h (by simp)
  | b :: l, h => by
    rw [List.takeWhile_cons] at h
    split at h
    · rename_i hb
      rcases List.mem_cons.1 h with rfl | h
      · exact hb
      · exact take_all h
    · cases h
theorem drop_nil {p : UInt8 → Bool} {l : List UInt8} (h : ((l.reverse.dropWhile p).reverse).dropWhile p = []) : ∀ c ∈ l, p c = true := by
  have h := drop_none h
  intro c hc
  have h1 : l.reverse = l.reverse.takeWhile p ++ l.reverse.dropWhile p := (List.takeWhile_append_dropWhile).symm
  have h2 : c ∈ l.reverse := List.mem_reverse.2 hc
  rw [h1] at h2
  rcases List.mem_append.1 h2 with h2 | h2
  · exact take_all h2
  · exact h c (List.mem_reverse.2 h2)
theorem trim_all {s : ByteArray} (h : trimD s = ⟨#[]⟩) : ∀ c ∈ s.data.toList, 48 ≤ c.toNat ∧ c.toNat ≤ 57 := by
  have h1 := congrArg (fun x : ByteArray => x.data.toList) h
  have h2 : Lib.trimS s.data.toList digs.data.toList = [] := h1
  unfold Lib.trimS Lib.trimLeftS Lib.trimRightS at h2
  exact fun c hc => digs_mem (drop_nil h2 c hc)
theorem dig_no {d : Int} {s : ByteArray} {c : UInt8} (hc : c ∈ s.data.toList) (h : ¬ (48 ≤ c.toNat ∧ c.toNat ≤ 57)) : digB d s = false := by
  unfold digB
  rw [decide_eq_false (fun e => h (trim_all e c hc))]
  simp
theorem dig_all {d : Int} {s : ByteArray} (h : ∀ c ∈ s.data.toList, 48 ≤ c.toNat ∧ c.toNat ≤ 57) : digB d s = (decide (((s.size : Nat) : Int) ≥ 1) && decide (((s.size : Nat) : Int) ≤ d)) := by
  have e : trimD s = ⟨#[]⟩ := by
    have e1 : s.data.toList.reverse.dropWhile (digs.data.toList.contains ·) = [] := drop_all fun c hc => dig_in (h c (List.mem_reverse.1 hc))
    unfold trimD Lib.trimS Lib.trimRightS Lib.trimLeftS
    rw [e1]; rfl
  unfold digB
  rw [decide_eq_true e, Bool.and_true]
theorem partD_1 {s : ByteArray} (h : (cutL 126 s).length = 1) : partB s = nameB s := by
  have h1 := cut_none (cutL_one h)
  cases hn : nameB s with
  | true => exact part_2 (by rw [h1.1]; exact hn) h1.2
  | false => exact part_1 (by rw [h1.1]; exact hn)
theorem dot_no {d e : Int} {r : ByteArray} {c : UInt8} (hc : c ∈ r.data.toList) (hn : ¬ (48 ≤ c.toNat ∧ c.toNat ≤ 57)) (h46 : c ≠ 46) : (cutB r 46 && (digB d (cutA r 46) && digB e (cutZ r 46))) = false := by
  by_cases h : (46 : UInt8) ∈ r.data.toList
  · obtain ⟨u, v, e1, h2⟩ := List.append_of_mem h |>.elim fun u hu => hu.elim fun v hv => (⟨u, v, hv, trivial⟩ : ∃ u v, r.data.toList = u ++ 46 :: v ∧ True)
    cases el : splC 46 r.data.toList with
    | nil => exact absurd el (splC_ne _ _)
    | cons x t =>
      cases t with
      | nil =>
        have := cutL_one (c := 46) (s := r) (by rw [cutL_len, el]; rfl)
        exact absurd h this
      | cons y t =>
        obtain ⟨a1, a2, a3⟩ := cutL_more el
        have hj := join_splC 46 r.data.toList
        rw [el, join_cons2] at hj
        rw [← hj] at hc
        rcases List.mem_append.1 hc with hc | hc
        · rw [a1, dig_no (s := bys x) hc hn]; simp
        · rcases List.mem_append.1 hc with hc | hc
          · simp at hc; exact absurd hc h46
          · rw [a2, dig_no (s := bys (Lib.join (y :: t) [46])) hc hn]; simp
  · rw [(cut_none h).2]; rfl
theorem join_has {c : UInt8} {y z : List UInt8} {t : List (List UInt8)} : c ∈ Lib.join (y :: z :: t) [c] := by rw [join_cons2]; simp
theorem partD_2 {s : ByteArray} (h1 : (cutL 126 s).length ≠ 1) (h2 : (cutL 126 s).length ≠ 2) : partB s = false := by
  rw [cutL_len] at h1 h2
  cases el : splC 126 s.data.toList with
  | nil => exact absurd el (splC_ne _ _)
  | cons x t => cases t with
    | nil => rw [el] at h1; exact absurd rfl h1
    | cons y t => cases t with
      | nil => rw [el] at h2; exact absurd rfl h2
      | cons z t =>
        obtain ⟨a1, a2, a3⟩ := cutL_more el
        cases hn : nameB (cutA s 126) with
        | false => exact part_1 hn
        | true => exact part_3 hn a3 (dot_no (c := 126) (by rw [a2]; exact join_has) (by decide) (by decide))
theorem cutL_at2 {c : UInt8} {s x y : ByteArray} (hl : (cutL c s).length = 2) (h0 : (cutL c s)[0]? = some x) (h1 : (cutL c s)[1]? = some y) : cutA s c = x ∧ cutZ s c = y ∧ cutB s c = true := by
  rw [cutL_len] at hl
  unfold cutL at h0 h1
  cases el : splC c s.data.toList with
  | nil => exact absurd el (splC_ne _ _)
  | cons u t => cases t with
    | nil => rw [el] at hl; simp at hl
    | cons v t => cases t with
      | cons z t => rw [el] at hl; simp at hl
      | nil =>
        rw [el] at h0 h1
        simp at h0 h1
        obtain ⟨a1, a2, a3⟩ := cutL_more el
        rw [Lib.join_one] at a2
        exact ⟨a1.trans h0, a2.trans h1, a3⟩
theorem partD_name {s x y : ByteArray} (hl : (cutL 126 s).length = 2) (h0 : (cutL 126 s)[0]? = some x) (h1 : (cutL 126 s)[1]? = some y) (hn : nameB x = false) : partB s = false := by
  have h := cutL_at2 hl h0 h1
  exact part_1 (by rw [h.1]; exact hn)
theorem partD_len {s x y : ByteArray} (hl : (cutL 126 s).length = 2) (h0 : (cutL 126 s)[0]? = some x) (h1 : (cutL 126 s)[1]? = some y) (hm : (cutL 46 y).length ≠ 2) : partB s = false := by
  have h := cutL_at2 hl h0 h1
  cases hn : nameB (cutA s 126) with
  | false => exact part_1 hn
  | true =>
    refine part_3 hn h.2.2 ?_
    rw [h.2.1]
    rw [cutL_len] at hm
    cases el : splC 46 y.data.toList with
    | nil => exact absurd el (splC_ne _ _)
    | cons u t => cases t with
      | nil => rw [(cut_none (cutL_one (c := 46) (s := y) (by rw [cutL_len, el]; rfl))).2]; rfl
      | cons v t => cases t with
        | nil => rw [el] at hm; exact absurd rfl hm
        | cons z t =>
          obtain ⟨a1, a2, a3⟩ := cutL_more el
          rw [a2, dig_no (s := bys (Lib.join (v :: z :: t) [46])) (c := 46) join_has (by decide)]; simp
theorem partD_dig {s x y u v : ByteArray} (hl : (cutL 126 s).length = 2) (h0 : (cutL 126 s)[0]? = some x) (h1 : (cutL 126 s)[1]? = some y) (hn : nameB x = true) (hm : (cutL 46 y).length = 2) (g0 : (cutL 46 y)[0]? = some u) (g1 : (cutL 46 y)[1]? = some v) :
    partB s = (digB 13 u && digB 2 v) := by
  have h := cutL_at2 hl h0 h1
  have k := cutL_at2 hm g0 g1
  refine part_3 (by rw [h.1]; exact hn) h.2.2 ?_
  rw [h.2.1, k.1, k.2.1, k.2.2]; rfl
theorem cut_hit {c : UInt8} {s : List UInt8} {fr i : Nat} {out : List (List UInt8)} (h : splC c s = out ++ splC c (s.drop fr)) (hf : fr ≤ i) (hi : s[i]? = some c) (hno : ∀ j, fr ≤ j → j < i → s[j]? ≠ some c) :
    splC c s = (out ++ [(s.drop fr).take (i - fr)]) ++ splC c (s.drop (i + 1)) := by
  have hlt := (List.getElem?_eq_some_iff.1 hi)
  have e : s.drop fr = (s.drop fr).take (i - fr) ++ c :: s.drop (i + 1) := by
    conv => lhs; rw [← List.take_append_drop (i - fr) (s.drop fr)]
    congr 1
    rw [List.drop_drop, show fr + (i - fr) = i by omega, List.drop_eq_getElem_cons hlt.1, hlt.2]
  have hno' : c ∉ (s.drop fr).take (i - fr) := fun hm => by
    obtain ⟨j, hj⟩ := List.mem_iff_getElem?.1 hm
    rw [List.getElem?_take] at hj
    split at hj
    · rename_i hji
      rw [List.getElem?_drop] at hj
      exact hno (fr + j) (by omega) (by omega) hj
    · cases hj
  rw [h, List.append_assoc]
  congr 1
  conv => lhs; rw [e]
  rw [splC_app _ hno']; rfl
theorem cut_last {c : UInt8} {s : List UInt8} {fr : Nat} {out : List (List UInt8)} (h : splC c s = out ++ splC c (s.drop fr)) (hno : ∀ j, fr ≤ j → j < s.length → s[j]? ≠ some c) : splC c s = out ++ [s.drop fr] := by
  rw [h]
  congr 1
  refine splC_one (fun hm => ?_)
  obtain ⟨j, hj⟩ := List.mem_iff_getElem?.1 hm
  rw [List.getElem?_drop] at hj
  exact hno (fr + j) (by omega) (List.getElem?_eq_some_iff.1 hj).1 hj
def slashL : List ByteArray → ByteArray
  | [] => ⟨#[]⟩
  | x :: l => ((⟨#[47]⟩ : ByteArray) ++ x) ++ slashL l
theorem slashL_snoc (x : ByteArray) : ∀ l : List ByteArray, slashL (l ++ [x]) = (slashL l ++ (⟨#[47]⟩ : ByteArray)) ++ x
  | [] => by apply ba_ext; simp [slashL]
  | y :: l => by
    rw [List.cons_append, slashL, slashL_snoc x l, slashL]
    apply ba_ext; simp
theorem slashL_next {l : List ByteArray} {k : Nat} {x : ByteArray} (h : l[k]? = some x) : (slashL (l.take k) ++ (⟨#[47]⟩ : ByteArray)) ++ x = slashL (l.take (k + 1)) := by
  rw [List.take_add_one, h, ← slashL_snoc]; rfl
theorem slashL_is : ∀ {l : List ByteArray}, l ≠ [] → slashL l = (⟨#[47]⟩ : ByteArray) ++ joinB l
  | [x], _ => by apply ba_ext; rw [join_oneB]; simp [slashL]
  | x :: y :: l, _ => by
    rw [slashL, slashL_is (l := y :: l) (by simp)]
    apply ba_ext
    have e : (joinB (x :: y :: l)).data.toList = x.data.toList ++ ([47] ++ (joinB (y :: l)).data.toList) := by
      show Lib.join _ _ = _ ++ (_ ++ Lib.join _ _)
      exact join_cons2 _ _ _ _
    simp [e]
theorem showD_end {l : List ByteArray} (h1 : l.length ≤ 16) (h2 : l.all partB = true) : showB l = (if slashL l = ⟨#[]⟩ then (⟨#[47]⟩ : ByteArray) else slashL l) ∧ showK l = 0 := by
  have h := show_3 h1 h2
  refine ⟨?_, h.2⟩
  rw [h.1]
  by_cases hn : l = []
  · subst hn; rfl
  · rw [if_neg (fun e => ?_), slashL_is hn]
    rw [slashL_is hn] at e
    have := congrArg ByteArray.size e
    rw [ByteArray.size_append] at this
    have h5 : (⟨#[47]⟩ : ByteArray).size = 1 := rfl
    have h6 : (⟨#[]⟩ : ByteArray).size = 0 := rfl
    omega
theorem head_slash {s : ByteArray} : slashB s = true ↔ ∃ t, splC 47 s.data.toList = [] :: t ∧ t ≠ [] := by
  unfold slashB Lib.hasPrefix
  cases e : s.data.toList with
  | nil => simp [splC]
  | cons b l =>
    cases el : splC 47 l with
    | nil => exact absurd el (splC_ne _ _)
    | cons x t =>
      by_cases hb : b = 47
      · subst hb; rw [splC_hit]; simp [List.isPrefixOf, splC_ne]
      · rw [splC_miss hb el]; simp [List.isPrefixOf, Ne.symm hb]
theorem rest_parts47 {s : ByteArray} (h : slashB s = true) : splB s = (⟨#[]⟩ : ByteArray) :: splB (restB s) := by
  have e := slash_is h
  refine data_inj ?_
  rw [List.map_cons, splB_data, splB_data]
  conv => lhs; rw [e]
  rw [show ((⟨#[47]⟩ : ByteArray) ++ restB s).data.toList = 47 :: (restB s).data.toList by simp, splC_hit]
theorem parseD_1 {s : ByteArray} (h : s = ⟨#[47]⟩) : parseL s = [] ∧ parseK s = 0 := by subst h; exact ⟨rfl, rfl⟩
theorem slash_no {s : ByteArray} (h : (cutL 47 s).length < 2) : slashB s = false := by
  cases hs : slashB s with
  | false => rfl
  | true =>
    obtain ⟨t, e, hn⟩ := head_slash.1 hs
    rw [cutL_len, e] at h
    have := List.length_pos_iff.2 hn
    simp only [List.length_cons] at h; omega
theorem slash_head {s x : ByteArray} (hx : (cutL 47 s)[0]? = some x) (h : ¬ x = ⟨#[]⟩) : slashB s = false := by
  cases hs : slashB s with
  | false => rfl
  | true =>
    rw [cutL_47, rest_parts47 hs] at hx
    simp at hx
    exact absurd hx.symm h
theorem slash_yes {s x : ByteArray} (h2 : ¬ (cutL 47 s).length < 2) (hx : (cutL 47 s)[0]? = some x) (h : x = ⟨#[]⟩) : slashB s = true := by
  rw [cutL_len] at h2
  cases e : splC 47 s.data.toList with
  | nil => exact absurd e (splC_ne _ _)
  | cons u t =>
    rw [e] at h2
    refine head_slash.2 ⟨t, ?_, fun e => by subst e; exact h2 (Nat.lt_succ_self 1)⟩
    have : (cutL 47 s)[0]? = some (bys u) := by unfold cutL; rw [e]; rfl
    rw [this] at hx
    injection hx with hx
    have h4 := congrArg (fun x : ByteArray => x.data.toList) (hx.trans h)
    have h5 : u = [] := h4
    rw [e, h5]
theorem tail_is {s : ByteArray} (h : slashB s = true) : (cutL 47 s).drop 1 = splB (restB s) := by rw [cutL_47, rest_parts47 h]; rfl
theorem rest_ne {s : ByteArray} (h : slashB s = true) (hs : ¬ s = ⟨#[47]⟩) : ¬ restB s = ⟨#[]⟩ := fun e => hs (by
  have := slash_is h
  rw [e] at this
  rw [this]; rfl)
end Go.Proofs.YtefhfoioeoijlaaGreatDoor
namespace Go.Proofs.YtefhfoioeoijlaaGreatDoor
open Go Go.RowKit Go.Sort
section
variable {P : Program} {d : Option Tmp} {ty : TypeId} {pos : String} {af : Array Edge} {g : Option (Nat × Bool)} {ρ : Operand → Value} {w : World}
theorem r_strix {t : TypeId} {x i : Operand} {s : ByteArray} {k : Nat} {c : UInt8} (hx : ρ x = .string s) (hi : ρ i = .int .i64 (k : Int)) (hc : s.data.toList[k]? = some c) (hu : P.underlying t = some .string) :
    (execOp ρ ⟨d, .index t x i, ty, pos, af, g⟩).run P w = .ok (.value (.int .u8 ((c.toNat : Nat) : Int))) w := by
  have hlt : k < s.size := by have := (List.getElem?_eq_some_iff.1 hc).1; simpa using this
  have h2 : s[k]? = some c := by
    rw [getElem?_pos s k hlt]
    have h3 := (List.getElem?_eq_some_iff.1 hc).2
    rw [← h3]; simp [ByteArray.getElem_eq_getElem_data]
  simp [execOp, hx, hi, Instr.index, asIntOf, run_underlying hu, h2]
theorem r_strsl {t : TypeId} {x lo hi : Operand} {s : ByteArray} {a b : Nat} (hx : ρ x = .string s) (hlo : ρ lo = .int .i64 (a : Int)) (hhi : ρ hi = .int .i64 (b : Int)) (hab : a ≤ b) (hb : b ≤ s.size) (hu : P.underlying t = some .string) :
    (execOp ρ ⟨d, .slice t x (some lo) (some hi) none, ty, pos, af, g⟩).run P w = .ok (.value (.string (s.extract a b))) w := by
  have h1 : (0 : Int) ≤ (b : Int) ∧ (b : Int) ≤ (s.size : Int) := by omega
  have h2 : (0 : Int) ≤ (a : Int) ∧ (a : Int) ≤ (b : Int) := by omega
  simp [execOp, hx, hlo, hhi, Instr.sliceAt, Instr.slice, Instr.sliceBounds, Instr.sliceBound, asIntOf, run_underlying hu, h1, h2]
  repeat' first | rw [if_pos (by omega)] | rfl | simp
def tailA (A : Option Addr) (c : Nat) : Option Addr := if c = 1 then A else A.map (·.add 1)
theorem r_slTail {t : TypeId} {x lo : Operand} {A : Option Addr} {n c m : Nat} {e : TypeId} (hx : ρ x = .slice A n c) (hlo : ρ lo = .int .i64 1) (hm : m = n - 1) (hn : 1 ≤ n) (hc : n ≤ c) (hu : P.underlying t = some (.slice e)) (hs : ∀ w : World, (sizeOf e).run P w = .ok 1 w) :
    (execOp ρ ⟨d, .slice t x (some lo) none none, ty, pos, af, g⟩).run P w = .ok (.value (.slice (tailA A c) m (c - 1))) w := by
  subst hm
  have h1 : (0 : Int) ≤ 1 ∧ (1 : Int) ≤ (n : Int) := by omega
  have h2 : (1 : Int) ≤ (n : Int) := by omega
  simp [execOp, hx, hlo, Instr.sliceAt, Instr.slice, Instr.sliceBounds, Instr.sliceBound, asIntOf, run_underlying hu, hs, h1, h2, tailA]
end
theorem SSRow.tail {w : World} {A : Option Addr} {c : Nat} {L : List ByteArray} (h : SSRow w (.slice A L.length c) L) (hn : 1 ≤ L.length) : SSRow w (.slice (tailA A c) (L.drop 1).length (c - 1)) (L.drop 1) := by
  obtain ⟨A', c', e, hc, h0⟩ := h
  injection e with e1 _ e3
  subst e1; subst e3
  refine ⟨_, _, rfl, by rw [List.length_drop]; omega, ?_⟩
  rcases h0 with h0 | ⟨g, f, hA, hg, hcell⟩
  · left; rw [h0]; simp
  · by_cases h1 : c = 1
    · left
      exact List.length_eq_zero_iff.1 (by rw [List.length_drop]; omega)
    · refine .inr ⟨g, f + 1, ?_, hg, fun j x hx => ?_⟩
      · unfold tailA; rw [if_neg h1, hA]; rfl
      · rw [List.getElem?_drop] at hx
        rw [Nat.add_assoc]
        exact hcell (1 + j) x hx
theorem NewS.tail {n m m' c c' : Nat} {A : Option Addr} (h : NewS n (.slice A m c)) : NewS n (.slice (tailA A c) m' c') := by
  unfold tailA
  split
  · intro k hk; exact h k (by cases A <;> exact hk)
  · intro k hk
    cases A with
    | none => cases hk
    | some a => exact h k hk
def datL (L : List ByteArray) : List (List UInt8) := L.map (·.data.toList)
def CutI (c : UInt8) (s : ByteArray) (k fr : Nat) (out : List ByteArray) : Prop :=
  (k ≤ s.size ∧ fr ≤ k ∧ splC c s.data.toList = datL out ++ splC c (s.data.toList.drop fr) ∧ ∀ j, fr ≤ j → j < k → s.data.toList[j]? ≠ some c) ∨ (k = s.size + 1 ∧ splC c s.data.toList = datL out)
theorem CutI.start (c : UInt8) (s : ByteArray) : CutI c s 0 0 [] := .inl ⟨Nat.zero_le _, Nat.le_refl _, by simp [datL], fun j _ h => absurd h (Nat.not_lt_zero _)⟩
theorem CutI.fr {c : UInt8} {s : ByteArray} {k fr : Nat} {out : List ByteArray} (h : CutI c s k fr out) (hk : k ≤ s.size) : fr ≤ k := by
  rcases h with h | h
  · exact h.2.1
  · omega
theorem sz_len (s : ByteArray) : s.size = s.data.toList.length := by simp
theorem ext_data (s : ByteArray) (a b : Nat) : (s.extract a b).data.toList = (s.data.toList.drop a).take (b - a) := by
  simp [ByteArray.data_extract]
theorem CutI.hit {c : UInt8} {s : ByteArray} {k fr : Nat} {out : List ByteArray} (h : CutI c s k fr out) (hc : s.data.toList[k]? = some c) : CutI c s (k + 1) (k + 1) (out ++ [s.extract fr k]) := by
  have hlt := (List.getElem?_eq_some_iff.1 hc).1
  rw [← sz_len] at hlt
  rcases h with h | h
  · refine .inl ⟨hlt, Nat.le_refl _, ?_, fun j h1 h2 => by omega⟩
    have := cut_hit h.2.2.1 h.2.1 hc h.2.2.2
    rw [this, datL, datL, List.map_append, List.map_cons, List.map_nil, ext_data]
  · omega
theorem CutI.miss {c b : UInt8} {s : ByteArray} {k fr : Nat} {out : List ByteArray} (h : CutI c s k fr out) (hb : s.data.toList[k]? = some b) (hn : ¬ ((b.toNat : Nat) : Int) = ((c.toNat : Nat) : Int)) : CutI c s (k + 1) fr out := by
  have hlt := (List.getElem?_eq_some_iff.1 hb).1
  rw [← sz_len] at hlt
  rcases h with h | h
  · refine .inl ⟨hlt, by omega, h.2.2.1, fun j h1 h2 => ?_⟩
    rcases Nat.lt_or_ge j k with h3 | h3
    · exact h.2.2.2 j h1 h3
    · obtain rfl : j = k := by omega
      rw [hb]; intro e; injection e with e; subst e; exact hn rfl
  · omega
theorem CutI.last {c : UInt8} {s : ByteArray} {k fr : Nat} {out : List ByteArray} (h : CutI c s k fr out) (hk : k = s.size) : CutI c s (k + 1) (k + 1) (out ++ [s.extract fr k]) := by
  rcases h with h | h
  · refine .inr ⟨by omega, ?_⟩
    have := cut_last h.2.2.1 (fun j h1 h2 => h.2.2.2 j h1 (by rw [← sz_len] at h2; omega))
    rw [this, datL, datL, List.map_append, List.map_cons, List.map_nil, ext_data]
    congr 2
    rw [List.take_of_length_le (by rw [List.length_drop, ← sz_len]; omega)]
  · omega
theorem CutI.done {c : UInt8} {s : ByteArray} {k fr : Nat} {out : List ByteArray} (h : CutI c s k fr out) (hk : ¬ k ≤ s.size) : cutL c s = out := by
  rcases h with h | h
  · omega
  · unfold cutL; rw [h.2]; unfold datL; rw [List.map_map]
    have e : (bys ∘ fun x : ByteArray => x.data.toList) = id := by funext x; exact bys_of x
    rw [e, List.map_id]
theorem u8_of {b c : UInt8} (h : ((b.toNat : Nat) : Int) = ((c.toNat : Nat) : Int)) : b = c := UInt8.toNat_inj.1 (by omega)
theorem txt_next {L M : List ByteArray} {k : Nat} {x y : ByteArray} (h : Hid (∀ (j : Nat) (x y : ByteArray), j < k → L[j]? = some x → M[j]? = some y → x = y)) (hx : L[k]? = some x) (hy : M[k]? = some y) (e : x = y) : Hid (∀ (j : Nat) (x y : ByteArray), j < k + 1 → L[j]? = some x → M[j]? = some y → x = y) := fun j u v hj hu hv => by
  rcases Nat.lt_or_ge j k with h1 | h1
  · exact h.out j u v h1 hu hv
  · obtain rfl : j = k := by omega
    rw [hx] at hu; rw [hy] at hv; injection hu with hu; injection hv with hv; subst hu hv; exact e
theorem txt_end {L M : List ByteArray} {k : Nat} (h : Hid (∀ (j : Nat) (x y : ByteArray), j < k → L[j]? = some x → M[j]? = some y → x = y)) (hl : L.length = M.length) (hk : L.length ≤ k) : decide (L = M) = true := by
  refine decide_eq_true (List.ext_getElem hl fun j h1 h2 => ?_)
  exact h.out j _ _ (by omega) (List.getElem?_eq_getElem h1) (List.getElem?_eq_getElem h2)
theorem txt_no {L M : List ByteArray} {k : Nat} {x y : ByteArray} (hx : L[k]? = some x) (hy : M[k]? = some y) (e : x ≠ y) : decide (L = M) = false := decide_eq_false fun h => by
  subst h; rw [hx] at hy; injection hy with hy; exact e hy
theorem txt_len {L M : List ByteArray} (h : ((L.length : Nat) : Int) ≠ ((M.length : Nat) : Int)) : decide (L = M) = false := decide_eq_false fun e => h (by rw [e])
theorem slash_wid : ∀ l : List ByteArray, (slashL l).size = wid l
  | [] => rfl
  | x :: l => by
    have h5 : (⟨#[47]⟩ : ByteArray).size = 1 := rfl
    have e2 : wid (x :: l) = x.size + 1 + wid l := by simp [wid]
    rw [slashL, ByteArray.size_append, ByteArray.size_append, slash_wid l, e2]; omega
theorem wid_take (l : List ByteArray) (k : Nat) : wid (l.take k) ≤ wid l := by
  have h3 : wid l = wid (l.take k) + wid (l.drop k) := by rw [← wid_app, List.take_append_drop]
  omega
theorem wid_join (l : List ByteArray) : wid l ≤ (joinB l).size + 1 := by
  by_cases h : l = []
  · subst h; exact Nat.zero_le _
  · have := (join_wid l).2 h; omega
theorem slash_le {l : List ByteArray} {k : Nat} {acc : ByteArray} (h : acc = slashL (l.take k)) (hj : (joinB l).size ≤ 1000000) : acc.size ≤ 1000001 := by
  rw [h, slash_wid]
  have h1 := wid_take l k; have h2 := wid_join l; omega
theorem slash_all {l : List ByteArray} {k : Nat} {acc : ByteArray} (h : acc = slashL (l.take k)) (hk : l.length ≤ k) : acc = slashL l := by rw [h, List.take_of_length_le hk]
theorem show_e1 {l : List ByteArray} {acc : ByteArray} (h1 : l.length ≤ 16) (h2 : l.all partB = true) (h : acc = slashL l) (e : acc = ⟨#[]⟩) : showB l = ⟨#[47]⟩ ∧ showK l = 0 := by
  have := showD_end h1 h2
  rw [← h, if_pos e] at this; exact this
theorem show_e2 {l : List ByteArray} {acc : ByteArray} (h1 : l.length ≤ 16) (h2 : l.all partB = true) (h : acc = slashL l) (e : ¬ acc = ⟨#[]⟩) : showB l = acc ∧ showK l = 0 := by
  have := showD_end h1 h2
  rw [← h, if_neg e] at this; exact this
theorem r15n_up {w : World} (s : ByteArray) (hs : s.size ≤ 9223372036854775807) : Calls Tryz.prog 88 #[.string s] w fun e w' => e = .returned (.bool (nameB s)) ∧ Up w w' := by
  refine (r15name_any s w hs).mono ?_
  rintro e w' ⟨rfl, rfl⟩
  exact ⟨rfl, Below.refl _ _⟩
end Go.Proofs.YtefhfoioeoijlaaGreatDoor
set_option linter.unusedVariables false
set_option linter.unusedSimpArgs false
namespace Go.Proofs.YtefhfoioeoijlaaGreatDoor
open Go Go.RowKit Go.Sort
theorem le_tr (a b c : List UInt8) (h1 : decide (a ≤ b) = true) (h2 : decide (b ≤ c) = true) : decide (a ≤ c) = true := by
  simp only [decide_eq_true_eq] at *
  exact List.le_trans h1 h2
theorem le_to (a b : List UInt8) : (decide (a ≤ b) || decide (b ≤ a)) = true := by
  simp only [Bool.or_eq_true, decide_eq_true_eq]
  exact List.le_total a b
theorem lt_of (a b : List UInt8) (h : a ≤ b) (hn : a ≠ b) : a < b := by
  rcases List.le_iff_lt_or_eq.1 h with h | h
  · exact h
  · exact absurd h hn
def sortB (D : List ByteArray) : List ByteArray := ((D.map (·.data.toList)).mergeSort fun x y => decide (x ≤ y)).map bys
theorem sortB_data (D : List ByteArray) : (sortB D).map (·.data.toList) = (D.map (·.data.toList)).mergeSort fun x y => decide (x ≤ y) := by
  unfold sortB; rw [List.map_map]; exact List.map_id _
theorem sortB_perm (D : List ByteArray) : (sortB D).Perm D := by
  have h := (List.mergeSort_perm (D.map (·.data.toList)) fun x y => decide (x ≤ y)).map bys
  rw [List.map_map] at h
  have e : (bys ∘ fun x : ByteArray => x.data.toList) = id := by funext x; exact bys_of x
  rw [e, List.map_id] at h
  exact h
theorem sortB_len (D : List ByteArray) : (sortB D).length = D.length := (sortB_perm D).length_eq
theorem sortB_sorted (D : List ByteArray) : (sortB D).Pairwise fun x y => x.data.toList ≤ y.data.toList := by
  have h := List.pairwise_mergeSort le_tr le_to (D.map (·.data.toList))
  unfold sortB
  rw [List.pairwise_map]
  refine h.imp (fun h => ?_)
  exact of_decide_eq_true h
def pathO (L : List Item) (x : Item) : List ByteArray := if ofK L x.node = 0 then [ofB L x.node] else []
def pathsI (L M : List Item) : List ByteArray := M.flatMap (pathO L)
def allB (L : List Item) : List ByteArray := ⟨#[47]⟩ :: sortB (pathsI L L)
theorem paths_yes {L M : List Item} {k : Nat} {x : Item} (hx : M[k]? = some x) (h : ofK L x.node = 0) : (⟨#[47]⟩ :: pathsI L (M.take k)) ++ [ofB L x.node] = (⟨#[47]⟩ : ByteArray) :: pathsI L (M.take (k + 1)) := by
  unfold pathsI
  rw [List.take_add_one, hx, List.flatMap_append]
  simp [pathO, h]
theorem paths_no {L M : List Item} {k : Nat} {x : Item} (hx : M[k]? = some x) (h : ¬ ofK L x.node = 0) : pathsI L (M.take k) = pathsI L (M.take (k + 1)) := by
  unfold pathsI
  rw [List.take_add_one, hx, List.flatMap_append]
  simp [pathO, h]
theorem paths_len (L M : List Item) : (pathsI L M).length ≤ M.length := by
  induction M with
  | nil => simp [pathsI]
  | cons x M ih =>
    have e : pathsI L (x :: M) = pathO L x ++ pathsI L M := by simp [pathsI]
    have h1 : (pathO L x).length ≤ 1 := by unfold pathO; split <;> simp
    rw [e, List.length_append, List.length_cons]; omega
theorem allB_len {L : List Item} (h : L.length ≤ 300) : (allB L).length ≤ 301 := by
  unfold allB
  have h1 := paths_len L L
  rw [List.length_cons, sortB_len]; omega
theorem BRow.lit {base : Nat} {w : World} {b : Nat} {x : ByteArray} (h : w.heap[b]? = some (.cells #[.string x] 9 (0, 0))) (hb : base ≤ b) : BRow base w (.slice (some ⟨b, 0, none⟩) 1 1) [x] :=
  ⟨rfl, .inr ⟨b, 1, #[.string x], rfl, hb, h, Nat.le_refl _, by unfold maxLen; omega, rfl, rfl⟩⟩
theorem sortS_at {base : Nat} {w : World} {A : Option Addr} {c : Nat} {x : ByteArray} {D out : List ByteArray} (e : out = x :: D) (h : BRow base w (.slice A out.length c) out) (hlen : D.length ≤ 100000) :
    Calls Tryz.prog 112 #[.slice (tailA A c) (out.drop 1).length (c - 1)] w fun e w' => e = .returned (.tuple #[]) ∧ SSRow w' (.slice A (x :: sortB D).length c) (x :: sortB D) ∧ w.grownBy w' (Value.slice A out.length c).ownBlock := by
  subst e
  obtain ⟨hl, ⟨e, h0⟩ | ⟨g, cap, cur, e, hb, hg, hc, hm, hcs, htk⟩⟩ := h
  · simp at h0
  · injection e with e1 _ e3
    subst e1; subst e3
    simp only [List.length_cons] at hc
    obtain ⟨f, hf, hf1⟩ : ∃ f, tailA (some ⟨g, 0, none⟩) c = some ⟨g, f, none⟩ ∧ (D ≠ [] → f = 1) := by
      unfold tailA
      by_cases h1 : c = 1
      · refine ⟨0, by rw [if_pos h1], fun hD => ?_⟩
        have := List.length_pos_iff.2 hD; omega
      · exact ⟨1, by rw [if_neg h1]; rfl, fun _ => rfl⟩
    rw [hf]
    have hcell : ∀ (j : Nat) (y : ByteArray), (x :: D)[j]? = some y → w.cell? ⟨g, 0 + j, none⟩ = some (.string y) := fun j y hy => by
      have hj := (List.getElem?_eq_some_iff.1 hy).1
      have h1 : ((x :: D).map Value.string)[j]? = some (.string y) := by rw [List.getElem?_map, hy]; rfl
      rw [← htk, List.getElem?_take, if_pos (by omega), Array.getElem?_toList] at h1
      simp only [World.cell?, hg, Nat.zero_add]
      exact h1
    have hH : Holds encStr w g f (D.map (·.data.toList)).toArray := by
      intro j hj
      simp only [List.size_toArray, List.length_map] at hj
      have hf2 : f = 1 := hf1 (fun e => by rw [e] at hj; simp at hj)
      refine ⟨?_, by simp [World.frozen?, hg]⟩
      have h2 := hcell (1 + j) D[j] (by rw [Nat.add_comm, List.getElem?_cons_succ]; exact List.getElem?_eq_getElem hj)
      rw [Nat.zero_add] at h2
      rw [hf2, h2]
      congr 1
      rw [← encStr_is]
      congr 1
      simp [getElem!_pos, hj]
    have hglt : g < w.heap.size := lt_ob hg
    have key := Tryz.slices_Sort_string g f (c - 1) (D.map (·.data.toList)) w hH hglt (by simp; omega)
    rw [List.length_map] at key
    rw [show ((x :: D).drop 1).length = D.length from rfl]
    refine key.mono ?_
    rintro e w' ⟨rfl, q, os, rfl⟩
    have hH' := holds_putRow encStr (Sort.ahead w q) g f (D.map (·.data.toList)).toArray ((D.map (·.data.toList)).mergeSort fun x y => decide (x ≤ y)).toArray (show Holds encStr (Sort.ahead w q) g f (D.map (·.data.toList)).toArray from fun j hj => hH j hj) (by simp)
    have hup : Up (putRow encStr (Sort.ahead w q) g f ((D.map (·.data.toList)).mergeSort fun x y => decide (x ≤ y)).toArray) (grow (putRow encStr (Sort.ahead w q) g f ((D.map (·.data.toList)).mergeSort fun x y => decide (x ≤ y)).toArray) os) := by
      have := Ups.below (ups_grow (putRow encStr (Sort.ahead w q) g f ((D.map (·.data.toList)).mergeSort fun x y => decide (x ≤ y)).toArray) 0 os)
      exact this
    refine ⟨rfl, ⟨some ⟨g, 0, none⟩, c, rfl, by rw [List.length_cons, sortB_len]; exact hc, .inr ⟨g, 0, rfl, Nat.lt_of_lt_of_le (by rw [size_putRow]; exact hglt) hup.size, fun j y hy => ?_⟩⟩, ?_⟩
    · refine (hup.cell (p := ⟨g, 0 + j, none⟩) (by rw [size_putRow]; exact hglt)).trans ?_
      cases j with
      | zero =>
        simp at hy; subst hy
        rw [cell?_putRow_other _ _ _ _ _ _ (by
          rcases Nat.eq_zero_or_pos f with hz | hz
          · right; right
            have hD : D = [] := Decidable.byContradiction fun hD => by rw [hf1 hD] at hz; cases hz
            subst hD; subst hz; simp
          · right; left; exact hz)]
        exact hcell 0 x rfl
      | succ j =>
        rw [List.getElem?_cons_succ] at hy
        have hj : j < D.length := by have := (List.getElem?_eq_some_iff.1 hy).1; rwa [sortB_len] at this
        have hf2 : f = 1 := hf1 (fun e => by rw [e] at hj; simp at hj)
        have h3 := (hH' j (by simpa using hj)).1
        rw [hf2] at h3 ⊢
        rw [show 0 + (j + 1) = 1 + j by omega]
        refine h3.trans ?_
        congr 1
        rw [← encStr_is]
        congr 1
        have hx2 : ((D.map (·.data.toList)).mergeSort fun x y => decide (x ≤ y))[j]? = some y.data.toList := by rw [← sortB_data, List.getElem?_map, hy]; rfl
        obtain ⟨h4, h5⟩ := List.getElem?_eq_some_iff.1 hx2
        rw [getElem!_pos _ _ (by simpa using h4)]
        simpa using h5
    · refine ⟨hup.os, hup.tape, hup.output, Nat.le_trans (by rw [size_putRow]; exact Nat.le_refl _) hup.size, fun k hk hne => ?_⟩
      rw [hup.block k (by rw [size_putRow]; exact hk)]
      unfold putRow mapBlock
      simp only [Array.getElem?_modify]
      rw [if_neg (by intro e; exact hne (by rw [e]; rfl))]
      rfl
def OwnB (base : Nat) (w : World) (ob : Option Nat) : Prop := ∀ k, ob = some k → base ≤ k ∧ k < w.heap.size
theorem OwnB.own {base : Nat} {w : World} {ob : Option Nat} (h : OwnB base w ob) : ∀ k, ob = some k → base ≤ k ∧ k < w.heap.size := h
def ARow (b0 base : Nat) (w : World) (v : Value) (L : List ByteArray) : Prop :=
  (b0 ≤ base ∧ BRow base w v L) ∨ ∃ g x, v = .slice (some ⟨g, 0, none⟩) 1 1 ∧ L = [x] ∧ b0 ≤ g ∧ w.heap[g]? = some (.cells #[.string x] 9 (0, 0))
theorem ARow.up {b0 base : Nat} {w w' : World} {v : Value} {L : List ByteArray} (h : ARow b0 base w v L) (u : Up w w') : ARow b0 base w' v L := by
  rcases h with h | ⟨g, x, e, hl, hb, hg⟩
  · exact .inl ⟨h.1, h.2.up u⟩
  · exact .inr ⟨g, x, e, hl, hb, up_ob u hg⟩
theorem ARow.low {b0 base : Nat} {w : World} {v : Value} {L : List ByteArray} (h : ARow b0 base w v L) : BRow b0 w v L := by
  rcases h with h | ⟨g, x, rfl, rfl, hb, hg⟩
  · exact h.2.base h.1
  · exact BRow.lit hg hb
theorem ARow.snoc {b0 base : Nat} {w : World} {v : Value} {L : List ByteArray} (h : ARow b0 base w v L) {t ty : TypeId} (ht : Tryz.prog.underlying t = some (.slice 9)) {b : Nat} {x : ByteArray} (hb : w.heap[b]? = some (.cells #[.string x] 9 (0, 0))) (hbase : base ≤ w.heap.size) (h0 : b0 ≤ base) (hlen : L.length ≤ 100000) :
    ∃ v' w' ob, (Builtin.append_ #[t, t] ty #[v, .slice (some ⟨b, 0, none⟩) 1 1]).run Tryz.prog w = .ok v' w' ∧ BRow base w' v' (L ++ [x]) ∧ w.grownBy w' ob ∧ OwnB base w ob := by
  rcases h with h | ⟨g, y, rfl, rfl, hg0, hg⟩
  · obtain ⟨v', w', h1, h2, h3⟩ := h.2.snoc (ty := ty) ht hb hbase hlen
    exact ⟨v', w', _, h1, h2, h3, h.2.own⟩
  · obtain ⟨i, z, hi, hz, hsize, hby, hzs⟩ := info_str
    obtain ⟨v', w', h1, h2, h3⟩ := run_append_arg_grows (P := Tryz.prog) w t ty 9 i z 1 16 ht hi hz hsize hby hzs (by decide) ⟨g, 0, none⟩ 1 1 [.string y] (by simp)
      (fun j u hj => by
        rw [add_at, Nat.zero_add]
        have : (#[.string y] : Array Value)[j]? = some u := by simpa using hj
        simp only [World.cell?, hg]; simpa using this) ⟨b, 0, none⟩ 1 1 [.string x] (by simp)
      (fun j u hj => by
        rw [add_at, Nat.zero_add]
        have : (#[.string x] : Array Value)[j]? = some u := by simpa using hj
        simp only [World.cell?, hb]; simpa using this) (by omega) (by unfold maxLen; omega) (by omega)
    refine ⟨v', w', none, h1, ?_, h3, fun k hk => by cases hk⟩
    have h4 : BRow w.heap.size w' v' ([y] ++ [x]) := by
      unfold BRow
      rw [List.map_append]
      simpa using h2
    exact h4.base hbase
theorem snA {ops : Array Oper} {Q : Exit → Act → World → Prop} {a : Act} {w : World} {J : Act → World → Prop} {d : Option Tmp} {ty : TypeId} {pos : String} {af : Array Edge} {g : Option (Nat × Bool)}
    {b0 base : Nat} {v : Value} {L : List ByteArray} {t : TypeId} {s y : Operand} {b : Nat} {x : ByteArray}
    (hw : Region.wanted (⟨d, .call ⟨.builtin .append, #[s, y], #[t, t]⟩, ty, pos, af, g⟩ : Oper) (yielded ops a.tmps) = true) (hs : a.eval s = v) (hy : a.eval y = .slice (some ⟨b, 0, none⟩) 1 1)
    (h : ARow b0 base w v L) (ht : Tryz.prog.underlying t = some (.slice 9)) (hb : w.heap[b]? = some (.cells #[.string x] 9 (0, 0))) (hbase : base ≤ w.heap.size) (h0 : b0 ≤ base) (hlen : L.length ≤ 100000)
    (k : ∀ A c w' ob, ARow b0 base w' (.slice A (L ++ [x]).length c) (L ++ [x]) → w.grownBy w' ob → OwnB base w ob → J (a.put d (.slice A (L ++ [x]).length c)) w') : St1 Tryz.prog ops Q ⟨d, .call ⟨.builtin .append, #[s, y], #[t, t]⟩, ty, pos, af, g⟩ J a w := by
  obtain ⟨v', w', ob, h1, h2, h3, h4⟩ := h.snoc (ty := ty) ht hb hbase h0 hlen
  obtain ⟨A, c, rfl⟩ := h2.form
  refine sv hw ?_ (k A c w' ob (.inl ⟨h0, h2⟩) h3 h4)
  simp [execOp, resolve, invoke, builtin, hs, hy, h1]
theorem sortA_at {b0 base : Nat} {w : World} {A : Option Addr} {c : Nat} {L : List Item} {out : List ByteArray} (e : out = ⟨#[47]⟩ :: pathsI L L) (hL : L.length ≤ 300) (h : ARow b0 base w (.slice A out.length c) out) :
    Calls Tryz.prog 112 #[.slice (tailA A c) (out.drop 1).length (c - 1)] w fun e w' => e = .returned (.tuple #[]) ∧ ∃ ob, SSRow w' (.slice A (allB L).length c) (allB L) ∧ out.length = (allB L).length ∧ w.grownBy w' ob ∧ OwnB b0 w ob := by
  have hl : out.length = (allB L).length := by rw [e]; unfold allB; rw [List.length_cons, List.length_cons, sortB_len]
  refine (sortS_at e h.low (by have := paths_len L L; omega)).mono ?_
  rintro e2 w' ⟨rfl, hr, hg⟩
  exact ⟨rfl, _, hr, hl, hg, h.low.own⟩
end Go.Proofs.YtefhfoioeoijlaaGreatDoor
set_option linter.unusedVariables false
set_option linter.unusedSimpArgs false
namespace Go.Proofs.YtefhfoioeoijlaaGreatDoor
open Go Go.RowKit Go.Sort
structure Thn (S D : List Stamp) : Prop where
  srt : D.Pairwise fun a b => ltS a b = true
  mem : ∀ x, x ∈ D ↔ x ∈ S
end Go.Proofs.YtefhfoioeoijlaaGreatDoor
set_option linter.unusedVariables false
set_option linter.unusedSimpArgs false
namespace Go.Proofs.YtefhfoioeoijlaaGreatDoor
open Go Go.RowKit Go.Sort
structure Enc {α : Type} (T : TypeId) (f : α → List Value) (sz by_ : Nat) : Prop where
  len : ∀ x, (f x).length = sz
  one : ∀ x, ∀ u ∈ f x, u.oneCell' = true
  info : ∃ i z, Tryz.prog.info? T = some i ∧ i.zero = some z ∧ i.size = sz ∧ i.bytes = by_ ∧ z.cells.size = sz
  pos : 0 < sz
  small : by_ ≤ 1000
section
variable {α : Type} {f : α → List Value} {T : TypeId} {sz by_ : Nat}
def GRow (T : TypeId) (f : α → List Value) (sz base : Nat) (w : World) (v : Value) (L : List α) : Prop := w.ownsRow base T sz v L.length (L.flatMap f)
def GSub (f : α → List Value) (w : World) (v : Value) (L : List α) : Prop :=
  ∃ A c, v = .slice A L.length c ∧ (L ≠ [] → ∃ b o, A = some ⟨b, o, none⟩ ∧ b < w.heap.size ∧ ∀ (j : Nat) (u : Value), (L.flatMap f)[j]? = some u → w.cell? ⟨b, o + j, none⟩ = some u)
theorem GSub.up {w w' : World} {v : Value} {L : List α} (h : GSub f w v L) (u : Up w w') : GSub f w' v L := by
  obtain ⟨A, c, rfl, h1⟩ := h
  refine ⟨A, c, rfl, fun hL => ?_⟩
  obtain ⟨b, o, hA, hb, hc⟩ := h1 hL
  exact ⟨b, o, hA, Nat.lt_of_lt_of_le hb u.size, fun j v hj => (u.cell (p := ⟨b, o + j, none⟩) hb).trans (hc j v hj)⟩
theorem flatG_len (e : Enc T f sz by_) : ∀ (L : List α), (L.flatMap f).length = L.length * sz
  | [] => by simp
  | x :: L => by rw [List.flatMap_cons, List.length_append, e.len, flatG_len e L, List.length_cons, Nat.add_mul]; omega
theorem flatG_drop (e : Enc T f sz by_) : ∀ {L : List α} (k : Nat), (L.drop k).flatMap f = (L.flatMap f).drop (k * sz)
  | [], k => by simp
  | x :: L, 0 => by simp
  | x :: L, k + 1 => by
    have ih := flatG_drop e (L := L) k
    rw [List.drop_succ_cons, ih, List.flatMap_cons, show (k + 1) * sz = (f x).length + k * sz by rw [e.len, Nat.add_mul]; omega, List.drop_length_add_append]
theorem flatG_take (e : Enc T f sz by_) : ∀ {L : List α} (k : Nat), (L.take k).flatMap f = (L.flatMap f).take (k * sz)
  | [], k => by simp
  | x :: L, 0 => by simp
  | x :: L, k + 1 => by
    have ih := flatG_take e (L := L) k
    rw [List.take_succ_cons, List.flatMap_cons, ih, List.flatMap_cons, show (k + 1) * sz = (f x).length + k * sz by rw [e.len, Nat.add_mul]; omega, List.take_length_add_append]
theorem flatG_one (e : Enc T f sz by_) {L : List α} : ∀ u ∈ L.flatMap f, u.oneCell' = true := by
  intro u hu
  obtain ⟨x, _, hx⟩ := List.mem_flatMap.1 hu
  exact e.one x u hx
theorem GRow.nil (base : Nat) (w : World) : GRow T f sz base w (.slice none 0 0) [] := World.ownsRow_nil w base _ sz
theorem GRow.keep {base : Nat} {w w' : World} {v : Value} {L : List α} (h : GRow T f sz base w v L) {q : Option Nat} (hg : w.grownBy w' q) (hv : v.ownBlock = none ∨ v.ownBlock ≠ q) : GRow T f sz base w' v L := World.ownsRow.kept h hg hv
theorem GRow.up {base : Nat} {w w' : World} {v : Value} {L : List α} (h : GRow T f sz base w v L) (hb : Up w w') : GRow T f sz base w' v L :=
  h.keep (q := none) ⟨hb.os, hb.tape, hb.output, hb.size, fun k hk _ => hb.block k hk⟩ (by cases hv : v.ownBlock <;> simp)
theorem GRow.own {base : Nat} {w : World} {v : Value} {L : List α} (h : GRow T f sz base w v L) : ∀ k, v.ownBlock = some k → base ≤ k ∧ k < w.heap.size := World.ownsRow.lt h
theorem GRow.to {base : Nat} {w : World} {v : Value} {L L' : List α} (h : GRow T f sz base w v L) (e : L = L') : GRow T f sz base w v L' := e ▸ h
theorem GRow.base {base base' : Nat} {w : World} {v : Value} {L : List α} (h : GRow T f sz base w v L) (hb : base' ≤ base) : GRow T f sz base' w v L := by
  obtain ⟨h1, h2⟩ := h
  refine ⟨h1, ?_⟩
  rcases h2 with hn | ⟨g, cap, cur, hv, hbg, rest⟩
  · exact .inl hn
  · exact .inr ⟨g, cap, cur, hv, Nat.le_trans hb hbg, rest⟩
theorem GRow.form {base : Nat} {w : World} {v : Value} {L : List α} (h : GRow T f sz base w v L) : ∃ A c, v = .slice A L.length c := by
  obtain ⟨_, ⟨rfl, h0⟩ | ⟨g, cap, cur, rfl, _⟩⟩ := h
  · exact ⟨none, 0, by rw [h0]⟩
  · exact ⟨_, cap, rfl⟩
theorem GRow.addr {base : Nat} {w : World} {A : Option Addr} {n c : Nat} {L : List α} (h : GRow T f sz base w (.slice A n c) L) : n = L.length ∧ n ≤ c ∧ (A = none ∧ c = 0 ∨ ∃ g, A = some ⟨g, 0, none⟩) := by
  obtain ⟨h1, ⟨e, h0⟩ | ⟨g, cap, cur, e, hb, hg, hc, hm, hcs, htk⟩⟩ := h
  · injection e with e1 e2 e3
    exact ⟨by omega, by omega, .inl ⟨e1, e3⟩⟩
  · injection e with e1 e2 e3
    exact ⟨by omega, by omega, .inr ⟨g, e1⟩⟩
theorem GRow.blk {base : Nat} {w : World} {g n c : Nat} {L : List α} (h : GRow T f sz base w (.slice (some ⟨g, 0, none⟩) n c) L) : n = L.length ∧ n ≤ c ∧ c ≤ maxLen ∧ ∃ cur : Array Value, w.heap[g]? = some (.cells cur T (0, 0)) ∧ cur.size = c * sz := by
  obtain ⟨h1, ⟨e, _⟩ | ⟨g', cap, cur, e, hb, hg, hc, hm, hcs, htk⟩⟩ := h
  · cases e
  · simp only [Value.slice.injEq, Option.some.injEq, Addr.mk.injEq, and_true, true_and] at e
    obtain ⟨rfl, rfl, rfl⟩ := e
    exact ⟨rfl, hc, hm, cur, hg, hcs⟩
theorem GRow.cells {base : Nat} {w : World} {A : Option Addr} {n c : Nat} {L : List α} (h : GRow T f sz base w (.slice A n c) L) (hL : L ≠ []) :
    ∃ g, A = some ⟨g, 0, none⟩ ∧ g < w.heap.size ∧ ∀ (j : Nat) (u : Value), (L.flatMap f)[j]? = some u → w.cell? ⟨g, j, none⟩ = some u := by
  obtain ⟨h1, ⟨e, h0⟩ | ⟨g, cap, cur, e, hb, hg, hc, hm, hcs, htk⟩⟩ := h
  · exact absurd (List.eq_nil_of_length_eq_zero h0) hL
  · injection e with e1 _ _
    refine ⟨g, e1, lt_ob hg, fun j u hj => ?_⟩
    rw [← htk, List.getElem?_take] at hj
    split at hj
    · rw [Array.getElem?_toList] at hj
      simp only [World.cell?, hg]; simpa using hj
    · cases hj
theorem flatG_get (e : Enc T f sz by_) : ∀ {L : List α} {i k : Nat} {x : α}, L[i]? = some x → k < sz → (L.flatMap f)[i * sz + k]? = (f x)[k]?
  | y :: L, 0, k, x, h, hk => by simp at h; subst h; rw [List.flatMap_cons, List.getElem?_append_left (by rw [e.len]; omega), Nat.zero_mul, Nat.zero_add]
  | y :: L, i + 1, k, x, h, hk => by
    have ih := flatG_get e (L := L) (i := i) (k := k) (x := x) (by simpa using h) hk
    rw [List.flatMap_cons, List.getElem?_append_right (by rw [e.len, Nat.add_mul]; omega), show (i + 1) * sz + k - (f y).length = i * sz + k by rw [e.len, Nat.add_mul]; omega]
    exact ih
theorem GRow.get (e : Enc T f sz by_) {base : Nat} {w : World} {A : Option Addr} {n c i : Nat} {L : List α} {x : α} (h : GRow T f sz base w (.slice A n c) L) (hx : L[i]? = some x) :
    ∃ g, A = some ⟨g, 0, none⟩ ∧ g < w.heap.size ∧ ∀ k u, (f x)[k]? = some u → w.cell? ⟨g, i * sz + k, none⟩ = some u := by
  have hL : L ≠ [] := by rintro rfl; simp at hx
  obtain ⟨g, hA, hg, hc⟩ := h.cells hL
  refine ⟨g, hA, hg, fun k u hu => hc _ _ ?_⟩
  have hk : k < sz := by have := (List.getElem?_eq_some_iff.1 hu).1; rw [e.len] at this; exact this
  rw [flatG_get e hx hk, hu]
end
section
variable {P : Program} {α : Type} {f : α → List Value} {T : TypeId} {sz by_ : Nat}
theorem GRow.headCut (E : Enc T f sz by_) {base : Nat} {w : World} {A : Option Addr} {n c k : Nat} {L : List α} (h : GRow T f sz base w (.slice A n c) L) (hk : k ≤ n) (t e : TypeId) (hu : P.underlying t = some (.slice e)) (hsz : ∀ w, (sizeOf e).run P w = .ok sz w) :
    GSub f w (.slice A k c) (L.take k) ∧ ∀ (d : Option Tmp) (ty : TypeId) (pos : String) (af : Array Edge) (gd : Option (Nat × Bool)) (ρ : Operand → Value) (x hi : Operand) (W : World), ρ x = .slice A n c → ρ hi = .int .i64 (k : Int) → (execOp ρ ⟨d, .slice t x none (some hi) none, ty, pos, af, gd⟩).run P W = .ok (.value (.slice A k c)) W := by
  obtain ⟨hn, hnc, hA⟩ := h.addr
  refine ⟨⟨A, c, by rw [List.length_take, Nat.min_eq_left (by omega)], fun hL => ?_⟩, ?_⟩
  · have hL' : L ≠ [] := by rintro rfl; simp at hL
    obtain ⟨g, rfl, hg, hc⟩ := h.cells hL'
    refine ⟨g, 0, rfl, hg, fun j u hj => ?_⟩
    rw [flatG_take E k, List.getElem?_take] at hj
    split at hj
    · rw [Nat.zero_add]; exact hc j u hj
    · cases hj
  · intro d ty pos af gd ρ x hi W hx hhi
    have h1 : (0 : Int) ≤ (k : Int) ∧ (k : Int) ≤ (c : Int) := by omega
    rcases hA with ⟨rfl, rfl⟩ | ⟨g, rfl⟩
    · have : k = 0 := by omega
      subst this
      simp [execOp, hx, hhi, Instr.sliceAt, Instr.slice, Instr.sliceBounds, Instr.sliceBound, asIntOf, run_underlying hu, hsz]
    · exact r_sliceHi hx hhi hu hsz (by omega)
theorem GRow.tailCut (E : Enc T f sz by_) {base : Nat} {w : World} {A : Option Addr} {n c k : Nat} {L : List α} (h : GRow T f sz base w (.slice A n c) L) (hk : k ≤ n) (t e : TypeId) (hu : P.underlying t = some (.slice e)) (hsz : ∀ w, (sizeOf e).run P w = .ok sz w) :
    ∃ A', GSub f w (.slice A' (n - k) (c - k)) (L.drop k) ∧ ∀ (d : Option Tmp) (ty : TypeId) (pos : String) (af : Array Edge) (gd : Option (Nat × Bool)) (ρ : Operand → Value) (x lo : Operand) (W : World), ρ x = .slice A n c → ρ lo = .int .i64 (k : Int) → (execOp ρ ⟨d, .slice t x (some lo) none none, ty, pos, af, gd⟩).run P W = .ok (.value (.slice A' (n - k) (c - k))) W := by
  obtain ⟨hn, hnc, hA⟩ := h.addr
  have h1 : (0 : Int) ≤ (k : Int) ∧ (k : Int) ≤ (n : Int) := by omega
  by_cases hkc : k < c
  · rcases hA with ⟨rfl, rfl⟩ | ⟨g, rfl⟩
    · omega
    · refine ⟨some ⟨g, 0 + k * sz, none⟩, ⟨_, _, by rw [List.length_drop, hn], fun hL => ?_⟩, fun d ty pos af gd ρ x lo W hx hlo => r_sliceLo hx hlo hu hsz hk hkc⟩
      have hL' : L ≠ [] := by rintro rfl; simp at hL
      obtain ⟨g', e, hg, hc⟩ := h.cells hL'
      injection e with e; injection e with e _ _
      subst e
      refine ⟨g, 0 + k * sz, rfl, hg, fun j u hj => ?_⟩
      rw [flatG_drop E k, List.getElem?_drop] at hj
      rw [Nat.zero_add]; exact hc _ u hj
  · have hck : c = k := by omega
    refine ⟨A, ⟨_, _, by rw [List.length_drop, hn], fun hL => ?_⟩, fun d ty pos af gd ρ x lo W hx hlo => ?_⟩
    · exact absurd (List.drop_eq_nil_of_le (by omega)) hL
    · simp [execOp, hx, hlo, Instr.sliceAt, Instr.slice, Instr.sliceBounds, Instr.sliceBound, asIntOf, run_underlying hu, hsz, h1, hck, hk]
theorem GSub.one {w : World} {b : Nat} {x : α} {cs : Array Value} (hb : w.heap[b]? = some (.cells cs T (0, 0))) (hcs : cs.toList = f x) : GSub f w (.slice (some ⟨b, 0, none⟩) 1 1) [x] := by
  refine ⟨_, _, rfl, fun _ => ⟨b, 0, rfl, lt_ob hb, fun j u hj => ?_⟩⟩
  simp only [List.flatMap_cons, List.flatMap_nil, List.append_nil] at hj
  rw [← hcs, Array.getElem?_toList] at hj
  rw [Nat.zero_add]
  simp only [World.cell?, hb]; simpa using hj
end
section
variable {α : Type} {f : α → List Value} {T : TypeId} {sz by_ : Nat}
variable {ops : Array Oper} {Q : Exit → Act → World → Prop} {a : Act} {w : World} {J : Act → World → Prop} {d : Option Tmp} {ty : TypeId} {pos : String} {af : Array Edge} {gd : Option (Nat × Bool)} {base : Nat} {L M : List α} {t : TypeId}
theorem litG (hw : Region.wanted (⟨d, .buildSlice t 0 #[], ty, pos, af, gd⟩ : Oper) (yielded ops a.tmps) = true) (ht : Tryz.prog.underlying t = some (.slice T)) (hsz : ∀ w, (sizeOf T).run Tryz.prog w = .ok sz w) (hbase : base ≤ w.heap.size)
    (k : ∀ b w', b = w.heap.size → w'.heap[b]? = some (.cells #[] T (0, 0)) → GRow T f sz base w' (.slice (some ⟨b, 0, none⟩) 0 0) ([] : List α) → Up w w' → J (a.put d (.slice (some ⟨b, 0, none⟩) 0 0)) w') : St1 Tryz.prog ops Q ⟨d, .buildSlice t 0 #[], ty, pos, af, gd⟩ J a w := by
  have hrun : (execOp a.eval ⟨d, .buildSlice t 0 #[], ty, pos, af, gd⟩).run Tryz.prog w = .ok (.value (.slice (some ⟨w.heap.size, 0, none⟩) 0 0)) (w.alloc (.cells #[] T)) := by
    simp [execOp, Instr.buildSlice, run_underlying ht, hsz, Instr.fill, newRow, Array.range_zero']
  exact sv hw hrun (k _ _ rfl (heap_alloc_new w _) (World.ownsRow_lit w #[] 0 hbase (by unfold maxLen; omega) (by simp)) (up_alloc w _))
theorem apG (E : Enc T f sz by_) {s y : Operand} {b n c : Nat} {v : Value} (hw : Region.wanted (⟨d, .call ⟨.builtin .append, #[s, y], #[t, t]⟩, ty, pos, af, gd⟩ : Oper) (yielded ops a.tmps) = true) (hs : a.eval s = .slice (some ⟨b, 0, none⟩) n c) (hy : a.eval y = v)
    (h : GRow T f sz base w (.slice (some ⟨b, 0, none⟩) n c) L) (hM : GSub f w v M) (ht : Tryz.prog.underlying t = some (.slice T)) (hbase : base ≤ w.heap.size) (hlen : L.length + M.length ≤ 1000000)
    (k : ∀ b' n' c' w', n' = (L ++ M).length → GRow T f sz base w' (.slice (some ⟨b', 0, none⟩) n' c') (L ++ M) → base ≤ b' → Chg w w' b → J (a.put d (.slice (some ⟨b', 0, none⟩) n' c')) w') : St1 Tryz.prog ops Q ⟨d, .call ⟨.builtin .append, #[s, y], #[t, t]⟩, ty, pos, af, gd⟩ J a w := by
  obtain ⟨hn, hnc, _, cur, hg, _⟩ := h.blk
  obtain ⟨i, z, hi, hz, hsize, hby, hzs⟩ := E.info
  have ho : w.ownsRow base T sz (.slice (some ⟨b, 0, none⟩) n c) n (L.flatMap f) := by unfold GRow at h; rw [← hn] at h; exact h
  obtain ⟨A, c2, rfl, hM⟩ := hM
  by_cases hM0 : M = []
  · subst hM0
    have hrun : (Builtin.append_ #[t, t] ty #[.slice (some ⟨b, 0, none⟩) n c, .slice A 0 c2]).run Tryz.prog w = .ok (.slice (some ⟨b, 0, none⟩) n c) w := by
      cases A <;> simp [Builtin.append_, run_underlying ht, sizeOf, typeInfo, hi, Builtin.lenOf, Builtin.firstCells, hnc, storeCells, loadCells, loadCellsFrom]
    refine sv hw ?_ (k b n c w (by simpa using hn) (by rw [List.append_nil]; exact h) ?_ ⟨rfl, rfl, rfl, Nat.le_refl _, fun _ _ _ => rfl⟩)
    · simp only [List.length_nil] at hy
      simp [execOp, resolve, invoke, builtin, hs, hy, hrun]
    · exact (h.own b rfl).1
  · obtain ⟨g, o, rfl, hgl, hc⟩ := hM hM0
    have hE := E.small
    obtain ⟨v', w', h1, h2, h3, h4⟩ := run_append_own (P := Tryz.prog) w base t ty T i z sz by_ ht hi hz hsize hby hzs E.pos _ n (L.flatMap f) ho ⟨g, o, none⟩ M.length c2 (M.flatMap f) (flatG_len E M)
      (fun j u hj => by rw [add_at]; exact hc j u hj) (flatG_one E) (by unfold maxLen; omega) (Nat.le_trans (Nat.mul_le_mul (show n + M.length ≤ 1000000 by omega) hE) (by omega)) hbase
    have hnn : v' ≠ .slice none 0 0 := fun e => by have := (h4.1 e).1; cases this
    have hR : GRow T f sz base w' v' (L ++ M) := by unfold GRow; rw [List.flatMap_append, List.length_append, ← hn]; exact h2
    obtain ⟨A', c', rfl⟩ := hR.form
    rcases hR.addr.2.2 with ⟨rfl, rfl⟩ | ⟨b', rfl⟩
    · exfalso
      obtain ⟨_, ⟨e, h0⟩ | ⟨_, _, _, e, _⟩⟩ := hR
      · exact hnn e
      · cases e
    · refine sv hw ?_ (k b' _ c' w' rfl hR (hR.own b' rfl).1 h3)
      simp [execOp, resolve, invoke, builtin, hs, hy, h1]
end
def strC (x : ByteArray) : List Value := [.string x]
theorem enc_str : Enc 9 strC 1 16 := ⟨fun x => by simp [strC], fun x u hu => by simp [strC] at hu; rcases hu with rfl; rfl, info_str, by omega, by omega⟩
theorem flat_str (L : List ByteArray) : L.flatMap strC = L.map Value.string := by
  induction L with
  | nil => rfl
  | cons x L ih => rw [List.flatMap_cons, ih]; rfl
theorem BRow.g {base : Nat} {w : World} {v : Value} {L : List ByteArray} : BRow base w v L ↔ GRow 9 strC 1 base w v L := by unfold BRow GRow; rw [flat_str]
end Go.Proofs.YtefhfoioeoijlaaGreatDoor
set_option linter.unusedVariables false
set_option linter.unusedSimpArgs false
namespace Go.Proofs.YtefhfoioeoijlaaGreatDoor
open Go Go.RowKit Go.Sort
structure SideP where
  x : Item
  hangs : Bool
  path : ByteArray
structure ChgD where
  kind : Int
  node : Stamp
  fr : ByteArray
  tt : ByteArray
  deriving DecidableEq
end Go.Proofs.YtefhfoioeoijlaaGreatDoor
set_option linter.unusedVariables false
set_option linter.unusedSimpArgs false
namespace Go.Proofs.YtefhfoioeoijlaaGreatDoor
open Go Go.RowKit Go.Sort
def decB (n : Int) : ByteArray := ⟨(Lib.itoa n).toArray⟩
def byteB (n : Int) : ByteArray := ⟨#[UInt8.ofNat n.toNat]⟩
theorem dec_small {n : Int} (h0 : 0 ≤ n) (h : n < 10) : decB n = byteB (48 + n) := by
  unfold decB byteB
  rw [itoa_pos h0, Lib.decDigits, dif_pos (by omega)]
  rw [show (48 + n).toNat = 48 + n.toNat by omega]
theorem dec_big {n : Int} (h0 : 0 ≤ n) (h : ¬ n < 10) : decB n = decB (n.tdiv 10) ++ byteB (48 + n.tmod 10) := by
  have e1 : n.tdiv 10 = ((n.toNat / 10 : Nat) : Int) := by rw [Int.tdiv_eq_ediv_of_nonneg h0]; omega
  have e2 : n.tmod 10 = ((n.toNat % 10 : Nat) : Int) := by rw [Int.tmod_eq_emod_of_nonneg h0]; omega
  unfold decB byteB
  rw [itoa_pos h0, Lib.decDigits, dif_neg (by omega), e1, e2, itoa_pos (by omega)]
  rw [show ((n.toNat / 10 : Nat) : Int).toNat = n.toNat / 10 by omega, show (48 + ((n.toNat % 10 : Nat) : Int)).toNat = 48 + n.toNat % 10 by omega]
  apply ByteArray.ext
  simp
theorem dec_parts {n : Int} (h0 : 0 ≤ n) : 0 ≤ n.tdiv 10 ∧ n.tdiv 10 ≤ n ∧ (10 ≤ n → n.tdiv 10 < n) ∧ 0 ≤ n.tmod 10 ∧ n.tmod 10 ≤ 9 := by
  have e1 : n.tdiv 10 = ((n.toNat / 10 : Nat) : Int) := by rw [Int.tdiv_eq_ediv_of_nonneg h0]; omega
  have e2 : n.tmod 10 = ((n.toNat % 10 : Nat) : Int) := by rw [Int.tmod_eq_emod_of_nonneg h0]; omega
  rw [e1, e2]; omega
section
variable {P : Program} {d : Option Tmp} {ty : TypeId} {pos : String} {af : Array Edge} {gd : Option (Nat × Bool)} {ρ : Operand → Value} {w : World}
theorem r_quo {t yt : TypeId} {x y : Operand} {m n : Int} (hx : ρ x = .int .i64 m) (hy : ρ y = .int .i64 n) (hn : n ≠ 0) (hr : -9223372036854775808 ≤ m.tdiv n ∧ m.tdiv n ≤ 9223372036854775807) : (execOp ρ ⟨d, .binOp .quo t x y yt, ty, pos, af, gd⟩).run P w = .ok (.value (.int .i64 (m.tdiv n))) w := by
  have hw := IntWalk.i64_in (m.tdiv n) (by omega)
  simp [execOp, hx, hy, eqGuard, binOp, Op.intArith, Op.intDiv, hn, hw]
theorem r_toB {x : Operand} {m : Int} (hx : ρ x = .int .i64 m) (h0 : 0 ≤ m) (h1 : m ≤ 255) : (execOp ρ ⟨d, .convert 2 5 x, ty, pos, af, gd⟩).run Tryz.prog w = .ok (.value (.int .u8 m)) w := by
  have h3 : Tryz.prog.underlying 2 = some (.int .i64) := by kernel_rfl
  have h5 : Tryz.prog.underlying 5 = some (.int .u8) := by kernel_rfl
  have hw : IntKind.u8.wrap m = m := by
    simp only [IntKind.wrap, IntKind.bits, IntKind.signed]
    simp; omega
  simp [execOp, hx, convert, run_underlying h3, run_underlying h5, Conv.intToInt, hw]
theorem r_conv1 {x : Operand} {b : Nat} {v : Int} (hx : ρ x = .slice (some ⟨b, 0, none⟩) 1 1) (hb : w.heap[b]? = some (.cells #[.int .u8 v] 5 (0, 0))) : (execOp ρ ⟨d, .convert 40 9 x, ty, pos, af, gd⟩).run Tryz.prog w = .ok (.value (.string (byteB v))) w := by
  have h33 : Tryz.prog.underlying 40 = some (.slice 5) := by kernel_rfl
  have h5 : Tryz.prog.underlying 5 = some (.int .u8) := by kernel_rfl
  have h9 : Tryz.prog.underlying 9 = some .string := by kernel_rfl
  have hr := run_convert_bytes_arg (P := Tryz.prog) w _ _ h33 h5 b 0 1 1 [v] rfl (fun i hi => by
    have : i = 0 := by omega
    subst this
    simp [World.cell?, hb]) _ h9
  have hs : strOfNums [v] = byteB v := rfl
  rw [hs] at hr
  simp [execOp, hx, hr]
end
theorem decB_len {n : Int} (h0 : 0 ≤ n) (h1 : n ≤ 9223372036854775807) : (decB n).size ≤ 21 := by
  have := Lib.itoa_length_le n (by omega) h1
  unfold decB; rw [ByteArray.size]; simpa using this
def nmAt (l : List Item) (i : Nat) (x : Item) : ByteArray := (entOf (namesI (l.take i)) x).name
theorem nm_yes {l : List Item} {i k : Nat} {x y : Item} (hk : k < i) (hy : l[k]? = some y) (e : y.name = x.name) : nmAt l i x = x.name ++ markB x.node := by
  unfold nmAt entOf
  have : metB (namesI (l.take i)) x.name = true := by
    rw [metB_iff, ← e]
    unfold namesI
    exact List.mem_map.2 ⟨y, List.mem_of_getElem? (i := k) (by rw [List.getElem?_take, if_pos hk]; exact hy), rfl⟩
  simp only [this, if_true]
theorem nm_no {l : List Item} {i : Nat} {x : Item} (h : Hid (∀ (j : Nat) (y : Item), j < i → l[j]? = some y → ¬ y.name = x.name)) : nmAt l i x = x.name := by
  unfold nmAt entOf
  have : metB (namesI (l.take i)) x.name = false := by
    rw [Bool.eq_false_iff, Ne, metB_iff]
    unfold namesI
    intro hm
    obtain ⟨y, hy, e⟩ := List.mem_map.1 hm
    obtain ⟨j, hj⟩ := List.mem_iff_getElem?.1 hy
    rw [List.getElem?_take] at hj
    split at hj
    · exact h.out j y (by assumption) hj e
    · cases hj
  simp only [this]; rfl
theorem ents_nm {l : List Item} {i : Nat} {x : Item} (h : l[i]? = some x) : ∃ y, (entsI l)[i]? = some y ∧ y.name = nmAt l i x ∧ y.node = x.node := ⟨_, entsI_get h, rfl, rfl⟩
theorem shownD_hit {L : List Item} {m : Stamp} {k : Nat} {x : Item} (hF : Fit L) (h1 : hasI L m = true) (h2 : hangsI L 301 m = true) (hx : (kidsI (gotI L m).parent L)[k]? = some x) (e : x.node = m) : shownB L m = nmAt (kidsI (gotI L m).parent L) k x ∧ shownK L m = 0 := by
  obtain ⟨y, hy, h3, h4⟩ := ents_nm hx
  rw [← h3]; exact shown_hit hF h1 h2 hy (h4.trans e)
theorem shownD_miss {L : List Item} {m : Stamp} {k : Nat} (hk : (kidsI (gotI L m).parent L).length ≤ k) (h : Hid (∀ (j : Nat) (y : Item), j < k → (kidsI (gotI L m).parent L)[j]? = some y → ¬ y.node = m)) : shownB L m = ⟨#[]⟩ ∧ shownK L m = 12 := by
  refine shown_miss fun j y hj => ?_
  obtain ⟨x, hx, e⟩ := entsI_at hj
  rw [e]
  exact h.out j x (by have := (List.getElem?_eq_some_iff.1 hx).1; omega) hx
theorem slashR (acc : List ByteArray) (x : ByteArray) : slashL (acc ++ [x]).reverse = ((⟨#[47]⟩ : ByteArray) ++ x) ++ slashL acc.reverse := by
  rw [List.reverse_append]; rfl
theorem slashR_e {acc : List ByteArray} (h : slashL acc.reverse = ⟨#[]⟩) : pathB acc = ⟨#[47]⟩ := by
  cases hr : acc.reverse with
  | nil => unfold pathB; rw [hr]; rfl
  | cons x l =>
    rw [hr] at h
    have := congrArg ByteArray.size h
    simp only [slashL, ByteArray.size_append] at this
    have h1 : (⟨#[47]⟩ : ByteArray).size = 1 := rfl
    have h2 : (⟨#[]⟩ : ByteArray).size = 0 := rfl
    omega
theorem slashR_n {acc : List ByteArray} (h : ¬ slashL acc.reverse = ⟨#[]⟩) : pathB acc = slashL acc.reverse := by
  unfold pathB
  rw [slashL_is (fun e => h (by rw [e]; rfl))]
theorem slashR_len {acc : List ByteArray} (h : Shorts acc) : (slashL acc.reverse).size ≤ acc.length * 101 := by
  induction acc with
  | nil => decide
  | cons x acc ih =>
    have h1 := ih fun y hy => h y (by simp [hy])
    have h2 := h x (by simp)
    rw [List.reverse_cons, slashL_snoc]
    simp only [ByteArray.size_append, List.length_cons]
    have h3 : (⟨#[47]⟩ : ByteArray).size = 1 := rfl
    have h4 : x.size = x.data.toList.length := by rw [ByteArray.size]; simp
    omega
end Go.Proofs.YtefhfoioeoijlaaGreatDoor

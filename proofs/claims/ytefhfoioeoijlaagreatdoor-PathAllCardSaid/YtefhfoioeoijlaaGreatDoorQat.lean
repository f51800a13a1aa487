/- Pth, Pth2, PB, Pth3 -/
import Derived.Lib.SplitLaws
import Derived.Shelf.Strings.SlTrimAscii
import Derived.Test.YtefhfoioeoijlaaGreatDoorQas
set_option linter.unusedVariables false
set_option linter.unusedSimpArgs false
namespace Go.Proofs.YtefhfoioeoijlaaGreatDoor
open Go Go.RowKit Go.Sort
def ofL (L : List Item) : Nat → Stamp → List ByteArray → Option (List ByteArray)
  | 0, m, acc => if m = nilS then some acc else none
  | f + 1, m, acc => if m = nilS then some acc else ofL L f (gotI L m).parent (acc ++ [shownB L m])
def pathB (l : List ByteArray) : ByteArray := (⟨#[47]⟩ : ByteArray) ++ joinB l.reverse
def ofB (L : List Item) (m : Stamp) : ByteArray := if hangsI L 301 m = false then ⟨#[]⟩ else match ofL L 16 m [] with | none => ⟨#[]⟩ | some l => pathB l
def ofK (L : List Item) (m : Stamp) : Int := if hangsI L 301 m = false then 12 else match ofL L 16 m [] with | none => 3 | some _ => 0
theorem of_no {L : List Item} {m : Stamp} (h : hangsI L 301 m = false) : ofB L m = ⟨#[]⟩ ∧ ofK L m = 12 := by unfold ofB ofK; rw [if_pos h, if_pos h]; exact ⟨rfl, rfl⟩
theorem of_deep {L : List Item} {m : Stamp} (h : hangsI L 301 m = true) (e : ofL L 16 m [] = none) : ofB L m = ⟨#[]⟩ ∧ ofK L m = 3 := by
  have h' : ¬ hangsI L 301 m = false := by rw [h]; decide
  unfold ofB ofK; rw [if_neg h', if_neg h', e]; exact ⟨rfl, rfl⟩
theorem of_yes {L : List Item} {m : Stamp} {l : List ByteArray} (h : hangsI L 301 m = true) (e : ofL L 16 m [] = some l) : ofB L m = pathB l ∧ ofK L m = 0 := by
  have h' : ¬ hangsI L 301 m = false := by rw [h]; decide
  unfold ofB ofK; rw [if_neg h', if_neg h', e]; exact ⟨rfl, rfl⟩
theorem of_ret {L : List Item} {m : Stamp} {b : ByteArray} {k : Int} (h : ofB L m = b ∧ ofK L m = k) : Ending.returned (.tuple #[.string b, .int .i64 k]) = .returned (.tuple #[.string (ofB L m), .int .i64 (ofK L m)]) := by rw [h.1, h.2]
theorem ofL_nil {L : List Item} {f : Nat} {acc : List ByteArray} : ofL L f ⟨0, 0⟩ acc = some acc := by cases f <;> simp [ofL, nilS]
theorem ofL_stop {L : List Item} {m : Stamp} {acc : List ByteArray} (h : m ≠ ⟨0, 0⟩) : ofL L 0 m acc = none := by unfold ofL; rw [if_neg (show ¬ m = nilS from h)]
theorem ofL_go {L : List Item} {k : Nat} {m : Stamp} {acc : List ByteArray} (hk : k < 16) (h : m ≠ ⟨0, 0⟩) : ofL L (16 - k) m acc = ofL L (16 - (k + 1)) (gotI L m).parent (acc ++ [shownB L m]) := by
  rw [show 16 - k = (16 - (k + 1)) + 1 by omega]
  conv => lhs; unfold ofL
  rw [if_neg (show ¬ m = nilS from h)]
theorem shown_short {L : List Item} (hF : Fit L) (m : Stamp) : (shownB L m).data.toList.length ≤ 100 := by
  unfold shownB
  split
  · unfold nodeE
    cases e : (entsI (kidsI (gotI L m).parent L)).find? (fun e => decide (e.node = m)) with
    | none => decide
    | some y => exact ents_short (hF.kids _).1 y (List.mem_of_find?_eq_some e)
  · decide
def Shorts (l : List ByteArray) : Prop := ∀ x ∈ l, x.data.toList.length ≤ 100
theorem Shorts.snoc {l : List ByteArray} {x : ByteArray} (h : Shorts l) (hx : x.data.toList.length ≤ 100) : Shorts (l ++ [x]) := fun y hy => by
  rcases List.mem_append.1 hy with hy | hy
  · exact h y hy
  · simp at hy; subst hy; exact hx
theorem join_short : ∀ {l : List (List UInt8)}, (∀ x ∈ l, x.length ≤ 100) → (Lib.join l [47]).length ≤ l.length * 101
  | [], _ => by simp [Lib.join]
  | [x], h => by have := h x (by simp); simp [Lib.join]; omega
  | x :: y :: l, h => by
    have ih := join_short (l := y :: l) (fun z hz => h z (by simp [hz]))
    have h1 := h x (by simp)
    have e : Lib.join (x :: y :: l) [47] = x ++ ([47] ++ Lib.join (y :: l) [47]) := by simp [Lib.join, List.intercalate, List.intersperse]
    rw [e]
    simp only [List.length_append, List.length_cons, List.length_nil] at ih ⊢
    omega
theorem joinB_short {l : List ByteArray} (h : Shorts l) (hl : l.length ≤ 16) : (joinB l.reverse).size ≤ 1616 := by
  have h1 := join_short (l := l.reverse.map (·.data.toList)) (fun x hx => by
    obtain ⟨y, hy, rfl⟩ := List.mem_map.1 hx
    exact h y (List.mem_reverse.1 hy))
  simp only [List.length_map, List.length_reverse] at h1
  have : (joinB l.reverse).size = (Lib.join (l.reverse.map (·.data.toList)) [47]).length := by simp [joinB, ByteArray.size]
  omega
end Go.Proofs.YtefhfoioeoijlaaGreatDoor
set_option linter.unusedVariables false
set_option linter.unusedSimpArgs false
namespace Go.Proofs.YtefhfoioeoijlaaGreatDoor
open Go Go.RowKit Go.Sort
abbrev Mx (w : World) : Prop := ∃ m, w.cell? ⟨1, 0, none⟩ = some (.int .i64 m)
theorem Mx.up {w w' : World} (h : Mx w) (u : Up w w') : Mx w' := by
  obtain ⟨m, hm⟩ := h
  exact ⟨m, (u.cell (p := ⟨1, 0, none⟩) (World.block_lt_of_cell? w _ hm)).trans hm⟩
def digs : ByteArray := ⟨#[48, 49, 50, 51, 52, 53, 54, 55, 56, 57]⟩
def trimD (s : ByteArray) : ByteArray := ⟨(Lib.trimS s.data.toList digs.data.toList).toArray⟩
theorem trimD_at (s : ByteArray) (hs : s.size ≤ 9223372036854775807) (w : World) : Calls Tryz.prog 188 #[.string s, .string ⟨#[48, 49, 50, 51, 52, 53, 54, 55, 56, 57]⟩] w fun e w' => e = .returned (.string (trimD s)) ∧ Up w w' :=
  Any.strings_Trim_laid Tryz.lays160 (by kernel_rfl) s digs w hs (by decide) (ascii_of_all (by decide))
def cutA (s : ByteArray) (c : UInt8) : ByteArray := ⟨(Lib.cut s.data.toList [c]).1.toArray⟩
def cutZ (s : ByteArray) (c : UInt8) : ByteArray := ⟨(Lib.cut s.data.toList [c]).2.1.toArray⟩
def cutB (s : ByteArray) (c : UInt8) : Bool := (Lib.cut s.data.toList [c]).2.2
theorem cutA_size (s : ByteArray) (c : UInt8) : (cutA s c).size ≤ s.size := by
  have h : (cutA s c).size = (Lib.cut s.data.toList [c]).1.length := by simp [cutA, ByteArray.size]
  have h2 : s.size = s.data.toList.length := by simp
  rw [h, h2]; unfold Lib.cut; split <;> simp [Nat.min_le_right]
theorem cutZ_size (s : ByteArray) (c : UInt8) : (cutZ s c).size ≤ s.size := by
  have h : (cutZ s c).size = (Lib.cut s.data.toList [c]).2.1.length := by simp [cutZ, ByteArray.size]
  have h2 : s.size = s.data.toList.length := by simp
  rw [h, h2]; unfold Lib.cut; split <;> simp
theorem cut_at {w : World} (hm : Mx w) (s : ByteArray) (c : UInt8) (hs : s.size < 4294967281) : Calls Tryz.prog 156 #[.string s, .string ⟨#[c]⟩] w fun e w' => e = .returned (.tuple #[.string (cutA s c), .string (cutZ s c), .bool (cutB s c)]) ∧ Up w w' := by
  obtain ⟨m, hm⟩ := hm
  refine (Tryz.strings_Cut s ⟨#[c]⟩ m w hs hm).mono ?_
  rintro e w' ⟨rfl, n, rfl⟩
  exact ⟨rfl, Ups.below (Ups.drewN w n)⟩
def restB (s : ByteArray) : ByteArray := ⟨(Lib.trimPrefix s.data.toList [47]).toArray⟩
def slashB (s : ByteArray) : Bool := Lib.hasPrefix s.data.toList [47]
theorem cutPrefix_at (s : ByteArray) (w : World) : Calls Tryz.prog 103 #[.string s, .string ⟨#[47]⟩] w fun e w' => e = .returned (.tuple #[.string (restB s), .bool (slashB s)]) ∧ Up w w' := by
  refine (Tryz.strings_CutPrefix s ⟨#[47]⟩ w).mono ?_
  rintro e w' ⟨rfl, rfl⟩
  exact ⟨rfl, Below.refl _ _⟩
def digB (d : Int) (s : ByteArray) : Bool := decide (((s.size : Nat) : Int) ≥ 1) && (decide (((s.size : Nat) : Int) ≤ d) && decide (trimD s = ⟨#[]⟩))
theorem dig_1 {d : Int} {s : ByteArray} (h : ¬ ((s.size : Nat) : Int) ≥ 1) : digB d s = false := by unfold digB; rw [decide_eq_false h]; rfl
theorem dig_2 {d : Int} {s : ByteArray} (h : ¬ ((s.size : Nat) : Int) ≤ d) : digB d s = false := by unfold digB; rw [decide_eq_false h]; simp
theorem dig_3 {d : Int} {s : ByteArray} {b : Bool} (h1 : ((s.size : Nat) : Int) ≥ 1) (h2 : ((s.size : Nat) : Int) ≤ d) (h : decide (trimD s = ⟨#[]⟩) = b) : digB d s = b := by unfold digB; rw [decide_eq_true h1, decide_eq_true h2, h]; rfl
def partB (s : ByteArray) : Bool :=
  if nameB (cutA s 126) = false then false
  else if cutB s 126 = false then true
  else cutB (cutZ s 126) 46 && (digB 13 (cutA (cutZ s 126) 46) && digB 2 (cutZ (cutZ s 126) 46))
theorem part_1 {s : ByteArray} (h : nameB (cutA s 126) = false) : partB s = false := by unfold partB; rw [if_pos h]
theorem part_2 {s : ByteArray} (h : nameB (cutA s 126) = true) (h2 : cutB s 126 = false) : partB s = true := by unfold partB; rw [if_neg (by rw [h]; decide), if_pos h2]
theorem part_3 {s : ByteArray} (h : nameB (cutA s 126) = true) (h2 : cutB s 126 = true) {b : Bool} (hb : (cutB (cutZ s 126) 46 && (digB 13 (cutA (cutZ s 126) 46) && digB 2 (cutZ (cutZ s 126) 46))) = b) : partB s = b := by
  unfold partB; rw [if_neg (by rw [h]; decide), if_neg (by rw [h2]; decide)]; exact hb
theorem SSRow.up {w w' : World} {v : Value} {L : List ByteArray} (h : SSRow w v L) (u : Up w w') : SSRow w' v L := by
  obtain ⟨A, c, rfl, hc, h0 | ⟨g, f, rfl, hg, hcell⟩⟩ := h
  · exact ⟨A, c, rfl, hc, .inl h0⟩
  · exact ⟨_, c, rfl, hc, .inr ⟨g, f, rfl, Nat.lt_of_lt_of_le hg u.size, fun j x hx => (u.cell (p := ⟨g, f + j, none⟩) hg).trans (hcell j x hx)⟩⟩
theorem SSRow.get {w : World} {A : Option Addr} {n c i : Nat} {L : List ByteArray} {x : ByteArray} (h : SSRow w (.slice A n c) L) (hx : L[i]? = some x) : ∃ g f, A = some ⟨g, f, none⟩ ∧ g < w.heap.size ∧ w.cell? ⟨g, f + i, none⟩ = some (.string x) := by
  obtain ⟨A', c', e, _, h0 | ⟨g, f, hA, hg, hcell⟩⟩ := h
  · rw [h0] at hx; simp at hx
  · injection e with e1 _ _
    subst e1
    exact ⟨g, f, hA, hg, hcell i x hx⟩
theorem idx_no {l : List ByteArray} (h : ∀ (j : Nat) (x : ByteArray), l[j]? = some x → ¬ partB x = false) : l.all partB = true := by
  rw [List.all_eq_true]
  intro x hx
  obtain ⟨j, hj⟩ := List.mem_iff_getElem?.1 hx
  simpa using h j x hj
theorem idx_yes {l : List ByteArray} {k : Nat} {x : ByteArray} (hx : l[k]? = some x) (h : partB x = false) : l.all partB = false := by
  rw [List.all_eq_false]
  exact ⟨x, List.mem_of_getElem? hx, by rw [h]; decide⟩
def showK (l : List ByteArray) : Int := if l.length ≤ 16 ∧ l.all partB = true then 0 else 17
def showB (l : List ByteArray) : ByteArray := if l.length ≤ 16 ∧ l.all partB = true then (⟨#[47]⟩ : ByteArray) ++ joinB l else ⟨#[]⟩
theorem show_1 {l : List ByteArray} (h : ¬ l.length ≤ 16) : showB l = ⟨#[]⟩ ∧ showK l = 17 := by
  unfold showB showK; rw [if_neg (fun e => h e.1), if_neg (fun e => h e.1)]; exact ⟨rfl, rfl⟩
theorem show_2 {l : List ByteArray} (h : l.all partB = false) : showB l = ⟨#[]⟩ ∧ showK l = 17 := by
  unfold showB showK; rw [if_neg (fun e => by rw [h] at e; cases e.2), if_neg (fun e => by rw [h] at e; cases e.2)]; exact ⟨rfl, rfl⟩
theorem show_3 {l : List ByteArray} (h1 : l.length ≤ 16) (h : l.all partB = true) : showB l = (⟨#[47]⟩ : ByteArray) ++ joinB l ∧ showK l = 0 := by
  unfold showB showK; rw [if_pos ⟨h1, h⟩, if_pos ⟨h1, h⟩]; exact ⟨rfl, rfl⟩
theorem show_ret {l : List ByteArray} {b : ByteArray} {k : Int} (h : showB l = b ∧ showK l = k) : Ending.returned (.tuple #[.string b, .int .i64 k]) = .returned (.tuple #[.string (showB l), .int .i64 (showK l)]) := by rw [h.1, h.2]
end Go.Proofs.YtefhfoioeoijlaaGreatDoor
set_option linter.unusedVariables false
set_option linter.unusedSimpArgs false
namespace Go.Proofs.YtefhfoioeoijlaaGreatDoor
open Go Go.RowKit Go.Sort
set_option maxHeartbeats 2000000 in
theorem dig_at {w : World} (dd : Int) (s : ByteArray) (hs : s.size ≤ 9223372036854775807) : Calls Tryz.prog 157 #[.int .i64 dd, .string s] w fun e w' => e = .returned (.bool (digB dd s)) ∧ Up w w' := by
  go_enter Tryz.func157, Tryz.ntmps157
  refine wp_seq (rg_lit ?_)
  refine was (v := .bool false) ?_
  refine wnil (then_n (wp_seq (rg_lit ?_)))
  refine wmv (v := .string s) ?_
  refine wl (sv rfl (v := .int .i64 (s.size : Int)) (r_lens Ty.un9 (s := s) (by kernel_rfl)) ?_)
  refine wl (sb rfl (r_ge (k := .i64) (m := (s.size : Int)) (n := 1) (by kernel_rfl) (by kernel_rfl)) ?_)
  intro b1 k2
  refine wmv (v := .bool b1) ?_
  refine bcase b1 (fun v3 => ?_) (fun v3 => ?_)
  ·
   have p4 := of_decide_eq_false (k2.trans v3)
   refine wl (sp (wf (b := b1) rfl (by kernel_rfl) v3) ?_)
   refine wl (sp (wf (b := b1) rfl (by kernel_rfl) v3) ?_)
   refine wl (sp (wf (b := b1) rfl (by kernel_rfl) v3) ?_)
   refine wl (sp (wf (b := b1) rfl (by kernel_rfl) v3) ?_)
   refine wl (sv rfl (v := .bool false) (r_pkF (ebool (b := b1) (by kernel_rfl) v3) (by kernel_rfl)) ?_)
   refine wmv (v := .bool false) ?_
   refine wsp ?_
   refine wsp ?_
   refine wsp ?_
   refine wl (sv rfl (v := .bool false) (r_pkF (by kernel_rfl) (by kernel_rfl)) ?_)
   refine was (v := .bool false) ?_
   refine wnil (then_n (wp_ret ?_))
   refine bodyPost_ret (v := .bool false) (res1 rfl (rv_t (by kernel_rfl))) (by kernel_rfl) ?_
   exact ⟨by rw [dig_1 p4], (Mod.up (Mod.refl [] w))⟩
  have p4 := of_decide_eq_true (k2.trans v3)
  refine wl (sv (wt (b := b1) rfl (by kernel_rfl) v3) (v := .string s) (r_move (by kernel_rfl)) ?_)
  refine wl (sv (wt (b := b1) rfl (by kernel_rfl) v3) (v := .int .i64 (s.size : Int)) (r_lens Ty.un9 (s := s) (by kernel_rfl)) ?_)
  refine wl (sv (wt (b := b1) rfl (by kernel_rfl) v3) (v := .int .i64 dd) (r_move (by kernel_rfl)) ?_)
  refine wl (sb (wt (b := b1) rfl (by kernel_rfl) v3) (r_le (k := .i64) (m := (s.size : Int)) (n := dd) (by kernel_rfl) (by kernel_rfl)) ?_)
  intro b5 k6
  refine wl (sv rfl (v := .bool b5) (r_pkT (ebool (b := b1) (by kernel_rfl) v3) (by kernel_rfl)) ?_)
  refine wmv (v := .bool b5) ?_
  refine bcase b5 (fun v7 => ?_) (fun v7 => ?_)
  ·
   have p8 := of_decide_eq_false (k6.trans v7)
   refine wl (sp (wf (b := b5) rfl (by kernel_rfl) v7) ?_)
   refine wl (sp (wf (b := b5) rfl (by kernel_rfl) v7) ?_)
   refine wl (sp (wf (b := b5) rfl (by kernel_rfl) v7) ?_)
   refine wl (sv rfl (v := .bool false) (r_pkF (ebool (b := b5) (by kernel_rfl) v7) (by kernel_rfl)) ?_)
   refine was (v := .bool false) ?_
   refine wnil (then_n (wp_ret ?_))
   refine bodyPost_ret (v := .bool false) (res1 rfl (rv_t (by kernel_rfl))) (by kernel_rfl) ?_
   exact ⟨by rw [dig_2 p8], (Mod.up (Mod.refl [] w))⟩
  have p8 := of_decide_eq_true (k6.trans v7)
  refine wl (sv (wt (b := b5) rfl (by kernel_rfl) v7) (v := .string s) (r_move (by kernel_rfl)) ?_)
  refine wl (sc (wt (b := b5) rfl (by kernel_rfl) v7) (r_callv (caps := []) (all := [.string s, .string (⟨#[48, 49, 50, 51, 52, 53, 54, 55, 56, 57]⟩)]) En.f188 (by kernel_rfl) (by kernel_rfl)) (trimD_at s (by omega) _) ?_)
  rintro e w9 ⟨rfl, u10⟩
  refine ⟨.string (trimD s), rfl, ?_⟩
  have M11 := Mod.trans (Mod.refl [] w) (Mod.of_up u10)
  refine wl (sb (wt (b := b5) rfl (by kernel_rfl) v7) (r_eqs (m := (trimD s)) (n := (⟨#[]⟩)) (by kernel_rfl) (by kernel_rfl)) ?_)
  intro b12 k13
  refine wl (sv rfl (v := .bool b12) (r_pkT (ebool (b := b5) (by kernel_rfl) v7) (by kernel_rfl)) ?_)
  refine was (v := .bool b12) ?_
  refine wnil (then_n (wp_ret ?_))
  refine bodyPost_ret (v := .bool b12) (res1 rfl (rv_t (by kernel_rfl))) (by kernel_rfl) ?_
  exact ⟨by rw [dig_3 p4 p8 k13], (Mod.up M11)⟩
set_option maxHeartbeats 2000000 in
theorem part_at {w : World} (hmx : Mx w) (s : ByteArray) (hs : s.size < 4294967281) : Calls Tryz.prog 108 #[.string s] w fun e w' => e = .returned (.bool (partB s)) ∧ Up w w' := by
  have hz1 := cutA_size s 126
  have hz2 := cutZ_size s 126
  have hz3 := cutA_size (cutZ s 126) 46
  have hz4 := cutZ_size (cutZ s 126) 46
  go_enter Tryz.func108, Tryz.ntmps108
  refine wp_seq (rg_lit ?_)
  refine was (v := .bool false) ?_
  refine wnil (then_n (wp_seq (rg_lit ?_)))
  refine wmv (v := .string s) ?_
  refine wl (sc rfl (r_callv (caps := []) (all := [.string s, .string (⟨#[126]⟩)]) En.f156 (by kernel_rfl) (by kernel_rfl)) (cut_at (Mx.up hmx (Mod.up (Mod.refl [] w))) s 126 (by omega)) ?_)
  rintro e w1 ⟨rfl, u2⟩
  refine ⟨.tuple #[.string (cutA s 126), .string (cutZ s 126), .bool (cutB s 126)], rfl, ?_⟩
  have M3 := Mod.trans (Mod.refl [] w) (Mod.of_up u2)
  refine wmv (v := .tuple #[.string (cutA s 126), .string (cutZ s 126), .bool (cutB s 126)]) ?_
  refine wl (sv rfl (v := .string (cutA s 126)) (r_extract (vs := [.string (cutA s 126), .string (cutZ s 126), .bool (cutB s 126)]) (by kernel_rfl) rfl) ?_)
  refine wl (sv rfl (v := .string (cutZ s 126)) (r_extract (vs := [.string (cutA s 126), .string (cutZ s 126), .bool (cutB s 126)]) (by kernel_rfl) rfl) ?_)
  refine wl (sv rfl (v := .bool (cutB s 126)) (r_extract (vs := [.string (cutA s 126), .string (cutZ s 126), .bool (cutB s 126)]) (by kernel_rfl) rfl) ?_)
  refine was (v := .string (cutA s 126)) ?_
  refine was (v := .string (cutZ s 126)) ?_
  refine was (v := .bool (cutB s 126)) ?_
  refine wnil (then_n (wp_seq (wp_seq (rg_lit ?_))))
  refine wmv (v := .string (cutA s 126)) ?_
  refine wl (sc rfl (r_callv (caps := []) (all := [.string (cutA s 126)]) En.f62 (by kernel_rfl) (by kernel_rfl)) (opname_any (cutA s 126) _ (by omega)) ?_)
  rintro e w4 ⟨rfl, u5⟩
  refine ⟨.bool (nameB (cutA s 126)), rfl, ?_⟩
  have M6 := Mod.trans M3 (Mod.of_up u5)
  refine wl (sv rfl (v := .bool (!(nameB (cutA s 126)))) (r_not (b := (nameB (cutA s 126))) (by kernel_rfl)) ?_)
  refine wmv (v := .bool (!(nameB (cutA s 126)))) ?_
  refine bcase (nameB (cutA s 126)) (fun v7 => ?_) (fun v7 => ?_)
  ·
   refine wl (sp (wf (b := !(nameB (cutA s 126))) rfl (by kernel_rfl) (bneg v7)) ?_)
   refine wl (sp (wf (b := !(nameB (cutA s 126))) rfl (by kernel_rfl) (bneg v7)) ?_)
   refine wl (sv rfl (v := .bool true) (r_pkT (ebool (b := !(nameB (cutA s 126))) (by kernel_rfl) (bneg v7)) (by kernel_rfl)) ?_)
   refine wnil (then_n ?_)
   refine wp_cond_true (by kernel_rfl) ?_
   refine wp_seq (rg_lit ?_)
   refine wmv (v := .string (cutA s 126)) ?_
   refine wl (sc rfl (r_callv (caps := []) (all := [.string (cutA s 126)]) En.f62 (by kernel_rfl) (by kernel_rfl)) (opname_any (cutA s 126) _ (by omega)) ?_)
   rintro e w8 ⟨rfl, u9⟩
   refine ⟨.bool (nameB (cutA s 126)), rfl, ?_⟩
   have M10 := Mod.trans M6 (Mod.of_up u9)
   refine was (v := .bool (nameB (cutA s 126))) ?_
   refine wnil (then_n (wp_ret (then_x (by nofun) ?_)))
   refine bodyPost_ret (v := .bool (nameB (cutA s 126))) (res1 rfl (rv_t (by kernel_rfl))) (by kernel_rfl) ?_
   exact ⟨by rw [part_1 v7, v7], (Mod.up M10)⟩
  refine wl (sv (wt (b := !(nameB (cutA s 126))) rfl (by kernel_rfl) (bneg v7)) (v := .bool (cutB s 126)) (r_move (by kernel_rfl)) ?_)
  refine wl (sv (wt (b := !(nameB (cutA s 126))) rfl (by kernel_rfl) (bneg v7)) (v := .bool (!(cutB s 126))) (r_not (b := (cutB s 126)) (by kernel_rfl)) ?_)
  refine wl (sv rfl (v := .bool (!(cutB s 126))) (r_pkF (ebool (b := !(nameB (cutA s 126))) (by kernel_rfl) (bneg v7)) (by kernel_rfl)) ?_)
  refine wnil (then_n ?_)
  refine bcase (cutB s 126) (fun v8 => ?_) (fun v8 => ?_)
  ·
   refine wp_cond_true (ebool (b := !(cutB s 126)) (by kernel_rfl) (bneg v8)) ?_
   refine wp_seq (rg_lit ?_)
   refine wmv (v := .string (cutA s 126)) ?_
   refine wl (sc rfl (r_callv (caps := []) (all := [.string (cutA s 126)]) En.f62 (by kernel_rfl) (by kernel_rfl)) (opname_any (cutA s 126) _ (by omega)) ?_)
   rintro e w9 ⟨rfl, u10⟩
   refine ⟨.bool (nameB (cutA s 126)), rfl, ?_⟩
   have M11 := Mod.trans M6 (Mod.of_up u10)
   refine was (v := .bool (nameB (cutA s 126))) ?_
   refine wnil (then_n (wp_ret (then_x (by nofun) ?_)))
   refine bodyPost_ret (v := .bool (nameB (cutA s 126))) (res1 rfl (rv_t (by kernel_rfl))) (by kernel_rfl) ?_
   exact ⟨by rw [part_2 v7 v8, v7], (Mod.up M11)⟩
  refine wp_cond_false (ebool (b := !(cutB s 126)) (by kernel_rfl) (bneg v8)) ?_
  refine wp_skip (then_n (wp_seq (rg_lit ?_)))
  refine wmv (v := .string (cutZ s 126)) ?_
  refine wl (sc rfl (r_callv (caps := []) (all := [.string (cutZ s 126), .string (⟨#[46]⟩)]) En.f156 (by kernel_rfl) (by kernel_rfl)) (cut_at (Mx.up hmx (Mod.up M6)) (cutZ s 126) 46 (by omega)) ?_)
  rintro e w9 ⟨rfl, u10⟩
  refine ⟨.tuple #[.string (cutA (cutZ s 126) 46), .string (cutZ (cutZ s 126) 46), .bool (cutB (cutZ s 126) 46)], rfl, ?_⟩
  have M11 := Mod.trans M6 (Mod.of_up u10)
  refine wmv (v := .tuple #[.string (cutA (cutZ s 126) 46), .string (cutZ (cutZ s 126) 46), .bool (cutB (cutZ s 126) 46)]) ?_
  refine wl (sv rfl (v := .string (cutA (cutZ s 126) 46)) (r_extract (vs := [.string (cutA (cutZ s 126) 46), .string (cutZ (cutZ s 126) 46), .bool (cutB (cutZ s 126) 46)]) (by kernel_rfl) rfl) ?_)
  refine wl (sv rfl (v := .string (cutZ (cutZ s 126) 46)) (r_extract (vs := [.string (cutA (cutZ s 126) 46), .string (cutZ (cutZ s 126) 46), .bool (cutB (cutZ s 126) 46)]) (by kernel_rfl) rfl) ?_)
  refine wl (sv rfl (v := .bool (cutB (cutZ s 126) 46)) (r_extract (vs := [.string (cutA (cutZ s 126) 46), .string (cutZ (cutZ s 126) 46), .bool (cutB (cutZ s 126) 46)]) (by kernel_rfl) rfl) ?_)
  refine was (v := .string (cutA (cutZ s 126) 46)) ?_
  refine was (v := .string (cutZ (cutZ s 126) 46)) ?_
  refine was (v := .bool (cutB (cutZ s 126) 46)) ?_
  refine wnil (then_n (wp_seq (rg_lit ?_)))
  refine wmv (v := .bool (cutB (cutZ s 126) 46)) ?_
  refine wmv (v := .bool (cutB (cutZ s 126) 46)) ?_
  refine bcase (cutB (cutZ s 126) 46) (fun v12 => ?_) (fun v12 => ?_)
  ·
   refine wl (sp (wf (b := (cutB (cutZ s 126) 46)) rfl (by kernel_rfl) v12) ?_)
   refine wl (sp (wf (b := (cutB (cutZ s 126) 46)) rfl (by kernel_rfl) v12) ?_)
   refine wl (sv rfl (v := .bool false) (r_pkF (ebool (b := (cutB (cutZ s 126) 46)) (by kernel_rfl) v12) (by kernel_rfl)) ?_)
   refine wmv (v := .bool false) ?_
   refine wsp ?_
   refine wsp ?_
   refine wl (sv rfl (v := .bool false) (r_pkF (by kernel_rfl) (by kernel_rfl)) ?_)
   refine was (v := .bool false) ?_
   refine wnil (then_n (wp_ret ?_))
   refine bodyPost_ret (v := .bool false) (res1 rfl (rv_t (by kernel_rfl))) (by kernel_rfl) ?_
   exact ⟨by rw [part_3 v7 v8 (show _ = false by simp [v12])], (Mod.up M11)⟩
  refine wl (sv (wt (b := (cutB (cutZ s 126) 46)) rfl (by kernel_rfl) v12) (v := .string (cutA (cutZ s 126) 46)) (r_move (by kernel_rfl)) ?_)
  refine wl (sc (wt (b := (cutB (cutZ s 126) 46)) rfl (by kernel_rfl) v12) (r_callv (caps := []) (all := [.int .i64 13, .string (cutA (cutZ s 126) 46)]) En.f157 (by kernel_rfl) (by kernel_rfl)) (dig_at 13 (cutA (cutZ s 126) 46) (by omega)) ?_)
  rintro e w13 ⟨rfl, u14⟩
  refine ⟨.bool (digB 13 (cutA (cutZ s 126) 46)), rfl, ?_⟩
  have M15 := Mod.trans M11 (Mod.of_up u14)
  refine wl (sv rfl (v := .bool (digB 13 (cutA (cutZ s 126) 46))) (r_pkT (ebool (b := (cutB (cutZ s 126) 46)) (by kernel_rfl) v12) (by kernel_rfl)) ?_)
  refine wmv (v := .bool (digB 13 (cutA (cutZ s 126) 46))) ?_
  refine bcase (digB 13 (cutA (cutZ s 126) 46)) (fun v16 => ?_) (fun v16 => ?_)
  ·
   refine wl (sp (wf (b := (digB 13 (cutA (cutZ s 126) 46))) rfl (by kernel_rfl) v16) ?_)
   refine wl (sp (wf (b := (digB 13 (cutA (cutZ s 126) 46))) rfl (by kernel_rfl) v16) ?_)
   refine wl (sv rfl (v := .bool false) (r_pkF (ebool (b := (digB 13 (cutA (cutZ s 126) 46))) (by kernel_rfl) v16) (by kernel_rfl)) ?_)
   refine was (v := .bool false) ?_
   refine wnil (then_n (wp_ret ?_))
   refine bodyPost_ret (v := .bool false) (res1 rfl (rv_t (by kernel_rfl))) (by kernel_rfl) ?_
   exact ⟨by rw [part_3 v7 v8 (show _ = false by simp [v12, v16])], (Mod.up M15)⟩
  refine wl (sv (wt (b := (digB 13 (cutA (cutZ s 126) 46))) rfl (by kernel_rfl) v16) (v := .string (cutZ (cutZ s 126) 46)) (r_move (by kernel_rfl)) ?_)
  refine wl (sc (wt (b := (digB 13 (cutA (cutZ s 126) 46))) rfl (by kernel_rfl) v16) (r_callv (caps := []) (all := [.int .i64 2, .string (cutZ (cutZ s 126) 46)]) En.f157 (by kernel_rfl) (by kernel_rfl)) (dig_at 2 (cutZ (cutZ s 126) 46) (by omega)) ?_)
  rintro e w17 ⟨rfl, u18⟩
  refine ⟨.bool (digB 2 (cutZ (cutZ s 126) 46)), rfl, ?_⟩
  have M19 := Mod.trans M15 (Mod.of_up u18)
  refine wl (sv rfl (v := .bool (digB 2 (cutZ (cutZ s 126) 46))) (r_pkT (ebool (b := (digB 13 (cutA (cutZ s 126) 46))) (by kernel_rfl) v16) (by kernel_rfl)) ?_)
  refine was (v := .bool (digB 2 (cutZ (cutZ s 126) 46))) ?_
  refine wnil (then_n (wp_ret ?_))
  refine bodyPost_ret (v := .bool (digB 2 (cutZ (cutZ s 126) 46))) (res1 rfl (rv_t (by kernel_rfl))) (by kernel_rfl) ?_
  exact ⟨by rw [part_3 v7 v8 (show _ = (digB 2 (cutZ (cutZ s 126) 46)) by simp [v12, v16])], (Mod.up M19)⟩
set_option maxHeartbeats 2000000 in
theorem nopart_at {w : World} (hmx : Mx w) (s : ByteArray) (hs : s.size < 4294967281) : Calls Tryz.prog 107 #[.string s] w fun e w' => e = .returned (.bool (!(partB s))) ∧ Up w w' := by
  go_enter Tryz.func107, Tryz.ntmps107
  refine wp_seq (rg_lit ?_)
  refine was (v := .bool false) ?_
  refine wnil (then_n (wp_seq (rg_lit ?_)))
  refine wmv (v := .string s) ?_
  refine wl (sc rfl (r_callv (caps := []) (all := [.string s]) En.f108 (by kernel_rfl) (by kernel_rfl)) (part_at (Mx.up hmx (Mod.up (Mod.refl [] w))) s (by omega)) ?_)
  rintro e w1 ⟨rfl, u2⟩
  refine ⟨.bool (partB s), rfl, ?_⟩
  have M3 := Mod.trans (Mod.refl [] w) (Mod.of_up u2)
  refine wl (sv rfl (v := .bool (!(partB s))) (r_not (b := (partB s)) (by kernel_rfl)) ?_)
  refine was (v := .bool (!(partB s))) ?_
  refine wnil (then_n (wp_ret ?_))
  refine bodyPost_ret (v := .bool (!(partB s))) (res1 rfl (rv_t (by kernel_rfl))) (by kernel_rfl) ?_
  exact ⟨rfl, (Mod.up M3)⟩
set_option maxHeartbeats 2000000 in
theorem indexPart_at {w : World} {l : List ByteArray} {xA : Option Addr} {xc : Nat} (hl : SSRow w (.slice xA l.length xc) l) (hmx : Mx w) (hsz : ∀ x ∈ l, x.size < 4294967281) (hln : l.length ≤ 1000000) : Calls Tryz.prog 155 #[.slice xA l.length xc, .func (.func 107) #[] #[]] w fun e w' => ∃ ix : Int, e = .returned (.int .i64 ix) ∧ ((ix = -1 ∧ l.all partB = true) ∨ (0 ≤ ix ∧ l.all partB = false)) ∧ Up w w' := by
  go_enter Tryz.func155, Tryz.ntmps155
  refine wp_seq (rg_lit ?_)
  refine was (v := .int .i64 0) ?_
  refine wnil (then_n (wp_seq (wp_seq (rg_lit ?_))))
  refine wmv (v := .slice xA l.length xc) ?_
  refine wl (sv rfl (v := .int .i64 (l.length : Int)) (r_len Ty.un69 (ad := xA) (n := l.length) (c := xc) (by kernel_rfl)) ?_)
  refine wmv (v := .int .i64 0) ?_
  refine wnil (then_n (wp_block ?_))
  refine lp (fun n a r1 => ∃ (k : Nat) (z4 z5 z9 z10 z11 z12 z13 z14 z15 z16 z17 z18 : Value), (n = l.length - k) ∧ (a = ⟨#[.slice xA l.length xc, .func (.func 107) #[] #[], undef, undef, z4, z5, .slice xA l.length xc, .int .i64 (l.length : Int), .int .i64 (k : Int), z9, z10, z11, z12, z13, z14, z15, z16, z17, z18], []⟩) ∧ (Mod [] w r1) ∧ (k ≤ l.length) ∧ (Hid (∀ (j : Nat) (y : ByteArray), j < k → l[j]? = some y → ¬ partB y = false))) ⟨_, 0, .int .i64 0, undef, undef, undef, undef, undef, undef, undef, undef, undef, undef, undef, rfl, (by kernel_rfl), Mod.refl _ _, (Nat.zero_le _), (fun j y hj => absurd hj (Nat.not_lt_zero _))⟩ ?_
  rintro _ _ r1 ⟨k, z4, z5, z9, z10, z11, z12, z13, z14, z15, z16, z17, z18, rfl, rfl, hM1, hF1_0, hF1_1⟩
  have M1 := Mod.thin (Mod.refl [] w) hM1 (by simp)
  refine wp_seq (rg_lit ?_)
  refine wl (sb rfl (r_lt (k := .i64) (m := (k : Int)) (n := (l.length : Int)) (by kernel_rfl) (by kernel_rfl)) ?_)
  intro b2 k3
  refine wnil (then_n (wp_seq ?_))
  refine bcase b2 (fun v4 => ?_) (fun v4 => ?_)
  ·
   have p5 := of_decide_eq_false (k3.trans v4)
   refine wp_cond_false (ebool (b := b2) (by kernel_rfl) v4) ?_
   refine wp_exit (then_x (by nofun) (then_x (by nofun) (inb_hit (then_n (wp_seq (rg_lit ?_))))))
   refine was (v := .int .i64 (-1)) ?_
   refine wnil (then_n (wp_ret ?_))
   refine bodyPost_ret (v := .int .i64 (-1)) (res1 rfl (rv_t (by kernel_rfl))) (by kernel_rfl) ?_
   exact ⟨-1, rfl, .inl ⟨rfl, idx_no (none_end hF1_1 (by omega))⟩, (Mod.up M1)⟩
  have p5 := of_decide_eq_true (k3.trans v4)
  have q6 : k < l.length := by omega
  have q7 : k < l.length := by omega
  refine wp_cond_true (ebool (b := b2) (by kernel_rfl) v4) ?_
  refine wp_skip (then_n (wp_seq (wp_block (wp_seq (rg_lit ?_)))))
  refine wmv (v := .int .i64 (k : Int)) ?_
  refine was (v := .int .i64 (k : Int)) ?_
  refine wnil (then_n (wp_seq (rg_lit ?_)))
  refine wmv (v := .func (.func 107) #[] #[]) ?_
  refine wmv (v := .slice xA l.length xc) ?_
  refine wmv (v := .int .i64 (k : Int)) ?_
  have h8 := (SSRow.up hl (Mod.up M1))
  obtain ⟨y9, hy9⟩ : ∃ x, l[k]? = some x := ⟨_, List.getElem?_eq_getElem (by omega)⟩
  obtain ⟨g9, f9, hA9, hl9, hc9⟩ := SSRow.get h8 hy9
  refine wl (sv rfl (v := .pointer (some ⟨g9, f9 + k, none⟩)) (r_ixaddr' (A := xA) (b := g9) (o := f9) (n := l.length) (c := xc) (sz := 1) (j := (k : Int)) (by kernel_rfl) hA9 (by kernel_rfl) Ty.un69 Ty.sz9 (by omega) (by omega) (by simp)) ?_)
  refine wl (sv rfl (v := .string y9) (r_loadc (by kernel_rfl) Ty.ag9 hc9) ?_)
  refine wl (sc rfl (r_callv (caps := []) (all := [.string y9]) En.f107 (by kernel_rfl) (by kernel_rfl)) (nopart_at (Mx.up hmx (Mod.up M1)) y9 (hsz _ (List.mem_of_getElem? hy9))) ?_)
  rintro e w10 ⟨rfl, u11⟩
  refine ⟨.bool (!(partB y9)), rfl, ?_⟩
  have M12 := Mod.trans M1 (Mod.of_up u11)
  have M13 := Mod.trans hM1 (Mod.of_up u11)
  refine wnil (then_n ?_)
  refine bcase (partB y9) (fun v14 => ?_) (fun v14 => ?_)
  ·
   refine wp_cond_true (ebool (b := !(partB y9)) (by kernel_rfl) (bneg v14)) ?_
   refine wp_seq (rg_lit ?_)
   refine wmv (v := .int .i64 (k : Int)) ?_
   refine was (v := .int .i64 (k : Int)) ?_
   refine wnil (then_n (wp_ret (inb_r (then_x (by nofun) (then_x (by nofun) (inb_r (then_x (by nofun) ?_)))))))
   refine bodyPost_ret (v := .int .i64 (k : Int)) (res1 rfl (rv_t (by kernel_rfl))) (by kernel_rfl) ?_
   exact ⟨_, rfl, .inr ⟨by omega, idx_yes hy9 v14⟩, (Mod.up M12)⟩
  refine wp_cond_false (ebool (b := !(partB y9)) (by kernel_rfl) (bneg v14)) ?_
  refine wp_skip (inb_n (then_n (rg_lit ?_)))
  refine wl (sv rfl (v := .int .i64 ((k + 1 : Nat) : Int)) (r_add (k := .i64) (m := (k : Int)) (n := 1) (c := ((k + 1 : Nat) : Int)) (by kernel_rfl) (by kernel_rfl) ((IntWalk.i64_in _ (by omega)).trans (by omega))) ?_)
  refine wmv (v := .int .i64 ((k + 1 : Nat) : Int)) ?_
  refine wnil (then_n ?_)
  refine ⟨l.length - (k + 1), ?_, (k + 1), z4, .int .i64 (k : Int), .bool b2, .int .i64 (k : Int), .func (.func 107) #[] #[], .slice xA l.length xc, .int .i64 (k : Int), .pointer (some ⟨g9, f9 + k, none⟩), .string y9, .bool (!(partB y9)), z17, .int .i64 ((k + 1 : Nat) : Int), rfl, (by kernel_rfl), M13, (by omega), (none_next (p := fun y => partB y = false) hF1_1 hy9 (by rw [v14]; decide))⟩
  · omega
set_option maxHeartbeats 2000000 in
theorem anyPart_at {w : World} {l : List ByteArray} {xA : Option Addr} {xc : Nat} (hl : SSRow w (.slice xA l.length xc) l) (hmx : Mx w) (hsz : ∀ x ∈ l, x.size < 4294967281) (hln : l.length ≤ 1000000) : Calls Tryz.prog 106 #[.slice xA l.length xc, .func (.func 107) #[] #[]] w fun e w' => e = .returned (.bool (!(l.all partB))) ∧ Up w w' := by
  go_enter Tryz.func106, Tryz.ntmps106
  refine wp_seq (rg_lit ?_)
  refine was (v := .bool false) ?_
  refine wnil (then_n (wp_seq (rg_lit ?_)))
  refine wmv (v := .slice xA l.length xc) ?_
  refine wmv (v := .func (.func 107) #[] #[]) ?_
  refine wl (sc rfl (r_callv (caps := []) (all := [.slice xA l.length xc, .func (.func 107) #[] #[]]) En.f155 (by kernel_rfl) (by kernel_rfl)) (indexPart_at hl (Mx.up hmx (Mod.up (Mod.refl [] w))) hsz hln) ?_)
  rintro e w1 ⟨i2, rfl, h3, u4⟩
  rcases h3 with ⟨rfl, h5⟩ | ⟨h6, h5⟩
  ·
   refine ⟨.int .i64 (-1), rfl, ?_⟩
   have M7 := Mod.trans (Mod.refl [] w) (Mod.of_up u4)
   refine wl (sv (w' := w1) rfl (v := .bool false) (by kernel_rfl) ?_)
   refine was (v := .bool false) ?_
   refine wnil (then_n (wp_ret ?_))
   refine bodyPost_ret (v := .bool false) (res1 rfl (rv_t (by kernel_rfl))) (by kernel_rfl) ?_
   exact ⟨by rw [h5]; rfl, (Mod.up M7)⟩
  ·
   refine ⟨.int .i64 i2, rfl, ?_⟩
   have M7 := Mod.trans (Mod.refl [] w) (Mod.of_up u4)
   refine wl (sb rfl (r_ge (k := .i64) (m := i2) (n := 0) (by kernel_rfl) (by kernel_rfl)) ?_)
   intro b8 k9
   refine was (v := .bool b8) ?_
   refine wnil (then_n (wp_ret ?_))
   refine bodyPost_ret (v := .bool b8) (res1 rfl (rv_t (by kernel_rfl))) (by kernel_rfl) ?_
   exact ⟨by rw [h5, ← k9, decide_eq_true h6]; rfl, (Mod.up M7)⟩
set_option maxHeartbeats 2000000 in
theorem showP_at {w : World} {l : List ByteArray} {xA : Option Addr} {xc : Nat} (hl : SSRow w (.slice xA l.length xc) l) (hmx : Mx w) (hsz : ∀ x ∈ l, x.size < 4294967281) (hln : l.length ≤ 1000000) (hj : (joinB l).size ≤ 1000000) : Calls Tryz.prog 46 #[.slice xA l.length xc] w fun e w' => e = .returned (.tuple #[.string (showB l), .int .i64 (showK l)]) ∧ Up w w' := by
  go_enter Tryz.func46, Tryz.ntmps46
  refine wp_seq (rg_lit ?_)
  refine was (v := .string (⟨#[]⟩)) ?_
  refine was (v := .int .i64 0) ?_
  refine wnil (then_n (wp_seq (wp_seq (rg_lit ?_))))
  refine wmv (v := .slice xA l.length xc) ?_
  refine wl (sv rfl (v := .int .i64 (l.length : Int)) (r_len Ty.un69 (ad := xA) (n := l.length) (c := xc) (by kernel_rfl)) ?_)
  refine wl (sb rfl (r_gt (k := .i64) (m := (l.length : Int)) (n := 16) (by kernel_rfl) (by kernel_rfl)) ?_)
  intro b1 k2
  refine wmv (v := .bool b1) ?_
  refine bcase b1 (fun v3 => ?_) (fun v3 => ?_)
  ·
   have p4 := of_decide_eq_false (k2.trans v3)
   refine wl (sv (wt (b := b1) rfl (by kernel_rfl) v3) (v := .slice xA l.length xc) (r_move (by kernel_rfl)) ?_)
   refine wl (sc (wt (b := b1) rfl (by kernel_rfl) v3) (r_callv (caps := []) (all := [.slice xA l.length xc, .func (.func 107) #[] #[]]) En.f106 (by kernel_rfl) (by kernel_rfl)) (anyPart_at hl (Mx.up hmx (Mod.up (Mod.refl [] w))) hsz hln) ?_)
   rintro e w5 ⟨rfl, u6⟩
   refine ⟨.bool (!(l.all partB)), rfl, ?_⟩
   have M7 := Mod.trans (Mod.refl [] w) (Mod.of_up u6)
   refine wl (sv rfl (v := .bool (!(l.all partB))) (r_pkF (ebool (b := b1) (by kernel_rfl) v3) (by kernel_rfl)) ?_)
   refine wnil (then_n ?_)
   refine bcase (l.all partB) (fun v8 => ?_) (fun v8 => ?_)
   ·
    refine wp_cond_true (ebool (b := !(l.all partB)) (by kernel_rfl) (bneg v8)) ?_
    refine wp_seq (rg_lit ?_)
    refine was (v := .string (⟨#[]⟩)) ?_
    refine was (v := .int .i64 17) ?_
    refine wnil (then_n (wp_ret (then_x (by nofun) ?_)))
    refine bodyPost_ret (v := .tuple #[.string (⟨#[]⟩), .int .i64 17]) (res2 rfl (rv_t (by kernel_rfl)) (rv_t (by kernel_rfl))) (by kernel_rfl) ?_
    exact ⟨show_ret (show_2 v8), (Mod.up M7)⟩
   refine wp_cond_false (ebool (b := !(l.all partB)) (by kernel_rfl) (bneg v8)) ?_
   refine wp_skip (then_n (wp_seq (rg_lit ?_)))
   refine wmv (v := .slice xA l.length xc) ?_
   have h9 := (SSRow.up hl (Mod.up M7))
   refine wl (sc rfl (r_callv (caps := []) (all := [.slice xA l.length xc, .string (⟨#[47]⟩)]) En.f102 (by kernel_rfl) (by kernel_rfl)) (join_at h9 (by omega) hj) ?_)
   rintro e w10 ⟨rfl, u11⟩
   refine ⟨.string (joinB l), rfl, ?_⟩
   have M12 := Mod.trans M7 (Mod.of_up u11)
   refine wl (sv rfl (v := .string ((⟨#[47]⟩ : ByteArray) ++ (joinB l))) (r_adds (m := (⟨#[47]⟩)) (n := (joinB l)) (by kernel_rfl) (by kernel_rfl) (by have : (⟨#[47]⟩ : ByteArray).size = 1 := rfl; omega)) ?_)
   refine was (v := .string ((⟨#[47]⟩ : ByteArray) ++ (joinB l))) ?_
   refine was (v := .int .i64 0) ?_
   refine wnil (then_n (wp_ret ?_))
   refine bodyPost_ret (v := .tuple #[.string ((⟨#[47]⟩ : ByteArray) ++ (joinB l)), .int .i64 0]) (res2 rfl (rv_t (by kernel_rfl)) (rv_t (by kernel_rfl))) (by kernel_rfl) ?_
   exact ⟨show_ret (show_3 (by omega) v8), (Mod.up M12)⟩
  have p4 := of_decide_eq_true (k2.trans v3)
  refine wl (sp (wf (b := b1) rfl (by kernel_rfl) v3) ?_)
  refine wl (sp (wf (b := b1) rfl (by kernel_rfl) v3) ?_)
  refine wl (sv rfl (v := .bool true) (r_pkT (ebool (b := b1) (by kernel_rfl) v3) (by kernel_rfl)) ?_)
  refine wnil (then_n ?_)
  refine wp_cond_true (by kernel_rfl) ?_
  refine wp_seq (rg_lit ?_)
  refine was (v := .string (⟨#[]⟩)) ?_
  refine was (v := .int .i64 17) ?_
  refine wnil (then_n (wp_ret (then_x (by nofun) ?_)))
  refine bodyPost_ret (v := .tuple #[.string (⟨#[]⟩), .int .i64 17]) (res2 rfl (rv_t (by kernel_rfl)) (rv_t (by kernel_rfl))) (by kernel_rfl) ?_
  exact ⟨show_ret (show_1 (by omega)), (Mod.up (Mod.refl [] w))⟩
end Go.Proofs.YtefhfoioeoijlaaGreatDoor
set_option linter.unusedVariables false
set_option linter.unusedSimpArgs false
namespace Go.Proofs.YtefhfoioeoijlaaGreatDoor
open Go Go.RowKit Go.Sort
def splC (c : UInt8) : List UInt8 → List (List UInt8)
  | [] => [[]]
  | b :: l => if b = c then [] :: splC c l else match splC c l with
    | [] => [[b]]
    | x :: t => (b :: x) :: t
theorem splC_ne (c : UInt8) : ∀ s, splC c s ≠ []
  | [] => by simp [splC]
  | b :: l => by unfold splC; split <;> (try split) <;> simp
theorem splC_hit {c : UInt8} {l : List UInt8} : splC c (c :: l) = [] :: splC c l := by simp [splC]
theorem splC_miss {c b : UInt8} {l x : List UInt8} {t : List (List UInt8)} (h : b ≠ c) (e : splC c l = x :: t) : splC c (b :: l) = (b :: x) :: t := by
  conv => lhs; unfold splC
  rw [if_neg h, e]
theorem splitK_is (c : UInt8) : ∀ s : List UInt8, Lib.splitK [c] 0 (Lib.count s [c]) s = splC c s
  | [] => by rw [Lib.count_miss (by simp [Lib.index])]; rfl
  | b :: l => by
    have ih := splitK_is c l
    by_cases h : b = c
    · subst h
      rw [Lib.count_cons_eq, Nat.add_comm, splC_hit, ← ih]
      have hix : Lib.index (b :: l) [b] = 0 := by rw [Lib.index]; simp [List.isPrefixOf]
      conv => lhs; unfold Lib.splitK
      rw [hix]; simp
    · rw [Lib.count_cons_ne b c l h]
      have hp : ([c] : List UInt8).isPrefixOf (b :: l) = false := by simp [List.isPrefixOf, Ne.symm h]
      have hix : Lib.index (b :: l) [c] = if Lib.index l [c] == -1 then -1 else Lib.index l [c] + 1 := by rw [Lib.index, hp]; simp
      cases hk : Lib.count l [c] with
      | zero => rw [hk] at ih; exact (splC_miss h (t := []) ih.symm).symm
      | succ k =>
        rw [hk] at ih
        have hm : Lib.index l [c] ≠ -1 := fun e => by rw [Lib.count_miss e] at hk; omega
        have hge := Lib.index_ge l [c]
        obtain ⟨j, hj⟩ : ∃ j : Nat, Lib.index l [c] = j := ⟨(Lib.index l [c]).toNat, by omega⟩
        have hix' : Lib.index (b :: l) [c] = ((j + 1 : Nat) : Int) := by rw [hix, if_neg (fun e => hm (beq_iff_eq.1 e)), hj]; omega
        unfold Lib.splitK at ih ⊢
        rw [if_neg (fun e => hm (beq_iff_eq.1 e)), hj] at ih
        rw [hix', if_neg (fun e => by have := beq_iff_eq.1 e; omega)]
        have e2 := splC_miss h ih.symm
        rw [e2]; simp
theorem join_cons2 (x y : List UInt8) (t : List (List UInt8)) (c : UInt8) : Lib.join (x :: y :: t) [c] = x ++ ([c] ++ Lib.join (y :: t) [c]) := by simp [Lib.join, List.intercalate, List.intersperse]
theorem join_splC (c : UInt8) : ∀ s, Lib.join (splC c s) [c] = s
  | [] => by simp [splC, Lib.join_one]
  | b :: l => by
    have ih := join_splC c l
    cases e : splC c l with
    | nil => exact absurd e (splC_ne c l)
    | cons x t =>
      rw [e] at ih
      by_cases h : b = c
      · subst h; rw [splC_hit, e, join_cons2, ih]; rfl
      · rw [splC_miss h e]
        cases t with
        | nil => rw [Lib.join_one] at ih ⊢; rw [ih]
        | cons y t => rw [join_cons2] at ih ⊢; rw [← ih]; simp
theorem splC_app {c : UInt8} : ∀ {x : List UInt8} (l : List UInt8), c ∉ x → splC c (x ++ c :: l) = x :: splC c l
  | [], l, _ => splC_hit
  | b :: x, l, h => by
    have hb : b ≠ c := fun e => h (by simp [e])
    exact splC_miss hb (splC_app l (fun e => h (by simp [e])))
theorem splC_one {c : UInt8} : ∀ {x : List UInt8}, c ∉ x → splC c x = [x]
  | [], _ => rfl
  | b :: x, h => by
    have hb : b ≠ c := fun e => h (by simp [e])
    exact splC_miss hb (splC_one (fun e => h (by simp [e])))
theorem splC_len (c : UInt8) (s : List UInt8) : ∀ x ∈ splC c s, x.length ≤ s.length := by
  induction s with
  | nil => intro x hx; simp [splC] at hx; subst hx; simp
  | cons b l ih =>
    intro x hx
    cases e : splC c l with
    | nil => exact absurd e (splC_ne c l)
    | cons y t =>
      rw [e] at ih
      by_cases h : b = c
      · subst h; rw [splC_hit, e] at hx
        rcases List.mem_cons.1 hx with rfl | hx
        · simp
        · have := ih x hx; simp; omega
      · rw [splC_miss h e] at hx
        rcases List.mem_cons.1 hx with rfl | hx
        · have := ih y (by simp); simp; omega
        · have := ih x (by simp [hx]); simp; omega
theorem splC_count (c : UInt8) : ∀ s, (splC c s).length ≤ s.length + 1
  | [] => by simp [splC]
  | b :: l => by
    have ih := splC_count c l
    cases e : splC c l with
    | nil => exact absurd e (splC_ne c l)
    | cons y t =>
      rw [e] at ih
      by_cases h : b = c
      · subst h; rw [splC_hit, e]; simp at ih ⊢; omega
      · rw [splC_miss h e]; simp at ih ⊢; omega
def bys (l : List UInt8) : ByteArray := ⟨l.toArray⟩
theorem bys_of (x : ByteArray) : bys x.data.toList = x := by cases x; simp [bys]
def splB (s : ByteArray) : List ByteArray := (splC 47 s.data.toList).map bys
theorem splB_data (s : ByteArray) : (splB s).map (·.data.toList) = splC 47 s.data.toList := by
  unfold splB; rw [List.map_map]; exact List.map_id _
theorem data_inj {L M : List ByteArray} (h : L.map (·.data.toList) = M.map (·.data.toList)) : L = M := by
  have := congrArg (List.map bys) h
  rw [List.map_map, List.map_map] at this
  have e : (bys ∘ fun x : ByteArray => x.data.toList) = id := by funext x; exact bys_of x
  rwa [e, List.map_id, List.map_id] at this
theorem splB_is (s : ByteArray) : Lib.splitB ⟨#[47]⟩ 0 (Lib.countB s ⟨#[47]⟩) s = splB s := by
  refine data_inj ?_
  rw [splB_data, Lib.splitB_data]
  exact splitK_is 47 s.data.toList
theorem joinB_splB (s : ByteArray) : joinB (splB s) = s := by
  unfold joinB; rw [splB_data, join_splC]
theorem splB_ne (s : ByteArray) : splB s ≠ [] := by unfold splB; simpa using splC_ne 47 s.data.toList
theorem splB_size {s x : ByteArray} (hx : x ∈ splB s) : x.size ≤ s.size := by
  obtain ⟨y, hy, rfl⟩ := List.mem_map.1 hx
  have h := splC_len 47 _ y hy
  have e1 : (bys y).size = y.length := by simp [bys, ByteArray.size]
  have e2 : s.size = s.data.toList.length := by simp
  omega
theorem splB_len (s : ByteArray) : (splB s).length ≤ s.size + 1 := by
  unfold splB; rw [List.length_map]
  have h := splC_count 47 s.data.toList
  have e2 : s.size = s.data.toList.length := by simp
  omega
abbrev NewS (n : Nat) (v : Value) : Prop := ∀ k, v.ownBlock = some k → n ≤ k
theorem NewS.ne {n b : Nat} {v : Value} (h : NewS n v) (e : b < n) : v.ownBlock ≠ some b := fun hh => by have := h _ hh; omega
theorem NewS.old {m n : Nat} {v : Value} (h : NewS n v) (e : m ≤ n) : NewS m v := fun k hk => Nat.le_trans e (h k hk)
theorem NewS.nil {n m c : Nat} : NewS n (.slice none m c) := fun k hk => by cases hk
theorem SSRow.chgm {w w' : World} {b : Nat} {v : Value} {L : List ByteArray} (h : SSRow w v L) (c : Chg w w' b) (hn : v.ownBlock ≠ some b) : SSRow w' v L := by
  obtain ⟨A, cp, rfl, hc, h0 | ⟨g, f, rfl, hg, hcell⟩⟩ := h
  · exact ⟨A, cp, rfl, hc, .inl h0⟩
  · refine ⟨_, cp, rfl, hc, .inr ⟨g, f, rfl, Nat.lt_of_lt_of_le hg c.size, fun j x hx => ?_⟩⟩
    have e := c.block g hg hn
    have h2 := hcell j x hx
    simp only [World.cell?] at h2 ⊢
    rw [e]; exact h2
theorem split_at {w : World} (hm : Mx w) (s : ByteArray) (hs : s.size < 4294967281) : Calls Tryz.prog 104 #[.string s, .string ⟨#[47]⟩] w fun e w' => ∃ A, e = .returned (.slice A (splB s).length (splB s).length) ∧ SSRow w' (.slice A (splB s).length (splB s).length) (splB s) ∧ NewS w.heap.size (.slice A (splB s).length (splB s).length) ∧ Up w w' := by
  obtain ⟨m, hm⟩ := hm
  refine (Tryz.strings_Split s ⟨#[47]⟩ m w hs hm (by decide)).mono ?_
  rintro e w' ⟨rfl, rfl⟩
  have hl : (splB s).length = Lib.countB s ⟨#[47]⟩ + 1 := by rw [← splB_is]; exact Lib.splitB_all ⟨#[47]⟩ (by decide) 0 _ s rfl
  refine ⟨_, by rw [hl], ⟨_, _, rfl, Nat.le_refl _, .inr ⟨w.heap.size, 0, rfl, Nat.lt_of_lt_of_eq (Nat.lt_succ_self _) (Array.size_push _).symm, fun j x hx => ?_⟩⟩, ?_, ?_⟩
  · rw [splB_is]
    have e : (w.alloc (.cells ((splB s).map Value.string).toArray 9)).heap[w.heap.size]? = some (.cells ((splB s).map Value.string).toArray 9) := Array.getElem?_push_size
    show World.cell? _ _ = _
    simp only [World.cell?, e, Nat.zero_add, List.getElem?_toArray, List.getElem?_map, hx, Option.map_some]; rfl
  · intro k hk; injection hk with hk; rw [← hk]; exact Nat.le_refl _
  · exact up_alloc _ _
theorem join_size (L : List ByteArray) : (joinB L).size = (Lib.join (L.map (·.data.toList)) [47]).length := by simp [joinB, ByteArray.size]
def parseL (s : ByteArray) : List ByteArray := if slashB s = false then [] else if restB s = ⟨#[]⟩ then [] else if showK (splB (restB s)) = 0 then splB (restB s) else []
def parseK (s : ByteArray) : Int := if slashB s = false then 17 else if restB s = ⟨#[]⟩ then 0 else showK (splB (restB s))
theorem parse_1 {s : ByteArray} (h : slashB s = false) : parseL s = [] ∧ parseK s = 17 := by unfold parseL parseK; rw [if_pos h, if_pos h]; exact ⟨rfl, rfl⟩
theorem slash_t {s : ByteArray} (h : slashB s = true) : ¬ slashB s = false := by rw [h]; decide
theorem parse_2 {s : ByteArray} (h : slashB s = true) (h1 : restB s = ⟨#[]⟩) : parseL s = [] ∧ parseK s = 0 := by
  unfold parseL parseK; rw [if_neg (slash_t h), if_neg (slash_t h), if_pos h1, if_pos h1]; exact ⟨rfl, rfl⟩
theorem parse_3 {s : ByteArray} (h : slashB s = true) (h1 : ¬ restB s = ⟨#[]⟩) (h2 : showK (splB (restB s)) ≠ 0) : parseL s = [] ∧ parseK s = showK (splB (restB s)) := by
  unfold parseL parseK; rw [if_neg (slash_t h), if_neg (slash_t h), if_neg h1, if_neg h1, if_neg h2]; exact ⟨rfl, rfl⟩
theorem parse_4 {s : ByteArray} (h : slashB s = true) (h1 : ¬ restB s = ⟨#[]⟩) (h2 : showK (splB (restB s)) = 0) : parseL s = splB (restB s) ∧ parseK s = 0 := by
  unfold parseL parseK; rw [if_neg (slash_t h), if_neg (slash_t h), if_neg h1, if_neg h1, if_pos h2]; exact ⟨rfl, h2⟩
theorem SSRow.zero (w : World) : SSRow w (.slice none 0 0) [] := ⟨none, 0, rfl, Nat.le_refl _, .inl rfl⟩
theorem SSRow.capq {w : World} {A : Option Addr} {c : Nat} {L : List ByteArray} (h : SSRow w (.slice A L.length c) L) : L.length ≤ c := by
  obtain ⟨A', c', e, hc, _⟩ := h
  injection e with e1 _ e3; omega
theorem restB_size (s : ByteArray) : (restB s).size ≤ s.size := by
  have h : (restB s).size = (Lib.trimPrefix s.data.toList [47]).length := by simp [restB, ByteArray.size]
  have h2 : s.size = s.data.toList.length := by simp
  rw [h, h2]; unfold Lib.trimPrefix; split <;> simp
def cleanS (out : List ByteArray) (p : ByteArray) : List ByteArray := if p = ⟨#[]⟩ then out else if p = ⟨#[46]⟩ then out else if p = ⟨#[46, 46]⟩ then out.take (out.length - 1) else out ++ [p]
def cleanO (s : ByteArray) : List ByteArray := (splB (restB s)).foldl cleanS []
def cleanB (s : ByteArray) : ByteArray := if slashB s = false then ⟨#[]⟩ else showB (cleanO s)
def cleanK (s : ByteArray) : Int := if slashB s = false then 17 else showK (cleanO s)
theorem clean_1 {s : ByteArray} (h : slashB s = false) : cleanB s = ⟨#[]⟩ ∧ cleanK s = 17 := by unfold cleanB cleanK; rw [if_pos h, if_pos h]; exact ⟨rfl, rfl⟩
theorem clean_2 {s : ByteArray} (h : slashB s = true) : cleanB s = showB (cleanO s) ∧ cleanK s = showK (cleanO s) := by unfold cleanB cleanK; rw [if_neg (slash_t h), if_neg (slash_t h)]; exact ⟨rfl, rfl⟩
theorem clS_a {out : List ByteArray} {p : ByteArray} (h : p = ⟨#[]⟩) : cleanS out p = out := by unfold cleanS; rw [if_pos h]
theorem clS_b {out : List ByteArray} {p : ByteArray} (h : p = ⟨#[46]⟩) : cleanS out p = out := by subst h; rfl
theorem clS_c {out : List ByteArray} {p : ByteArray} (h : p = ⟨#[46, 46]⟩) : cleanS out p = out.take (out.length - 1) := by subst h; rfl
theorem clS_d {out : List ByteArray} {p : ByteArray} (h1 : ¬ p = ⟨#[]⟩) (h2 : ¬ p = ⟨#[46]⟩) (h3 : ¬ p = ⟨#[46, 46]⟩) : cleanS out p = out ++ [p] := by unfold cleanS; rw [if_neg h1, if_neg h2, if_neg h3]
theorem clean_next {l out : List ByteArray} {k : Nat} {p : ByteArray} (hp : l[k]? = some p) (h : (l.drop k).foldl cleanS out = l.foldl cleanS []) : (l.drop (k + 1)).foldl cleanS (cleanS out p) = l.foldl cleanS [] := by
  have hk := (List.getElem?_eq_some_iff.1 hp)
  rw [List.drop_eq_getElem_cons hk.1, hk.2] at h
  exact h
theorem clean_end {l out : List ByteArray} {k : Nat} (hk : ¬ k < l.length) (h : (l.drop k).foldl cleanS out = l.foldl cleanS []) : out = l.foldl cleanS [] := by
  rwa [List.drop_eq_nil_of_le (by omega)] at h
theorem clean_mem (l : List ByteArray) : ∀ {out : List ByteArray}, ∀ x ∈ l.foldl cleanS out, x ∈ out ∨ x ∈ l := by
  induction l with
  | nil => intro out x hx; exact .inl hx
  | cons p l ih =>
    intro out x hx
    rcases ih (out := cleanS out p) x hx with h | h
    · unfold cleanS at h
      repeat' split at h
      · exact .inl h
      · exact .inl h
      · exact .inl (List.mem_of_mem_take h)
      · rcases List.mem_append.1 h with h | h
        · exact .inl h
        · simp at h; exact .inr (by simp [h])
    · exact .inr (by simp [h])
theorem clean_le (l : List ByteArray) : ∀ {out : List ByteArray}, (l.foldl cleanS out).length ≤ out.length + l.length := by
  induction l with
  | nil => intro out; simp
  | cons p l ih =>
    intro out
    have h := ih (out := cleanS out p)
    have h2 : (cleanS out p).length ≤ out.length + 1 := by
      unfold cleanS; repeat' split
      · omega
      · omega
      · rw [List.length_take]; omega
      · simp
    simp only [List.foldl_cons, List.length_cons]; omega
def wid (L : List ByteArray) : Nat := (L.map fun x => x.size + 1).sum
theorem join_wid : ∀ L : List ByteArray, (joinB L).size ≤ wid L ∧ (L ≠ [] → (joinB L).size + 1 = wid L)
  | [] => ⟨Nat.zero_le _, fun h => absurd rfl h⟩
  | [x] => by
    have e : (joinB [x]).size = x.size := by rw [join_size]; simp [Lib.join_one]
    simp only [wid, List.map_cons, List.map_nil, List.sum_cons, List.sum_nil]
    exact ⟨by omega, fun _ => by omega⟩
  | x :: y :: t => by
    have ih := (join_wid (y :: t)).2 (by simp)
    have e : (joinB (x :: y :: t)).size = x.size + (1 + (joinB (y :: t)).size) := by rw [join_size, join_size, List.map_cons, List.map_cons, join_cons2]; simp only [List.length_append, List.length_cons, List.length_nil, List.map_cons]; simp
    have e2 : wid (x :: y :: t) = x.size + 1 + wid (y :: t) := by simp [wid]
    exact ⟨by omega, fun _ => by omega⟩
theorem wid_app (L M : List ByteArray) : wid (L ++ M) = wid L + wid M := by simp [wid]
theorem clean_wid (l : List ByteArray) : ∀ {out : List ByteArray}, wid (l.foldl cleanS out) ≤ wid out + wid l := by
  induction l with
  | nil => intro out; simp [wid]
  | cons p l ih =>
    intro out
    have h := ih (out := cleanS out p)
    have e2 : wid (p :: l) = p.size + 1 + wid l := by simp [wid]
    have h2 : wid (cleanS out p) ≤ wid out + (p.size + 1) := by
      unfold cleanS; repeat' split
      · omega
      · omega
      · have e3 : wid out = wid (out.take (out.length - 1)) + wid (out.drop (out.length - 1)) := by
          rw [← wid_app, List.take_append_drop]
        omega
      · rw [wid_app]; simp [wid]
    rw [List.foldl_cons]; omega
theorem cleanO_size (s : ByteArray) : (joinB (cleanO s)).size ≤ s.size + 1 := by
  have h1 := (join_wid (cleanO s)).1
  have h2 : wid (cleanO s) ≤ wid [] + wid (splB (restB s)) := clean_wid (splB (restB s)) (out := [])
  have h3 := (join_wid (splB (restB s))).2 (splB_ne _)
  rw [joinB_splB] at h3
  have h4 := restB_size s
  have h5 : wid [] = 0 := rfl
  omega
theorem parse_fin {w w' : World} {s : ByteArray} {l : List ByteArray} {k : Int} {A : Option Addr} {c : Nat} (h : parseL s = l ∧ parseK s = k) (hr : SSRow w' (.slice A l.length c) l) (hn : NewS w.heap.size (.slice A l.length c)) (u : Up w w') : ∃ A' c', Ending.returned (.tuple #[.slice A l.length c, .int .i64 k]) = .returned (.tuple #[.slice A' (parseL s).length c', .int .i64 (parseK s)]) ∧ SSRow w' (.slice A' (parseL s).length c') (parseL s) ∧ NewS w.heap.size (.slice A' (parseL s).length c') ∧ Up w w' := by
  rw [h.1, h.2]; exact ⟨A, c, rfl, hr, hn, u⟩
theorem parseL_or (s : ByteArray) : parseL s = [] ∨ parseL s = splB (restB s) := by
  unfold parseL; repeat' split
  · exact .inl rfl
  · exact .inl rfl
  · exact .inr rfl
  · exact .inl rfl
theorem rest_parts {s : ByteArray} (hs : s.size ≤ 100000) : (∀ x ∈ splB (restB s), x.size < 4294967281) ∧ (splB (restB s)).length ≤ 1000000 ∧ (joinB (splB (restB s))).size ≤ 1000000 := by
  have h1 := restB_size s
  have h2 := splB_len (restB s)
  refine ⟨fun x hx => by have := splB_size hx; omega, by omega, by rw [joinB_splB]; omega⟩
theorem parse_parts {s : ByteArray} (hs : s.size ≤ 100000) : (∀ x ∈ parseL s, x.size < 4294967281) ∧ (parseL s).length ≤ 1000000 ∧ (joinB (parseL s)).size ≤ 1000000 := by
  rcases parseL_or s with h | h <;> rw [h]
  · exact ⟨fun x hx => absurd hx (by simp), by simp, by decide⟩
  · exact rest_parts hs
theorem clean_parts {s : ByteArray} (hs : s.size ≤ 100000) : (∀ x ∈ cleanO s, x.size < 4294967281) ∧ (cleanO s).length ≤ 1000000 ∧ (joinB (cleanO s)).size ≤ 1000000 := by
  have h0 := rest_parts hs
  refine ⟨fun x hx => ?_, ?_, ?_⟩
  · rcases clean_mem _ x hx with h | h
    · cases h
    · exact h0.1 x h
  · have h1 : (cleanO s).length ≤ ([] : List ByteArray).length + (splB (restB s)).length := clean_le _
    have h2 := splB_len (restB s)
    have h3 := restB_size s
    simp at h1
    omega
  · have := cleanO_size s; omega
def wkS (L : List Item) : List ByteArray → Stamp → Stamp × Int
  | [], m => (m, 0)
  | p :: l, m => if findK L m p = 0 then wkS L l (findE L m p).node else (nilS, findK L m p)
def walkS (L : List Item) (s : ByteArray) : Stamp := if parseK s = 0 then (wkS L (parseL s) nilS).1 else nilS
def walkK (L : List Item) (s : ByteArray) : Int := if parseK s = 0 then (wkS L (parseL s) nilS).2 else parseK s
theorem wk_go {L : List Item} {l : List ByteArray} {k : Nat} {p : ByteArray} {m : Stamp} (hp : l[k]? = some p) (h : findK L m p = 0) : wkS L (l.drop k) m = wkS L (l.drop (k + 1)) (findE L m p).node := by
  have hk := (List.getElem?_eq_some_iff.1 hp)
  rw [List.drop_eq_getElem_cons hk.1, hk.2]
  conv => lhs; unfold wkS
  rw [if_pos h]
theorem wk_no {L : List Item} {l : List ByteArray} {k : Nat} {p : ByteArray} {m : Stamp} (hp : l[k]? = some p) (h : findK L m p ≠ 0) : wkS L (l.drop k) m = (nilS, findK L m p) := by
  have hk := (List.getElem?_eq_some_iff.1 hp)
  rw [List.drop_eq_getElem_cons hk.1, hk.2]
  unfold wkS
  rw [if_neg h]
theorem walk_bad {L : List Item} {s : ByteArray} (h : parseK s ≠ 0) : walkS L s = ⟨0, 0⟩ ∧ walkK L s = parseK s := by unfold walkS walkK; rw [if_neg h, if_neg h]; exact ⟨rfl, rfl⟩
theorem walk_is {L : List Item} {s : ByteArray} {m : Stamp} {k : Int} (h : parseK s = 0) (e : wkS L (parseL s) ⟨0, 0⟩ = (m, k)) : walkS L s = m ∧ walkK L s = k := by
  have e' : wkS L (parseL s) nilS = (m, k) := e
  unfold walkS walkK; rw [if_pos h, if_pos h, e']; exact ⟨rfl, rfl⟩
theorem wk_end {L : List Item} {l : List ByteArray} {k : Nat} {m : Stamp} (hk : ¬ k < l.length) : wkS L (l.drop k) m = (m, 0) := by rw [List.drop_eq_nil_of_le (by omega)]; rfl
theorem walk_ret {L : List Item} {s : ByteArray} {a b k : Int} (h : walkS L s = ⟨a, b⟩ ∧ walkK L s = k) : Ending.returned (.tuple #[.agg #[.int .i64 a, .int .i64 b], .int .i64 k]) = .returned (.tuple #[.agg #[.int .i64 (walkS L s).t, .int .i64 (walkS L s).w], .int .i64 (walkK L s)]) := by rw [h.1, h.2]
theorem clean_ret {s b : ByteArray} {k : Int} (h : cleanB s = b ∧ cleanK s = k) : Ending.returned (.tuple #[.string b, .int .i64 k]) = .returned (.tuple #[.string (cleanB s), .int .i64 (cleanK s)]) := by rw [h.1, h.2]
theorem r_slHi {P : Program} {d : Option Tmp} {ty : TypeId} {pos : String} {af : Array Edge} {gd : Option (Nat × Bool)} {ρ : Operand → Value} {w w' : World} {t : TypeId} {x hi : Operand} {A : Option Addr} {c k : Nat} {j : Int} {L : List ByteArray} (h : SSRow w' (.slice A L.length c) L) (hx : ρ x = .slice A L.length c) (hhi : ρ hi = .int .i64 j) (hj : j = (k : Int)) (hu : P.underlying t = some (.slice 9)) (hsz : ∀ w, (sizeOf 9).run P w = .ok 1 w) (hk : k ≤ L.length) :
    (execOp ρ ⟨d, .slice t x none (some hi) none, ty, pos, af, gd⟩).run P w = .ok (.value (.slice A k c)) w := by
  subst hj
  have hc := h.capq
  have h1 : (0 : Int) ≤ (k : Int) ∧ (k : Int) ≤ (c : Int) := by omega
  obtain ⟨A', c', e, _, h0 | ⟨g, f, rfl, hg, hcell⟩⟩ := h
  · injection e with e1 _ e3
    subst h0
    have hk0 : k = 0 := by simpa using hk
    subst hk0
    cases A with
    | none => simp [execOp, hx, hhi, Instr.sliceAt, Instr.slice, Instr.sliceBounds, Instr.sliceBound, asIntOf, run_underlying hu, hsz]
    | some a => simp [execOp, hx, hhi, Instr.sliceAt, Instr.slice, Instr.sliceBounds, Instr.sliceBound, asIntOf, run_underlying hu, hsz, add_at]; intro _; cases a; simp [Addr.add]
  · injection e with e1 _ e3
    subst e1
    have h2 : k ≤ c := by omega
    simp [execOp, hx, hhi, Instr.sliceAt, Instr.slice, Instr.sliceBounds, Instr.sliceBound, asIntOf, run_underlying hu, hsz, h1, h2, add_at]
theorem BRow.ss {base : Nat} {w : World} {v : Value} {L : List ByteArray} (h : BRow base w v L) : SSRow w v L := by
  obtain ⟨hl, ⟨rfl, h0⟩ | ⟨g, cap, cur, rfl, hb, hg, hc, hm, hcs, htk⟩⟩ := h
  · have hL : L = [] := List.length_eq_zero_iff.1 h0
    subst hL
    exact SSRow.zero _
  · refine ⟨_, _, rfl, hc, .inr ⟨g, 0, rfl, lt_ob hg, fun j x hx => ?_⟩⟩
    have hj := (List.getElem?_eq_some_iff.1 hx).1
    have h1 : (L.map Value.string)[j]? = some (.string x) := by rw [List.getElem?_map, hx]; rfl
    rw [← htk, List.getElem?_take, if_pos (by omega), Array.getElem?_toList] at h1
    simp only [World.cell?, hg, Nat.zero_add]
    exact h1
theorem BRow.pre {base : Nat} {w : World} {A : Option Addr} {c k : Nat} {L : List ByteArray} (h : BRow base w (.slice A L.length c) L) (hk : k ≤ L.length) : BRow base w (.slice A (L.take k).length c) (L.take k) := by
  obtain ⟨hl, ⟨e, h0⟩ | ⟨g, cap, cur, e, hb, hg, hc, hm, hcs, htk⟩⟩ := h
  · have hL : L = [] := List.length_eq_zero_iff.1 h0
    subst hL
    injection e with e1 e2 e3
    subst e1; subst e3
    rw [List.take_nil]
    exact BRow.nil _ _
  · injection e with e1 e2 e3
    subst e1; subst e3
    refine ⟨by simp, .inr ⟨g, c, cur, rfl, hb, hg, by rw [List.length_take]; omega, hm, hcs, ?_⟩⟩
    rw [List.map_take, ← htk, List.take_take, List.length_take]
    congr 1
    omega
theorem r_max0 {P : Program} {d : Option Tmp} {ty : TypeId} {pos : String} {af : Array Edge} {g : Option (Nat × Bool)} {ρ : Operand → Value} {w : World} {t u : TypeId} {x y : Operand} {a b : Int} {m : Nat} (hx : ρ x = .int .i64 a) (hy : ρ y = .int .i64 b) (h : (if b > a then b else a) = (m : Int)) :
    (execOp ρ ⟨d, .call ⟨.builtin .max, #[x, y], #[t, u]⟩, ty, pos, af, g⟩).run P w = .ok (.value (.int .i64 (m : Int))) w := by
  rw [← h]
  simp [execOp, resolve, hx, hy, invoke, builtin, Builtin.max_, Builtin.max2]
theorem clean_nx {l out out' : List ByteArray} {k : Nat} {p : ByteArray} (hp : l[k]? = some p) (h : (l.drop k).foldl cleanS out = l.foldl cleanS []) (e : cleanS out p = out') : (l.drop (k + 1)).foldl cleanS out' = l.foldl cleanS [] := e ▸ clean_next hp h
theorem clean_show {s : ByteArray} {out : List ByteArray} (h : slashB s = true) (e : out = cleanO s) : cleanB s = showB out ∧ cleanK s = showK out := by subst e; exact clean_2 h
theorem clean_out {s : ByteArray} {out : List ByteArray} (hs : s.size ≤ 100000) (e : out = cleanO s) : (∀ x ∈ out, x.size < 4294967281) ∧ out.length ≤ 1000000 ∧ (joinB out).size ≤ 1000000 := by subst e; exact clean_parts hs
end Go.Proofs.YtefhfoioeoijlaaGreatDoor

/- Pth2, PB, Pth3, Nm5, PA -/
import Derived.Lib.SplitLaws
import Derived.Shelf.Strings.SlTrimAscii
import Derived.Test.YtefhfoioeoijlaaGreatDoorUaa
import Derived.Test.YtefhfoioeoijlaaGreatDoorUaf
import Derived.Test.YtefhfoioeoijlaaGreatDoorUah
import Derived.Test.YtefhfoioeoijlaaGreatDoorUaq
import Derived.Test.YtefhfoioeoijlaaGreatDoorUar
set_option linter.unusedVariables false
set_option linter.unusedSimpArgs false
namespace Go.Proofs.YtefhfoioeoijlaaGreatDoor
open Go Go.RowKit Go.Sort
abbrev Mx (w : World) : Prop := ∃ m, w.cell? ⟨1, 0, none⟩ = some (.int .i64 m)
theorem Mx.up {w w' : World} (h : Mx w) (u : Up w w') : Mx w' := by
  obtain ⟨m, hm⟩ := h
  exact ⟨m, (u.cell (p := ⟨1, 0, none⟩) (World.block_lt_of_cell? w _ hm)).trans hm⟩
def digs : ByteArray := ⟨#[48, 49, 50, 51, 52, 53, 54, 55, 56, 57]⟩
def trimD (s : ByteArray) : ByteArray := ⟨(Lib.trimS s.data.toList digs.data.toList).toArray⟩
theorem trimD_at (s : ByteArray) (hs : s.size ≤ 9223372036854775807) (w : World) : Calls Tryz.prog 188 #[.string s, .string ⟨#[48, 49, 50, 51, 52, 53, 54, 55, 56, 57]⟩] w fun e w' => e = .returned (.string (trimD s)) ∧ Up w w' :=
  Any.strings_Trim_laid Tryz.lays160 (by kernel_rfl) s digs w hs (by decide) (ascii_of_all (by decide))
def cutA (s : ByteArray) (c : UInt8) : ByteArray := ⟨(Lib.cut s.data.toList [c]).1.toArray⟩
def cutZ (s : ByteArray) (c : UInt8) : ByteArray := ⟨(Lib.cut s.data.toList [c]).2.1.toArray⟩
def cutB (s : ByteArray) (c : UInt8) : Bool := (Lib.cut s.data.toList [c]).2.2
theorem cutA_size (s : ByteArray) (c : UInt8) : (cutA s c).size ≤ s.size := by
  have h : (cutA s c).size = (Lib.cut s.data.toList [c]).1.length := by simp [cutA, ByteArray.size]
  have h2 : s.size = s.data.toList.length := by simp
  rw [h, h2]; unfold Lib.cut; split <;> simp [Nat.min_le_right]
theorem cutZ_size (s : ByteArray) (c : UInt8) : (cutZ s c).size ≤ s.size := by
  have h : (cutZ s c).size = (Lib.cut s.data.toList [c]).2.1.length := by simp [cutZ, ByteArray.size]
  have h2 : s.size = s.data.toList.length := by simp
  rw [h, h2]; unfold Lib.cut; split <;> simp
theorem cut_at {w : World} (hm : Mx w) (s : ByteArray) (c : UInt8) (hs : s.size < 4294967281) : Calls Tryz.prog 156 #[.string s, .string ⟨#[c]⟩] w fun e w' => e = .returned (.tuple #[.string (cutA s c), .string (cutZ s c), .bool (cutB s c)]) ∧ Up w w' := by
  obtain ⟨m, hm⟩ := hm
  refine (Tryz.strings_Cut s ⟨#[c]⟩ m w hs hm).mono ?_
  rintro e w' ⟨rfl, n, rfl⟩
  exact ⟨rfl, Ups.below (Ups.drewN w n)⟩
def restB (s : ByteArray) : ByteArray := ⟨(Lib.trimPrefix s.data.toList [47]).toArray⟩
def slashB (s : ByteArray) : Bool := Lib.hasPrefix s.data.toList [47]
theorem cutPrefix_at (s : ByteArray) (w : World) : Calls Tryz.prog 103 #[.string s, .string ⟨#[47]⟩] w fun e w' => e = .returned (.tuple #[.string (restB s), .bool (slashB s)]) ∧ Up w w' := by
  refine (Tryz.strings_CutPrefix s ⟨#[47]⟩ w).mono ?_
  rintro e w' ⟨rfl, rfl⟩
  exact ⟨rfl, Below.refl _ _⟩
def digB (d : Int) (s : ByteArray) : Bool := decide (((s.size : Nat) : Int) ≥ 1) && (decide (((s.size : Nat) : Int) ≤ d) && decide (trimD s = ⟨#[]⟩))
theorem dig_1 {d : Int} {s : ByteArray} (h : ¬ ((s.size : Nat) : Int) ≥ 1) : digB d s = false := by unfold digB; rw [decide_eq_false h]; rfl
theorem dig_2 {d : Int} {s : ByteArray} (h : ¬ ((s.size : Nat) : Int) ≤ d) : digB d s = false := by unfold digB; rw [decide_eq_false h]; simp
theorem dig_3 {d : Int} {s : ByteArray} {b : Bool} (h1 : ((s.size : Nat) : Int) ≥ 1) (h2 : ((s.size : Nat) : Int) ≤ d) (h : decide (trimD s = ⟨#[]⟩) = b) : digB d s = b := by unfold digB; rw [decide_eq_true h1, decide_eq_true h2, h]; rfl
def partB (s : ByteArray) : Bool :=
  if nameB (cutA s 126) = false then false
  else if cutB s 126 = false then true
  else cutB (cutZ s 126) 46 && (digB 13 (cutA (cutZ s 126) 46) && digB 2 (cutZ (cutZ s 126) 46))
theorem part_1 {s : ByteArray} (h : nameB (cutA s 126) = false) : partB s = false := by unfold partB; rw [if_pos h]
theorem part_2 {s : ByteArray} (h : nameB (cutA s 126) = true) (h2 : cutB s 126 = false) : partB s = true := by unfold partB; rw [if_neg (by rw [h]; decide), if_pos h2]
theorem part_3 {s : ByteArray} (h : nameB (cutA s 126) = true) (h2 : cutB s 126 = true) {b : Bool} (hb : (cutB (cutZ s 126) 46 && (digB 13 (cutA (cutZ s 126) 46) && digB 2 (cutZ (cutZ s 126) 46))) = b) : partB s = b := by
  unfold partB; rw [if_neg (by rw [h]; decide), if_neg (by rw [h2]; decide)]; exact hb
theorem SSRow.up {w w' : World} {v : Value} {L : List ByteArray} (h : SSRow w v L) (u : Up w w') : SSRow w' v L := by
  obtain ⟨A, c, rfl, hc, h0 | ⟨g, f, rfl, hg, hcell⟩⟩ := h
  · exact ⟨A, c, rfl, hc, .inl h0⟩
  · exact ⟨_, c, rfl, hc, .inr ⟨g, f, rfl, Nat.lt_of_lt_of_le hg u.size, fun j x hx => (u.cell (p := ⟨g, f + j, none⟩) hg).trans (hcell j x hx)⟩⟩
theorem SSRow.get {w : World} {A : Option Addr} {n c i : Nat} {L : List ByteArray} {x : ByteArray} (h : SSRow w (.slice A n c) L) (hx : L[i]? = some x) : ∃ g f, A = some ⟨g, f, none⟩ ∧ g < w.heap.size ∧ w.cell? ⟨g, f + i, none⟩ = some (.string x) := by
  obtain ⟨A', c', e, _, h0 | ⟨g, f, hA, hg, hcell⟩⟩ := h
  · rw [h0] at hx; simp at hx
  · injection e with e1 _ _
    subst e1
    exact ⟨g, f, hA, hg, hcell i x hx⟩
theorem idx_no {l : List ByteArray} (h : ∀ (j : Nat) (x : ByteArray), l[j]? = some x → ¬ partB x = false) : l.all partB = true := by
  rw [List.all_eq_true]
  intro x hx
  obtain ⟨j, hj⟩ := List.mem_iff_getElem?.1 hx
  simpa using h j x hj
theorem idx_yes {l : List ByteArray} {k : Nat} {x : ByteArray} (hx : l[k]? = some x) (h : partB x = false) : l.all partB = false := by
  rw [List.all_eq_false]
  exact ⟨x, List.mem_of_getElem? hx, by rw [h]; decide⟩
def showK (l : List ByteArray) : Int := if l.length ≤ 16 ∧ l.all partB = true then 0 else 17
def showB (l : List ByteArray) : ByteArray := if l.length ≤ 16 ∧ l.all partB = true then (⟨#[47]⟩ : ByteArray) ++ joinB l else ⟨#[]⟩
theorem show_1 {l : List ByteArray} (h : ¬ l.length ≤ 16) : showB l = ⟨#[]⟩ ∧ showK l = 17 := by
  unfold showB showK; rw [if_neg (fun e => h e.1), if_neg (fun e => h e.1)]; exact ⟨rfl, rfl⟩
theorem show_2 {l : List ByteArray} (h : l.all partB = false) : showB l = ⟨#[]⟩ ∧ showK l = 17 := by
  unfold showB showK; rw [if_neg (fun e => by rw [h] at e; cases e.2), if_neg (fun e => by rw [h] at e; cases e.2)]; exact ⟨rfl, rfl⟩
theorem show_3 {l : List ByteArray} (h1 : l.length ≤ 16) (h : l.all partB = true) : showB l = (⟨#[47]⟩ : ByteArray) ++ joinB l ∧ showK l = 0 := by
  unfold showB showK; rw [if_pos ⟨h1, h⟩, if_pos ⟨h1, h⟩]; exact ⟨rfl, rfl⟩
theorem show_ret {l : List ByteArray} {b : ByteArray} {k : Int} (h : showB l = b ∧ showK l = k) : Ending.returned (.tuple #[.string b, .int .i64 k]) = .returned (.tuple #[.string (showB l), .int .i64 (showK l)]) := by rw [h.1, h.2]
end Go.Proofs.YtefhfoioeoijlaaGreatDoor
set_option linter.unusedVariables false
set_option linter.unusedSimpArgs false
namespace Go.Proofs.YtefhfoioeoijlaaGreatDoor
open Go Go.RowKit Go.Sort
set_option maxHeartbeats 2000000 in
theorem dig_at {w : World} (dd : Int) (s : ByteArray) (hs : s.size ≤ 9223372036854775807) : Calls Tryz.prog 157 #[.int .i64 dd, .string s] w fun e w' => e = .returned (.bool (digB dd s)) ∧ Up w w' := by
  go_enter Tryz.func157, Tryz.ntmps157
  refine wp_seq (rg_lit (was (v := B_ false) (wnil (then_n (wp_seq (rg_lit (wmv (v := S_ s) (wlv (v := I_ s.size) (r_lens Ty.un9 (s := s) (by kernel_rfl)) (wl (sb rfl (r_ge (k := .i64) (m := (s.size : Int)) (n := 1) (by kernel_rfl) (by kernel_rfl)) fun b1 k2 => wmv (v := B_ b1) ?_))))))))))
  refine bcd k2 (fun v3 p4 => ?_) (fun v3 p4 => ?_)
  ·
   iterate 4 refine wls rfl v3 ?_
   refine wlv (v := B_ false) (pkF (ebk v3)) (wmv (v := B_ false) ?_)
   iterate 3 refine wsp ?_
   refine wlv (v := B_ false) (pkF (by kernel_rfl)) (was (v := B_ false) (wnil (then_n (wp_ret ?_))))
   refine br1 (v := B_ false) rfl ?_
   exact ⟨by rw [dig_1 p4], (Mod.up (Mod.refl [] w))⟩
  refine wlw rfl v3 (v := S_ s) (mv) (wlw rfl v3 (v := I_ s.size) (r_lens Ty.un9 (s := s) (by kernel_rfl)) (wlw rfl v3 (v := I_ dd) (mv) (wl (sb (wt (b := b1) rfl (by kernel_rfl) v3) (r_le (k := .i64) (m := (s.size : Int)) (n := dd) (by kernel_rfl) (by kernel_rfl)) fun b5 k6 => wlv (v := B_ b5) (pkT (ebk v3)) (wmv (v := B_ b5) ?_)))))
  refine bcd k6 (fun v7 p8 => ?_) (fun v7 p8 => ?_)
  ·
   iterate 3 refine wls rfl v7 ?_
   refine wlv (v := B_ false) (pkF (ebk v7)) (was (v := B_ false) (wnil (then_n (wp_ret ?_))))
   refine br1 (v := B_ false) rfl ?_
   exact ⟨by rw [dig_2 p8], (Mod.up (Mod.refl [] w))⟩
  refine wlw rfl v7 (v := S_ s) (mv) (wl (sc (wt (b := b5) rfl (by kernel_rfl) v7) (r_callv (caps := []) (all := [S_ s, S_ (⟨#[48, 49, 50, 51, 52, 53, 54, 55, 56, 57]⟩)]) En.f188 (by kernel_rfl) (by kernel_rfl)) (trimD_at s (by omega) _) ?_))
  rintro e _ ⟨rfl, u10⟩
  refine ⟨_, rfl, ?_⟩
  refine wl (sb (wt (b := b5) rfl (by kernel_rfl) v7) (r_eqs (m := (trimD s)) (n := (⟨#[]⟩)) (by kernel_rfl) (by kernel_rfl)) fun b12 k13 => wlv (v := B_ b12) (pkT (ebk v7)) (was (v := B_ b12) (wnil (then_n (wp_ret ?_)))))
  refine br1 (v := B_ b12) rfl ?_
  exact ⟨by rw [dig_3 p4 p8 k13], (Mod.up (mtu (Mod.refl [] w) u10))⟩
set_option maxHeartbeats 2000000 in
theorem part_at {w : World} (hmx : Mx w) (s : ByteArray) (hs : s.size < 4294967281) : Calls Tryz.prog 108 #[.string s] w fun e w' => e = .returned (.bool (partB s)) ∧ Up w w' := by
  have hz1 := cutA_size s 126
  have hz2 := cutZ_size s 126
  have hz3 := cutA_size (cutZ s 126) 46
  have hz4 := cutZ_size (cutZ s 126) 46
  go_enter Tryz.func108, Tryz.ntmps108
  refine wp_seq (rg_lit (was (v := B_ false) (wnil (then_n (wp_seq (rg_lit (wmv (v := S_ s) (wl (sca [S_ s, S_ (⟨#[126]⟩)] En.f156 (cut_at (Mx.up hmx (Mod.up (Mod.refl [] w))) s 126 (by omega)) ?_)))))))))
  rintro e _ ⟨rfl, u2⟩
  refine ⟨_, rfl, ?_⟩
  refine wmv (v := .tuple #[S_ (cutA s 126), S_ (cutZ s 126), B_ (cutB s 126)]) (wlv (v := S_ (cutA s 126)) (xt [S_ (cutA s 126), S_ (cutZ s 126), B_ (cutB s 126)]) (wlv (v := S_ (cutZ s 126)) (xt [S_ (cutA s 126), S_ (cutZ s 126), B_ (cutB s 126)]) (wlv (v := B_ (cutB s 126)) (xt [S_ (cutA s 126), S_ (cutZ s 126), B_ (cutB s 126)]) (was (v := S_ (cutA s 126)) (was (v := S_ (cutZ s 126)) (was (v := B_ (cutB s 126)) (wnil (then_n (wp_seq (wp_seq (rg_lit (wmv (v := S_ (cutA s 126)) ?_))))))))))))
  refine wl (sca [S_ (cutA s 126)] En.f62 (opname_any (cutA s 126) _ (by omega)) ?_)
  rintro e _ ⟨rfl, u5⟩
  refine ⟨_, rfl, ?_⟩
  have M6 := mtu (mtu (Mod.refl [] w) u2) u5
  refine wlv (v := B_ (!(nameB (cutA s 126)))) (r_not (b := (nameB (cutA s 126))) (by kernel_rfl)) (wmv (v := B_ (!(nameB (cutA s 126)))) ?_)
  refine bcase (nameB (cutA s 126)) (fun v7 => ?_) (fun v7 => ?_)
  ·
   iterate 2 refine wls rfl (bneg v7) ?_
   refine wlv (v := B_ true) (pkT (ebk (bneg v7))) (wnil (then_n (wp_cond_true (by kernel_rfl) (wp_seq (rg_lit (wmv (v := S_ (cutA s 126)) (wl (sca [S_ (cutA s 126)] En.f62 (opname_any (cutA s 126) _ (by omega)) ?_))))))))
   rintro e _ ⟨rfl, u9⟩
   refine ⟨_, rfl, ?_⟩
   refine was (v := B_ (nameB (cutA s 126))) (wnil (then_n (wp_ret (then_x (by nofun) ?_))))
   refine br1 (v := B_ (nameB (cutA s 126))) rfl ?_
   exact ⟨by rw [part_1 v7, v7], (Mod.up (mtu M6 u9))⟩
  refine wlw rfl (bneg v7) (v := B_ (cutB s 126)) (mv) (wlw rfl (bneg v7) (v := B_ (!(cutB s 126))) (r_not (b := (cutB s 126)) (by kernel_rfl)) (wlv (v := B_ (!(cutB s 126))) (pkF (ebk (bneg v7))) (wnil (then_n ?_))))
  refine bcase (cutB s 126) (fun v8 => ?_) (fun v8 => ?_)
  ·
   refine wp_cond_true (ebk (bneg v8)) (wp_seq (rg_lit (wmv (v := S_ (cutA s 126)) (wl (sca [S_ (cutA s 126)] En.f62 (opname_any (cutA s 126) _ (by omega)) ?_)))))
   rintro e w9 ⟨rfl, u10⟩
   refine ⟨_, rfl, ?_⟩
   refine was (v := B_ (nameB (cutA s 126))) (wnil (then_n (wp_ret (then_x (by nofun) ?_))))
   refine br1 (v := B_ (nameB (cutA s 126))) rfl ?_
   exact ⟨by rw [part_2 v7 v8, v7], (Mod.up (mtu M6 u10))⟩
  refine wp_cond_false (ebk (bneg v8)) (wp_skip (then_n (wp_seq (rg_lit (wmv (v := S_ (cutZ s 126)) (wl (sca [S_ (cutZ s 126), S_ (⟨#[46]⟩)] En.f156 (cut_at (Mx.up hmx (Mod.up M6)) (cutZ s 126) 46 (by omega)) ?_)))))))
  rintro e w9 ⟨rfl, u10⟩
  refine ⟨_, rfl, ?_⟩
  have M11 := mtu M6 u10
  refine wmv (v := .tuple #[S_ (cutA (cutZ s 126) 46), S_ (cutZ (cutZ s 126) 46), B_ (cutB (cutZ s 126) 46)]) (wlv (v := S_ (cutA (cutZ s 126) 46)) (xt [S_ (cutA (cutZ s 126) 46), S_ (cutZ (cutZ s 126) 46), B_ (cutB (cutZ s 126) 46)]) (wlv (v := S_ (cutZ (cutZ s 126) 46)) (xt [S_ (cutA (cutZ s 126) 46), S_ (cutZ (cutZ s 126) 46), B_ (cutB (cutZ s 126) 46)]) (wlv (v := B_ (cutB (cutZ s 126) 46)) (xt [S_ (cutA (cutZ s 126) 46), S_ (cutZ (cutZ s 126) 46), B_ (cutB (cutZ s 126) 46)]) (was (v := S_ (cutA (cutZ s 126) 46)) (was (v := S_ (cutZ (cutZ s 126) 46)) (was (v := B_ (cutB (cutZ s 126) 46)) (wnil (then_n (wp_seq (rg_lit ?_))))))))))
  iterate 2 refine wmv (v := B_ (cutB (cutZ s 126) 46)) ?_
  refine bcase (cutB (cutZ s 126) 46) (fun v12 => ?_) (fun v12 => ?_)
  ·
   iterate 2 refine wls rfl v12 ?_
   refine wlv (v := B_ false) (pkF (ebk v12)) (wmv (v := B_ false) ?_)
   iterate 2 refine wsp ?_
   refine wlv (v := B_ false) (pkF (by kernel_rfl)) (was (v := B_ false) (wnil (then_n (wp_ret ?_))))
   refine br1 (v := B_ false) rfl ?_
   exact ⟨by rw [part_3 v7 v8 (show _ = false by simp [v12])], (Mod.up M11)⟩
  refine wlw rfl v12 (v := S_ (cutA (cutZ s 126) 46)) (mv) (wl (sc (wt (b := (cutB (cutZ s 126) 46)) rfl (by kernel_rfl) v12) (r_callv (caps := []) (all := [I_ 13, S_ (cutA (cutZ s 126) 46)]) En.f157 (by kernel_rfl) (by kernel_rfl)) (dig_at 13 (cutA (cutZ s 126) 46) (by omega)) ?_))
  rintro e _ ⟨rfl, u14⟩
  refine ⟨_, rfl, ?_⟩
  have M15 := mtu M11 u14
  refine wlv (v := B_ (digB 13 (cutA (cutZ s 126) 46))) (pkT (ebk v12)) (wmv (v := B_ (digB 13 (cutA (cutZ s 126) 46))) ?_)
  refine bcase (digB 13 (cutA (cutZ s 126) 46)) (fun v16 => ?_) (fun v16 => ?_)
  ·
   iterate 2 refine wls rfl v16 ?_
   refine wlv (v := B_ false) (pkF (ebk v16)) (was (v := B_ false) (wnil (then_n (wp_ret ?_))))
   refine br1 (v := B_ false) rfl ?_
   exact ⟨by rw [part_3 v7 v8 (show _ = false by simp [v12, v16])], (Mod.up M15)⟩
  refine wlw rfl v16 (v := S_ (cutZ (cutZ s 126) 46)) (mv) (wl (sc (wt (b := (digB 13 (cutA (cutZ s 126) 46))) rfl (by kernel_rfl) v16) (r_callv (caps := []) (all := [I_ 2, S_ (cutZ (cutZ s 126) 46)]) En.f157 (by kernel_rfl) (by kernel_rfl)) (dig_at 2 (cutZ (cutZ s 126) 46) (by omega)) ?_))
  rintro e _ ⟨rfl, u18⟩
  refine ⟨_, rfl, ?_⟩
  refine wlv (v := B_ (digB 2 (cutZ (cutZ s 126) 46))) (pkT (ebk v16)) (was (v := B_ (digB 2 (cutZ (cutZ s 126) 46))) (wnil (then_n (wp_ret ?_))))
  refine br1 (v := B_ (digB 2 (cutZ (cutZ s 126) 46))) rfl ?_
  exact ⟨by rw [part_3 v7 v8 (show _ = (digB 2 (cutZ (cutZ s 126) 46)) by simp [v12, v16])], (Mod.up (mtu M15 u18))⟩
set_option maxHeartbeats 2000000 in
theorem nopart_at {w : World} (hmx : Mx w) (s : ByteArray) (hs : s.size < 4294967281) : Calls Tryz.prog 107 #[.string s] w fun e w' => e = .returned (.bool (!(partB s))) ∧ Up w w' := by
  go_enter Tryz.func107, Tryz.ntmps107
  refine wp_seq (rg_lit (was (v := B_ false) (wnil (then_n (wp_seq (rg_lit (wmv (v := S_ s) (wl (sca [S_ s] En.f108 (part_at (Mx.up hmx (Mod.up (Mod.refl [] w))) s (by omega)) ?_)))))))))
  rintro e _ ⟨rfl, u2⟩
  refine ⟨_, rfl, ?_⟩
  refine wlv (v := B_ (!(partB s))) (r_not (b := (partB s)) (by kernel_rfl)) (was (v := B_ (!(partB s))) (wnil (then_n (wp_ret ?_))))
  refine br1 (v := B_ (!(partB s))) rfl ?_
  exact ⟨rfl, (Mod.up (mtu (Mod.refl [] w) u2))⟩
set_option maxHeartbeats 2000000 in
theorem indexPart_at {w : World} {l : List ByteArray} {xA : Option Addr} {xc : Nat} (hl : SSRow w (.slice xA l.length xc) l) (hmx : Mx w) (hsz : ∀ x ∈ l, x.size < 4294967281) (hln : l.length ≤ 1000000) : Calls Tryz.prog 155 #[.slice xA l.length xc, .func (.func 107) #[] #[]] w fun e w' => ∃ ix : Int, e = .returned (.int .i64 ix) ∧ ((ix = -1 ∧ l.all partB = true) ∨ (0 ≤ ix ∧ l.all partB = false)) ∧ Up w w' := by
  go_enter Tryz.func155, Tryz.ntmps155
  refine wp_seq (rg_lit (was (v := I_ 0) (wnil (then_n (wp_seq (wp_seq (rg_lit (wmv (v := .slice xA l.length xc) (wlv (v := I_ l.length) (ln xA l.length xc Ty.un69) (wmv (v := I_ 0) (wnil (then_n (wp_block ?_)))))))))))))
  refine lp (fun n a r1 => ∃ (k : Nat), (n = l.length - k) ∧ (HasFr a 19 [(0, .slice xA l.length xc), (1, .func (.func 107) #[] #[]), (7, I_ l.length), (8, I_ k)] []) ∧ (Mod [] w r1) ∧ (k ≤ l.length) ∧ (Hid (∀ (j : Nat) (y : ByteArray), j < k → l[j]? = some y → ¬ partB y = false))) ⟨_, 0, rfl, hmk, Mod.refl _ _, (Nat.zero_le _), (fun j y hj => absurd hj (Nat.not_lt_zero _))⟩ ?_
  rintro _ _ r1 ⟨k, rfl, h1, hM1, _, hF1_1⟩
  obtain ⟨_, rfl⟩ := h1
  have M2 := Mod.thin (Mod.refl [] w) hM1 (by simp)
  refine wp_seq (rg_lit (wl (sb rfl (ltI k l.length) fun _ k4 => wnil (then_n (wp_seq ?_)))))
  refine bcd k4 (fun v5 p6 => ?_) (fun v5 p6 => ?_)
  ·
   refine wp_cond_false (ebk v5) (wp_exit (then_x (by nofun) (then_x (by nofun) (inb_hit (then_n (wp_seq (rg_lit (was (v := I_ (-1)) (wnil (then_n (wp_ret ?_)))))))))))
   refine br1 (v := I_ (-1)) rfl ?_
   exact ⟨-1, rfl, .inl ⟨rfl, idx_no (none_end hF1_1 (by omega))⟩, (Mod.up M2)⟩
  refine wp_cond_true (ebk v5) (wp_skip (then_n (wp_seq (wp_block (wp_seq (rg_lit (wmv (v := I_ k) (was (v := I_ k) (wnil (then_n (wp_seq (rg_lit (wmv (v := .func (.func 107) #[] #[]) (wmv (v := .slice xA l.length xc) (wmv (v := I_ k) ?_)))))))))))))))
  have h9 := (SSRow.up hl (Mod.up M2))
  obtain ⟨y10, hy10⟩ : ∃ x, l[k]? = some x := ⟨_, List.getElem?_eq_getElem (by omega)⟩
  obtain ⟨g10, f10, hA10, _, hc10⟩ := SSRow.get h9 hy10
  refine wlv (v := pt g10 (f10 + k)) (ixa l.length xc 1 k hA10 Ty.un69 Ty.sz9) (wlv (v := S_ y10) (r_loadc (by kernel_rfl) Ty.ag9 hc10) (wl (sca [S_ y10] En.f107 (nopart_at (Mx.up hmx (Mod.up M2)) y10 (hsz _ (List.mem_of_getElem? hy10))) ?_)))
  rintro e _ ⟨rfl, u12⟩
  refine ⟨_, rfl, ?_⟩
  refine wnil (then_n ?_)
  refine bcase (partB y10) (fun v15 => ?_) (fun v15 => ?_)
  ·
   refine wp_cond_true (ebk (bneg v15)) (wp_seq (rg_lit (wmv (v := I_ k) (was (v := I_ k) (wnil (then_n (wp_ret (inb_r (then_x (by nofun) (then_x (by nofun) (inb_r (then_x (by nofun) ?_))))))))))))
   refine br1 (v := I_ k) rfl ?_
   exact ⟨_, rfl, .inr ⟨by omega, idx_yes hy10 v15⟩, (Mod.up (mtu M2 u12))⟩
  refine wp_cond_false (ebk (bneg v15)) (wp_skip (inb_n (then_n (rg_lit (wlv (v := N_ (k + 1)) (adN k 1) (wmv (v := N_ (k + 1)) (wnil (then_n ?_))))))))
  refine ⟨l.length - (k + 1), ?_, (k + 1), rfl, hmk, (mtu hM1 u12), (by omega), (none_next (p := fun y => partB y = false) hF1_1 hy10 (by rw [v15]; decide))⟩
  · omega
set_option maxHeartbeats 2000000 in
theorem anyPart_at {w : World} {l : List ByteArray} {xA : Option Addr} {xc : Nat} (hl : SSRow w (.slice xA l.length xc) l) (hmx : Mx w) (hsz : ∀ x ∈ l, x.size < 4294967281) (hln : l.length ≤ 1000000) : Calls Tryz.prog 106 #[.slice xA l.length xc, .func (.func 107) #[] #[]] w fun e w' => e = .returned (.bool (!(l.all partB))) ∧ Up w w' := by
  go_enter Tryz.func106, Tryz.ntmps106
  refine wp_seq (rg_lit (was (v := B_ false) (wnil (then_n (wp_seq (rg_lit (wmv (v := .slice xA l.length xc) (wmv (v := .func (.func 107) #[] #[]) (wl (sca [.slice xA l.length xc, .func (.func 107) #[] #[]] En.f155 (indexPart_at hl (Mx.up hmx (Mod.up (Mod.refl [] w))) hsz hln) ?_))))))))))
  rintro e w1 ⟨i2, rfl, h3, u4⟩
  rcases h3 with ⟨rfl, h5⟩ | ⟨h6, h5⟩
  ·
   refine ⟨_, rfl, ?_⟩
   refine wl (sv (w' := w1) rfl (v := B_ false) (by kernel_rfl) (was (v := B_ false) (wnil (then_n (wp_ret ?_)))))
   refine br1 (v := B_ false) rfl ?_
   exact ⟨by rw [h5]; rfl, (Mod.up (mtu (Mod.refl [] w) u4))⟩
  ·
   refine ⟨_, rfl, ?_⟩
   refine wl (sb rfl (r_ge (k := .i64) (m := i2) (n := 0) (by kernel_rfl) (by kernel_rfl)) fun b8 k9 => was (v := B_ b8) (wnil (then_n (wp_ret ?_))))
   refine br1 (v := B_ b8) rfl ?_
   exact ⟨by rw [h5, ← k9, decide_eq_true h6]; rfl, (Mod.up (mtu (Mod.refl [] w) u4))⟩
set_option maxHeartbeats 2000000 in
theorem showP_at {w : World} {l : List ByteArray} {xA : Option Addr} {xc : Nat} (hl : SSRow w (.slice xA l.length xc) l) (hmx : Mx w) (hsz : ∀ x ∈ l, x.size < 4294967281) (hln : l.length ≤ 1000000) (hj : (joinB l).size ≤ 1000000) : Calls Tryz.prog 46 #[.slice xA l.length xc] w fun e w' => e = .returned (.tuple #[.string (showB l), .int .i64 (showK l)]) ∧ Up w w' := by
  go_enter Tryz.func46, Tryz.ntmps46
  refine wp_seq (rg_lit (was (v := S_ (⟨#[]⟩)) (was (v := I_ 0) (wnil (then_n (wp_seq (wp_seq (rg_lit (wmv (v := .slice xA l.length xc) (wlv (v := I_ l.length) (ln xA l.length xc Ty.un69) (wl (sb rfl (r_gt (k := .i64) (m := (l.length : Int)) (n := 16) (by kernel_rfl) (by kernel_rfl)) fun b1 k2 => wmv (v := B_ b1) ?_))))))))))))
  refine bcd k2 (fun v3 p4 => ?_) (fun v3 p4 => ?_)
  ·
   refine wlw rfl v3 (v := .slice xA l.length xc) (mv) (wl (sc (wt (b := b1) rfl (by kernel_rfl) v3) (r_callv (caps := []) (all := [.slice xA l.length xc, .func (.func 107) #[] #[]]) En.f106 (by kernel_rfl) (by kernel_rfl)) (anyPart_at hl (Mx.up hmx (Mod.up (Mod.refl [] w))) hsz hln) ?_))
   rintro e _ ⟨rfl, u6⟩
   refine ⟨_, rfl, ?_⟩
   have M7 := mtu (Mod.refl [] w) u6
   refine wlv (v := B_ (!(l.all partB))) (pkF (ebk v3)) (wnil (then_n ?_))
   refine bcase (l.all partB) (fun v8 => ?_) (fun v8 => ?_)
   ·
    refine wp_cond_true (ebk (bneg v8)) (wp_seq (rg_lit (was (v := S_ (⟨#[]⟩)) (was (v := I_ 17) (wnil (then_n (wp_ret (then_x (by nofun) ?_))))))))
    refine br2 (v := S_ (⟨#[]⟩)) (u := I_ 17) rfl ?_
    exact ⟨show_ret (show_2 v8), (Mod.up M7)⟩
   refine wp_cond_false (ebk (bneg v8)) (wp_skip (then_n (wp_seq (rg_lit (wmv (v := .slice xA l.length xc) ?_)))))
   have h9 := (SSRow.up hl (Mod.up M7))
   refine wl (sca [.slice xA l.length xc, S_ (⟨#[47]⟩)] En.f102 (join_at h9 (by omega) hj) ?_)
   rintro e _ ⟨rfl, u11⟩
   refine ⟨_, rfl, ?_⟩
   refine wlv (v := S_ ((⟨#[47]⟩ : ByteArray) ++ (joinB l))) (r_adds (m := (⟨#[47]⟩)) (n := (joinB l)) (by kernel_rfl) (by kernel_rfl) (by have : (⟨#[47]⟩ : ByteArray).size = 1 := rfl; omega)) (was (v := S_ ((⟨#[47]⟩ : ByteArray) ++ (joinB l))) (was (v := I_ 0) (wnil (then_n (wp_ret ?_)))))
   refine br2 (v := S_ ((⟨#[47]⟩ : ByteArray) ++ (joinB l))) (u := I_ 0) rfl ?_
   exact ⟨show_ret (show_3 (by omega) v8), (Mod.up (mtu M7 u11))⟩
  iterate 2 refine wls rfl v3 ?_
  refine wlv (v := B_ true) (pkT (ebk v3)) (wnil (then_n (wp_cond_true (by kernel_rfl) (wp_seq (rg_lit (was (v := S_ (⟨#[]⟩)) (was (v := I_ 17) (wnil (then_n (wp_ret (then_x (by nofun) ?_)))))))))))
  refine br2 (v := S_ (⟨#[]⟩)) (u := I_ 17) rfl ?_
  exact ⟨show_ret (show_1 (by omega)), (Mod.up (Mod.refl [] w))⟩
end Go.Proofs.YtefhfoioeoijlaaGreatDoor
set_option linter.unusedVariables false
set_option linter.unusedSimpArgs false
namespace Go.Proofs.YtefhfoioeoijlaaGreatDoor
open Go Go.RowKit Go.Sort
def splC (c : UInt8) : List UInt8 → List (List UInt8)
  | [] => [[]]
  | b :: l => if b = c then [] :: splC c l else match splC c l with
    | [] => [[b]]
    | x :: t => (b :: x) :: t
theorem splC_ne (c : UInt8) : ∀ s, splC c s ≠ []
  | [] => by simp [splC]
  | b :: l => by unfold splC; split <;> (try split) <;> simp
theorem splC_hit {c : UInt8} {l : List UInt8} : splC c (c :: l) = [] :: splC c l := by simp [splC]
theorem splC_miss {c b : UInt8} {l x : List UInt8} {t : List (List UInt8)} (h : b ≠ c) (e : splC c l = x :: t) : splC c (b :: l) = (b :: x) :: t := by
  conv => lhs; unfold splC
  rw [if_neg h, e]
theorem splitK_is (c : UInt8) : ∀ s : List UInt8, Lib.splitK [c] 0 (Lib.count s [c]) s = splC c s
  | [] => by rw [Lib.count_miss (by simp [Lib.index])]; rfl
  | b :: l => by
    have ih := splitK_is c l
    by_cases h : b = c
    · subst h
      rw [Lib.count_cons_eq, Nat.add_comm, splC_hit, ← ih]
      have hix : Lib.index (b :: l) [b] = 0 := by rw [Lib.index]; simp [List.isPrefixOf]
      conv => lhs; unfold Lib.splitK
      rw [hix]; simp
    · rw [Lib.count_cons_ne b c l h]
      have hp : ([c] : List UInt8).isPrefixOf (b :: l) = false := by simp [List.isPrefixOf, Ne.symm h]
      have hix : Lib.index (b :: l) [c] = if Lib.index l [c] == -1 then -1 else Lib.index l [c] + 1 := by rw [Lib.index, hp]; simp
      cases hk : Lib.count l [c] with
      | zero => rw [hk] at ih; exact (splC_miss h (t := []) ih.symm).symm
      | succ k =>
        rw [hk] at ih
        have hm : Lib.index l [c] ≠ -1 := fun e => by rw [Lib.count_miss e] at hk; omega
        have hge := Lib.index_ge l [c]
        obtain ⟨j, hj⟩ : ∃ j : Nat, Lib.index l [c] = j := ⟨(Lib.index l [c]).toNat, by omega⟩
        have hix' : Lib.index (b :: l) [c] = ((j + 1 : Nat) : Int) := by rw [hix, if_neg (fun e => hm (beq_iff_eq.1 e)), hj]; omega
        unfold Lib.splitK at ih ⊢
        rw [if_neg (fun e => hm (beq_iff_eq.1 e)), hj] at ih
        rw [hix', if_neg (fun e => by have := beq_iff_eq.1 e; omega)]
        have e2 := splC_miss h ih.symm
        rw [e2]; simp
theorem join_cons2 (x y : List UInt8) (t : List (List UInt8)) (c : UInt8) : Lib.join (x :: y :: t) [c] = x ++ ([c] ++ Lib.join (y :: t) [c]) := by simp [Lib.join, List.intercalate, List.intersperse]
theorem join_splC (c : UInt8) : ∀ s, Lib.join (splC c s) [c] = s
  | [] => by simp [splC, Lib.join_one]
  | b :: l => by
    have ih := join_splC c l
    cases e : splC c l with
    | nil => exact absurd e (splC_ne c l)
    | cons x t =>
      rw [e] at ih
      by_cases h : b = c
      · subst h; rw [splC_hit, e, join_cons2, ih]; rfl
      · rw [splC_miss h e]
        cases t with
        | nil => rw [Lib.join_one] at ih ⊢; rw [ih]
        | cons y t => rw [join_cons2] at ih ⊢; rw [← ih]; simp
theorem splC_no (c : UInt8) : ∀ s, ∀ x ∈ splC c s, c ∉ x
  | [], x, hx => by simp [splC] at hx; subst hx; simp
  | b :: l, x, hx => by
    have ih := splC_no c l
    cases e : splC c l with
    | nil => exact absurd e (splC_ne c l)
    | cons y t =>
      rw [e] at ih
      by_cases h : b = c
      · subst h; rw [splC_hit, e] at hx
        rcases List.mem_cons.1 hx with rfl | hx
        · simp
        · exact ih x hx
      · rw [splC_miss h e] at hx
        rcases List.mem_cons.1 hx with rfl | hx
        · have := ih y (by simp); simp [this, Ne.symm h]
        · exact ih x (by simp [hx])
theorem splC_app {c : UInt8} : ∀ {x : List UInt8} (l : List UInt8), c ∉ x → splC c (x ++ c :: l) = x :: splC c l
  | [], l, _ => splC_hit
  | b :: x, l, h => by
    have hb : b ≠ c := fun e => h (by simp [e])
    exact splC_miss hb (splC_app l (fun e => h (by simp [e])))
theorem splC_one {c : UInt8} : ∀ {x : List UInt8}, c ∉ x → splC c x = [x]
  | [], _ => rfl
  | b :: x, h => by
    have hb : b ≠ c := fun e => h (by simp [e])
    exact splC_miss hb (splC_one (fun e => h (by simp [e])))
theorem splC_len (c : UInt8) (s : List UInt8) : ∀ x ∈ splC c s, x.length ≤ s.length := by
  induction s with
  | nil => intro x hx; simp [splC] at hx; subst hx; simp
  | cons b l ih =>
    intro x hx
    cases e : splC c l with
    | nil => exact absurd e (splC_ne c l)
    | cons y t =>
      rw [e] at ih
      by_cases h : b = c
      · subst h; rw [splC_hit, e] at hx
        rcases List.mem_cons.1 hx with rfl | hx
        · simp
        · have := ih x hx; simp; omega
      · rw [splC_miss h e] at hx
        rcases List.mem_cons.1 hx with rfl | hx
        · have := ih y (by simp); simp; omega
        · have := ih x (by simp [hx]); simp; omega
theorem splC_count (c : UInt8) : ∀ s, (splC c s).length ≤ s.length + 1
  | [] => by simp [splC]
  | b :: l => by
    have ih := splC_count c l
    cases e : splC c l with
    | nil => exact absurd e (splC_ne c l)
    | cons y t =>
      rw [e] at ih
      by_cases h : b = c
      · subst h; rw [splC_hit, e]; simp at ih ⊢; omega
      · rw [splC_miss h e]; simp at ih ⊢; omega
def bys (l : List UInt8) : ByteArray := ⟨l.toArray⟩
theorem bys_of (x : ByteArray) : bys x.data.toList = x := by cases x; simp [bys]
def splB (s : ByteArray) : List ByteArray := (splC 47 s.data.toList).map bys
theorem splB_data (s : ByteArray) : (splB s).map (·.data.toList) = splC 47 s.data.toList := by
  unfold splB; rw [List.map_map]; exact List.map_id _
theorem data_inj {L M : List ByteArray} (h : L.map (·.data.toList) = M.map (·.data.toList)) : L = M := by
  have := congrArg (List.map bys) h
  rw [List.map_map, List.map_map] at this
  have e : (bys ∘ fun x : ByteArray => x.data.toList) = id := by funext x; exact bys_of x
  rwa [e, List.map_id, List.map_id] at this
theorem splB_is (s : ByteArray) : Lib.splitB ⟨#[47]⟩ 0 (Lib.countB s ⟨#[47]⟩) s = splB s := by
  refine data_inj ?_
  rw [splB_data, Lib.splitB_data]
  exact splitK_is 47 s.data.toList
theorem joinB_splB (s : ByteArray) : joinB (splB s) = s := by
  unfold joinB; rw [splB_data, join_splC]
theorem splB_ne (s : ByteArray) : splB s ≠ [] := by unfold splB; simpa using splC_ne 47 s.data.toList
theorem splB_size {s x : ByteArray} (hx : x ∈ splB s) : x.size ≤ s.size := by
  obtain ⟨y, hy, rfl⟩ := List.mem_map.1 hx
  have h := splC_len 47 _ y hy
  have e1 : (bys y).size = y.length := by simp [bys, ByteArray.size]
  have e2 : s.size = s.data.toList.length := by simp
  omega
theorem splB_len (s : ByteArray) : (splB s).length ≤ s.size + 1 := by
  unfold splB; rw [List.length_map]
  have h := splC_count 47 s.data.toList
  have e2 : s.size = s.data.toList.length := by simp
  omega
abbrev NewS (n : Nat) (v : Value) : Prop := ∀ k, v.ownBlock = some k → n ≤ k
theorem NewS.ne {n b : Nat} {v : Value} (h : NewS n v) (e : b < n) : v.ownBlock ≠ some b := fun hh => by have := h _ hh; omega
theorem NewS.old {m n : Nat} {v : Value} (h : NewS n v) (e : m ≤ n) : NewS m v := fun k hk => Nat.le_trans e (h k hk)
theorem NewS.nil {n m c : Nat} : NewS n (.slice none m c) := fun k hk => by cases hk
theorem SSRow.chgm {w w' : World} {b : Nat} {v : Value} {L : List ByteArray} (h : SSRow w v L) (c : Chg w w' b) (hn : v.ownBlock ≠ some b) : SSRow w' v L := by
  obtain ⟨A, cp, rfl, hc, h0 | ⟨g, f, rfl, hg, hcell⟩⟩ := h
  · exact ⟨A, cp, rfl, hc, .inl h0⟩
  · refine ⟨_, cp, rfl, hc, .inr ⟨g, f, rfl, Nat.lt_of_lt_of_le hg c.size, fun j x hx => ?_⟩⟩
    have e := c.block g hg hn
    have h2 := hcell j x hx
    simp only [World.cell?] at h2 ⊢
    rw [e]; exact h2
theorem split_at {w : World} (hm : Mx w) (s : ByteArray) (hs : s.size < 4294967281) : Calls Tryz.prog 104 #[.string s, .string ⟨#[47]⟩] w fun e w' => ∃ A, e = .returned (.slice A (splB s).length (splB s).length) ∧ SSRow w' (.slice A (splB s).length (splB s).length) (splB s) ∧ NewS w.heap.size (.slice A (splB s).length (splB s).length) ∧ Up w w' := by
  obtain ⟨m, hm⟩ := hm
  refine (Tryz.strings_Split s ⟨#[47]⟩ m w hs hm (by decide)).mono ?_
  rintro e w' ⟨rfl, rfl⟩
  have hl : (splB s).length = Lib.countB s ⟨#[47]⟩ + 1 := by rw [← splB_is]; exact Lib.splitB_all ⟨#[47]⟩ (by decide) 0 _ s rfl
  refine ⟨_, by rw [hl], ⟨_, _, rfl, Nat.le_refl _, .inr ⟨w.heap.size, 0, rfl, Nat.lt_of_lt_of_eq (Nat.lt_succ_self _) (Array.size_push _).symm, fun j x hx => ?_⟩⟩, ?_, ?_⟩
  · rw [splB_is]
    have e : (w.alloc (.cells ((splB s).map Value.string).toArray 9)).heap[w.heap.size]? = some (.cells ((splB s).map Value.string).toArray 9) := Array.getElem?_push_size
    show World.cell? _ _ = _
    simp only [World.cell?, e, Nat.zero_add, List.getElem?_toArray, List.getElem?_map, hx, Option.map_some]; rfl
  · intro k hk; injection hk with hk; rw [← hk]; exact Nat.le_refl _
  · exact up_alloc _ _
theorem join_size (L : List ByteArray) : (joinB L).size = (Lib.join (L.map (·.data.toList)) [47]).length := by simp [joinB, ByteArray.size]
def parseL (s : ByteArray) : List ByteArray := if slashB s = false then [] else if restB s = ⟨#[]⟩ then [] else if showK (splB (restB s)) = 0 then splB (restB s) else []
def parseK (s : ByteArray) : Int := if slashB s = false then 17 else if restB s = ⟨#[]⟩ then 0 else showK (splB (restB s))
theorem parse_1 {s : ByteArray} (h : slashB s = false) : parseL s = [] ∧ parseK s = 17 := by unfold parseL parseK; rw [if_pos h, if_pos h]; exact ⟨rfl, rfl⟩
theorem slash_t {s : ByteArray} (h : slashB s = true) : ¬ slashB s = false := by rw [h]; decide
theorem parse_2 {s : ByteArray} (h : slashB s = true) (h1 : restB s = ⟨#[]⟩) : parseL s = [] ∧ parseK s = 0 := by
  unfold parseL parseK; rw [if_neg (slash_t h), if_neg (slash_t h), if_pos h1, if_pos h1]; exact ⟨rfl, rfl⟩
theorem parse_3 {s : ByteArray} (h : slashB s = true) (h1 : ¬ restB s = ⟨#[]⟩) (h2 : showK (splB (restB s)) ≠ 0) : parseL s = [] ∧ parseK s = showK (splB (restB s)) := by
  unfold parseL parseK; rw [if_neg (slash_t h), if_neg (slash_t h), if_neg h1, if_neg h1, if_neg h2]; exact ⟨rfl, rfl⟩
theorem parse_4 {s : ByteArray} (h : slashB s = true) (h1 : ¬ restB s = ⟨#[]⟩) (h2 : showK (splB (restB s)) = 0) : parseL s = splB (restB s) ∧ parseK s = 0 := by
  unfold parseL parseK; rw [if_neg (slash_t h), if_neg (slash_t h), if_neg h1, if_neg h1, if_pos h2]; exact ⟨rfl, h2⟩
theorem SSRow.zero (w : World) : SSRow w (.slice none 0 0) [] := ⟨none, 0, rfl, Nat.le_refl _, .inl rfl⟩
theorem SSRow.capq {w : World} {A : Option Addr} {c : Nat} {L : List ByteArray} (h : SSRow w (.slice A L.length c) L) : L.length ≤ c := by
  obtain ⟨A', c', e, hc, _⟩ := h
  injection e with e1 _ e3; omega
theorem restB_size (s : ByteArray) : (restB s).size ≤ s.size := by
  have h : (restB s).size = (Lib.trimPrefix s.data.toList [47]).length := by simp [restB, ByteArray.size]
  have h2 : s.size = s.data.toList.length := by simp
  rw [h, h2]; unfold Lib.trimPrefix; split <;> simp
def cleanS (out : List ByteArray) (p : ByteArray) : List ByteArray := if p = ⟨#[]⟩ then out else if p = ⟨#[46]⟩ then out else if p = ⟨#[46, 46]⟩ then out.take (out.length - 1) else out ++ [p]
def cleanO (s : ByteArray) : List ByteArray := (splB (restB s)).foldl cleanS []
def cleanB (s : ByteArray) : ByteArray := if slashB s = false then ⟨#[]⟩ else showB (cleanO s)
def cleanK (s : ByteArray) : Int := if slashB s = false then 17 else showK (cleanO s)
theorem clean_1 {s : ByteArray} (h : slashB s = false) : cleanB s = ⟨#[]⟩ ∧ cleanK s = 17 := by unfold cleanB cleanK; rw [if_pos h, if_pos h]; exact ⟨rfl, rfl⟩
theorem clean_2 {s : ByteArray} (h : slashB s = true) : cleanB s = showB (cleanO s) ∧ cleanK s = showK (cleanO s) := by unfold cleanB cleanK; rw [if_neg (slash_t h), if_neg (slash_t h)]; exact ⟨rfl, rfl⟩
theorem clS_a {out : List ByteArray} {p : ByteArray} (h : p = ⟨#[]⟩) : cleanS out p = out := by unfold cleanS; rw [if_pos h]
theorem clS_b {out : List ByteArray} {p : ByteArray} (h : p = ⟨#[46]⟩) : cleanS out p = out := by subst h; rfl
theorem clS_c {out : List ByteArray} {p : ByteArray} (h : p = ⟨#[46, 46]⟩) : cleanS out p = out.take (out.length - 1) := by subst h; rfl
theorem clS_d {out : List ByteArray} {p : ByteArray} (h1 : ¬ p = ⟨#[]⟩) (h2 : ¬ p = ⟨#[46]⟩) (h3 : ¬ p = ⟨#[46, 46]⟩) : cleanS out p = out ++ [p] := by unfold cleanS; rw [if_neg h1, if_neg h2, if_neg h3]
theorem clean_next {l out : List ByteArray} {k : Nat} {p : ByteArray} (hp : l[k]? = some p) (h : (l.drop k).foldl cleanS out = l.foldl cleanS []) : (l.drop (k + 1)).foldl cleanS (cleanS out p) = l.foldl cleanS [] := by
  have hk := (List.getElem?_eq_some_iff.1 hp)
  rw [List.drop_eq_getElem_cons hk.1, hk.2] at h
  exact h
theorem clean_end {l out : List ByteArray} {k : Nat} (hk : ¬ k < l.length) (h : (l.drop k).foldl cleanS out = l.foldl cleanS []) : out = l.foldl cleanS [] := by
  rwa [List.drop_eq_nil_of_le (by omega)] at h
theorem clean_mem (l : List ByteArray) : ∀ {out : List ByteArray}, ∀ x ∈ l.foldl cleanS out, x ∈ out ∨ x ∈ l := by
  induction l with
  | nil => intro out x hx; exact .inl hx
  | cons p l ih =>
    intro out x hx
    rcases ih (out := cleanS out p) x hx with h | h
    · unfold cleanS at h
      repeat' split at h
      · exact .inl h
      · exact .inl h
      · exact .inl (List.mem_of_mem_take h)
      · rcases List.mem_append.1 h with h | h
        · exact .inl h
        · simp at h; exact .inr (by simp [h])
    · exact .inr (by simp [h])
theorem clean_le (l : List ByteArray) : ∀ {out : List ByteArray}, (l.foldl cleanS out).length ≤ out.length + l.length := by
  induction l with
  | nil => intro out; simp
  | cons p l ih =>
    intro out
    have h := ih (out := cleanS out p)
    have h2 : (cleanS out p).length ≤ out.length + 1 := by
      unfold cleanS; repeat' split
      · omega
      · omega
      · rw [List.length_take]; omega
      · simp
    simp only [List.foldl_cons, List.length_cons]; omega
def wid (L : List ByteArray) : Nat := (L.map fun x => x.size + 1).sum
theorem join_wid : ∀ L : List ByteArray, (joinB L).size ≤ wid L ∧ (L ≠ [] → (joinB L).size + 1 = wid L)
  | [] => ⟨Nat.zero_le _, fun h => absurd rfl h⟩
  | [x] => by
    have e : (joinB [x]).size = x.size := by rw [join_size]; simp [Lib.join_one]
    simp only [wid, List.map_cons, List.map_nil, List.sum_cons, List.sum_nil]
    exact ⟨by omega, fun _ => by omega⟩
  | x :: y :: t => by
    have ih := (join_wid (y :: t)).2 (by simp)
    have e : (joinB (x :: y :: t)).size = x.size + (1 + (joinB (y :: t)).size) := by rw [join_size, join_size, List.map_cons, List.map_cons, join_cons2]; simp only [List.length_append, List.length_cons, List.length_nil, List.map_cons]; simp
    have e2 : wid (x :: y :: t) = x.size + 1 + wid (y :: t) := by simp [wid]
    exact ⟨by omega, fun _ => by omega⟩
theorem wid_app (L M : List ByteArray) : wid (L ++ M) = wid L + wid M := by simp [wid]
theorem clean_wid (l : List ByteArray) : ∀ {out : List ByteArray}, wid (l.foldl cleanS out) ≤ wid out + wid l := by
  induction l with
  | nil => intro out; simp [wid]
  | cons p l ih =>
    intro out
    have h := ih (out := cleanS out p)
    have e2 : wid (p :: l) = p.size + 1 + wid l := by simp [wid]
    have h2 : wid (cleanS out p) ≤ wid out + (p.size + 1) := by
      unfold cleanS; repeat' split
      · omega
      · omega
      · have e3 : wid out = wid (out.take (out.length - 1)) + wid (out.drop (out.length - 1)) := by
          rw [← wid_app, List.take_append_drop]
        omega
      · rw [wid_app]; simp [wid]
    rw [List.foldl_cons]; omega
theorem cleanO_size (s : ByteArray) : (joinB (cleanO s)).size ≤ s.size + 1 := by
  have h1 := (join_wid (cleanO s)).1
  have h2 : wid (cleanO s) ≤ wid [] + wid (splB (restB s)) := clean_wid (splB (restB s)) (out := [])
  have h3 := (join_wid (splB (restB s))).2 (splB_ne _)
  rw [joinB_splB] at h3
  have h4 := restB_size s
  have h5 : wid [] = 0 := rfl
  omega
theorem parse_fin {w w' : World} {s : ByteArray} {l : List ByteArray} {k : Int} {A : Option Addr} {c : Nat} (h : parseL s = l ∧ parseK s = k) (hr : SSRow w' (.slice A l.length c) l) (hn : NewS w.heap.size (.slice A l.length c)) (u : Up w w') : ∃ A' c', Ending.returned (.tuple #[.slice A l.length c, .int .i64 k]) = .returned (.tuple #[.slice A' (parseL s).length c', .int .i64 (parseK s)]) ∧ SSRow w' (.slice A' (parseL s).length c') (parseL s) ∧ NewS w.heap.size (.slice A' (parseL s).length c') ∧ Up w w' := by
  rw [h.1, h.2]; exact ⟨A, c, rfl, hr, hn, u⟩
theorem parseL_or (s : ByteArray) : parseL s = [] ∨ parseL s = splB (restB s) := by
  unfold parseL; repeat' split
  · exact .inl rfl
  · exact .inl rfl
  · exact .inr rfl
  · exact .inl rfl
theorem rest_parts {s : ByteArray} (hs : s.size ≤ 100000) : (∀ x ∈ splB (restB s), x.size < 4294967281) ∧ (splB (restB s)).length ≤ 1000000 ∧ (joinB (splB (restB s))).size ≤ 1000000 := by
  have h1 := restB_size s
  have h2 := splB_len (restB s)
  refine ⟨fun x hx => by have := splB_size hx; omega, by omega, by rw [joinB_splB]; omega⟩
theorem parse_parts {s : ByteArray} (hs : s.size ≤ 100000) : (∀ x ∈ parseL s, x.size < 4294967281) ∧ (parseL s).length ≤ 1000000 ∧ (joinB (parseL s)).size ≤ 1000000 := by
  rcases parseL_or s with h | h <;> rw [h]
  · exact ⟨fun x hx => absurd hx (by simp), by simp, by decide⟩
  · exact rest_parts hs
theorem clean_parts {s : ByteArray} (hs : s.size ≤ 100000) : (∀ x ∈ cleanO s, x.size < 4294967281) ∧ (cleanO s).length ≤ 1000000 ∧ (joinB (cleanO s)).size ≤ 1000000 := by
  have h0 := rest_parts hs
  refine ⟨fun x hx => ?_, ?_, ?_⟩
  · rcases clean_mem _ x hx with h | h
    · cases h
    · exact h0.1 x h
  · have h1 : (cleanO s).length ≤ ([] : List ByteArray).length + (splB (restB s)).length := clean_le _
    have h2 := splB_len (restB s)
    have h3 := restB_size s
    simp at h1
    omega
  · have := cleanO_size s; omega
def wkS (L : List Item) : List ByteArray → Stamp → Stamp × Int
  | [], m => (m, 0)
  | p :: l, m => if findK L m p = 0 then wkS L l (findE L m p).node else (nilS, findK L m p)
def walkS (L : List Item) (s : ByteArray) : Stamp := if parseK s = 0 then (wkS L (parseL s) nilS).1 else nilS
def walkK (L : List Item) (s : ByteArray) : Int := if parseK s = 0 then (wkS L (parseL s) nilS).2 else parseK s
theorem wk_go {L : List Item} {l : List ByteArray} {k : Nat} {p : ByteArray} {m : Stamp} (hp : l[k]? = some p) (h : findK L m p = 0) : wkS L (l.drop k) m = wkS L (l.drop (k + 1)) (findE L m p).node := by
  have hk := (List.getElem?_eq_some_iff.1 hp)
  rw [List.drop_eq_getElem_cons hk.1, hk.2]
  conv => lhs; unfold wkS
  rw [if_pos h]
theorem wk_no {L : List Item} {l : List ByteArray} {k : Nat} {p : ByteArray} {m : Stamp} (hp : l[k]? = some p) (h : findK L m p ≠ 0) : wkS L (l.drop k) m = (nilS, findK L m p) := by
  have hk := (List.getElem?_eq_some_iff.1 hp)
  rw [List.drop_eq_getElem_cons hk.1, hk.2]
  unfold wkS
  rw [if_neg h]
theorem walk_bad {L : List Item} {s : ByteArray} (h : parseK s ≠ 0) : walkS L s = ⟨0, 0⟩ ∧ walkK L s = parseK s := by unfold walkS walkK; rw [if_neg h, if_neg h]; exact ⟨rfl, rfl⟩
theorem walk_is {L : List Item} {s : ByteArray} {m : Stamp} {k : Int} (h : parseK s = 0) (e : wkS L (parseL s) ⟨0, 0⟩ = (m, k)) : walkS L s = m ∧ walkK L s = k := by
  have e' : wkS L (parseL s) nilS = (m, k) := e
  unfold walkS walkK; rw [if_pos h, if_pos h, e']; exact ⟨rfl, rfl⟩
theorem wk_end {L : List Item} {l : List ByteArray} {k : Nat} {m : Stamp} (hk : ¬ k < l.length) : wkS L (l.drop k) m = (m, 0) := by rw [List.drop_eq_nil_of_le (by omega)]; rfl
theorem walk_ret {L : List Item} {s : ByteArray} {a b k : Int} (h : walkS L s = ⟨a, b⟩ ∧ walkK L s = k) : Ending.returned (.tuple #[.agg #[.int .i64 a, .int .i64 b], .int .i64 k]) = .returned (.tuple #[.agg #[.int .i64 (walkS L s).t, .int .i64 (walkS L s).w], .int .i64 (walkK L s)]) := by rw [h.1, h.2]
theorem clean_ret {s b : ByteArray} {k : Int} (h : cleanB s = b ∧ cleanK s = k) : Ending.returned (.tuple #[.string b, .int .i64 k]) = .returned (.tuple #[.string (cleanB s), .int .i64 (cleanK s)]) := by rw [h.1, h.2]
theorem r_slHi {P : Program} {d : Option Tmp} {ty : TypeId} {pos : String} {af : Array Edge} {gd : Option (Nat × Bool)} {ρ : Operand → Value} {w w' : World} {t : TypeId} {x hi : Operand} {A : Option Addr} {c k : Nat} {j : Int} {L : List ByteArray} (h : SSRow w' (.slice A L.length c) L) (hx : ρ x = .slice A L.length c) (hhi : ρ hi = .int .i64 j) (hj : j = (k : Int)) (hu : P.underlying t = some (.slice 9)) (hsz : ∀ w, (sizeOf 9).run P w = .ok 1 w) (hk : k ≤ L.length) :
    (execOp ρ ⟨d, .slice t x none (some hi) none, ty, pos, af, gd⟩).run P w = .ok (.value (.slice A k c)) w := by
  subst hj
  have hc := h.capq
  have h1 : (0 : Int) ≤ (k : Int) ∧ (k : Int) ≤ (c : Int) := by omega
  obtain ⟨A', c', e, _, h0 | ⟨g, f, rfl, hg, hcell⟩⟩ := h
  · injection e with e1 _ e3
    subst h0
    have hk0 : k = 0 := by simpa using hk
    subst hk0
    cases A with
    | none => simp [execOp, hx, hhi, Instr.sliceAt, Instr.slice, Instr.sliceBounds, Instr.sliceBound, asIntOf, run_underlying hu, hsz]
    | some a => simp [execOp, hx, hhi, Instr.sliceAt, Instr.slice, Instr.sliceBounds, Instr.sliceBound, asIntOf, run_underlying hu, hsz, add_at]; intro _; cases a; simp [Addr.add]
  · injection e with e1 _ e3
    subst e1
    have h2 : k ≤ c := by omega
    simp [execOp, hx, hhi, Instr.sliceAt, Instr.slice, Instr.sliceBounds, Instr.sliceBound, asIntOf, run_underlying hu, hsz, h1, h2, add_at]
theorem BRow.ss {base : Nat} {w : World} {v : Value} {L : List ByteArray} (h : BRow base w v L) : SSRow w v L := by
  obtain ⟨hl, ⟨rfl, h0⟩ | ⟨g, cap, cur, rfl, hb, hg, hc, hm, hcs, htk⟩⟩ := h
  · have hL : L = [] := List.length_eq_zero_iff.1 h0
    subst hL
    exact SSRow.zero _
  · refine ⟨_, _, rfl, hc, .inr ⟨g, 0, rfl, lt_ob hg, fun j x hx => ?_⟩⟩
    have hj := (List.getElem?_eq_some_iff.1 hx).1
    have h1 : (L.map Value.string)[j]? = some (.string x) := by rw [List.getElem?_map, hx]; rfl
    rw [← htk, List.getElem?_take, if_pos (by omega), Array.getElem?_toList] at h1
    simp only [World.cell?, hg, Nat.zero_add]
    exact h1
theorem BRow.pre {base : Nat} {w : World} {A : Option Addr} {c k : Nat} {L : List ByteArray} (h : BRow base w (.slice A L.length c) L) (hk : k ≤ L.length) : BRow base w (.slice A (L.take k).length c) (L.take k) := by
  obtain ⟨hl, ⟨e, h0⟩ | ⟨g, cap, cur, e, hb, hg, hc, hm, hcs, htk⟩⟩ := h
  · have hL : L = [] := List.length_eq_zero_iff.1 h0
    subst hL
    injection e with e1 e2 e3
    subst e1; subst e3
    rw [List.take_nil]
    exact BRow.nil _ _
  · injection e with e1 e2 e3
    subst e1; subst e3
    refine ⟨by simp, .inr ⟨g, c, cur, rfl, hb, hg, by rw [List.length_take]; omega, hm, hcs, ?_⟩⟩
    rw [List.map_take, ← htk, List.take_take, List.length_take]
    congr 1
    omega
theorem r_max0 {P : Program} {d : Option Tmp} {ty : TypeId} {pos : String} {af : Array Edge} {g : Option (Nat × Bool)} {ρ : Operand → Value} {w : World} {t u : TypeId} {x y : Operand} {a b : Int} {m : Nat} (hx : ρ x = .int .i64 a) (hy : ρ y = .int .i64 b) (h : (if b > a then b else a) = (m : Int)) :
    (execOp ρ ⟨d, .call ⟨.builtin .max, #[x, y], #[t, u]⟩, ty, pos, af, g⟩).run P w = .ok (.value (.int .i64 (m : Int))) w := by
  rw [← h]
  simp [execOp, resolve, hx, hy, invoke, builtin, Builtin.max_, Builtin.max2]
theorem clean_nx {l out out' : List ByteArray} {k : Nat} {p : ByteArray} (hp : l[k]? = some p) (h : (l.drop k).foldl cleanS out = l.foldl cleanS []) (e : cleanS out p = out') : (l.drop (k + 1)).foldl cleanS out' = l.foldl cleanS [] := e ▸ clean_next hp h
theorem clean_show {s : ByteArray} {out : List ByteArray} (h : slashB s = true) (e : out = cleanO s) : cleanB s = showB out ∧ cleanK s = showK out := by subst e; exact clean_2 h
theorem clean_out {s : ByteArray} {out : List ByteArray} (hs : s.size ≤ 100000) (e : out = cleanO s) : (∀ x ∈ out, x.size < 4294967281) ∧ out.length ≤ 1000000 ∧ (joinB out).size ≤ 1000000 := by subst e; exact clean_parts hs
end Go.Proofs.YtefhfoioeoijlaaGreatDoor
set_option linter.unusedVariables false
set_option linter.unusedSimpArgs false
namespace Go.Proofs.YtefhfoioeoijlaaGreatDoor
open Go Go.RowKit Go.Sort
section
variable {d : Option Tmp} {ty : TypeId} {pos : String} {af : Array Edge} {g : Option (Nat × Bool)} {ρ : Operand → Value} {w : World}
theorem r_neS2 {x y : Operand} {yt : TypeId} {a b c e : Int} (hx : ρ x = .agg #[.int .i64 a, .int .i64 b]) (hy : ρ y = .agg #[.int .i64 c, .int .i64 e]) :
    (execOp ρ ⟨d, .binOp .neq 24 x y yt, ty, pos, af, g⟩).run Tryz.prog w = .ok (.value (.bool (decide ((⟨a, b⟩ : Stamp) ≠ ⟨c, e⟩)))) w := by
  have h := stamp_eq' a b c e w
  simp [execOp, hx, hy, eqGuard, stamp_noguard, binOp, h]
end
end Go.Proofs.YtefhfoioeoijlaaGreatDoor
set_option linter.unusedVariables false
set_option linter.unusedSimpArgs false
namespace Go.Proofs.YtefhfoioeoijlaaGreatDoor
open Go Go.RowKit Go.Sort
set_option maxRecDepth 20000 in
set_option maxHeartbeats 2000000 in
theorem of_at {B : Nat} {w : World} {tb r : Nat} {L : List Item} (h : TreeIs B w tb r L) (hB : B ≤ w.heap.size) (hF : Fit L) (htab : Tab w) (m1 m2 : Int) : Calls Tryz.prog 42 #[trP tb, .agg #[.int .i64 m1, .int .i64 m2]] w fun e w' => e = .returned (.tuple #[.string (ofB L ⟨m1, m2⟩), .int .i64 (ofK L ⟨m1, m2⟩)]) ∧ Up w w' := by
  go_enter Tryz.func42, Tryz.ntmps42
  refine wp_seq (rg_lit (wl (sn rfl (cs := #[I_ m1, I_ m2]) (T := 24) (V := fun b => pt b 0) (r_box (v := .agg #[I_ m1, I_ m2]) (by kernel_rfl) rfl) fun pb w1 e2 h3 u4 => ?_)))
  have g6 := gsz e2 (Mod.refl [] w)
  have M7 := mtu (Mod.refl [] w) u4
  refine was (v := S_ (⟨#[]⟩)) (was (v := I_ 0) (wnil (then_n (wp_seq (wp_block (wp_seq (rg_lit (wmv (v := pt tb 0) (wl (sv (w' := w1) rfl (v := B_ false) (by kernel_rfl) (was (v := B_ false) (wnil (then_n (wp_cond_false (by kernel_rfl) (wp_seq (rg_lit ?_))))))))))))))))
  refine wmv (v := pt tb 0) (wlv (v := .agg #[I_ m1, I_ m2]) (lds 0 Ty.ag24 Ty.sz24 h3) ?_)
  have h8 := (TreeIs.up h (Mod.up M7))
  refine wl (sca [pt tb 0, .agg #[I_ m1, I_ m2]] En.f39 (hangs_at h8 m1 m2) ?_)
  rintro e w9 ⟨rfl, u10⟩
  refine ⟨_, rfl, ?_⟩
  have M11 := mtu M7 u10
  refine wlv (v := B_ (!(hangsI L 301 ⟨m1, m2⟩))) (r_not (b := (hangsI L 301 ⟨m1, m2⟩)) (by kernel_rfl)) (was (v := B_ (!(hangsI L 301 ⟨m1, m2⟩))) (wnil (then_n ?_)))
  refine bcase (hangsI L 301 ⟨m1, m2⟩) (fun v12 => ?_) (fun v12 => ?_)
  ·
   refine wp_cond_true (ebk (bneg v12)) (wp_seq (rg_lit (was (v := S_ (⟨#[]⟩)) (was (v := I_ 12) (wnil (then_n (wp_ret (inb_r (then_x (by nofun) ?_)))))))))
   refine br2 (v := S_ (⟨#[]⟩)) (u := I_ 12) rfl ?_
   exact ⟨of_ret (of_no v12), (Mod.up M11)⟩
  refine wp_cond_false (ebk (bneg v12)) (wp_skip (inb_n (then_n (wp_seq (rg_lit (was (v := .slice none 0 0) (wnil (then_n (wp_seq (wp_block ?_))))))))))
  have h14 := (up_ob u10 h3)
  refine lp (fun n a r1 => ∃ (k : Nat) (s1 : Int) (s2 : Int) (acc : List ByteArray) (oA : Option Addr) (oc : Nat), (n = 17 - k) ∧ (HasFr a 48 [(0, pt tb 0), (1, .agg #[I_ m1, I_ m2]), (3, pt pb 0), (6, .slice oA acc.length oc)] []) ∧ (Mod [pb] w9 r1) ∧ (r1.heap[pb]? = some (.cells #[I_ s1, I_ s2] 24 (0, 0))) ∧ (k ≤ 16) ∧ (acc.length = k) ∧ (ofL L (16 - k) ⟨s1, s2⟩ acc = ofL L 16 ⟨m1, m2⟩ []) ∧ (Shorts acc) ∧ (BRow w9.heap.size r1 (.slice oA acc.length oc) acc)) ⟨_, 0, m1, m2, [], none, 0, rfl, hmk, Mod.refl _ _, h14, (Nat.zero_le _), rfl, rfl, (fun x hx => absurd hx (by simp)), (BRow.nil _ _)⟩ ?_
  rintro _ _ r1 ⟨k, s1, s2, acc, oA, oc, rfl, h16, hM1, hX1pb, _, _, hF1_2, hF1_3, hF1_4⟩
  obtain ⟨_, rfl⟩ := h16
  refine wp_seq (wp_seq ?_)
  refine rg_all (by kernel_rfl) (by kernel_rfl) ?_
  refine qv rfl (v := .agg #[I_ s1, I_ s2]) (fun _ uz => lds 0 Ty.ag24 Ty.sz24 (up_ob uz hX1pb)) ?_
  refine qc rfl (v := .agg #[I_ 0, I_ 0]) (fun _ _ => r_callv (caps := []) (all := []) En.f99 (by kernel_rfl) (by kernel_rfl)) (fun wz uz => root_at _) ?_ ?_
  · rintro w1 e _ hC ⟨rfl, hu⟩; exact ⟨rfl, up_step hC hu.below⟩
  refine qb rfl (fun _ _ => r_neS2 (a := s1) (b := s2) (c := 0) (e := 0) (by kernel_rfl) (by kernel_rfl)) fun _ k19 => ?_
  refine qnil fun _ u21 => ?_
  have M22 := mtu (Mod.thin M11 hM1 (fun y hy => by simp only [List.mem_cons, List.not_mem_nil, or_false] at hy; subst hy; exact .inr g6)) u21
  refine then_n ?_
  refine bcd k19 (fun v24 p25 => ?_) (fun v24 p25 => ?_)
  ·
   refine wp_cond_false (ebk v24) (wp_exit (then_x (by nofun) (then_x (by nofun) (inb_hit (then_n (wp_seq (rg_lit (wmv (v := .slice oA acc.length oc) ?_))))))))
   have h26 := (BRow.up hF1_4 u21)
   refine wl (sca [.slice oA acc.length oc] En.f101 (rev_at h26 (by omega)) ?_)
   rintro e _ ⟨rfl, h28, u29⟩
   refine ⟨_, rfl, ?_⟩
   refine wnil (then_n (wp_seq (rg_lit (wmv (v := .slice oA acc.length oc) ?_))))
   have hjs := joinB_short hF1_3 (by omega)
   refine wl (sca [.slice oA acc.length oc, S_ (⟨#[47]⟩)] En.f102 (join_at (L := acc.reverse) h28 (by simp; omega) (by omega)) ?_)
   rintro e w32 ⟨rfl, u33⟩
   refine ⟨_, rfl, ?_⟩
   refine wlv (v := S_ ((⟨#[47]⟩ : ByteArray) ++ (joinB acc.reverse))) (r_adds (m := (⟨#[47]⟩)) (n := (joinB acc.reverse)) (by kernel_rfl) (by kernel_rfl) (by have : (⟨#[47]⟩ : ByteArray).size = 1 := rfl; omega)) (was (v := S_ ((⟨#[47]⟩ : ByteArray) ++ (joinB acc.reverse))) (was (v := I_ 0) (wnil (then_n (wp_ret ?_)))))
   refine br2 (v := S_ ((⟨#[47]⟩ : ByteArray) ++ (joinB acc.reverse))) (u := I_ 0) rfl ?_
   have hz0 : ofL L 16 ⟨m1, m2⟩ [] = some acc := by rw [← hF1_2, Decidable.not_not.1 p25]; exact ofL_nil
   exact ⟨of_ret (of_yes v12 hz0), (Mod.up (mtu (Mod.trans' M22 u29 (fun k hk => Nat.le_trans M11.size (h26.own k hk).1)) u33))⟩
  refine wp_cond_true (ebk v24) (wp_skip (then_n (wp_block (wp_seq (wp_seq (rg_lit (wmv (v := .slice oA acc.length oc) (wlv (v := I_ acc.length) (ln oA acc.length oc Ty.un69) (wl (sb rfl (eqI acc.length 16) fun _ k27 => wnil (then_n ?_)))))))))))
  refine bcd k27 (fun v28 p29 => ?_) (fun v28 p29 => ?_)
  ·
   refine wp_cond_false (ebk v28) (wp_skip (then_n (wp_seq (rg_lit (wmv (v := pt tb 0) ?_)))))
   have h30 := (up_ob u21 hX1pb)
   refine wlv (v := .agg #[I_ s1, I_ s2]) (lds 0 Ty.ag24 Ty.sz24 h30) ?_
   have h31 := (TreeIs.up h (Mod.up M22))
   refine wl (sca [pt tb 0, .agg #[I_ s1, I_ s2]] En.f19 (shown18_at h31 (Nat.le_trans hB M22.size) hF (TabIs.up htab (Mod.up M22)) s1 s2) ?_)
   rintro e w32 ⟨rfl, u33⟩
   refine ⟨_, rfl, ?_⟩
   refine wmv (v := .tuple #[S_ (shownB L ⟨s1, s2⟩), I_ (shownK L ⟨s1, s2⟩)]) (wlv (v := S_ (shownB L ⟨s1, s2⟩)) (xt [S_ (shownB L ⟨s1, s2⟩), I_ (shownK L ⟨s1, s2⟩)]) (wlv (v := I_ (shownK L ⟨s1, s2⟩)) (xt [S_ (shownB L ⟨s1, s2⟩), I_ (shownK L ⟨s1, s2⟩)]) (was (v := S_ (shownB L ⟨s1, s2⟩)) (was (v := I_ (shownK L ⟨s1, s2⟩)) (wnil (then_n (wp_seq (rg_lit (wmv (v := .slice oA acc.length oc) (wmv (v := S_ (shownB L ⟨s1, s2⟩)) (wl (sn rfl (cs := #[S_ (shownB L ⟨s1, s2⟩)]) (T := 9) (V := fun b => sl b 0 1 1) (r_buildSlice (n := 1) (ps := [(0, S_ (shownB L ⟨s1, s2⟩))]) Ty.un69 Ty.sz9 Ty.zv9 (by decide) (by decide) (by kernel_rfl) (by kernel_rfl)) fun _ _ _ h39 u40 => ?_))))))))))))
   have M48 := mtu (mtu (mtu hM1 u21) u33) u40
   have h49 := (BRow.up hF1_4 (up_up (up_up u21 u33) u40))
   refine wl (snB rfl (L := acc) (x := (shownB L ⟨s1, s2⟩)) (by kernel_rfl) (by kernel_rfl) h49 Ty.un69 h39 M48.size (by omega) fun A50 c51 w52 h53 u54 => was (v := .slice A50 ((acc ++ [(shownB L ⟨s1, s2⟩)]).length) c51) (wnil (then_n (wp_seq (rg_lit (wmv (v := pt tb 0) ?_))))))
   have h57 := (own_ob u54 (h49.ne_old (lt_ob h14)) (up_ob u40 (up_ob u33 h30)))
   refine wlv (v := .agg #[I_ s1, I_ s2]) (lds 0 Ty.ag24 Ty.sz24 h57) (wl (sca [pt tb 0, .agg #[I_ s1, I_ s2]] En.f20 (get_x (TreeIs.up h (Mod.up (Mod.trans' (mtu (mtu M22 u33) u40) u54 (fun k hk => Nat.le_trans M11.size (h49.own k hk).1)))) ⟨s1, s2⟩ (x := (gotI L ⟨s1, s2⟩)) (b := (hasI L ⟨s1, s2⟩)) rfl rfl) ?_))
   rintro e _ ⟨A60, n61, c62, rfl, _, u64⟩
   refine ⟨_, rfl, ?_⟩
   have M66 := mtu (Mod.trans' M48 u54 (fun k hk => Nat.le_trans (Nat.le_refl _) (h49.own k hk).1)) u64
   refine wmv (v := .tuple #[itV (gotI L ⟨s1, s2⟩) (.slice A60 n61 c62), B_ (hasI L ⟨s1, s2⟩)]) (wlv (v := itV (gotI L ⟨s1, s2⟩) (.slice A60 n61 c62)) (xt [itV (gotI L ⟨s1, s2⟩) (.slice A60 n61 c62), B_ (hasI L ⟨s1, s2⟩)]) (wlv (v := B_ (hasI L ⟨s1, s2⟩)) (xt [itV (gotI L ⟨s1, s2⟩) (.slice A60 n61 c62), B_ (hasI L ⟨s1, s2⟩)]) (wl (sn rfl (cs := #[I_ 0, I_ 0, I_ 0, I_ 0, S_ (⟨#[]⟩), B_ false, B_ false, .slice none 0 0, I_ 0, I_ 0]) (T := 42) (V := fun b => pt b 0) (r_alloc Ty.zv42 rfl) fun b67 _ e69 h70 u71 => ?_))))
   have h74 := (up_ob u64 h57)
   have l75 := lsz e69 h74
   have g77 := gsz e69 M66
   refine wl (ss rfl (k := 0) (v := itV (gotI L ⟨s1, s2⟩) (.slice A60 n61 c62)) (vs := (itC (gotI L ⟨s1, s2⟩) (.slice A60 n61 c62))) (cs' := (itC (gotI L ⟨s1, s2⟩) (.slice A60 n61 c62))) (by kernel_rfl) (by kernel_rfl) rfl Ty.sz42 h70 rfl (Nat.le_of_ble_eq_true rfl) rfl fun _ h81 c82 => was (v := B_ (hasI L ⟨s1, s2⟩)) (wnil (then_n (rg_lit (wlv (v := pt b67 2) (fa (pt b67 0)) (wlv (v := .agg #[I_ ((gotI L ⟨s1, s2⟩).parent.t), I_ ((gotI L ⟨s1, s2⟩).parent.w)]) (lds 2 Ty.ag24 Ty.sz24 h81) (wl (ss rfl (k := 0) (v := .agg #[I_ ((gotI L ⟨s1, s2⟩).parent.t), I_ ((gotI L ⟨s1, s2⟩).parent.w)]) (vs := [I_ ((gotI L ⟨s1, s2⟩).parent.t), I_ ((gotI L ⟨s1, s2⟩).parent.w)]) (cs' := [I_ ((gotI L ⟨s1, s2⟩).parent.t), I_ ((gotI L ⟨s1, s2⟩).parent.w)]) (by kernel_rfl) (by kernel_rfl) rfl Ty.sz24 (chg_ob c82 (Nat.ne_of_lt l75) (up_ob u71 h74)) rfl (Nat.le_of_ble_eq_true rfl) rfl fun _ h87 c88 => wnil (inb_n (then_n ?_))))))))))
   have h91 := (BRow.chgm (BRow.up h53 (up_chgn (up_up u64 u71) c82 (by rw [e69]; exact u64.size))) c88 (BRow.ne_old (BRow.up h53 (up_chgn (up_up u64 u71) c82 (by rw [e69]; exact u64.size))) (lt_ob h14)))
   refine ⟨17 - (k + 1), ?_, (k + 1), (gotI L ⟨s1, s2⟩).parent.t, (gotI L ⟨s1, s2⟩).parent.w, (acc ++ [(shownB L ⟨s1, s2⟩)]), A50, c51, rfl, hmk, (mtx (mtn (mtu M66 u71) c82 g77) c88), h87, (by omega), (by simp only [List.length_append, List.length_cons, List.length_nil]; omega), ((ofL_go (by omega) p25).symm.trans hF1_2), (Shorts.snoc hF1_3 (shown_short hF _)), h91⟩
   · omega
  refine wp_cond_true (ebk v28) (wp_seq (rg_lit (was (v := S_ (⟨#[]⟩)) (was (v := I_ 3) (wnil (then_n (wp_ret (then_x (by nofun) (inb_r (then_x (by nofun) (inb_r (then_x (by nofun) ?_))))))))))))
  refine br2 (v := S_ (⟨#[]⟩)) (u := I_ 3) rfl ?_
  have hz0 : ofL L 16 ⟨m1, m2⟩ [] = none := by rw [← hF1_2, show 16 - k = 0 by omega]; exact ofL_stop p25
  exact ⟨of_ret (of_deep v12 hz0), (Mod.up M22)⟩
end Go.Proofs.YtefhfoioeoijlaaGreatDoor

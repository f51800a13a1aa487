/- Step, Ty, Pth3, PC, Pth5, PE -/
import Derived.Laws.CopyRow
import Derived.Lib.SplitLaws
import Derived.OrdersHeld
import Derived.Test.YtefhfoioeoijlaaGreatDoorProg
import Derived.Test.YtefhfoioeoijlaaGreatDoorQaa
import Derived.Test.YtefhfoioeoijlaaGreatDoorQab
import Derived.Test.YtefhfoioeoijlaaGreatDoorQac
import Derived.Test.YtefhfoioeoijlaaGreatDoorQad
import Derived.Test.YtefhfoioeoijlaaGreatDoorQae
import Derived.Test.YtefhfoioeoijlaaGreatDoorQaf
import Derived.Test.YtefhfoioeoijlaaGreatDoorQag
import Derived.Test.YtefhfoioeoijlaaGreatDoorQah
import Derived.Test.YtefhfoioeoijlaaGreatDoorQai
import Derived.Test.YtefhfoioeoijlaaGreatDoorQaj
import Derived.Test.YtefhfoioeoijlaaGreatDoorQak
import Derived.Test.YtefhfoioeoijlaaGreatDoorQal
import Derived.Test.YtefhfoioeoijlaaGreatDoorQam
import Derived.Test.YtefhfoioeoijlaaGreatDoorQan
import Derived.Test.YtefhfoioeoijlaaGreatDoorQao
import Derived.Test.YtefhfoioeoijlaaGreatDoorQap
import Derived.Test.YtefhfoioeoijlaaGreatDoorQaq
import Derived.Test.YtefhfoioeoijlaaGreatDoorQar
import Derived.Test.YtefhfoioeoijlaaGreatDoorQas
import Derived.Test.YtefhfoioeoijlaaGreatDoorQat
import Derived.Test.YtefhfoioeoijlaaGreatDoorQau
import Derived.Test.YtefhfoioeoijlaaGreatDoorQav
set_option linter.unusedVariables false
set_option linter.unusedSimpArgs false
namespace Go.Proofs.YtefhfoioeoijlaaGreatDoor
open Go Go.RowKit Go.Sort
section
variable {P : Program} {fn : Func} {tmps : Array Value} {w : World}
theorem res3 {r s t : ResultVar} {u v x : Value} (h : fn.results = #[r, s, t]) (h1 : RV P w tmps r u) (h2 : RV P w tmps s v) (h3 : RV P w tmps t x) : (results fn tmps).run P w = .ok (.tuple #[u, v, x]) w := by
  cases r <;> cases s <;> cases t <;> simp only [RV] at h1 h2 h3 <;> (try obtain ⟨p, h1, h1'⟩ := h1) <;> (try obtain ⟨q, h2, h2'⟩ := h2) <;> (try obtain ⟨q', h3, h3'⟩ := h3) <;> simp [results, h, asAddr, *]
end
end Go.Proofs.YtefhfoioeoijlaaGreatDoor
set_option linter.unusedVariables false
namespace Go.Proofs.YtefhfoioeoijlaaGreatDoor
open Go Go.RowKit Go.Sort
theorem En.f48 : ∀ args w, (callFunc 48 args).run Tryz.prog w = .ok (.enter 48 args) w := enters_of Tryz.func48 (by kernel_rfl) rfl
end Go.Proofs.YtefhfoioeoijlaaGreatDoor
set_option linter.unusedVariables false
set_option linter.unusedSimpArgs false
namespace Go.Proofs.YtefhfoioeoijlaaGreatDoor
open Go Go.RowKit Go.Sort
theorem join_snoc {c : UInt8} (y : List UInt8) : ∀ {t : List (List UInt8)}, t ≠ [] → Lib.join (t ++ [y]) [c] = Lib.join t [c] ++ ([c] ++ y)
  | [x], _ => by simp [Lib.join, List.intercalate, List.intersperse]
  | x :: z :: t, _ => by
    have ih := join_snoc (c := c) y (t := z :: t) (by simp)
    rw [List.cons_append, List.cons_append, join_cons2, ← List.cons_append, ih, join_cons2]; simp
theorem splC_no (c : UInt8) : ∀ s, ∀ x ∈ splC c s, c ∉ x
  | [], x, hx => by simp [splC] at hx; subst hx; simp
  | b :: l, x, hx => by
    have ih := splC_no c l
    cases e : splC c l with
    | nil => exact absurd e (splC_ne c l)
    | cons y t =>
      rw [e] at ih
      by_cases h : b = c
      · subst h; rw [splC_hit, e] at hx
        rcases List.mem_cons.1 hx with rfl | hx
        · simp
        · exact ih x hx
      · rw [splC_miss h e] at hx
        rcases List.mem_cons.1 hx with rfl | hx
        · have := ih y (by simp); simp [this, Ne.symm h]
        · exact ih x (by simp [hx])
theorem splC_join {c : UInt8} : ∀ {t : List (List UInt8)}, t ≠ [] → (∀ x ∈ t, c ∉ x) → splC c (Lib.join t [c]) = t
  | [x], _, h => by rw [Lib.join_one]; exact splC_one (h x (by simp))
  | x :: y :: t, _, h => by
    rw [join_cons2, List.singleton_append, splC_app _ (h x (by simp)), splC_join (by simp) (fun z hz => h z (by simp [hz]))]
theorem splB_join {L : List ByteArray} (hL : L ≠ []) (h : ∀ x ∈ L, (47 : UInt8) ∉ x.data.toList) : splB (joinB L) = L := by
  refine data_inj ?_
  rw [splB_data]
  show splC 47 (Lib.join _ [47]) = _
  refine splC_join (by simpa using hL) (fun x hx => ?_)
  obtain ⟨y, hy, rfl⟩ := List.mem_map.1 hx
  exact h y hy
theorem splB_no {s x : ByteArray} (hx : x ∈ splB s) : (47 : UInt8) ∉ x.data.toList := by
  obtain ⟨y, hy, rfl⟩ := List.mem_map.1 hx
  exact splC_no 47 _ y hy
theorem SSRow.pre {w : World} {A : Option Addr} {c k : Nat} {L : List ByteArray} (h : SSRow w (.slice A L.length c) L) (hk : k ≤ L.length) : SSRow w (.slice A (L.take k).length c) (L.take k) := by
  obtain ⟨A', c', e, hc, h0⟩ := h
  injection e with e1 _ e3
  subst e1; subst e3
  refine ⟨_, _, rfl, by rw [List.length_take]; omega, ?_⟩
  rcases h0 with h0 | ⟨g, f, hA, hg, hcell⟩
  · left; rw [h0]; simp
  · refine .inr ⟨g, f, hA, hg, fun j x hx => hcell j x ?_⟩
    rw [List.getElem?_take] at hx
    split at hx
    · exact hx
    · cases hx
def dirB (s : ByteArray) : ByteArray := if parseK s = 0 ∧ parseL s ≠ [] then showB ((parseL s).take ((parseL s).length - 1)) else ⟨#[]⟩
def lastB (s : ByteArray) : ByteArray := if parseK s = 0 ∧ parseL s ≠ [] then (parseL s).getLast?.getD ⟨#[]⟩ else ⟨#[]⟩
def splitKd (s : ByteArray) : Int := if parseK s = 0 ∧ parseL s ≠ [] then 0 else 17
theorem split_1 {s : ByteArray} (h : parseK s ≠ 0) : dirB s = ⟨#[]⟩ ∧ lastB s = ⟨#[]⟩ ∧ splitKd s = 17 := by
  have h' : ¬ (parseK s = 0 ∧ parseL s ≠ []) := fun e => h e.1
  unfold dirB lastB splitKd; rw [if_neg h', if_neg h', if_neg h']; exact ⟨rfl, rfl, rfl⟩
theorem split_2 {s : ByteArray} (h : ((parseL s).length : Int) - 1 < 0) : dirB s = ⟨#[]⟩ ∧ lastB s = ⟨#[]⟩ ∧ splitKd s = 17 := by
  have h' : ¬ (parseK s = 0 ∧ parseL s ≠ []) := fun e => e.2 (List.length_eq_zero_iff.1 (by omega))
  unfold dirB lastB splitKd; rw [if_neg h', if_neg h', if_neg h']; exact ⟨rfl, rfl, rfl⟩
theorem split_3 {s x : ByteArray} (h : parseK s = 0) (h2 : ¬ ((parseL s).length : Int) - 1 < 0) (hx : (parseL s)[(parseL s).length - 1]? = some x) : dirB s = showB ((parseL s).take ((parseL s).length - 1)) ∧ lastB s = x ∧ splitKd s = 0 := by
  have h' : parseK s = 0 ∧ parseL s ≠ [] := ⟨h, fun e => by rw [e] at h2; exact h2 (by decide)⟩
  unfold dirB lastB splitKd; rw [if_pos h', if_pos h', if_pos h', List.getLast?_eq_getElem?, hx]; exact ⟨rfl, rfl, rfl⟩
theorem join_take (L : List ByteArray) (k : Nat) : (joinB (L.take k)).size ≤ (joinB L).size := by
  by_cases h : L.take k = []
  · rw [h]; exact Nat.zero_le _
  · have h1 := (join_wid (L.take k)).2 h
    have h2 := (join_wid L).2 (fun e => h (by rw [e]; simp))
    have h3 : wid L = wid (L.take k) + wid (L.drop k) := by rw [← wid_app, List.take_append_drop]
    omega
theorem take_parts {L : List ByteArray} (k : Nat) (h : (∀ x ∈ L, x.size < 4294967281) ∧ L.length ≤ 1000000 ∧ (joinB L).size ≤ 1000000) : (∀ x ∈ L.take k, x.size < 4294967281) ∧ (L.take k).length ≤ 1000000 ∧ (joinB (L.take k)).size ≤ 1000000 :=
  ⟨fun x hx => h.1 x (List.mem_of_mem_take hx), by rw [List.length_take]; omega, Nat.le_trans (join_take L k) h.2.2⟩
theorem split_ret {s d x : ByteArray} {k : Int} (h : dirB s = d ∧ lastB s = x ∧ splitKd s = k) : Ending.returned (.tuple #[.string d, .string x, .int .i64 k]) = .returned (.tuple #[.string (dirB s), .string (lastB s), .int .i64 (splitKd s)]) := by rw [h.1, h.2.1, h.2.2]
end Go.Proofs.YtefhfoioeoijlaaGreatDoor
set_option linter.unusedVariables false
set_option linter.unusedSimpArgs false
namespace Go.Proofs.YtefhfoioeoijlaaGreatDoor
open Go Go.RowKit Go.Sort
set_option maxHeartbeats 2000000 in
theorem pathSplit_at {w : World} (hmx : Mx w) (s : ByteArray) (hs : s.size ≤ 100000) : Calls Tryz.prog 48 #[.string s] w fun e w' => e = .returned (.tuple #[.string (dirB s), .string (lastB s), .int .i64 (splitKd s)]) ∧ Up w w' := by
  have hzp := parse_parts hs
  go_enter Tryz.func48, Tryz.ntmps48
  refine wp_seq (rg_lit ?_)
  refine was (v := .string (⟨#[]⟩)) ?_
  refine was (v := .string (⟨#[]⟩)) ?_
  refine was (v := .int .i64 0) ?_
  refine wnil (then_n (wp_seq (rg_lit ?_)))
  refine wmv (v := .string s) ?_
  refine wl (sc rfl (r_callv (caps := []) (all := [.string s]) En.f44 (by kernel_rfl) (by kernel_rfl)) (parse_at (Mx.up hmx (Mod.up (Mod.refl [] w))) s (by omega)) ?_)
  rintro e w1 ⟨A2, c3, rfl, h4, h5, u6⟩
  refine ⟨.tuple #[.slice A2 ((parseL s).length) c3, .int .i64 (parseK s)], rfl, ?_⟩
  have M7 := Mod.trans (Mod.refl [] w) (Mod.of_up u6)
  refine wmv (v := .tuple #[.slice A2 ((parseL s).length) c3, .int .i64 (parseK s)]) ?_
  refine wl (sv rfl (v := .slice A2 ((parseL s).length) c3) (r_extract (vs := [.slice A2 ((parseL s).length) c3, .int .i64 (parseK s)]) (by kernel_rfl) rfl) ?_)
  refine wl (sv rfl (v := .int .i64 (parseK s)) (r_extract (vs := [.slice A2 ((parseL s).length) c3, .int .i64 (parseK s)]) (by kernel_rfl) rfl) ?_)
  refine was (v := .slice A2 ((parseL s).length) c3) ?_
  refine was (v := .int .i64 (parseK s)) ?_
  refine wnil (then_n (wp_seq (rg_lit ?_)))
  refine wmv (v := .slice A2 ((parseL s).length) c3) ?_
  refine wl (sv rfl (v := .int .i64 (((parseL s).length) : Int)) (r_len Ty.un69 (ad := A2) (n := ((parseL s).length)) (c := c3) (by kernel_rfl)) ?_)
  refine wl (sv rfl (v := .int .i64 ((((parseL s).length) : Int) - 1)) (r_sub (k := .i64) (m := (((parseL s).length) : Int)) (n := 1) (by kernel_rfl) (by kernel_rfl) (IntWalk.i64_in _ (by omega))) ?_)
  refine was (v := .int .i64 ((((parseL s).length) : Int) - 1)) ?_
  refine wnil (then_n (wp_seq (wp_seq (rg_lit ?_))))
  refine wmv (v := .int .i64 (parseK s)) ?_
  refine wl (sb rfl (r_ne (k := .i64) (m := (parseK s)) (n := 0) (by kernel_rfl) (by kernel_rfl)) ?_)
  intro b8 k9
  refine wmv (v := .bool b8) ?_
  refine bcase b8 (fun v10 => ?_) (fun v10 => ?_)
  ·
   have p11 := of_decide_eq_false (k9.trans v10)
   refine wl (sv (wt (b := b8) rfl (by kernel_rfl) v10) (v := .int .i64 ((((parseL s).length) : Int) - 1)) (r_move (by kernel_rfl)) ?_)
   refine wl (sb (wt (b := b8) rfl (by kernel_rfl) v10) (r_lt (k := .i64) (m := ((((parseL s).length) : Int) - 1)) (n := 0) (by kernel_rfl) (by kernel_rfl)) ?_)
   intro b12 k13
   refine wl (sv rfl (v := .bool b12) (r_pkF (ebool (b := b8) (by kernel_rfl) v10) (by kernel_rfl)) ?_)
   refine wnil (then_n ?_)
   refine bcase b12 (fun v14 => ?_) (fun v14 => ?_)
   ·
    have p15 := of_decide_eq_false (k13.trans v14)
    refine wp_cond_false (ebool (b := b12) (by kernel_rfl) v14) ?_
    refine wp_skip (then_n (wp_seq (rg_lit ?_)))
    refine wmv (v := .slice A2 ((parseL s).length) c3) ?_
    refine wmv (v := .int .i64 ((((parseL s).length) : Int) - 1)) ?_
    have h16 := SSRow.pre (k := (parseL s).length - 1) h4 (by omega)
    have z17 : ((parseL s).take ((parseL s).length - 1)).length = (parseL s).length - 1 := by rw [List.length_take]; omega
    refine wl (sv rfl (v := .slice A2 (((parseL s).take ((parseL s).length - 1)).length) c3) ((show _ = _ from by rw [z17]; exact r_slHi (w := w1) (t := 69) (k := (parseL s).length - 1) (L := (parseL s)) (j := ((((parseL s).length) : Int) - 1)) h4 (by kernel_rfl) (by kernel_rfl) (by omega) Ty.un69 Ty.sz9 (by omega))) ?_)
    refine wl (sc rfl (r_callv (caps := []) (all := [.slice A2 (((parseL s).take ((parseL s).length - 1)).length) c3]) En.f46 (by kernel_rfl) (by kernel_rfl)) (showP_at (l := ((parseL s).take ((parseL s).length - 1))) h16 (Mx.up hmx (Mod.up M7)) (take_parts _ hzp).1 (take_parts _ hzp).2.1 (take_parts _ hzp).2.2) ?_)
    rintro e w18 ⟨rfl, u19⟩
    refine ⟨.tuple #[.string (showB ((parseL s).take ((parseL s).length - 1))), .int .i64 (showK ((parseL s).take ((parseL s).length - 1)))], rfl, ?_⟩
    have M20 := Mod.trans M7 (Mod.of_up u19)
    refine wmv (v := .tuple #[.string (showB ((parseL s).take ((parseL s).length - 1))), .int .i64 (showK ((parseL s).take ((parseL s).length - 1)))]) ?_
    refine wl (sv rfl (v := .string (showB ((parseL s).take ((parseL s).length - 1)))) (r_extract (vs := [.string (showB ((parseL s).take ((parseL s).length - 1))), .int .i64 (showK ((parseL s).take ((parseL s).length - 1)))]) (by kernel_rfl) rfl) ?_)
    refine wl (sv rfl (v := .int .i64 (showK ((parseL s).take ((parseL s).length - 1)))) (r_extract (vs := [.string (showB ((parseL s).take ((parseL s).length - 1))), .int .i64 (showK ((parseL s).take ((parseL s).length - 1)))]) (by kernel_rfl) rfl) ?_)
    refine was (v := .string (showB ((parseL s).take ((parseL s).length - 1)))) ?_
    refine wnil (then_n (wp_seq ?_))
    refine rg_all (by kernel_rfl) (by kernel_rfl) ?_
    refine qmv (v := .string (showB ((parseL s).take ((parseL s).length - 1)))) ?_
    refine qmv (v := .slice A2 ((parseL s).length) c3) ?_
    refine qmv (v := .int .i64 ((((parseL s).length) : Int) - 1)) ?_
    have h21 := (SSRow.up h4 u19)
    obtain ⟨y22, hy22⟩ : ∃ x, (parseL s)[(parseL s).length - 1]? = some x := ⟨_, List.getElem?_eq_getElem (by omega)⟩
    obtain ⟨g22, f22, hA22, hl22, hc22⟩ := SSRow.get h21 hy22
    refine qv rfl (v := .pointer (some ⟨g22, f22 + ((parseL s).length - 1), none⟩)) (fun _ _ => r_ixaddr' (A := A2) (b := g22) (o := f22) (n := ((parseL s).length)) (c := c3) (sz := 1) (j := ((((parseL s).length) : Int) - 1)) (by kernel_rfl) hA22 (by kernel_rfl) Ty.un69 Ty.sz9 (by omega) (by omega) (by omega)) ?_
    refine qv rfl (v := .string y22) (fun _ uz => r_loadc (by kernel_rfl) Ty.ag9 ((uz.cell (p := ⟨g22, f22 + ((parseL s).length - 1), none⟩) hl22).trans hc22)) ?_
    refine qas (v := .string (showB ((parseL s).take ((parseL s).length - 1)))) ?_
    refine qas (v := .string y22) ?_
    refine qas (v := .int .i64 0) ?_
    refine qnil ?_
    intro w23 u24
    have M25 := Mod.trans M20 (Mod.of_up u24)
    refine then_n (wp_ret ?_)
    refine bodyPost_ret (v := .tuple #[.string (showB ((parseL s).take ((parseL s).length - 1))), .string y22, .int .i64 0]) (res3 rfl (rv_t (by kernel_rfl)) (rv_t (by kernel_rfl)) (rv_t (by kernel_rfl))) (by kernel_rfl) ?_
    exact ⟨split_ret (split_3 (Decidable.not_not.1 p11) p15 hy22), (Mod.up M25)⟩
   have p15 := of_decide_eq_true (k13.trans v14)
   refine wp_cond_true (ebool (b := b12) (by kernel_rfl) v14) ?_
   refine wp_seq (rg_lit ?_)
   refine was (v := .string (⟨#[]⟩)) ?_
   refine was (v := .string (⟨#[]⟩)) ?_
   refine was (v := .int .i64 17) ?_
   refine wnil (then_n (wp_ret (then_x (by nofun) ?_)))
   refine bodyPost_ret (v := .tuple #[.string (⟨#[]⟩), .string (⟨#[]⟩), .int .i64 17]) (res3 rfl (rv_t (by kernel_rfl)) (rv_t (by kernel_rfl)) (rv_t (by kernel_rfl))) (by kernel_rfl) ?_
   exact ⟨split_ret (split_2 p15), (Mod.up M7)⟩
  have p11 := of_decide_eq_true (k9.trans v10)
  refine wl (sp (wf (b := b8) rfl (by kernel_rfl) v10) ?_)
  refine wl (sp (wf (b := b8) rfl (by kernel_rfl) v10) ?_)
  refine wl (sv rfl (v := .bool true) (r_pkT (ebool (b := b8) (by kernel_rfl) v10) (by kernel_rfl)) ?_)
  refine wnil (then_n ?_)
  refine wp_cond_true (by kernel_rfl) ?_
  refine wp_seq (rg_lit ?_)
  refine was (v := .string (⟨#[]⟩)) ?_
  refine was (v := .string (⟨#[]⟩)) ?_
  refine was (v := .int .i64 17) ?_
  refine wnil (then_n (wp_ret (then_x (by nofun) ?_)))
  refine bodyPost_ret (v := .tuple #[.string (⟨#[]⟩), .string (⟨#[]⟩), .int .i64 17]) (res3 rfl (rv_t (by kernel_rfl)) (rv_t (by kernel_rfl)) (rv_t (by kernel_rfl))) (by kernel_rfl) ?_
  exact ⟨split_ret (split_1 p11), (Mod.up M7)⟩
end Go.Proofs.YtefhfoioeoijlaaGreatDoor
set_option linter.unusedVariables false
set_option linter.unusedSimpArgs false
namespace Go.Proofs.YtefhfoioeoijlaaGreatDoor
open Go Go.RowKit Go.Sort
theorem slash_add (r : ByteArray) : slashB ((⟨#[47]⟩ : ByteArray) ++ r) = true ∧ restB ((⟨#[47]⟩ : ByteArray) ++ r) = r := by
  have h1 : slashB ((⟨#[47]⟩ : ByteArray) ++ r) = ([47] : List UInt8).isPrefixOf (((⟨#[47]⟩ : ByteArray) ++ r).data.toList) := rfl
  have e : ((⟨#[47]⟩ : ByteArray) ++ r).data.toList = 47 :: r.data.toList := by simp
  have h3 : slashB ((⟨#[47]⟩ : ByteArray) ++ r) = true := by rw [h1, e]; simp
  refine ⟨h3, ?_⟩
  have := slash_is h3
  apply ba_ext
  have h4 := congrArg (fun x : ByteArray => x.data.toList) this
  simp at h4
  exact congrArg Array.toList h4.symm
theorem show_ok {l : List ByteArray} (h : showK l = 0) : l.length ≤ 16 ∧ l.all partB = true ∧ showB l = (⟨#[47]⟩ : ByteArray) ++ joinB l := by
  unfold showK at h
  split at h
  · rename_i hc; exact ⟨hc.1, hc.2, (show_3 hc.1 hc.2).1⟩
  · cases h
theorem join_oneB (x : ByteArray) : joinB [x] = x := by
  apply ba_ext; show Lib.join [x.data.toList] [47] = _; rw [Lib.join_one]
theorem part_not : partB ⟨#[]⟩ = false ∧ partB ⟨#[46]⟩ = false ∧ partB ⟨#[46, 46]⟩ = false := ⟨by kernel_rfl, by kernel_rfl, by kernel_rfl⟩
theorem part_cl {x : ByteArray} (h : partB x = true) (out : List ByteArray) : cleanS out x = out ++ [x] :=
  clS_d (fun e => by rw [e, part_not.1] at h; cases h) (fun e => by rw [e, part_not.2.1] at h; cases h) (fun e => by rw [e, part_not.2.2] at h; cases h)
theorem fold_parts : ∀ {l out : List ByteArray}, l.all partB = true → l.foldl cleanS out = out ++ l
  | [], out, _ => by simp
  | x :: l, out, h => by
    rw [List.all_cons, Bool.and_eq_true] at h
    rw [List.foldl_cons, part_cl h.1, fold_parts h.2]; simp
theorem parse_ok {s : ByteArray} (h : parseK s = 0) : slashB s = true ∧ ((restB s = ⟨#[]⟩ ∧ parseL s = []) ∨ (restB s ≠ ⟨#[]⟩ ∧ showK (splB (restB s)) = 0 ∧ parseL s = splB (restB s))) := by
  cases hs : slashB s with
  | false => rw [(parse_1 hs).2] at h; cases h
  | true =>
    refine ⟨rfl, ?_⟩
    by_cases hr : restB s = ⟨#[]⟩
    · exact .inl ⟨hr, (parse_2 hs hr).1⟩
    · by_cases hk : showK (splB (restB s)) = 0
      · exact .inr ⟨hr, hk, (parse_4 hs hr hk).1⟩
      · rw [(parse_3 hs hr hk).2] at h; exact absurd h hk
theorem parse_show {s : ByteArray} (h : parseK s = 0) : showK (parseL s) = 0 ∧ showB (parseL s) = s := by
  obtain ⟨hs, ⟨hr, hl⟩ | ⟨hr, hk, hl⟩⟩ := parse_ok h
  · rw [hl]; refine ⟨rfl, ?_⟩
    have := slash_is hs
    rw [hr] at this
    rw [this]; rfl
  · rw [hl]; refine ⟨hk, ?_⟩
    rw [(show_ok hk).2.2, joinB_splB, ← slash_is hs]
theorem parse_clean {s : ByteArray} (h : parseK s = 0) : cleanK s = 0 ∧ cleanB s = s := by
  have h1 := parse_show h
  have e : cleanO s = parseL s := by
    obtain ⟨hs, ⟨hr, hl⟩ | ⟨hr, hk, hl⟩⟩ := parse_ok h
    · unfold cleanO; rw [hr, hl]; rfl
    · unfold cleanO; rw [hl, fold_parts (show_ok hk).2.1]; rfl
  have h2 := clean_2 (parse_ok h).1
  rw [e] at h2
  exact ⟨h2.2.trans h1.1, h2.1.trans h1.2⟩
theorem clean_parse {s : ByteArray} (h : cleanK s = 0) : parseK (cleanB s) = 0 := by
  cases hs : slashB s with
  | false => rw [(clean_1 hs).2] at h; cases h
  | true =>
    have h2 := clean_2 hs
    rw [h2.2] at h
    have h3 := show_ok h
    rw [h2.1, h3.2.2]
    have h4 := slash_add (joinB (cleanO s))
    by_cases hr : joinB (cleanO s) = ⟨#[]⟩
    · exact (parse_2 h4.1 (h4.2.trans hr)).2
    · have hne : cleanO s ≠ [] := fun e => hr (by rw [e]; rfl)
      have e : splB (restB ((⟨#[47]⟩ : ByteArray) ++ joinB (cleanO s))) = cleanO s := by
        rw [h4.2]
        refine splB_join hne (fun x hx => ?_)
        rcases clean_mem _ x hx with hx | hx
        · cases hx
        · exact splB_no hx
      have := parse_4 h4.1 (by rw [h4.2]; exact hr) (by rw [e]; exact h)
      exact this.2
theorem clean_clean {s : ByteArray} (h : cleanK s = 0) : cleanK (cleanB s) = 0 ∧ cleanB (cleanB s) = cleanB s := parse_clean (clean_parse h)
theorem split_no {s : ByteArray} (h : splitKd s ≠ 0) (h0 : parseK s = 0) : s = ⟨#[47]⟩ := by
  have hl : parseL s = [] := Decidable.byContradiction fun e => h (by unfold splitKd; rw [if_pos ⟨h0, e⟩])
  obtain ⟨hs, ⟨hr, _⟩ | ⟨hr, hk, hl2⟩⟩ := parse_ok h0
  · have := slash_is hs
    rw [hr] at this
    rw [this]; rfl
  · rw [hl2] at hl; exact absurd hl (splB_ne _)
theorem part_pos {x : ByteArray} (h : partB x = true) : 1 ≤ x.size := by
  rcases Nat.eq_zero_or_pos x.size with e | e
  · have : x = ⟨#[]⟩ := by apply ba_ext; exact List.length_eq_zero_iff.1 (by simpa using e)
    rw [this, part_not.1] at h; cases h
  · exact e
theorem split_yes {s : ByteArray} (h : splitKd s = 0) : parseK s = 0 ∧ ∃ l x, parseL s = l ++ [x] ∧ lastB s = x ∧ dirB s = (⟨#[47]⟩ : ByteArray) ++ joinB l ∧ s = (⟨#[47]⟩ : ByteArray) ++ joinB (l ++ [x]) ∧ l.all partB = true := by
  have hc : parseK s = 0 ∧ parseL s ≠ [] := by unfold splitKd at h; split at h <;> first | assumption | cases h
  refine ⟨hc.1, ?_⟩
  have hs := parse_show hc.1
  have hk := show_ok hs.1
  have hlt : (parseL s).length - 1 < (parseL s).length := by have := List.length_pos_iff.2 hc.2; omega
  have hx : (parseL s)[(parseL s).length - 1]? = some ((parseL s)[(parseL s).length - 1]) := List.getElem?_eq_getElem hlt
  have h3 := split_3 hc.1 (by omega) hx
  have e : parseL s = (parseL s).take ((parseL s).length - 1) ++ [(parseL s)[(parseL s).length - 1]] := by
    conv => lhs; rw [← List.take_append_drop ((parseL s).length - 1) (parseL s)]
    congr 1
    rw [List.drop_eq_getElem_cons hlt, List.drop_eq_nil_of_le (by omega)]
  have ha : ((parseL s).take ((parseL s).length - 1)).all partB = true := by
    rw [List.all_eq_true] at hk ⊢
    exact fun x hx => hk.2.1 x (List.mem_of_mem_take hx)
  refine ⟨_, _, e, h3.2.1, ?_, ?_, ha⟩
  · rw [h3.1]; exact (show_3 (by rw [List.length_take]; omega) ha).1
  · rw [← e, ← hk.2.2, hs.2]
theorem split_root {s : ByteArray} (h : splitKd s = 0) (hd : dirB s = ⟨#[47]⟩) : (⟨#[]⟩ : ByteArray) ++ (⟨#[47]⟩ : ByteArray) ++ lastB s = s := by
  obtain ⟨_, l, x, _, hl, hd', hs, ha⟩ := split_yes h
  have hj : joinB l = ⟨#[]⟩ := by
    rw [hd] at hd'
    apply ba_ext
    have := congrArg (fun x : ByteArray => x.data.toList) hd'
    simpa using this.symm
  have hn : l = [] := by
    cases l with
    | nil => rfl
    | cons y t =>
      have h1 := (join_wid (y :: t)).2 (by simp)
      rw [hj] at h1
      rw [List.all_cons, Bool.and_eq_true] at ha
      have h2 := part_pos ha.1
      have h3 : wid (y :: t) = y.size + 1 + wid t := by simp [wid]
      have h4 : (⟨#[]⟩ : ByteArray).size = 0 := rfl
      omega
  rw [hn, List.nil_append, join_oneB] at hs
  rw [hl]
  conv => rhs; rw [hs]
  apply ba_ext; simp
theorem split_deep {s : ByteArray} (h : splitKd s = 0) (hd : dirB s ≠ ⟨#[47]⟩) : dirB s ++ (⟨#[47]⟩ : ByteArray) ++ lastB s = s := by
  obtain ⟨_, l, x, _, hl, hd', hs, ha⟩ := split_yes h
  have hn : l ≠ [] := fun e => hd (by rw [hd', e]; rfl)
  rw [hl, hd']
  conv => rhs; rw [hs]
  apply ba_ext
  have e : (joinB (l ++ [x])).data.toList = (joinB l).data.toList ++ ([47] ++ x.data.toList) := by
    show Lib.join _ _ = Lib.join _ _ ++ _
    rw [List.map_append]
    exact join_snoc _ (by simpa using hn)
  simp [e]
theorem showB_size (l : List ByteArray) : (showB l).size ≤ (joinB l).size + 1 := by
  unfold showB; split
  · rw [ByteArray.size_append]; have : (⟨#[47]⟩ : ByteArray).size = 1 := rfl; omega
  · exact Nat.zero_le _
theorem clean_size (s : ByteArray) : (cleanB s).size ≤ s.size + 2 := by
  unfold cleanB; split
  · exact Nat.zero_le _
  · have h1 := showB_size (cleanO s); have h2 := cleanO_size s; omega
theorem dir_size {s : ByteArray} (hs : s.size ≤ 100000) : (dirB s).size ≤ 1000001 ∧ (lastB s).size ≤ 1000000 := by
  have hp := parse_parts hs
  constructor
  · unfold dirB; split
    · have h1 := showB_size ((parseL s).take ((parseL s).length - 1)); have h2 := join_take (parseL s) ((parseL s).length - 1); omega
    · exact Nat.zero_le _
  · unfold lastB; split
    · cases e : (parseL s).getLast? with
      | none => exact Nat.zero_le _
      | some x =>
        have h1 := List.mem_of_getLast? e
        show x.size ≤ 1000000
        rcases parseL_or s with h2 | h2
        · rw [h2] at h1; cases h1
        · rw [h2] at h1; have h3 := splB_size h1; have h4 := restB_size s; omega
    · exact Nat.zero_le _
end Go.Proofs.YtefhfoioeoijlaaGreatDoor
set_option linter.unusedVariables false
set_option linter.unusedSimpArgs false
namespace Go.Proofs.YtefhfoioeoijlaaGreatDoor
open Go Go.RowKit Go.Sort
set_option maxHeartbeats 2000000 in
theorem pathBack_at {w : World} (htab : Tab w) (hmx : Mx w) (s : ByteArray) (hs9 : s.size ≤ 9223372036854775807) : Calls Tryz.prog 10 #[.string s] w fun e w' => e = .returned (.bool true) ∧ Up w w' := by
  go_enter Tryz.func10, Tryz.ntmps10
  refine wp_seq (rg_lit ?_)
  refine was (v := .bool false) ?_
  refine wnil (then_n (wp_seq (wp_seq (rg_lit ?_))))
  refine wmv (v := .string s) ?_
  refine wl (sv rfl (v := .int .i64 (s.size : Int)) (r_lens Ty.un9 (s := s) (by kernel_rfl)) ?_)
  refine wl (sb rfl (r_gt (k := .i64) (m := (s.size : Int)) (n := 600) (by kernel_rfl) (by kernel_rfl)) ?_)
  intro b1 k2
  refine wnil (then_n ?_)
  refine bcase b1 (fun v3 => ?_) (fun v3 => ?_)
  ·
   have p4 := of_decide_eq_false (k2.trans v3)
   have hsz : s.size ≤ 600 := by omega
   have hzc := clean_size s
   have hzp := parse_parts (s := s) (by omega)
   have hzd := dir_size (s := s) (by omega)
   have hz1 : (⟨#[47]⟩ : ByteArray).size = 1 := rfl
   have hz0 : (⟨#[]⟩ : ByteArray).size = 0 := rfl
   refine wp_cond_false (ebool (b := b1) (by kernel_rfl) v3) ?_
   refine wp_skip (then_n (wp_seq (rg_lit ?_)))
   refine wmv (v := .string s) ?_
   refine wl (sc rfl (r_callv (caps := []) (all := [.string s]) En.f44 (by kernel_rfl) (by kernel_rfl)) (parse_at (Mx.up hmx (Mod.up (Mod.refl [] w))) s (by omega)) ?_)
   rintro e w5 ⟨A6, c7, rfl, h8, h9, u10⟩
   refine ⟨.tuple #[.slice A6 ((parseL s).length) c7, .int .i64 (parseK s)], rfl, ?_⟩
   have M11 := Mod.trans (Mod.refl [] w) (Mod.of_up u10)
   refine wmv (v := .tuple #[.slice A6 ((parseL s).length) c7, .int .i64 (parseK s)]) ?_
   refine wl (sv rfl (v := .slice A6 ((parseL s).length) c7) (r_extract (vs := [.slice A6 ((parseL s).length) c7, .int .i64 (parseK s)]) (by kernel_rfl) rfl) ?_)
   refine wl (sv rfl (v := .int .i64 (parseK s)) (r_extract (vs := [.slice A6 ((parseL s).length) c7, .int .i64 (parseK s)]) (by kernel_rfl) rfl) ?_)
   refine was (v := .slice A6 ((parseL s).length) c7) ?_
   refine was (v := .int .i64 (parseK s)) ?_
   refine wnil (then_n (wp_seq (wp_seq (rg_lit ?_))))
   refine wmv (v := .int .i64 (parseK s)) ?_
   refine wl (sb rfl (r_eq (k := .i64) (m := (parseK s)) (n := 0) (by kernel_rfl) (by kernel_rfl)) ?_)
   intro b12 k13
   refine wnil (then_n ?_)
   refine bcase b12 (fun v14 => ?_) (fun v14 => ?_)
   ·
    have p15 := of_decide_eq_false (k13.trans v14)
    refine wp_cond_false (ebool (b := b12) (by kernel_rfl) v14) ?_
    refine wp_skip (then_n (wp_seq (rg_lit ?_)))
    refine wmv (v := .string s) ?_
    refine wl (sc rfl (r_callv (caps := []) (all := [.string s]) En.f50 (by kernel_rfl) (by kernel_rfl)) (clean_at (Mx.up hmx (Mod.up M11)) s (by omega)) ?_)
    rintro e w16 ⟨rfl, u17⟩
    refine ⟨.tuple #[.string (cleanB s), .int .i64 (cleanK s)], rfl, ?_⟩
    have M18 := Mod.trans M11 (Mod.of_up u17)
    refine wmv (v := .tuple #[.string (cleanB s), .int .i64 (cleanK s)]) ?_
    refine wl (sv rfl (v := .string (cleanB s)) (r_extract (vs := [.string (cleanB s), .int .i64 (cleanK s)]) (by kernel_rfl) rfl) ?_)
    refine wl (sv rfl (v := .int .i64 (cleanK s)) (r_extract (vs := [.string (cleanB s), .int .i64 (cleanK s)]) (by kernel_rfl) rfl) ?_)
    refine was (v := .string (cleanB s)) ?_
    refine was (v := .int .i64 (cleanK s)) ?_
    refine wnil (then_n (wp_seq (wp_seq (rg_lit ?_))))
    refine wmv (v := .int .i64 (parseK s)) ?_
    refine wl (sb rfl (r_eq (k := .i64) (m := (parseK s)) (n := 0) (by kernel_rfl) (by kernel_rfl)) ?_)
    intro b19 k20
    refine wmv (v := .bool b19) ?_
    refine bcase b19 (fun v21 => ?_) (fun v21 => ?_)
    ·
     have p22 := of_decide_eq_false (k20.trans v21)
     refine wl (sp (wf (b := b19) rfl (by kernel_rfl) v21) ?_)
     refine wl (sp (wf (b := b19) rfl (by kernel_rfl) v21) ?_)
     refine wl (sp (wf (b := b19) rfl (by kernel_rfl) v21) ?_)
     refine wsp ?_
     refine wsp ?_
     refine wsp ?_
     refine wl (sp (wf (b := b19) rfl (by kernel_rfl) v21) ?_)
     refine wl (sv rfl (v := .bool false) (r_pkF (ebool (b := b19) (by kernel_rfl) v21) (by kernel_rfl)) ?_)
     refine wnil (then_n ?_)
     refine wp_cond_false (by kernel_rfl) ?_
     refine wp_skip (then_n (wp_seq (wp_seq (rg_lit ?_))))
     refine wmv (v := .int .i64 (cleanK s)) ?_
     refine wl (sb rfl (r_eq (k := .i64) (m := (cleanK s)) (n := 0) (by kernel_rfl) (by kernel_rfl)) ?_)
     intro b23 k24
     refine wnil (then_n ?_)
     refine bcase b23 (fun v25 => ?_) (fun v25 => ?_)
     ·
      have p26 := of_decide_eq_false (k24.trans v25)
      refine wp_cond_false (ebool (b := b23) (by kernel_rfl) v25) ?_
      refine wp_skip (then_n (wp_seq (rg_lit ?_)))
      refine wmv (v := .string s) ?_
      refine wl (sc rfl (r_callv (caps := []) (all := [.string s]) En.f48 (by kernel_rfl) (by kernel_rfl)) (pathSplit_at (Mx.up hmx (Mod.up M18)) s (by omega)) ?_)
      rintro e w27 ⟨rfl, u28⟩
      refine ⟨.tuple #[.string (dirB s), .string (lastB s), .int .i64 (splitKd s)], rfl, ?_⟩
      have M29 := Mod.trans M18 (Mod.of_up u28)
      refine wmv (v := .tuple #[.string (dirB s), .string (lastB s), .int .i64 (splitKd s)]) ?_
      refine wl (sv rfl (v := .string (dirB s)) (r_extract (vs := [.string (dirB s), .string (lastB s), .int .i64 (splitKd s)]) (by kernel_rfl) rfl) ?_)
      refine wl (sv rfl (v := .string (lastB s)) (r_extract (vs := [.string (dirB s), .string (lastB s), .int .i64 (splitKd s)]) (by kernel_rfl) rfl) ?_)
      refine wl (sv rfl (v := .int .i64 (splitKd s)) (r_extract (vs := [.string (dirB s), .string (lastB s), .int .i64 (splitKd s)]) (by kernel_rfl) rfl) ?_)
      refine was (v := .string (dirB s)) ?_
      refine was (v := .string (lastB s)) ?_
      refine was (v := .int .i64 (splitKd s)) ?_
      refine wnil (then_n (wp_seq (wp_seq (rg_lit ?_))))
      refine wmv (v := .int .i64 (splitKd s)) ?_
      refine wl (sb rfl (r_ne (k := .i64) (m := (splitKd s)) (n := 0) (by kernel_rfl) (by kernel_rfl)) ?_)
      intro b30 k31
      refine wnil (then_n ?_)
      refine bcase b30 (fun v32 => ?_) (fun v32 => ?_)
      ·
       have p33 := of_decide_eq_false (k31.trans v32)
       refine wp_cond_false (ebool (b := b30) (by kernel_rfl) v32) ?_
       refine wp_skip (then_n (wp_seq (wp_seq (rg_lit ?_))))
       refine wmv (v := .string (dirB s)) ?_
       refine wl (sb rfl (r_eqs (m := (dirB s)) (n := (⟨#[47]⟩)) (by kernel_rfl) (by kernel_rfl)) ?_)
       intro b34 k35
       refine wnil (then_n ?_)
       refine bcase b34 (fun v36 => ?_) (fun v36 => ?_)
       ·
        have p37 := of_decide_eq_false (k35.trans v36)
        refine wp_cond_false (ebool (b := b34) (by kernel_rfl) v36) ?_
        refine wp_skip (then_n (wp_seq (rg_lit ?_)))
        refine wmv (v := .int .i64 (parseK s)) ?_
        refine wl (sb rfl (r_eq (k := .i64) (m := (parseK s)) (n := 0) (by kernel_rfl) (by kernel_rfl)) ?_)
        intro b38 k39
        refine wmv (v := .bool b38) ?_
        refine bcase b38 (fun v40 => ?_) (fun v40 => ?_)
        ·
         have p41 := of_decide_eq_false (k39.trans v40)
         exact absurd (split_yes (Decidable.not_not.1 p33)).1 p41
        have p41 := of_decide_eq_true (k39.trans v40)
        exact absurd p41 p15
       have p37 := of_decide_eq_true (k35.trans v36)
       refine wp_cond_true (ebool (b := b34) (by kernel_rfl) v36) ?_
       refine rg_lit ?_
       refine was (v := .string (⟨#[]⟩)) ?_
       refine wnil (then_n (wp_seq (rg_lit ?_)))
       refine wmv (v := .int .i64 (parseK s)) ?_
       refine wl (sb rfl (r_eq (k := .i64) (m := (parseK s)) (n := 0) (by kernel_rfl) (by kernel_rfl)) ?_)
       intro b38 k39
       refine wmv (v := .bool b38) ?_
       refine bcase b38 (fun v40 => ?_) (fun v40 => ?_)
       ·
        have p41 := of_decide_eq_false (k39.trans v40)
        exact absurd (split_yes (Decidable.not_not.1 p33)).1 p41
       have p41 := of_decide_eq_true (k39.trans v40)
       exact absurd p41 p15
      have p33 := of_decide_eq_true (k31.trans v32)
      refine wp_cond_true (ebool (b := b30) (by kernel_rfl) v32) ?_
      refine wp_seq (rg_lit ?_)
      refine wmv (v := .int .i64 (parseK s)) ?_
      refine wl (sb rfl (r_ne (k := .i64) (m := (parseK s)) (n := 0) (by kernel_rfl) (by kernel_rfl)) ?_)
      intro b34 k35
      refine wmv (v := .bool b34) ?_
      refine bcase b34 (fun v36 => ?_) (fun v36 => ?_)
      ·
       have p37 := of_decide_eq_false (k35.trans v36)
       exact absurd (Decidable.not_not.1 p37) p15
      have p37 := of_decide_eq_true (k35.trans v36)
      refine wl (sp (wf (b := b34) rfl (by kernel_rfl) v36) ?_)
      refine wl (sp (wf (b := b34) rfl (by kernel_rfl) v36) ?_)
      refine wl (sv rfl (v := .bool true) (r_pkT (ebool (b := b34) (by kernel_rfl) v36) (by kernel_rfl)) ?_)
      refine wmv (v := .bool true) ?_
      refine wl (sc (by kernel_rfl) (r_callv (caps := []) (all := []) En.f40 (by kernel_rfl) (by kernel_rfl)) (alive19_at (TabIs.up htab (Mod.up M29)) (Mx.up hmx (Mod.up M29))) ?_)
      rintro e w38 ⟨rfl, u39⟩
      refine ⟨.bool true, rfl, ?_⟩
      have M40 := Mod.trans M29 (Mod.of_up u39)
      refine wl (sv rfl (v := .bool true) (r_pkT (by kernel_rfl) (by kernel_rfl)) ?_)
      refine was (v := .bool true) ?_
      refine wnil (then_n (wp_ret (then_x (by nofun) ?_)))
      refine bodyPost_ret (v := .bool true) (res1 rfl (rv_t (by kernel_rfl))) (by kernel_rfl) ?_
      exact ⟨rfl, (Mod.up M40)⟩
     have p26 := of_decide_eq_true (k24.trans v25)
     refine wp_cond_true (ebool (b := b23) (by kernel_rfl) v25) ?_
     refine wp_seq (rg_lit ?_)
     refine wmv (v := .string (cleanB s)) ?_
     refine wl (sc rfl (r_callv (caps := []) (all := [.string (cleanB s)]) En.f50 (by kernel_rfl) (by kernel_rfl)) (clean_at (Mx.up hmx (Mod.up M18)) (cleanB s) (by omega)) ?_)
     rintro e w27 ⟨rfl, u28⟩
     refine ⟨.tuple #[.string (cleanB (cleanB s)), .int .i64 (cleanK (cleanB s))], rfl, ?_⟩
     have M29 := Mod.trans M18 (Mod.of_up u28)
     refine wmv (v := .tuple #[.string (cleanB (cleanB s)), .int .i64 (cleanK (cleanB s))]) ?_
     refine wl (sv rfl (v := .string (cleanB (cleanB s))) (r_extract (vs := [.string (cleanB (cleanB s)), .int .i64 (cleanK (cleanB s))]) (by kernel_rfl) rfl) ?_)
     refine wl (sv rfl (v := .int .i64 (cleanK (cleanB s))) (r_extract (vs := [.string (cleanB (cleanB s)), .int .i64 (cleanK (cleanB s))]) (by kernel_rfl) rfl) ?_)
     refine was (v := .string (cleanB (cleanB s))) ?_
     refine was (v := .int .i64 (cleanK (cleanB s))) ?_
     refine wnil (then_n (wp_seq (rg_lit ?_)))
     refine wmv (v := .int .i64 (cleanK (cleanB s))) ?_
     refine wl (sb rfl (r_ne (k := .i64) (m := (cleanK (cleanB s))) (n := 0) (by kernel_rfl) (by kernel_rfl)) ?_)
     intro b30 k31
     refine wmv (v := .bool b30) ?_
     refine bcase b30 (fun v32 => ?_) (fun v32 => ?_)
     ·
      have p33 := of_decide_eq_false (k31.trans v32)
      refine wl (sv (wt (b := b30) rfl (by kernel_rfl) v32) (v := .string (cleanB (cleanB s))) (r_move (by kernel_rfl)) ?_)
      refine wl (sv (wt (b := b30) rfl (by kernel_rfl) v32) (v := .string (cleanB s)) (r_move (by kernel_rfl)) ?_)
      refine wl (sb (wt (b := b30) rfl (by kernel_rfl) v32) (r_nes (m := (cleanB (cleanB s))) (n := (cleanB s)) (by kernel_rfl) (by kernel_rfl)) ?_)
      intro b34 k35
      refine wl (sv rfl (v := .bool b34) (r_pkF (ebool (b := b30) (by kernel_rfl) v32) (by kernel_rfl)) ?_)
      refine wnil (then_n ?_)
      refine bcase b34 (fun v36 => ?_) (fun v36 => ?_)
      ·
       have p37 := of_decide_eq_false (k35.trans v36)
       refine wp_cond_false (ebool (b := b34) (by kernel_rfl) v36) ?_
       refine wp_skip (then_n (wp_seq (rg_lit ?_)))
       refine wmv (v := .string s) ?_
       refine wl (sc rfl (r_callv (caps := []) (all := [.string s]) En.f48 (by kernel_rfl) (by kernel_rfl)) (pathSplit_at (Mx.up hmx (Mod.up M29)) s (by omega)) ?_)
       rintro e w38 ⟨rfl, u39⟩
       refine ⟨.tuple #[.string (dirB s), .string (lastB s), .int .i64 (splitKd s)], rfl, ?_⟩
       have M40 := Mod.trans M29 (Mod.of_up u39)
       refine wmv (v := .tuple #[.string (dirB s), .string (lastB s), .int .i64 (splitKd s)]) ?_
       refine wl (sv rfl (v := .string (dirB s)) (r_extract (vs := [.string (dirB s), .string (lastB s), .int .i64 (splitKd s)]) (by kernel_rfl) rfl) ?_)
       refine wl (sv rfl (v := .string (lastB s)) (r_extract (vs := [.string (dirB s), .string (lastB s), .int .i64 (splitKd s)]) (by kernel_rfl) rfl) ?_)
       refine wl (sv rfl (v := .int .i64 (splitKd s)) (r_extract (vs := [.string (dirB s), .string (lastB s), .int .i64 (splitKd s)]) (by kernel_rfl) rfl) ?_)
       refine was (v := .string (dirB s)) ?_
       refine was (v := .string (lastB s)) ?_
       refine was (v := .int .i64 (splitKd s)) ?_
       refine wnil (then_n (wp_seq (wp_seq (rg_lit ?_))))
       refine wmv (v := .int .i64 (splitKd s)) ?_
       refine wl (sb rfl (r_ne (k := .i64) (m := (splitKd s)) (n := 0) (by kernel_rfl) (by kernel_rfl)) ?_)
       intro b41 k42
       refine wnil (then_n ?_)
       refine bcase b41 (fun v43 => ?_) (fun v43 => ?_)
       ·
        have p44 := of_decide_eq_false (k42.trans v43)
        refine wp_cond_false (ebool (b := b41) (by kernel_rfl) v43) ?_
        refine wp_skip (then_n (wp_seq (wp_seq (rg_lit ?_))))
        refine wmv (v := .string (dirB s)) ?_
        refine wl (sb rfl (r_eqs (m := (dirB s)) (n := (⟨#[47]⟩)) (by kernel_rfl) (by kernel_rfl)) ?_)
        intro b45 k46
        refine wnil (then_n ?_)
        refine bcase b45 (fun v47 => ?_) (fun v47 => ?_)
        ·
         have p48 := of_decide_eq_false (k46.trans v47)
         refine wp_cond_false (ebool (b := b45) (by kernel_rfl) v47) ?_
         refine wp_skip (then_n (wp_seq (rg_lit ?_)))
         refine wmv (v := .int .i64 (parseK s)) ?_
         refine wl (sb rfl (r_eq (k := .i64) (m := (parseK s)) (n := 0) (by kernel_rfl) (by kernel_rfl)) ?_)
         intro b49 k50
         refine wmv (v := .bool b49) ?_
         refine bcase b49 (fun v51 => ?_) (fun v51 => ?_)
         ·
          have p52 := of_decide_eq_false (k50.trans v51)
          exact absurd (split_yes (Decidable.not_not.1 p44)).1 p52
         have p52 := of_decide_eq_true (k50.trans v51)
         exact absurd p52 p15
        have p48 := of_decide_eq_true (k46.trans v47)
        refine wp_cond_true (ebool (b := b45) (by kernel_rfl) v47) ?_
        refine rg_lit ?_
        refine was (v := .string (⟨#[]⟩)) ?_
        refine wnil (then_n (wp_seq (rg_lit ?_)))
        refine wmv (v := .int .i64 (parseK s)) ?_
        refine wl (sb rfl (r_eq (k := .i64) (m := (parseK s)) (n := 0) (by kernel_rfl) (by kernel_rfl)) ?_)
        intro b49 k50
        refine wmv (v := .bool b49) ?_
        refine bcase b49 (fun v51 => ?_) (fun v51 => ?_)
        ·
         have p52 := of_decide_eq_false (k50.trans v51)
         exact absurd (split_yes (Decidable.not_not.1 p44)).1 p52
        have p52 := of_decide_eq_true (k50.trans v51)
        exact absurd p52 p15
       have p44 := of_decide_eq_true (k42.trans v43)
       refine wp_cond_true (ebool (b := b41) (by kernel_rfl) v43) ?_
       refine wp_seq (rg_lit ?_)
       refine wmv (v := .int .i64 (parseK s)) ?_
       refine wl (sb rfl (r_ne (k := .i64) (m := (parseK s)) (n := 0) (by kernel_rfl) (by kernel_rfl)) ?_)
       intro b45 k46
       refine wmv (v := .bool b45) ?_
       refine bcase b45 (fun v47 => ?_) (fun v47 => ?_)
       ·
        have p48 := of_decide_eq_false (k46.trans v47)
        exact absurd (Decidable.not_not.1 p48) p15
       have p48 := of_decide_eq_true (k46.trans v47)
       refine wl (sp (wf (b := b45) rfl (by kernel_rfl) v47) ?_)
       refine wl (sp (wf (b := b45) rfl (by kernel_rfl) v47) ?_)
       refine wl (sv rfl (v := .bool true) (r_pkT (ebool (b := b45) (by kernel_rfl) v47) (by kernel_rfl)) ?_)
       refine wmv (v := .bool true) ?_
       refine wl (sc (by kernel_rfl) (r_callv (caps := []) (all := []) En.f40 (by kernel_rfl) (by kernel_rfl)) (alive19_at (TabIs.up htab (Mod.up M40)) (Mx.up hmx (Mod.up M40))) ?_)
       rintro e w49 ⟨rfl, u50⟩
       refine ⟨.bool true, rfl, ?_⟩
       have M51 := Mod.trans M40 (Mod.of_up u50)
       refine wl (sv rfl (v := .bool true) (r_pkT (by kernel_rfl) (by kernel_rfl)) ?_)
       refine was (v := .bool true) ?_
       refine wnil (then_n (wp_ret (then_x (by nofun) ?_)))
       refine bodyPost_ret (v := .bool true) (res1 rfl (rv_t (by kernel_rfl))) (by kernel_rfl) ?_
       exact ⟨rfl, (Mod.up M51)⟩
      have p37 := of_decide_eq_true (k35.trans v36)
      exact absurd (clean_clean p26).2 p37
     have p33 := of_decide_eq_true (k31.trans v32)
     exact absurd (clean_clean p26).1 p33
    have p22 := of_decide_eq_true (k20.trans v21)
    exact absurd p22 p15
   have p15 := of_decide_eq_true (k13.trans v14)
   refine wp_cond_true (ebool (b := b12) (by kernel_rfl) v14) ?_
   refine wp_seq (rg_lit ?_)
   refine wmv (v := .slice A6 ((parseL s).length) c7) ?_
   refine wl (sc rfl (r_callv (caps := []) (all := [.slice A6 ((parseL s).length) c7]) En.f46 (by kernel_rfl) (by kernel_rfl)) (showP_at (l := (parseL s)) h8 (Mx.up hmx (Mod.up M11)) hzp.1 hzp.2.1 hzp.2.2) ?_)
   rintro e w16 ⟨rfl, u17⟩
   refine ⟨.tuple #[.string (showB (parseL s)), .int .i64 (showK (parseL s))], rfl, ?_⟩
   have M18 := Mod.trans M11 (Mod.of_up u17)
   refine wmv (v := .tuple #[.string (showB (parseL s)), .int .i64 (showK (parseL s))]) ?_
   refine wl (sv rfl (v := .string (showB (parseL s))) (r_extract (vs := [.string (showB (parseL s)), .int .i64 (showK (parseL s))]) (by kernel_rfl) rfl) ?_)
   refine wl (sv rfl (v := .int .i64 (showK (parseL s))) (r_extract (vs := [.string (showB (parseL s)), .int .i64 (showK (parseL s))]) (by kernel_rfl) rfl) ?_)
   refine was (v := .string (showB (parseL s))) ?_
   refine was (v := .int .i64 (showK (parseL s))) ?_
   refine wnil (then_n (wp_seq (rg_lit ?_)))
   refine wmv (v := .int .i64 (showK (parseL s))) ?_
   refine wl (sb rfl (r_ne (k := .i64) (m := (showK (parseL s))) (n := 0) (by kernel_rfl) (by kernel_rfl)) ?_)
   intro b19 k20
   refine wmv (v := .bool b19) ?_
   refine bcase b19 (fun v21 => ?_) (fun v21 => ?_)
   ·
    have p22 := of_decide_eq_false (k20.trans v21)
    refine wl (sv (wt (b := b19) rfl (by kernel_rfl) v21) (v := .string (showB (parseL s))) (r_move (by kernel_rfl)) ?_)
    refine wl (sv (wt (b := b19) rfl (by kernel_rfl) v21) (v := .string s) (r_move (by kernel_rfl)) ?_)
    refine wl (sb (wt (b := b19) rfl (by kernel_rfl) v21) (r_nes (m := (showB (parseL s))) (n := s) (by kernel_rfl) (by kernel_rfl)) ?_)
    intro b23 k24
    refine wl (sv rfl (v := .bool b23) (r_pkF (ebool (b := b19) (by kernel_rfl) v21) (by kernel_rfl)) ?_)
    refine wnil (then_n ?_)
    refine bcase b23 (fun v25 => ?_) (fun v25 => ?_)
    ·
     have p26 := of_decide_eq_false (k24.trans v25)
     refine wp_cond_false (ebool (b := b23) (by kernel_rfl) v25) ?_
     refine wp_skip (then_n (wp_seq (rg_lit ?_)))
     refine wmv (v := .string s) ?_
     refine wl (sc rfl (r_callv (caps := []) (all := [.string s]) En.f50 (by kernel_rfl) (by kernel_rfl)) (clean_at (Mx.up hmx (Mod.up M18)) s (by omega)) ?_)
     rintro e w27 ⟨rfl, u28⟩
     refine ⟨.tuple #[.string (cleanB s), .int .i64 (cleanK s)], rfl, ?_⟩
     have M29 := Mod.trans M18 (Mod.of_up u28)
     refine wmv (v := .tuple #[.string (cleanB s), .int .i64 (cleanK s)]) ?_
     refine wl (sv rfl (v := .string (cleanB s)) (r_extract (vs := [.string (cleanB s), .int .i64 (cleanK s)]) (by kernel_rfl) rfl) ?_)
     refine wl (sv rfl (v := .int .i64 (cleanK s)) (r_extract (vs := [.string (cleanB s), .int .i64 (cleanK s)]) (by kernel_rfl) rfl) ?_)
     refine was (v := .string (cleanB s)) ?_
     refine was (v := .int .i64 (cleanK s)) ?_
     refine wnil (then_n (wp_seq (wp_seq (rg_lit ?_))))
     refine wmv (v := .int .i64 (parseK s)) ?_
     refine wl (sb rfl (r_eq (k := .i64) (m := (parseK s)) (n := 0) (by kernel_rfl) (by kernel_rfl)) ?_)
     intro b30 k31
     refine wmv (v := .bool b30) ?_
     refine bcase b30 (fun v32 => ?_) (fun v32 => ?_)
     ·
      have p33 := of_decide_eq_false (k31.trans v32)
      exact absurd p15 p33
     have p33 := of_decide_eq_true (k31.trans v32)
     refine wl (sv (wt (b := b30) rfl (by kernel_rfl) v32) (v := .int .i64 (cleanK s)) (r_move (by kernel_rfl)) ?_)
     refine wl (sb (wt (b := b30) rfl (by kernel_rfl) v32) (r_ne (k := .i64) (m := (cleanK s)) (n := 0) (by kernel_rfl) (by kernel_rfl)) ?_)
     intro b34 k35
     refine wl (sv (wt (b := b30) rfl (by kernel_rfl) v32) (v := .bool b34) (r_move (by kernel_rfl)) ?_)
     refine bcase b34 (fun v36 => ?_) (fun v36 => ?_)
     ·
      have p37 := of_decide_eq_false (k35.trans v36)
      refine wl (sv (wt (b := b34) rfl (by kernel_rfl) v36) (v := .string (cleanB s)) (r_move (by kernel_rfl)) ?_)
      refine wl (sv (wt (b := b34) rfl (by kernel_rfl) v36) (v := .string s) (r_move (by kernel_rfl)) ?_)
      refine wl (sb (wt (b := b34) rfl (by kernel_rfl) v36) (r_nes (m := (cleanB s)) (n := s) (by kernel_rfl) (by kernel_rfl)) ?_)
      intro b38 k39
      refine wl (sv (wt (b := b30) rfl (by kernel_rfl) v32) (v := .bool b38) (r_pkF (ebool (b := b34) (by kernel_rfl) v36) (by kernel_rfl)) ?_)
      refine wl (sv rfl (v := .bool b38) (r_pkT (ebool (b := b30) (by kernel_rfl) v32) (by kernel_rfl)) ?_)
      refine wnil (then_n ?_)
      refine bcase b38 (fun v40 => ?_) (fun v40 => ?_)
      ·
       have p41 := of_decide_eq_false (k39.trans v40)
       refine wp_cond_false (ebool (b := b38) (by kernel_rfl) v40) ?_
       refine wp_skip (then_n (wp_seq (wp_seq (rg_lit ?_))))
       refine wmv (v := .int .i64 (cleanK s)) ?_
       refine wl (sb rfl (r_eq (k := .i64) (m := (cleanK s)) (n := 0) (by kernel_rfl) (by kernel_rfl)) ?_)
       intro b42 k43
       refine wnil (then_n ?_)
       refine bcase b42 (fun v44 => ?_) (fun v44 => ?_)
       ·
        have p45 := of_decide_eq_false (k43.trans v44)
        exact absurd (Decidable.not_not.1 p37) p45
       have p45 := of_decide_eq_true (k43.trans v44)
       refine wp_cond_true (ebool (b := b42) (by kernel_rfl) v44) ?_
       refine wp_seq (rg_lit ?_)
       refine wmv (v := .string (cleanB s)) ?_
       refine wl (sc rfl (r_callv (caps := []) (all := [.string (cleanB s)]) En.f50 (by kernel_rfl) (by kernel_rfl)) (clean_at (Mx.up hmx (Mod.up M29)) (cleanB s) (by omega)) ?_)
       rintro e w46 ⟨rfl, u47⟩
       refine ⟨.tuple #[.string (cleanB (cleanB s)), .int .i64 (cleanK (cleanB s))], rfl, ?_⟩
       have M48 := Mod.trans M29 (Mod.of_up u47)
       refine wmv (v := .tuple #[.string (cleanB (cleanB s)), .int .i64 (cleanK (cleanB s))]) ?_
       refine wl (sv rfl (v := .string (cleanB (cleanB s))) (r_extract (vs := [.string (cleanB (cleanB s)), .int .i64 (cleanK (cleanB s))]) (by kernel_rfl) rfl) ?_)
       refine wl (sv rfl (v := .int .i64 (cleanK (cleanB s))) (r_extract (vs := [.string (cleanB (cleanB s)), .int .i64 (cleanK (cleanB s))]) (by kernel_rfl) rfl) ?_)
       refine was (v := .string (cleanB (cleanB s))) ?_
       refine was (v := .int .i64 (cleanK (cleanB s))) ?_
       refine wnil (then_n (wp_seq (rg_lit ?_)))
       refine wmv (v := .int .i64 (cleanK (cleanB s))) ?_
       refine wl (sb rfl (r_ne (k := .i64) (m := (cleanK (cleanB s))) (n := 0) (by kernel_rfl) (by kernel_rfl)) ?_)
       intro b49 k50
       refine wmv (v := .bool b49) ?_
       refine bcase b49 (fun v51 => ?_) (fun v51 => ?_)
       ·
        have p52 := of_decide_eq_false (k50.trans v51)
        refine wl (sv (wt (b := b49) rfl (by kernel_rfl) v51) (v := .string (cleanB (cleanB s))) (r_move (by kernel_rfl)) ?_)
        refine wl (sv (wt (b := b49) rfl (by kernel_rfl) v51) (v := .string (cleanB s)) (r_move (by kernel_rfl)) ?_)
        refine wl (sb (wt (b := b49) rfl (by kernel_rfl) v51) (r_nes (m := (cleanB (cleanB s))) (n := (cleanB s)) (by kernel_rfl) (by kernel_rfl)) ?_)
        intro b53 k54
        refine wl (sv rfl (v := .bool b53) (r_pkF (ebool (b := b49) (by kernel_rfl) v51) (by kernel_rfl)) ?_)
        refine wnil (then_n ?_)
        refine bcase b53 (fun v55 => ?_) (fun v55 => ?_)
        ·
         have p56 := of_decide_eq_false (k54.trans v55)
         refine wp_cond_false (ebool (b := b53) (by kernel_rfl) v55) ?_
         refine wp_skip (then_n (wp_seq (rg_lit ?_)))
         refine wmv (v := .string s) ?_
         refine wl (sc rfl (r_callv (caps := []) (all := [.string s]) En.f48 (by kernel_rfl) (by kernel_rfl)) (pathSplit_at (Mx.up hmx (Mod.up M48)) s (by omega)) ?_)
         rintro e w57 ⟨rfl, u58⟩
         refine ⟨.tuple #[.string (dirB s), .string (lastB s), .int .i64 (splitKd s)], rfl, ?_⟩
         have M59 := Mod.trans M48 (Mod.of_up u58)
         refine wmv (v := .tuple #[.string (dirB s), .string (lastB s), .int .i64 (splitKd s)]) ?_
         refine wl (sv rfl (v := .string (dirB s)) (r_extract (vs := [.string (dirB s), .string (lastB s), .int .i64 (splitKd s)]) (by kernel_rfl) rfl) ?_)
         refine wl (sv rfl (v := .string (lastB s)) (r_extract (vs := [.string (dirB s), .string (lastB s), .int .i64 (splitKd s)]) (by kernel_rfl) rfl) ?_)
         refine wl (sv rfl (v := .int .i64 (splitKd s)) (r_extract (vs := [.string (dirB s), .string (lastB s), .int .i64 (splitKd s)]) (by kernel_rfl) rfl) ?_)
         refine was (v := .string (dirB s)) ?_
         refine was (v := .string (lastB s)) ?_
         refine was (v := .int .i64 (splitKd s)) ?_
         refine wnil (then_n (wp_seq (wp_seq (rg_lit ?_))))
         refine wmv (v := .int .i64 (splitKd s)) ?_
         refine wl (sb rfl (r_ne (k := .i64) (m := (splitKd s)) (n := 0) (by kernel_rfl) (by kernel_rfl)) ?_)
         intro b60 k61
         refine wnil (then_n ?_)
         refine bcase b60 (fun v62 => ?_) (fun v62 => ?_)
         ·
          have p63 := of_decide_eq_false (k61.trans v62)
          refine wp_cond_false (ebool (b := b60) (by kernel_rfl) v62) ?_
          refine wp_skip (then_n (wp_seq (wp_seq (rg_lit ?_))))
          refine wmv (v := .string (dirB s)) ?_
          refine wl (sb rfl (r_eqs (m := (dirB s)) (n := (⟨#[47]⟩)) (by kernel_rfl) (by kernel_rfl)) ?_)
          intro b64 k65
          refine wnil (then_n ?_)
          refine bcase b64 (fun v66 => ?_) (fun v66 => ?_)
          ·
           have p67 := of_decide_eq_false (k65.trans v66)
           refine wp_cond_false (ebool (b := b64) (by kernel_rfl) v66) ?_
           refine wp_skip (then_n (wp_seq (rg_lit ?_)))
           refine wmv (v := .int .i64 (parseK s)) ?_
           refine wl (sb rfl (r_eq (k := .i64) (m := (parseK s)) (n := 0) (by kernel_rfl) (by kernel_rfl)) ?_)
           intro b68 k69
           refine wmv (v := .bool b68) ?_
           refine bcase b68 (fun v70 => ?_) (fun v70 => ?_)
           ·
            have p71 := of_decide_eq_false (k69.trans v70)
            exact absurd p15 p71
           have p71 := of_decide_eq_true (k69.trans v70)
           refine wl (sv (wt (b := b68) rfl (by kernel_rfl) v70) (v := .string (dirB s)) (r_move (by kernel_rfl)) ?_)
           refine wl (sv (wt (b := b68) rfl (by kernel_rfl) v70) (v := .string ((dirB s) ++ (⟨#[47]⟩ : ByteArray))) (r_adds (m := (dirB s)) (n := (⟨#[47]⟩)) (by kernel_rfl) (by kernel_rfl) (by (try simp only [ByteArray.size_append]); omega)) ?_)
           refine wl (sv (wt (b := b68) rfl (by kernel_rfl) v70) (v := .string (lastB s)) (r_move (by kernel_rfl)) ?_)
           refine wl (sv (wt (b := b68) rfl (by kernel_rfl) v70) (v := .string (((dirB s) ++ (⟨#[47]⟩ : ByteArray)) ++ (lastB s))) (r_adds (m := ((dirB s) ++ (⟨#[47]⟩ : ByteArray))) (n := (lastB s)) (by kernel_rfl) (by kernel_rfl) (by (try simp only [ByteArray.size_append]); omega)) ?_)
           refine wl (sv (wt (b := b68) rfl (by kernel_rfl) v70) (v := .string s) (r_move (by kernel_rfl)) ?_)
           refine wl (sb (wt (b := b68) rfl (by kernel_rfl) v70) (r_eqs (m := (((dirB s) ++ (⟨#[47]⟩ : ByteArray)) ++ (lastB s))) (n := s) (by kernel_rfl) (by kernel_rfl)) ?_)
           intro b72 k73
           refine wl (sv rfl (v := .bool b72) (r_pkT (ebool (b := b68) (by kernel_rfl) v70) (by kernel_rfl)) ?_)
           refine wmv (v := .bool b72) ?_
           refine bcase b72 (fun v74 => ?_) (fun v74 => ?_)
           ·
            have p75 := of_decide_eq_false (k73.trans v74)
            exact absurd (split_deep (Decidable.not_not.1 p63) p67) p75
           have p75 := of_decide_eq_true (k73.trans v74)
           refine wl (sc (wt (b := b72) rfl (by kernel_rfl) v74) (r_callv (caps := []) (all := []) En.f40 (by kernel_rfl) (by kernel_rfl)) (alive19_at (TabIs.up htab (Mod.up M59)) (Mx.up hmx (Mod.up M59))) ?_)
           rintro e w76 ⟨rfl, u77⟩
           refine ⟨.bool true, rfl, ?_⟩
           have M78 := Mod.trans M59 (Mod.of_up u77)
           refine wl (sv rfl (v := .bool true) (r_pkT (ebool (b := b72) (by kernel_rfl) v74) (by kernel_rfl)) ?_)
           refine was (v := .bool true) ?_
           refine wnil (then_n (wp_ret ?_))
           refine bodyPost_ret (v := .bool true) (res1 rfl (rv_t (by kernel_rfl))) (by kernel_rfl) ?_
           exact ⟨rfl, (Mod.up M78)⟩
          have p67 := of_decide_eq_true (k65.trans v66)
          refine wp_cond_true (ebool (b := b64) (by kernel_rfl) v66) ?_
          refine rg_lit ?_
          refine was (v := .string (⟨#[]⟩)) ?_
          refine wnil (then_n (wp_seq (rg_lit ?_)))
          refine wmv (v := .int .i64 (parseK s)) ?_
          refine wl (sb rfl (r_eq (k := .i64) (m := (parseK s)) (n := 0) (by kernel_rfl) (by kernel_rfl)) ?_)
          intro b68 k69
          refine wmv (v := .bool b68) ?_
          refine bcase b68 (fun v70 => ?_) (fun v70 => ?_)
          ·
           have p71 := of_decide_eq_false (k69.trans v70)
           exact absurd p15 p71
          have p71 := of_decide_eq_true (k69.trans v70)
          refine wl (sv (wt (b := b68) rfl (by kernel_rfl) v70) (v := .string (⟨#[]⟩)) (r_move (by kernel_rfl)) ?_)
          refine wl (sv (wt (b := b68) rfl (by kernel_rfl) v70) (v := .string ((⟨#[]⟩ : ByteArray) ++ (⟨#[47]⟩ : ByteArray))) (r_adds (m := (⟨#[]⟩)) (n := (⟨#[47]⟩)) (by kernel_rfl) (by kernel_rfl) (by (try simp only [ByteArray.size_append]); omega)) ?_)
          refine wl (sv (wt (b := b68) rfl (by kernel_rfl) v70) (v := .string (lastB s)) (r_move (by kernel_rfl)) ?_)
          refine wl (sv (wt (b := b68) rfl (by kernel_rfl) v70) (v := .string (((⟨#[]⟩ : ByteArray) ++ (⟨#[47]⟩ : ByteArray)) ++ (lastB s))) (r_adds (m := ((⟨#[]⟩ : ByteArray) ++ (⟨#[47]⟩ : ByteArray))) (n := (lastB s)) (by kernel_rfl) (by kernel_rfl) (by (try simp only [ByteArray.size_append]); omega)) ?_)
          refine wl (sv (wt (b := b68) rfl (by kernel_rfl) v70) (v := .string s) (r_move (by kernel_rfl)) ?_)
          refine wl (sb (wt (b := b68) rfl (by kernel_rfl) v70) (r_eqs (m := (((⟨#[]⟩ : ByteArray) ++ (⟨#[47]⟩ : ByteArray)) ++ (lastB s))) (n := s) (by kernel_rfl) (by kernel_rfl)) ?_)
          intro b72 k73
          refine wl (sv rfl (v := .bool b72) (r_pkT (ebool (b := b68) (by kernel_rfl) v70) (by kernel_rfl)) ?_)
          refine wmv (v := .bool b72) ?_
          refine bcase b72 (fun v74 => ?_) (fun v74 => ?_)
          ·
           have p75 := of_decide_eq_false (k73.trans v74)
           exact absurd (split_root (Decidable.not_not.1 p63) p67) p75
          have p75 := of_decide_eq_true (k73.trans v74)
          refine wl (sc (wt (b := b72) rfl (by kernel_rfl) v74) (r_callv (caps := []) (all := []) En.f40 (by kernel_rfl) (by kernel_rfl)) (alive19_at (TabIs.up htab (Mod.up M59)) (Mx.up hmx (Mod.up M59))) ?_)
          rintro e w76 ⟨rfl, u77⟩
          refine ⟨.bool true, rfl, ?_⟩
          have M78 := Mod.trans M59 (Mod.of_up u77)
          refine wl (sv rfl (v := .bool true) (r_pkT (ebool (b := b72) (by kernel_rfl) v74) (by kernel_rfl)) ?_)
          refine was (v := .bool true) ?_
          refine wnil (then_n (wp_ret ?_))
          refine bodyPost_ret (v := .bool true) (res1 rfl (rv_t (by kernel_rfl))) (by kernel_rfl) ?_
          exact ⟨rfl, (Mod.up M78)⟩
         have p63 := of_decide_eq_true (k61.trans v62)
         refine wp_cond_true (ebool (b := b60) (by kernel_rfl) v62) ?_
         refine wp_seq (rg_lit ?_)
         refine wmv (v := .int .i64 (parseK s)) ?_
         refine wl (sb rfl (r_ne (k := .i64) (m := (parseK s)) (n := 0) (by kernel_rfl) (by kernel_rfl)) ?_)
         intro b64 k65
         refine wmv (v := .bool b64) ?_
         refine bcase b64 (fun v66 => ?_) (fun v66 => ?_)
         ·
          have p67 := of_decide_eq_false (k65.trans v66)
          refine wl (sv (wt (b := b64) rfl (by kernel_rfl) v66) (v := .string s) (r_move (by kernel_rfl)) ?_)
          refine wl (sb (wt (b := b64) rfl (by kernel_rfl) v66) (r_eqs (m := s) (n := (⟨#[47]⟩)) (by kernel_rfl) (by kernel_rfl)) ?_)
          intro b68 k69
          refine wl (sv rfl (v := .bool b68) (r_pkF (ebool (b := b64) (by kernel_rfl) v66) (by kernel_rfl)) ?_)
          refine wmv (v := .bool b68) ?_
          refine bcase b68 (fun v70 => ?_) (fun v70 => ?_)
          ·
           have p71 := of_decide_eq_false (k69.trans v70)
           exact absurd (split_no p63 p15) p71
          have p71 := of_decide_eq_true (k69.trans v70)
          refine wl (sc (wt (b := b68) rfl (by kernel_rfl) v70) (r_callv (caps := []) (all := []) En.f40 (by kernel_rfl) (by kernel_rfl)) (alive19_at (TabIs.up htab (Mod.up M59)) (Mx.up hmx (Mod.up M59))) ?_)
          rintro e w72 ⟨rfl, u73⟩
          refine ⟨.bool true, rfl, ?_⟩
          have M74 := Mod.trans M59 (Mod.of_up u73)
          refine wl (sv rfl (v := .bool true) (r_pkT (ebool (b := b68) (by kernel_rfl) v70) (by kernel_rfl)) ?_)
          refine was (v := .bool true) ?_
          refine wnil (then_n (wp_ret (then_x (by nofun) ?_)))
          refine bodyPost_ret (v := .bool true) (res1 rfl (rv_t (by kernel_rfl))) (by kernel_rfl) ?_
          exact ⟨rfl, (Mod.up M74)⟩
         have p67 := of_decide_eq_true (k65.trans v66)
         exact absurd p15 p67
        have p56 := of_decide_eq_true (k54.trans v55)
        exact absurd (clean_clean (Decidable.not_not.1 p37)).2 p56
       have p52 := of_decide_eq_true (k50.trans v51)
       exact absurd (clean_clean (Decidable.not_not.1 p37)).1 p52
      have p41 := of_decide_eq_true (k39.trans v40)
      exact absurd (parse_clean p15).2 p41
     have p37 := of_decide_eq_true (k35.trans v36)
     exact absurd (parse_clean p15).1 p37
    have p26 := of_decide_eq_true (k24.trans v25)
    exact absurd (parse_show p15).2 p26
   have p22 := of_decide_eq_true (k20.trans v21)
   exact absurd (parse_show p15).1 p22
  have p4 := of_decide_eq_true (k2.trans v3)
  refine wp_cond_true (ebool (b := b1) (by kernel_rfl) v3) ?_
  refine wp_seq (rg_lit ?_)
  refine wl (sc rfl (r_callv (caps := []) (all := []) En.f40 (by kernel_rfl) (by kernel_rfl)) (alive19_at (TabIs.up htab (Mod.up (Mod.refl [] w))) (Mx.up hmx (Mod.up (Mod.refl [] w)))) ?_)
  rintro e w5 ⟨rfl, u6⟩
  refine ⟨.bool true, rfl, ?_⟩
  have M7 := Mod.trans (Mod.refl [] w) (Mod.of_up u6)
  refine was (v := .bool true) ?_
  refine wnil (then_n (wp_ret (then_x (by nofun) ?_)))
  refine bodyPost_ret (v := .bool true) (res1 rfl (rv_t (by kernel_rfl))) (by kernel_rfl) ?_
  exact ⟨rfl, (Mod.up M7)⟩
end Go.Proofs.YtefhfoioeoijlaaGreatDoor

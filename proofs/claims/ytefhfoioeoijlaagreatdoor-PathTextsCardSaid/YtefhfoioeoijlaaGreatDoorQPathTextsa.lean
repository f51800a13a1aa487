/- Step, Ty, Arg, Pth3, PC, Pth5, Pth6, Pth7 -/
import Derived.Below
import Derived.ChangeOld
import Derived.ChangeSame
import Derived.Deep.Fields
import Derived.Deep.Slices
import Derived.Laws.CopyRow
import Derived.Lib.SplitLaws
import Derived.OpenShut
import Derived.OrdersHeld
import Derived.ProofKit
import Derived.ShutString
import Derived.Test.YtefhfoioeoijlaaGreatDoorProg
import Derived.WalkKit
import Derived.WideShapes
import Derived.Test.YtefhfoioeoijlaaGreatDoorQaa
import Derived.Test.YtefhfoioeoijlaaGreatDoorQab
import Derived.Test.YtefhfoioeoijlaaGreatDoorQac
import Derived.Test.YtefhfoioeoijlaaGreatDoorQad
import Derived.Test.YtefhfoioeoijlaaGreatDoorQae
import Derived.Test.YtefhfoioeoijlaaGreatDoorQaf
import Derived.Test.YtefhfoioeoijlaaGreatDoorQag
import Derived.Test.YtefhfoioeoijlaaGreatDoorQah
import Derived.Test.YtefhfoioeoijlaaGreatDoorQai
import Derived.Test.YtefhfoioeoijlaaGreatDoorQaj
import Derived.Test.YtefhfoioeoijlaaGreatDoorQak
import Derived.Test.YtefhfoioeoijlaaGreatDoorQal
import Derived.Test.YtefhfoioeoijlaaGreatDoorQam
import Derived.Test.YtefhfoioeoijlaaGreatDoorQan
import Derived.Test.YtefhfoioeoijlaaGreatDoorQao
import Derived.Test.YtefhfoioeoijlaaGreatDoorQap
import Derived.Test.YtefhfoioeoijlaaGreatDoorQaq
import Derived.Test.YtefhfoioeoijlaaGreatDoorQar
import Derived.Test.YtefhfoioeoijlaaGreatDoorQas
import Derived.Test.YtefhfoioeoijlaaGreatDoorQat
import Derived.Test.YtefhfoioeoijlaaGreatDoorQau
import Derived.Test.YtefhfoioeoijlaaGreatDoorQav
set_option linter.unusedVariables false
set_option linter.unusedSimpArgs false
namespace Go.Proofs.YtefhfoioeoijlaaGreatDoor
open Go Go.RowKit Go.Sort
section
variable {P : Program} {fn : Func} {tmps : Array Value} {w : World}
theorem res3 {r s t : ResultVar} {u v x : Value} (h : fn.results = #[r, s, t]) (h1 : RV P w tmps r u) (h2 : RV P w tmps s v) (h3 : RV P w tmps t x) : (results fn tmps).run P w = .ok (.tuple #[u, v, x]) w := by
  cases r <;> cases s <;> cases t <;> simp only [RV] at h1 h2 h3 <;> (try obtain ⟨p, h1, h1'⟩ := h1) <;> (try obtain ⟨q, h2, h2'⟩ := h2) <;> (try obtain ⟨q', h3, h3'⟩ := h3) <;> simp [results, h, asAddr, *]
end
end Go.Proofs.YtefhfoioeoijlaaGreatDoor
set_option linter.unusedVariables false
namespace Go.Proofs.YtefhfoioeoijlaaGreatDoor
open Go Go.RowKit Go.Sort
theorem En.f33 : ∀ args w, (callFunc 33 args).run Tryz.prog w = .ok (.enter 33 args) w := enters_of Tryz.func33 (by kernel_rfl) rfl
theorem En.f45 : ∀ args w, (callFunc 45 args).run Tryz.prog w = .ok (.enter 45 args) w := enters_of Tryz.func45 (by kernel_rfl) rfl
theorem En.f47 : ∀ args w, (callFunc 47 args).run Tryz.prog w = .ok (.enter 47 args) w := enters_of Tryz.func47 (by kernel_rfl) rfl
theorem En.f48 : ∀ args w, (callFunc 48 args).run Tryz.prog w = .ok (.enter 48 args) w := enters_of Tryz.func48 (by kernel_rfl) rfl
theorem En.f49 : ∀ args w, (callFunc 49 args).run Tryz.prog w = .ok (.enter 49 args) w := enters_of Tryz.func49 (by kernel_rfl) rfl
theorem En.f51 : ∀ args w, (callFunc 51 args).run Tryz.prog w = .ok (.enter 51 args) w := enters_of Tryz.func51 (by kernel_rfl) rfl
theorem En.f88 : ∀ args w, (callFunc 88 args).run Tryz.prog w = .ok (.enter 88 args) w := enters_of Tryz.func88 (by kernel_rfl) rfl
theorem En.f105 : ∀ args w, (callFunc 105 args).run Tryz.prog w = .ok (.enter 105 args) w := enters_of Tryz.func105 (by kernel_rfl) rfl
theorem En.f109 : ∀ args w, (callFunc 109 args).run Tryz.prog w = .ok (.enter 109 args) w := enters_of Tryz.func109 (by kernel_rfl) rfl
theorem En.f158 : ∀ args w, (callFunc 158 args).run Tryz.prog w = .ok (.enter 158 args) w := enters_of Tryz.func158 (by kernel_rfl) rfl
end Go.Proofs.YtefhfoioeoijlaaGreatDoor
set_option linter.unusedVariables false
set_option linter.unusedSimpArgs false
namespace Go.Proofs.YtefhfoioeoijlaaGreatDoor
open Go Go.RowKit Go.Sort Go.Shelf
theorem bool_true {P : Program} {f : FuncId} {args : Array Value} {w : World} {p : Prop} [Decidable p] (hp : p) (h : Calls P f args w fun e w' => e = .returned (.bool (decide p)) ∧ Up w w') : Calls P f args w fun e w' => e = .returned (.bool true) ∧ Up w w' := by
  rw [decide_eq_true hp] at h; exact h
end Go.Proofs.YtefhfoioeoijlaaGreatDoor
namespace Go.Proofs.YtefhfoioeoijlaaGreatDoor
open Go Go.RowKit Go.ChangeShapes Go.WideShapes Go.ChangeAt Go.Deep
section
variable {H : Type} {enc : TypeId × Value → H}
theorem spot_none {w : World} {a : Addr} {v : Value} (h : w.cell? a = some v) : a = ⟨a.block, a.off, none⟩ ∧ a.block < w.heap.size := by
  obtain ⟨b, o, s⟩ := a
  refine ⟨?_, World.block_lt_of_cell? w _ h⟩
  cases s with
  | none => rfl
  | some s => unfold World.cell? at h; simp at h; split at h <;> simp at h
end
end Go.Proofs.YtefhfoioeoijlaaGreatDoor
set_option linter.unusedVariables false
set_option linter.unusedSimpArgs false
namespace Go.Proofs.YtefhfoioeoijlaaGreatDoor
open Go Go.RowKit Go.Sort
theorem splC_no (c : UInt8) : ∀ s, ∀ x ∈ splC c s, c ∉ x
  | [], x, hx => by simp [splC] at hx; subst hx; simp
  | b :: l, x, hx => by
    have ih := splC_no c l
    cases e : splC c l with
    | nil => exact absurd e (splC_ne c l)
    | cons y t =>
      rw [e] at ih
      by_cases h : b = c
      · subst h; rw [splC_hit, e] at hx
        rcases List.mem_cons.1 hx with rfl | hx
        · simp
        · exact ih x hx
      · rw [splC_miss h e] at hx
        rcases List.mem_cons.1 hx with rfl | hx
        · have := ih y (by simp); simp [this, Ne.symm h]
        · exact ih x (by simp [hx])
theorem SSRow.pre {w : World} {A : Option Addr} {c k : Nat} {L : List ByteArray} (h : SSRow w (.slice A L.length c) L) (hk : k ≤ L.length) : SSRow w (.slice A (L.take k).length c) (L.take k) := by
  obtain ⟨A', c', e, hc, h0⟩ := h
  injection e with e1 _ e3
  subst e1; subst e3
  refine ⟨_, _, rfl, by rw [List.length_take]; omega, ?_⟩
  rcases h0 with h0 | ⟨g, f, hA, hg, hcell⟩
  · left; rw [h0]; simp
  · refine .inr ⟨g, f, hA, hg, fun j x hx => hcell j x ?_⟩
    rw [List.getElem?_take] at hx
    split at hx
    · exact hx
    · cases hx
def dirB (s : ByteArray) : ByteArray := if parseK s = 0 ∧ parseL s ≠ [] then showB ((parseL s).take ((parseL s).length - 1)) else ⟨#[]⟩
def lastB (s : ByteArray) : ByteArray := if parseK s = 0 ∧ parseL s ≠ [] then (parseL s).getLast?.getD ⟨#[]⟩ else ⟨#[]⟩
def splitKd (s : ByteArray) : Int := if parseK s = 0 ∧ parseL s ≠ [] then 0 else 17
theorem split_1 {s : ByteArray} (h : parseK s ≠ 0) : dirB s = ⟨#[]⟩ ∧ lastB s = ⟨#[]⟩ ∧ splitKd s = 17 := by
  have h' : ¬ (parseK s = 0 ∧ parseL s ≠ []) := fun e => h e.1
  unfold dirB lastB splitKd; rw [if_neg h', if_neg h', if_neg h']; exact ⟨rfl, rfl, rfl⟩
theorem split_2 {s : ByteArray} (h : ((parseL s).length : Int) - 1 < 0) : dirB s = ⟨#[]⟩ ∧ lastB s = ⟨#[]⟩ ∧ splitKd s = 17 := by
  have h' : ¬ (parseK s = 0 ∧ parseL s ≠ []) := fun e => e.2 (List.length_eq_zero_iff.1 (by omega))
  unfold dirB lastB splitKd; rw [if_neg h', if_neg h', if_neg h']; exact ⟨rfl, rfl, rfl⟩
theorem split_3 {s x : ByteArray} (h : parseK s = 0) (h2 : ¬ ((parseL s).length : Int) - 1 < 0) (hx : (parseL s)[(parseL s).length - 1]? = some x) : dirB s = showB ((parseL s).take ((parseL s).length - 1)) ∧ lastB s = x ∧ splitKd s = 0 := by
  have h' : parseK s = 0 ∧ parseL s ≠ [] := ⟨h, fun e => by rw [e] at h2; exact h2 (by decide)⟩
  unfold dirB lastB splitKd; rw [if_pos h', if_pos h', if_pos h', List.getLast?_eq_getElem?, hx]; exact ⟨rfl, rfl, rfl⟩
theorem join_take (L : List ByteArray) (k : Nat) : (joinB (L.take k)).size ≤ (joinB L).size := by
  by_cases h : L.take k = []
  · rw [h]; exact Nat.zero_le _
  · have h1 := (join_wid (L.take k)).2 h
    have h2 := (join_wid L).2 (fun e => h (by rw [e]; simp))
    have h3 : wid L = wid (L.take k) + wid (L.drop k) := by rw [← wid_app, List.take_append_drop]
    omega
theorem take_parts {L : List ByteArray} (k : Nat) (h : (∀ x ∈ L, x.size < 4294967281) ∧ L.length ≤ 1000000 ∧ (joinB L).size ≤ 1000000) : (∀ x ∈ L.take k, x.size < 4294967281) ∧ (L.take k).length ≤ 1000000 ∧ (joinB (L.take k)).size ≤ 1000000 :=
  ⟨fun x hx => h.1 x (List.mem_of_mem_take hx), by rw [List.length_take]; omega, Nat.le_trans (join_take L k) h.2.2⟩
theorem split_ret {s d x : ByteArray} {k : Int} (h : dirB s = d ∧ lastB s = x ∧ splitKd s = k) : Ending.returned (.tuple #[.string d, .string x, .int .i64 k]) = .returned (.tuple #[.string (dirB s), .string (lastB s), .int .i64 (splitKd s)]) := by rw [h.1, h.2.1, h.2.2]
end Go.Proofs.YtefhfoioeoijlaaGreatDoor
set_option linter.unusedVariables false
set_option linter.unusedSimpArgs false
namespace Go.Proofs.YtefhfoioeoijlaaGreatDoor
open Go Go.RowKit Go.Sort
set_option maxHeartbeats 2000000 in
theorem pathSplit_at {w : World} (hmx : Mx w) (s : ByteArray) (hs : s.size ≤ 100000) : Calls Tryz.prog 48 #[.string s] w fun e w' => e = .returned (.tuple #[.string (dirB s), .string (lastB s), .int .i64 (splitKd s)]) ∧ Up w w' := by
  have hzp := parse_parts hs
  go_enter Tryz.func48, Tryz.ntmps48
  refine wp_seq (rg_lit ?_)
  refine was (v := .string (⟨#[]⟩)) ?_
  refine was (v := .string (⟨#[]⟩)) ?_
  refine was (v := .int .i64 0) ?_
  refine wnil (then_n (wp_seq (rg_lit ?_)))
  refine wmv (v := .string s) ?_
  refine wl (sc rfl (r_callv (caps := []) (all := [.string s]) En.f44 (by kernel_rfl) (by kernel_rfl)) (parse_at (Mx.up hmx (Mod.up (Mod.refl [] w))) s (by omega)) ?_)
  rintro e w1 ⟨A2, c3, rfl, h4, h5, u6⟩
  refine ⟨.tuple #[.slice A2 ((parseL s).length) c3, .int .i64 (parseK s)], rfl, ?_⟩
  have M7 := Mod.trans (Mod.refl [] w) (Mod.of_up u6)
  refine wmv (v := .tuple #[.slice A2 ((parseL s).length) c3, .int .i64 (parseK s)]) ?_
  refine wl (sv rfl (v := .slice A2 ((parseL s).length) c3) (r_extract (vs := [.slice A2 ((parseL s).length) c3, .int .i64 (parseK s)]) (by kernel_rfl) rfl) ?_)
  refine wl (sv rfl (v := .int .i64 (parseK s)) (r_extract (vs := [.slice A2 ((parseL s).length) c3, .int .i64 (parseK s)]) (by kernel_rfl) rfl) ?_)
  refine was (v := .slice A2 ((parseL s).length) c3) ?_
  refine was (v := .int .i64 (parseK s)) ?_
  refine wnil (then_n (wp_seq (rg_lit ?_)))
  refine wmv (v := .slice A2 ((parseL s).length) c3) ?_
  refine wl (sv rfl (v := .int .i64 (((parseL s).length) : Int)) (r_len Ty.un69 (ad := A2) (n := ((parseL s).length)) (c := c3) (by kernel_rfl)) ?_)
  refine wl (sv rfl (v := .int .i64 ((((parseL s).length) : Int) - 1)) (r_sub (k := .i64) (m := (((parseL s).length) : Int)) (n := 1) (by kernel_rfl) (by kernel_rfl) (IntWalk.i64_in _ (by omega))) ?_)
  refine was (v := .int .i64 ((((parseL s).length) : Int) - 1)) ?_
  refine wnil (then_n (wp_seq (wp_seq (rg_lit ?_))))
  refine wmv (v := .int .i64 (parseK s)) ?_
  refine wl (sb rfl (r_ne (k := .i64) (m := (parseK s)) (n := 0) (by kernel_rfl) (by kernel_rfl)) ?_)
  intro b8 k9
  refine wmv (v := .bool b8) ?_
  refine bcase b8 (fun v10 => ?_) (fun v10 => ?_)
  ·
   have p11 := of_decide_eq_false (k9.trans v10)
   refine wl (sv (wt (b := b8) rfl (by kernel_rfl) v10) (v := .int .i64 ((((parseL s).length) : Int) - 1)) (r_move (by kernel_rfl)) ?_)
   refine wl (sb (wt (b := b8) rfl (by kernel_rfl) v10) (r_lt (k := .i64) (m := ((((parseL s).length) : Int) - 1)) (n := 0) (by kernel_rfl) (by kernel_rfl)) ?_)
   intro b12 k13
   refine wl (sv rfl (v := .bool b12) (r_pkF (ebool (b := b8) (by kernel_rfl) v10) (by kernel_rfl)) ?_)
   refine wnil (then_n ?_)
   refine bcase b12 (fun v14 => ?_) (fun v14 => ?_)
   ·
    have p15 := of_decide_eq_false (k13.trans v14)
    refine wp_cond_false (ebool (b := b12) (by kernel_rfl) v14) ?_
    refine wp_skip (then_n (wp_seq (rg_lit ?_)))
    refine wmv (v := .slice A2 ((parseL s).length) c3) ?_
    refine wmv (v := .int .i64 ((((parseL s).length) : Int) - 1)) ?_
    have h16 := SSRow.pre (k := (parseL s).length - 1) h4 (by omega)
    have z17 : ((parseL s).take ((parseL s).length - 1)).length = (parseL s).length - 1 := by rw [List.length_take]; omega
    refine wl (sv rfl (v := .slice A2 (((parseL s).take ((parseL s).length - 1)).length) c3) ((show _ = _ from by rw [z17]; exact r_slHi (w := w1) (t := 69) (k := (parseL s).length - 1) (L := (parseL s)) (j := ((((parseL s).length) : Int) - 1)) h4 (by kernel_rfl) (by kernel_rfl) (by omega) Ty.un69 Ty.sz9 (by omega))) ?_)
    refine wl (sc rfl (r_callv (caps := []) (all := [.slice A2 (((parseL s).take ((parseL s).length - 1)).length) c3]) En.f46 (by kernel_rfl) (by kernel_rfl)) (showP_at (l := ((parseL s).take ((parseL s).length - 1))) h16 (Mx.up hmx (Mod.up M7)) (take_parts _ hzp).1 (take_parts _ hzp).2.1 (take_parts _ hzp).2.2) ?_)
    rintro e w18 ⟨rfl, u19⟩
    refine ⟨.tuple #[.string (showB ((parseL s).take ((parseL s).length - 1))), .int .i64 (showK ((parseL s).take ((parseL s).length - 1)))], rfl, ?_⟩
    have M20 := Mod.trans M7 (Mod.of_up u19)
    refine wmv (v := .tuple #[.string (showB ((parseL s).take ((parseL s).length - 1))), .int .i64 (showK ((parseL s).take ((parseL s).length - 1)))]) ?_
    refine wl (sv rfl (v := .string (showB ((parseL s).take ((parseL s).length - 1)))) (r_extract (vs := [.string (showB ((parseL s).take ((parseL s).length - 1))), .int .i64 (showK ((parseL s).take ((parseL s).length - 1)))]) (by kernel_rfl) rfl) ?_)
    refine wl (sv rfl (v := .int .i64 (showK ((parseL s).take ((parseL s).length - 1)))) (r_extract (vs := [.string (showB ((parseL s).take ((parseL s).length - 1))), .int .i64 (showK ((parseL s).take ((parseL s).length - 1)))]) (by kernel_rfl) rfl) ?_)
    refine was (v := .string (showB ((parseL s).take ((parseL s).length - 1)))) ?_
    refine wnil (then_n (wp_seq ?_))
    refine rg_all (by kernel_rfl) (by kernel_rfl) ?_
    refine qmv (v := .string (showB ((parseL s).take ((parseL s).length - 1)))) ?_
    refine qmv (v := .slice A2 ((parseL s).length) c3) ?_
    refine qmv (v := .int .i64 ((((parseL s).length) : Int) - 1)) ?_
    have h21 := (SSRow.up h4 u19)
    obtain ⟨y22, hy22⟩ : ∃ x, (parseL s)[(parseL s).length - 1]? = some x := ⟨_, List.getElem?_eq_getElem (by omega)⟩
    obtain ⟨g22, f22, hA22, hl22, hc22⟩ := SSRow.get h21 hy22
    refine qv rfl (v := .pointer (some ⟨g22, f22 + ((parseL s).length - 1), none⟩)) (fun _ _ => r_ixaddr' (A := A2) (b := g22) (o := f22) (n := ((parseL s).length)) (c := c3) (sz := 1) (j := ((((parseL s).length) : Int) - 1)) (by kernel_rfl) hA22 (by kernel_rfl) Ty.un69 Ty.sz9 (by omega) (by omega) (by omega)) ?_
    refine qv rfl (v := .string y22) (fun _ uz => r_loadc (by kernel_rfl) Ty.ag9 ((uz.cell (p := ⟨g22, f22 + ((parseL s).length - 1), none⟩) hl22).trans hc22)) ?_
    refine qas (v := .string (showB ((parseL s).take ((parseL s).length - 1)))) ?_
    refine qas (v := .string y22) ?_
    refine qas (v := .int .i64 0) ?_
    refine qnil ?_
    intro w23 u24
    have M25 := Mod.trans M20 (Mod.of_up u24)
    refine then_n (wp_ret ?_)
    refine bodyPost_ret (v := .tuple #[.string (showB ((parseL s).take ((parseL s).length - 1))), .string y22, .int .i64 0]) (res3 rfl (rv_t (by kernel_rfl)) (rv_t (by kernel_rfl)) (rv_t (by kernel_rfl))) (by kernel_rfl) ?_
    exact ⟨split_ret (split_3 (Decidable.not_not.1 p11) p15 hy22), (Mod.up M25)⟩
   have p15 := of_decide_eq_true (k13.trans v14)
   refine wp_cond_true (ebool (b := b12) (by kernel_rfl) v14) ?_
   refine wp_seq (rg_lit ?_)
   refine was (v := .string (⟨#[]⟩)) ?_
   refine was (v := .string (⟨#[]⟩)) ?_
   refine was (v := .int .i64 17) ?_
   refine wnil (then_n (wp_ret (then_x (by nofun) ?_)))
   refine bodyPost_ret (v := .tuple #[.string (⟨#[]⟩), .string (⟨#[]⟩), .int .i64 17]) (res3 rfl (rv_t (by kernel_rfl)) (rv_t (by kernel_rfl)) (rv_t (by kernel_rfl))) (by kernel_rfl) ?_
   exact ⟨split_ret (split_2 p15), (Mod.up M7)⟩
  have p11 := of_decide_eq_true (k9.trans v10)
  refine wl (sp (wf (b := b8) rfl (by kernel_rfl) v10) ?_)
  refine wl (sp (wf (b := b8) rfl (by kernel_rfl) v10) ?_)
  refine wl (sv rfl (v := .bool true) (r_pkT (ebool (b := b8) (by kernel_rfl) v10) (by kernel_rfl)) ?_)
  refine wnil (then_n ?_)
  refine wp_cond_true (by kernel_rfl) ?_
  refine wp_seq (rg_lit ?_)
  refine was (v := .string (⟨#[]⟩)) ?_
  refine was (v := .string (⟨#[]⟩)) ?_
  refine was (v := .int .i64 17) ?_
  refine wnil (then_n (wp_ret (then_x (by nofun) ?_)))
  refine bodyPost_ret (v := .tuple #[.string (⟨#[]⟩), .string (⟨#[]⟩), .int .i64 17]) (res3 rfl (rv_t (by kernel_rfl)) (rv_t (by kernel_rfl)) (rv_t (by kernel_rfl))) (by kernel_rfl) ?_
  exact ⟨split_ret (split_1 p11), (Mod.up M7)⟩
end Go.Proofs.YtefhfoioeoijlaaGreatDoor
set_option linter.unusedVariables false
set_option linter.unusedSimpArgs false
namespace Go.Proofs.YtefhfoioeoijlaaGreatDoor
open Go Go.RowKit Go.Sort
theorem join_oneB (x : ByteArray) : joinB [x] = x := by
  apply ba_ext; show Lib.join [x.data.toList] [47] = _; rw [Lib.join_one]
end Go.Proofs.YtefhfoioeoijlaaGreatDoor
set_option linter.unusedVariables false
set_option linter.unusedSimpArgs false
namespace Go.Proofs.YtefhfoioeoijlaaGreatDoor
open Go Go.RowKit Go.Sort
theorem index1_miss {c : UInt8} : ∀ {s : List UInt8}, c ∉ s → Lib.index s [c] = -1
  | [], _ => rfl
  | b :: l, h => by
    have ih := index1_miss (c := c) (s := l) (fun e => h (by simp [e]))
    have hb : c ≠ b := fun e => h (by simp [e])
    rw [Lib.index, ih]; simp [List.isPrefixOf, hb]
theorem index1_hit {c : UInt8} : ∀ {x : List UInt8} (l : List UInt8), c ∉ x → Lib.index (x ++ c :: l) [c] = x.length
  | [], l, _ => by simp [Lib.index, List.isPrefixOf]
  | b :: x, l, h => by
    have ih := index1_hit (c := c) (x := x) l (fun e => h (by simp [e]))
    have hb : c ≠ b := fun e => h (by simp [e])
    have hn : ¬ ((x.length : Nat) : Int) = -1 := by omega
    rw [List.cons_append, Lib.index, ih]; simp [List.isPrefixOf, hb, hn]
theorem cut_none {s : ByteArray} {c : UInt8} (h : c ∉ s.data.toList) : cutA s c = s ∧ cutB s c = false := by
  have e : Lib.cut s.data.toList [c] = (s.data.toList, [], false) := by
    unfold Lib.cut; rw [index1_miss h, if_neg (by decide)]
  unfold cutA cutB; rw [e]
  exact ⟨bys_of s, rfl⟩
theorem cut_some {s : ByteArray} {c : UInt8} {x l : List UInt8} (e : s.data.toList = x ++ c :: l) (h : c ∉ x) : cutA s c = bys x ∧ cutZ s c = bys l ∧ cutB s c = true := by
  have e2 : Lib.cut s.data.toList [c] = (x, l, true) := by
    unfold Lib.cut
    rw [e, index1_hit l h, if_pos (by omega)]
    have h1 : ((x.length : Nat) : Int).toNat = x.length := Int.toNat_natCast _
    rw [h1, List.take_left, List.drop_append]
    simp
  unfold cutA cutZ cutB; rw [e2]
  exact ⟨rfl, rfl, rfl⟩
theorem dig_in {c : UInt8} (h : 48 ≤ c.toNat ∧ c.toNat ≤ 57) : digs.data.toList.contains c = true := by
  have h2 : c.toNat = 48 ∨ c.toNat = 49 ∨ c.toNat = 50 ∨ c.toNat = 51 ∨ c.toNat = 52 ∨ c.toNat = 53 ∨ c.toNat = 54 ∨ c.toNat = 55 ∨ c.toNat = 56 ∨ c.toNat = 57 := by omega
  have key : ∀ k : Nat, c.toNat = k → c = UInt8.ofNat k := fun k e => by rw [← e]; simp
  rcases h2 with e | e | e | e | e | e | e | e | e | e <;> rw [key _ e] <;> decide
theorem drop_all {p : UInt8 → Bool} : ∀ {l : List UInt8}, (∀ c ∈ l, p c = true) → l.dropWhile p = []
  | [], _ => rfl
  | b :: l, h => by rw [List.dropWhile_cons, if_pos (h b (by simp))]; exact drop_all (fun c hc => h c (by simp [hc]))
theorem drop_none {p : UInt8 → Bool} : ∀ {l : List UInt8}, l.dropWhile p = [] → ∀ c ∈ l, p c = true
  | [], _, c, hc => absurd hc (by simp)
  | b :: l, h, c, hc => by
    rw [List.dropWhile_cons] at h
    split at h
    · rename_i hb
      rcases List.mem_cons.1 hc with rfl | hc
      · exact hb
      · exact drop_none h c hc
    · cases h
end Go.Proofs.YtefhfoioeoijlaaGreatDoor
set_option linter.unusedVariables false
set_option linter.unusedSimpArgs false
namespace Go.Proofs.YtefhfoioeoijlaaGreatDoor
open Go Go.RowKit Go.Sort
def cutL (c : UInt8) (s : ByteArray) : List ByteArray := (splC c s.data.toList).map bys
theorem cutL_47 (s : ByteArray) : cutL 47 s = splB s := rfl
theorem cutL_len (c : UInt8) (s : ByteArray) : (cutL c s).length = (splC c s.data.toList).length := List.length_map _
theorem cutL_pos (c : UInt8) (s : ByteArray) : 1 ≤ (cutL c s).length := by
  rw [cutL_len]; exact List.length_pos_iff.2 (splC_ne c _)
theorem cutL_count (c : UInt8) (s : ByteArray) : (cutL c s).length ≤ s.size + 1 := by
  rw [cutL_len]
  have h := splC_count c s.data.toList
  have e2 : s.size = s.data.toList.length := by simp
  omega
theorem cutL_size {c : UInt8} {s x : ByteArray} (hx : x ∈ cutL c s) : x.size ≤ s.size := by
  obtain ⟨y, hy, rfl⟩ := List.mem_map.1 hx
  have h := splC_len c _ y hy
  have e1 : (bys y).size = y.length := by simp [bys, ByteArray.size]
  have e2 : s.size = s.data.toList.length := by simp
  omega
theorem cutL_one {c : UInt8} {s : ByteArray} (h : (cutL c s).length = 1) : c ∉ s.data.toList := by
  rw [cutL_len] at h
  obtain ⟨x, hx⟩ := List.length_eq_one_iff.1 h
  have h1 := join_splC c s.data.toList
  have h2 := splC_no c s.data.toList x (by rw [hx]; simp)
  rw [hx, Lib.join_one] at h1
  rwa [h1] at h2
theorem cutL_more {c : UInt8} {s : ByteArray} {x y : List UInt8} {t : List (List UInt8)} (e : splC c s.data.toList = x :: y :: t) : cutA s c = bys x ∧ cutZ s c = bys (Lib.join (y :: t) [c]) ∧ cutB s c = true := by
  have h1 := join_splC c s.data.toList
  have h2 := splC_no c s.data.toList x (by rw [e]; simp)
  rw [e, join_cons2] at h1
  exact cut_some (by rw [← h1]; simp) h2
theorem digs_mem {c : UInt8} (h : digs.data.toList.contains c = true) : 48 ≤ c.toNat ∧ c.toNat ≤ 57 := by
  have h2 : c ∈ digs.data.toList := by simpa using h
  simp only [digs, List.mem_cons, List.not_mem_nil, or_false] at h2
  rcases h2 with e | e | e | e | e | e | e | e | e | e <;> rw [e] <;> decide
theorem take_all {p : UInt8 → Bool} {c : UInt8} : ∀ {l : List UInt8}, c ∈ l.takeWhile p → p c = true
  | [], h => absurd h (by simp)
  | b :: l, h => by
    rw [List.takeWhile_cons] at h
    split at h
    · rename_i hb
      rcases List.mem_cons.1 h with rfl | h
      · exact hb
      · exact take_all h
    · cases h
theorem drop_nil {p : UInt8 → Bool} {l : List UInt8} (h : ((l.reverse.dropWhile p).reverse).dropWhile p = []) : ∀ c ∈ l, p c = true := by
  have h := drop_none h
  intro c hc
  have h1 : l.reverse = l.reverse.takeWhile p ++ l.reverse.dropWhile p := (List.takeWhile_append_dropWhile).symm
  have h2 : c ∈ l.reverse := List.mem_reverse.2 hc
  rw [h1] at h2
  rcases List.mem_append.1 h2 with h2 | h2
  · exact take_all h2
  · exact h c (List.mem_reverse.2 h2)
theorem trim_all {s : ByteArray} (h : trimD s = ⟨#[]⟩) : ∀ c ∈ s.data.toList, 48 ≤ c.toNat ∧ c.toNat ≤ 57 := by
  have h1 := congrArg (fun x : ByteArray => x.data.toList) h
  have h2 : Lib.trimS s.data.toList digs.data.toList = [] := h1
  unfold Lib.trimS Lib.trimLeftS Lib.trimRightS at h2
  exact fun c hc => digs_mem (drop_nil h2 c hc)
theorem dig_no {d : Int} {s : ByteArray} {c : UInt8} (hc : c ∈ s.data.toList) (h : ¬ (48 ≤ c.toNat ∧ c.toNat ≤ 57)) : digB d s = false := by
  unfold digB
  rw [decide_eq_false (fun e => h (trim_all e c hc))]
  simp
theorem dig_all {d : Int} {s : ByteArray} (h : ∀ c ∈ s.data.toList, 48 ≤ c.toNat ∧ c.toNat ≤ 57) : digB d s = (decide (((s.size : Nat) : Int) ≥ 1) && decide (((s.size : Nat) : Int) ≤ d)) := by
  have e : trimD s = ⟨#[]⟩ := by
    have e1 : s.data.toList.reverse.dropWhile (digs.data.toList.contains ·) = [] := drop_all fun c hc => dig_in (h c (List.mem_reverse.1 hc))
    unfold trimD Lib.trimS Lib.trimRightS Lib.trimLeftS
    rw [e1]; rfl
  unfold digB
  rw [decide_eq_true e, Bool.and_true]
theorem partD_1 {s : ByteArray} (h : (cutL 126 s).length = 1) : partB s = nameB s := by
  have h1 := cut_none (cutL_one h)
  cases hn : nameB s with
  | true => exact part_2 (by rw [h1.1]; exact hn) h1.2
  | false => exact part_1 (by rw [h1.1]; exact hn)
theorem dot_no {d e : Int} {r : ByteArray} {c : UInt8} (hc : c ∈ r.data.toList) (hn : ¬ (48 ≤ c.toNat ∧ c.toNat ≤ 57)) (h46 : c ≠ 46) : (cutB r 46 && (digB d (cutA r 46) && digB e (cutZ r 46))) = false := by
  by_cases h : (46 : UInt8) ∈ r.data.toList
  · obtain ⟨u, v, e1, h2⟩ := List.append_of_mem h |>.elim fun u hu => hu.elim fun v hv => (⟨u, v, hv, trivial⟩ : ∃ u v, r.data.toList = u ++ 46 :: v ∧ True)
    cases el : splC 46 r.data.toList with
    | nil => exact absurd el (splC_ne _ _)
    | cons x t =>
      cases t with
      | nil =>
        have := cutL_one (c := 46) (s := r) (by rw [cutL_len, el]; rfl)
        exact absurd h this
      | cons y t =>
        obtain ⟨a1, a2, a3⟩ := cutL_more el
        have hj := join_splC 46 r.data.toList
        rw [el, join_cons2] at hj
        rw [← hj] at hc
        rcases List.mem_append.1 hc with hc | hc
        · rw [a1, dig_no (s := bys x) hc hn]; simp
        · rcases List.mem_append.1 hc with hc | hc
          · simp at hc; exact absurd hc h46
          · rw [a2, dig_no (s := bys (Lib.join (y :: t) [46])) hc hn]; simp
  · rw [(cut_none h).2]; rfl
theorem join_has {c : UInt8} {y z : List UInt8} {t : List (List UInt8)} : c ∈ Lib.join (y :: z :: t) [c] := by rw [join_cons2]; simp
theorem partD_2 {s : ByteArray} (h1 : (cutL 126 s).length ≠ 1) (h2 : (cutL 126 s).length ≠ 2) : partB s = false := by
  rw [cutL_len] at h1 h2
  cases el : splC 126 s.data.toList with
  | nil => exact absurd el (splC_ne _ _)
  | cons x t => cases t with
    | nil => rw [el] at h1; exact absurd rfl h1
    | cons y t => cases t with
      | nil => rw [el] at h2; exact absurd rfl h2
      | cons z t =>
        obtain ⟨a1, a2, a3⟩ := cutL_more el
        cases hn : nameB (cutA s 126) with
        | false => exact part_1 hn
        | true => exact part_3 hn a3 (dot_no (c := 126) (by rw [a2]; exact join_has) (by decide) (by decide))
theorem cutL_at2 {c : UInt8} {s x y : ByteArray} (hl : (cutL c s).length = 2) (h0 : (cutL c s)[0]? = some x) (h1 : (cutL c s)[1]? = some y) : cutA s c = x ∧ cutZ s c = y ∧ cutB s c = true := by
  rw [cutL_len] at hl
  unfold cutL at h0 h1
  cases el : splC c s.data.toList with
  | nil => exact absurd el (splC_ne _ _)
  | cons u t => cases t with
    | nil => rw [el] at hl; simp at hl
    | cons v t => cases t with
      | cons z t => rw [el] at hl; simp at hl
      | nil =>
        rw [el] at h0 h1
        simp at h0 h1
        obtain ⟨a1, a2, a3⟩ := cutL_more el
        rw [Lib.join_one] at a2
        exact ⟨a1.trans h0, a2.trans h1, a3⟩
theorem partD_name {s x y : ByteArray} (hl : (cutL 126 s).length = 2) (h0 : (cutL 126 s)[0]? = some x) (h1 : (cutL 126 s)[1]? = some y) (hn : nameB x = false) : partB s = false := by
  have h := cutL_at2 hl h0 h1
  exact part_1 (by rw [h.1]; exact hn)
theorem partD_len {s x y : ByteArray} (hl : (cutL 126 s).length = 2) (h0 : (cutL 126 s)[0]? = some x) (h1 : (cutL 126 s)[1]? = some y) (hm : (cutL 46 y).length ≠ 2) : partB s = false := by
  have h := cutL_at2 hl h0 h1
  cases hn : nameB (cutA s 126) with
  | false => exact part_1 hn
  | true =>
    refine part_3 hn h.2.2 ?_
    rw [h.2.1]
    rw [cutL_len] at hm
    cases el : splC 46 y.data.toList with
    | nil => exact absurd el (splC_ne _ _)
    | cons u t => cases t with
      | nil => rw [(cut_none (cutL_one (c := 46) (s := y) (by rw [cutL_len, el]; rfl))).2]; rfl
      | cons v t => cases t with
        | nil => rw [el] at hm; exact absurd rfl hm
        | cons z t =>
          obtain ⟨a1, a2, a3⟩ := cutL_more el
          rw [a2, dig_no (s := bys (Lib.join (v :: z :: t) [46])) (c := 46) join_has (by decide)]; simp
theorem partD_dig {s x y u v : ByteArray} (hl : (cutL 126 s).length = 2) (h0 : (cutL 126 s)[0]? = some x) (h1 : (cutL 126 s)[1]? = some y) (hn : nameB x = true) (hm : (cutL 46 y).length = 2) (g0 : (cutL 46 y)[0]? = some u) (g1 : (cutL 46 y)[1]? = some v) :
    partB s = (digB 13 u && digB 2 v) := by
  have h := cutL_at2 hl h0 h1
  have k := cutL_at2 hm g0 g1
  refine part_3 (by rw [h.1]; exact hn) h.2.2 ?_
  rw [h.2.1, k.1, k.2.1, k.2.2]; rfl
theorem cut_hit {c : UInt8} {s : List UInt8} {fr i : Nat} {out : List (List UInt8)} (h : splC c s = out ++ splC c (s.drop fr)) (hf : fr ≤ i) (hi : s[i]? = some c) (hno : ∀ j, fr ≤ j → j < i → s[j]? ≠ some c) :
    splC c s = (out ++ [(s.drop fr).take (i - fr)]) ++ splC c (s.drop (i + 1)) := by
  have hlt := (List.getElem?_eq_some_iff.1 hi)
  have e : s.drop fr = (s.drop fr).take (i - fr) ++ c :: s.drop (i + 1) := by
    conv => lhs; rw [← List.take_append_drop (i - fr) (s.drop fr)]
    congr 1
    rw [List.drop_drop, show fr + (i - fr) = i by omega, List.drop_eq_getElem_cons hlt.1, hlt.2]
  have hno' : c ∉ (s.drop fr).take (i - fr) := fun hm => by
    obtain ⟨j, hj⟩ := List.mem_iff_getElem?.1 hm
    rw [List.getElem?_take] at hj
    split at hj
    · rename_i hji
      rw [List.getElem?_drop] at hj
      exact hno (fr + j) (by omega) (by omega) hj
    · cases hj
  rw [h, List.append_assoc]
  congr 1
  conv => lhs; rw [e]
  rw [splC_app _ hno']; rfl
theorem cut_last {c : UInt8} {s : List UInt8} {fr : Nat} {out : List (List UInt8)} (h : splC c s = out ++ splC c (s.drop fr)) (hno : ∀ j, fr ≤ j → j < s.length → s[j]? ≠ some c) : splC c s = out ++ [s.drop fr] := by
  rw [h]
  congr 1
  refine splC_one (fun hm => ?_)
  obtain ⟨j, hj⟩ := List.mem_iff_getElem?.1 hm
  rw [List.getElem?_drop] at hj
  exact hno (fr + j) (by omega) (List.getElem?_eq_some_iff.1 hj).1 hj
def slashL : List ByteArray → ByteArray
  | [] => ⟨#[]⟩
  | x :: l => ((⟨#[47]⟩ : ByteArray) ++ x) ++ slashL l
theorem slashL_snoc (x : ByteArray) : ∀ l : List ByteArray, slashL (l ++ [x]) = (slashL l ++ (⟨#[47]⟩ : ByteArray)) ++ x
  | [] => by apply ba_ext; simp [slashL]
  | y :: l => by
    rw [List.cons_append, slashL, slashL_snoc x l, slashL]
    apply ba_ext; simp
theorem slashL_next {l : List ByteArray} {k : Nat} {x : ByteArray} (h : l[k]? = some x) : (slashL (l.take k) ++ (⟨#[47]⟩ : ByteArray)) ++ x = slashL (l.take (k + 1)) := by
  rw [List.take_add_one, h, ← slashL_snoc]; rfl
theorem slashL_is : ∀ {l : List ByteArray}, l ≠ [] → slashL l = (⟨#[47]⟩ : ByteArray) ++ joinB l
  | [x], _ => by apply ba_ext; rw [join_oneB]; simp [slashL]
  | x :: y :: l, _ => by
    rw [slashL, slashL_is (l := y :: l) (by simp)]
    apply ba_ext
    have e : (joinB (x :: y :: l)).data.toList = x.data.toList ++ ([47] ++ (joinB (y :: l)).data.toList) := by
      show Lib.join _ _ = _ ++ (_ ++ Lib.join _ _)
      exact join_cons2 _ _ _ _
    simp [e]
theorem showD_end {l : List ByteArray} (h1 : l.length ≤ 16) (h2 : l.all partB = true) : showB l = (if slashL l = ⟨#[]⟩ then (⟨#[47]⟩ : ByteArray) else slashL l) ∧ showK l = 0 := by
  have h := show_3 h1 h2
  refine ⟨?_, h.2⟩
  rw [h.1]
  by_cases hn : l = []
  · subst hn; rfl
  · rw [if_neg (fun e => ?_), slashL_is hn]
    rw [slashL_is hn] at e
    have := congrArg ByteArray.size e
    rw [ByteArray.size_append] at this
    have h5 : (⟨#[47]⟩ : ByteArray).size = 1 := rfl
    have h6 : (⟨#[]⟩ : ByteArray).size = 0 := rfl
    omega
theorem head_slash {s : ByteArray} : slashB s = true ↔ ∃ t, splC 47 s.data.toList = [] :: t ∧ t ≠ [] := by
  unfold slashB Lib.hasPrefix
  cases e : s.data.toList with
  | nil => simp [splC]
  | cons b l =>
    cases el : splC 47 l with
    | nil => exact absurd el (splC_ne _ _)
    | cons x t =>
      by_cases hb : b = 47
      · subst hb; rw [splC_hit]; simp [List.isPrefixOf, splC_ne]
      · rw [splC_miss hb el]; simp [List.isPrefixOf, Ne.symm hb]
theorem rest_parts47 {s : ByteArray} (h : slashB s = true) : splB s = (⟨#[]⟩ : ByteArray) :: splB (restB s) := by
  have e := slash_is h
  refine data_inj ?_
  rw [List.map_cons, splB_data, splB_data]
  conv => lhs; rw [e]
  rw [show ((⟨#[47]⟩ : ByteArray) ++ restB s).data.toList = 47 :: (restB s).data.toList by simp, splC_hit]
theorem parseD_1 {s : ByteArray} (h : s = ⟨#[47]⟩) : parseL s = [] ∧ parseK s = 0 := by subst h; exact ⟨rfl, rfl⟩
theorem slash_no {s : ByteArray} (h : (cutL 47 s).length < 2) : slashB s = false := by
  cases hs : slashB s with
  | false => rfl
  | true =>
    obtain ⟨t, e, hn⟩ := head_slash.1 hs
    rw [cutL_len, e] at h
    have := List.length_pos_iff.2 hn
    simp only [List.length_cons] at h; omega
theorem slash_head {s x : ByteArray} (hx : (cutL 47 s)[0]? = some x) (h : ¬ x = ⟨#[]⟩) : slashB s = false := by
  cases hs : slashB s with
  | false => rfl
  | true =>
    rw [cutL_47, rest_parts47 hs] at hx
    simp at hx
    exact absurd hx.symm h
theorem slash_yes {s x : ByteArray} (h2 : ¬ (cutL 47 s).length < 2) (hx : (cutL 47 s)[0]? = some x) (h : x = ⟨#[]⟩) : slashB s = true := by
  rw [cutL_len] at h2
  cases e : splC 47 s.data.toList with
  | nil => exact absurd e (splC_ne _ _)
  | cons u t =>
    rw [e] at h2
    refine head_slash.2 ⟨t, ?_, fun e => by subst e; exact h2 (Nat.lt_succ_self 1)⟩
    have : (cutL 47 s)[0]? = some (bys u) := by unfold cutL; rw [e]; rfl
    rw [this] at hx
    injection hx with hx
    have h4 := congrArg (fun x : ByteArray => x.data.toList) (hx.trans h)
    have h5 : u = [] := h4
    rw [e, h5]
theorem tail_is {s : ByteArray} (h : slashB s = true) : (cutL 47 s).drop 1 = splB (restB s) := by rw [cutL_47, rest_parts47 h]; rfl
theorem rest_ne {s : ByteArray} (h : slashB s = true) (hs : ¬ s = ⟨#[47]⟩) : ¬ restB s = ⟨#[]⟩ := fun e => hs (by
  have := slash_is h
  rw [e] at this
  rw [this]; rfl)
end Go.Proofs.YtefhfoioeoijlaaGreatDoor
namespace Go.Proofs.YtefhfoioeoijlaaGreatDoor
open Go Go.RowKit Go.Sort
section
variable {P : Program} {d : Option Tmp} {ty : TypeId} {pos : String} {af : Array Edge} {g : Option (Nat × Bool)} {ρ : Operand → Value} {w : World}
theorem r_strix {t : TypeId} {x i : Operand} {s : ByteArray} {k : Nat} {c : UInt8} (hx : ρ x = .string s) (hi : ρ i = .int .i64 (k : Int)) (hc : s.data.toList[k]? = some c) (hu : P.underlying t = some .string) :
    (execOp ρ ⟨d, .index t x i, ty, pos, af, g⟩).run P w = .ok (.value (.int .u8 ((c.toNat : Nat) : Int))) w := by
  have hlt : k < s.size := by have := (List.getElem?_eq_some_iff.1 hc).1; simpa using this
  have h2 : s[k]? = some c := by
    rw [getElem?_pos s k hlt]
    have h3 := (List.getElem?_eq_some_iff.1 hc).2
    rw [← h3]; simp [ByteArray.getElem_eq_getElem_data]
  simp [execOp, hx, hi, Instr.index, asIntOf, run_underlying hu, h2]
theorem r_strsl {t : TypeId} {x lo hi : Operand} {s : ByteArray} {a b : Nat} (hx : ρ x = .string s) (hlo : ρ lo = .int .i64 (a : Int)) (hhi : ρ hi = .int .i64 (b : Int)) (hab : a ≤ b) (hb : b ≤ s.size) (hu : P.underlying t = some .string) :
    (execOp ρ ⟨d, .slice t x (some lo) (some hi) none, ty, pos, af, g⟩).run P w = .ok (.value (.string (s.extract a b))) w := by
  have h1 : (0 : Int) ≤ (b : Int) ∧ (b : Int) ≤ (s.size : Int) := by omega
  have h2 : (0 : Int) ≤ (a : Int) ∧ (a : Int) ≤ (b : Int) := by omega
  simp [execOp, hx, hlo, hhi, Instr.sliceAt, Instr.slice, Instr.sliceBounds, Instr.sliceBound, asIntOf, run_underlying hu, h1, h2]
  repeat' first | rw [if_pos (by omega)] | rfl | simp
theorem r_eqs_same {t yt : TypeId} {x y : Operand} {m : ByteArray} (hx : ρ x = .string m) (hy : ρ y = .string m) : (execOp ρ ⟨d, .binOp .eql t x y yt, ty, pos, af, g⟩).run P w = .ok (.value (.bool true)) w := by
  have h := r_eqs (P := P) (d := d) (ty := ty) (pos := pos) (af := af) (g := g) (w := w) (t := t) (yt := yt) hx hy
  rwa [decide_eq_true rfl] at h
theorem r_eqi_same {t yt : TypeId} {x y : Operand} {k : IntKind} {m : Int} (hx : ρ x = .int k m) (hy : ρ y = .int k m) : (execOp ρ ⟨d, .binOp .eql t x y yt, ty, pos, af, g⟩).run P w = .ok (.value (.bool true)) w := by
  have h := r_eq (P := P) (d := d) (ty := ty) (pos := pos) (af := af) (g := g) (w := w) (t := t) (yt := yt) hx hy
  rwa [decide_eq_true rfl] at h
def tailA (A : Option Addr) (c : Nat) : Option Addr := if c = 1 then A else A.map (·.add 1)
theorem r_slTail {t : TypeId} {x lo : Operand} {A : Option Addr} {n c m : Nat} {e : TypeId} (hx : ρ x = .slice A n c) (hlo : ρ lo = .int .i64 1) (hm : m = n - 1) (hn : 1 ≤ n) (hc : n ≤ c) (hu : P.underlying t = some (.slice e)) (hs : ∀ w : World, (sizeOf e).run P w = .ok 1 w) :
    (execOp ρ ⟨d, .slice t x (some lo) none none, ty, pos, af, g⟩).run P w = .ok (.value (.slice (tailA A c) m (c - 1))) w := by
  subst hm
  have h1 : (0 : Int) ≤ 1 ∧ (1 : Int) ≤ (n : Int) := by omega
  have h2 : (1 : Int) ≤ (n : Int) := by omega
  simp [execOp, hx, hlo, Instr.sliceAt, Instr.slice, Instr.sliceBounds, Instr.sliceBound, asIntOf, run_underlying hu, hs, h1, h2, tailA]
end
theorem SSRow.tail {w : World} {A : Option Addr} {c : Nat} {L : List ByteArray} (h : SSRow w (.slice A L.length c) L) (hn : 1 ≤ L.length) : SSRow w (.slice (tailA A c) (L.drop 1).length (c - 1)) (L.drop 1) := by
  obtain ⟨A', c', e, hc, h0⟩ := h
  injection e with e1 _ e3
  subst e1; subst e3
  refine ⟨_, _, rfl, by rw [List.length_drop]; omega, ?_⟩
  rcases h0 with h0 | ⟨g, f, hA, hg, hcell⟩
  · left; rw [h0]; simp
  · by_cases h1 : c = 1
    · left
      exact List.length_eq_zero_iff.1 (by rw [List.length_drop]; omega)
    · refine .inr ⟨g, f + 1, ?_, hg, fun j x hx => ?_⟩
      · unfold tailA; rw [if_neg h1, hA]; rfl
      · rw [List.getElem?_drop] at hx
        rw [Nat.add_assoc]
        exact hcell (1 + j) x hx
theorem NewS.tail {n m m' c c' : Nat} {A : Option Addr} (h : NewS n (.slice A m c)) : NewS n (.slice (tailA A c) m' c') := by
  unfold tailA
  split
  · intro k hk; exact h k (by cases A <;> exact hk)
  · intro k hk
    cases A with
    | none => cases hk
    | some a => exact h k hk
def datL (L : List ByteArray) : List (List UInt8) := L.map (·.data.toList)
def CutI (c : UInt8) (s : ByteArray) (k fr : Nat) (out : List ByteArray) : Prop :=
  (k ≤ s.size ∧ fr ≤ k ∧ splC c s.data.toList = datL out ++ splC c (s.data.toList.drop fr) ∧ ∀ j, fr ≤ j → j < k → s.data.toList[j]? ≠ some c) ∨ (k = s.size + 1 ∧ splC c s.data.toList = datL out)
theorem CutI.start (c : UInt8) (s : ByteArray) : CutI c s 0 0 [] := .inl ⟨Nat.zero_le _, Nat.le_refl _, by simp [datL], fun j _ h => absurd h (Nat.not_lt_zero _)⟩
theorem CutI.fr {c : UInt8} {s : ByteArray} {k fr : Nat} {out : List ByteArray} (h : CutI c s k fr out) (hk : k ≤ s.size) : fr ≤ k := by
  rcases h with h | h
  · exact h.2.1
  · omega
theorem sz_len (s : ByteArray) : s.size = s.data.toList.length := by simp
theorem ext_data (s : ByteArray) (a b : Nat) : (s.extract a b).data.toList = (s.data.toList.drop a).take (b - a) := by
  simp [ByteArray.data_extract]
theorem CutI.hit {c : UInt8} {s : ByteArray} {k fr : Nat} {out : List ByteArray} (h : CutI c s k fr out) (hc : s.data.toList[k]? = some c) : CutI c s (k + 1) (k + 1) (out ++ [s.extract fr k]) := by
  have hlt := (List.getElem?_eq_some_iff.1 hc).1
  rw [← sz_len] at hlt
  rcases h with h | h
  · refine .inl ⟨hlt, Nat.le_refl _, ?_, fun j h1 h2 => by omega⟩
    have := cut_hit h.2.2.1 h.2.1 hc h.2.2.2
    rw [this, datL, datL, List.map_append, List.map_cons, List.map_nil, ext_data]
  · omega
theorem CutI.miss {c b : UInt8} {s : ByteArray} {k fr : Nat} {out : List ByteArray} (h : CutI c s k fr out) (hb : s.data.toList[k]? = some b) (hn : ¬ ((b.toNat : Nat) : Int) = ((c.toNat : Nat) : Int)) : CutI c s (k + 1) fr out := by
  have hlt := (List.getElem?_eq_some_iff.1 hb).1
  rw [← sz_len] at hlt
  rcases h with h | h
  · refine .inl ⟨hlt, by omega, h.2.2.1, fun j h1 h2 => ?_⟩
    rcases Nat.lt_or_ge j k with h3 | h3
    · exact h.2.2.2 j h1 h3
    · obtain rfl : j = k := by omega
      rw [hb]; intro e; injection e with e; subst e; exact hn rfl
  · omega
theorem CutI.last {c : UInt8} {s : ByteArray} {k fr : Nat} {out : List ByteArray} (h : CutI c s k fr out) (hk : k = s.size) : CutI c s (k + 1) (k + 1) (out ++ [s.extract fr k]) := by
  rcases h with h | h
  · refine .inr ⟨by omega, ?_⟩
    have := cut_last h.2.2.1 (fun j h1 h2 => h.2.2.2 j h1 (by rw [← sz_len] at h2; omega))
    rw [this, datL, datL, List.map_append, List.map_cons, List.map_nil, ext_data]
    congr 2
    rw [List.take_of_length_le (by rw [List.length_drop, ← sz_len]; omega)]
  · omega
theorem CutI.done {c : UInt8} {s : ByteArray} {k fr : Nat} {out : List ByteArray} (h : CutI c s k fr out) (hk : ¬ k ≤ s.size) : cutL c s = out := by
  rcases h with h | h
  · omega
  · unfold cutL; rw [h.2]; unfold datL; rw [List.map_map]
    have e : (bys ∘ fun x : ByteArray => x.data.toList) = id := by funext x; exact bys_of x
    rw [e, List.map_id]
theorem u8_of {b c : UInt8} (h : ((b.toNat : Nat) : Int) = ((c.toNat : Nat) : Int)) : b = c := UInt8.toNat_inj.1 (by omega)
theorem txt_next {L M : List ByteArray} {k : Nat} {x y : ByteArray} (h : Hid (∀ (j : Nat) (x y : ByteArray), j < k → L[j]? = some x → M[j]? = some y → x = y)) (hx : L[k]? = some x) (hy : M[k]? = some y) (e : x = y) : Hid (∀ (j : Nat) (x y : ByteArray), j < k + 1 → L[j]? = some x → M[j]? = some y → x = y) := fun j u v hj hu hv => by
  rcases Nat.lt_or_ge j k with h1 | h1
  · exact h.out j u v h1 hu hv
  · obtain rfl : j = k := by omega
    rw [hx] at hu; rw [hy] at hv; injection hu with hu; injection hv with hv; subst hu hv; exact e
theorem txt_end {L M : List ByteArray} {k : Nat} (h : Hid (∀ (j : Nat) (x y : ByteArray), j < k → L[j]? = some x → M[j]? = some y → x = y)) (hl : L.length = M.length) (hk : L.length ≤ k) : decide (L = M) = true := by
  refine decide_eq_true (List.ext_getElem hl fun j h1 h2 => ?_)
  exact h.out j _ _ (by omega) (List.getElem?_eq_getElem h1) (List.getElem?_eq_getElem h2)
theorem txt_no {L M : List ByteArray} {k : Nat} {x y : ByteArray} (hx : L[k]? = some x) (hy : M[k]? = some y) (e : x ≠ y) : decide (L = M) = false := decide_eq_false fun h => by
  subst h; rw [hx] at hy; injection hy with hy; exact e hy
theorem txt_len {L M : List ByteArray} (h : ((L.length : Nat) : Int) ≠ ((M.length : Nat) : Int)) : decide (L = M) = false := decide_eq_false fun e => h (by rw [e])
theorem slash_wid : ∀ l : List ByteArray, (slashL l).size = wid l
  | [] => rfl
  | x :: l => by
    have h5 : (⟨#[47]⟩ : ByteArray).size = 1 := rfl
    have e2 : wid (x :: l) = x.size + 1 + wid l := by simp [wid]
    rw [slashL, ByteArray.size_append, ByteArray.size_append, slash_wid l, e2]; omega
theorem wid_take (l : List ByteArray) (k : Nat) : wid (l.take k) ≤ wid l := by
  have h3 : wid l = wid (l.take k) + wid (l.drop k) := by rw [← wid_app, List.take_append_drop]
  omega
theorem wid_join (l : List ByteArray) : wid l ≤ (joinB l).size + 1 := by
  by_cases h : l = []
  · subst h; exact Nat.zero_le _
  · have := (join_wid l).2 h; omega
theorem slash_le {l : List ByteArray} {k : Nat} {acc : ByteArray} (h : acc = slashL (l.take k)) (hj : (joinB l).size ≤ 1000000) : acc.size ≤ 1000001 := by
  rw [h, slash_wid]
  have h1 := wid_take l k; have h2 := wid_join l; omega
theorem slash_all {l : List ByteArray} {k : Nat} {acc : ByteArray} (h : acc = slashL (l.take k)) (hk : l.length ≤ k) : acc = slashL l := by rw [h, List.take_of_length_le hk]
theorem show_e1 {l : List ByteArray} {acc : ByteArray} (h1 : l.length ≤ 16) (h2 : l.all partB = true) (h : acc = slashL l) (e : acc = ⟨#[]⟩) : showB l = ⟨#[47]⟩ ∧ showK l = 0 := by
  have := showD_end h1 h2
  rw [← h, if_pos e] at this; exact this
theorem show_e2 {l : List ByteArray} {acc : ByteArray} (h1 : l.length ≤ 16) (h2 : l.all partB = true) (h : acc = slashL l) (e : ¬ acc = ⟨#[]⟩) : showB l = acc ∧ showK l = 0 := by
  have := showD_end h1 h2
  rw [← h, if_neg e] at this; exact this
theorem slash_empty {s : ByteArray} (h : ((s.size : Nat) : Int) = 0) : slashB s = false := by
  have : s.data.toList = [] := List.length_eq_zero_iff.1 (by rw [← sz_len]; omega)
  unfold slashB Lib.hasPrefix; rw [this]; rfl
theorem slash_c0 {s : ByteArray} {c : UInt8} (h : s.data.toList[0]? = some c) (hc : ((c.toNat : Nat) : Int) ≠ 47) : slashB s = false := by
  unfold slashB Lib.hasPrefix
  cases e : s.data.toList with
  | nil => rfl
  | cons b l =>
    rw [e] at h; simp at h; subst h
    have : (47 : UInt8) ≠ b := fun e => hc (by rw [← e]; rfl)
    simp [List.isPrefixOf, this]
theorem slash_c1 {s : ByteArray} {c : UInt8} (h : s.data.toList[0]? = some c) (hc : ¬ ((c.toNat : Nat) : Int) ≠ 47) : slashB s = true := by
  unfold slashB Lib.hasPrefix
  cases e : s.data.toList with
  | nil => rw [e] at h; cases h
  | cons b l =>
    rw [e] at h; simp at h; subst h
    have h2 : b = 47 := UInt8.toNat_inj.1 (by show b.toNat = 47; omega)
    subst h2
    simp [List.isPrefixOf]
theorem cleanD_is {s : ByteArray} (h : slashB s = true) : (cutL 47 s).foldl cleanS [] = cleanO s := by
  rw [cutL_47, rest_parts47 h]; rfl
theorem clS_c0 {out : List ByteArray} {p : ByteArray} (h : p = ⟨#[46, 46]⟩) (ho : ¬ ((out.length : Nat) : Int) > 0) : cleanS out p = out := by
  have : out = [] := List.length_eq_zero_iff.1 (by omega)
  subst this; rw [clS_c h]; rfl
theorem parse_le {s : ByteArray} (hs : s.size ≤ 100000) : ∀ x ∈ parseL s, x.size ≤ 100000 := fun x hx => by
  rcases parseL_or s with h | h
  · rw [h] at hx; cases hx
  · rw [h] at hx
    have := splB_size hx; have := restB_size s; omega
theorem clean_le6 {s : ByteArray} {out : List ByteArray} (hs : s.size ≤ 100000) (e : out = cleanO s) : ∀ x ∈ out, x.size ≤ 100000 := fun x hx => by
  subst e
  rcases clean_mem _ x hx with h | h
  · cases h
  · have := splB_size h; have := restB_size s; omega
theorem wid_100 : ∀ {l : List ByteArray}, (∀ x ∈ l, x.size ≤ 100) → wid l ≤ 101 * l.length
  | [], _ => Nat.zero_le _
  | x :: l, h => by
    have ih := wid_100 (l := l) (fun y hy => h y (by simp [hy]))
    have h1 := h x (by simp)
    have e2 : wid (x :: l) = x.size + 1 + wid l := by simp [wid]
    rw [e2]; simp only [List.length_cons]; omega
theorem join_100 {l : List ByteArray} (h : ∀ x ∈ l, x.size ≤ 100) (hl : l.length ≤ 30) : (joinB l).size ≤ 1000000 := by
  have h1 := wid_100 h; have h2 := (join_wid l).1; omega
theorem small_next {l : List ByteArray} {k : Nat} {x : ByteArray} (h : Hid (∀ (j : Nat) (y : ByteArray), j < k → l[j]? = some y → y.size ≤ 100)) (hx : l[k]? = some x) (hs : x.size ≤ 100) : Hid (∀ (j : Nat) (y : ByteArray), j < k + 1 → l[j]? = some y → y.size ≤ 100) := fun j y hj hy => by
  rcases Nat.lt_or_ge j k with h1 | h1
  · exact h.out j y h1 hy
  · obtain rfl : j = k := by omega
    rw [hx] at hy; injection hy with hy; subst hy; exact hs
theorem small_end {l : List ByteArray} {k : Nat} (h : Hid (∀ (j : Nat) (y : ByteArray), j < k → l[j]? = some y → y.size ≤ 100)) (hk : l.length ≤ k) : ∀ x ∈ l, x.size ≤ 100 := fun x hx => by
  obtain ⟨j, hj⟩ := List.mem_iff_getElem?.1 hx
  exact h.out j x (by have := (List.getElem?_eq_some_iff.1 hj).1; omega) hj
theorem r15n_up {w : World} (s : ByteArray) (hs : s.size ≤ 9223372036854775807) : Calls Tryz.prog 88 #[.string s] w fun e w' => e = .returned (.bool (nameB s)) ∧ Up w w' := by
  refine (r15name_any s w hs).mono ?_
  rintro e w' ⟨rfl, rfl⟩
  exact ⟨rfl, Below.refl _ _⟩
end Go.Proofs.YtefhfoioeoijlaaGreatDoor

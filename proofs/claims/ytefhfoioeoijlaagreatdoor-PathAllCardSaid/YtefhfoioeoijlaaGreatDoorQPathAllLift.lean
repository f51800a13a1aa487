/- PathAll: the walk held against the row. -/
import Derived.Below
import Derived.Carry
import Derived.ChangeOld
import Derived.Handed
import Derived.LaidMore
import Derived.Lay
import Derived.Lib.LaidTab
import Derived.Lib.SmallJoins
import Derived.OpenShut
import Derived.ProofKit
import Derived.SevenTiedAt
import Derived.Shelf.Vars
import Derived.ShutString
import Derived.Stop.Joined
import Derived.Test.YtefhfoioeoijlaaGreatDoorCards
import Derived.Test.YtefhfoioeoijlaaGreatDoorRows
import Derived.Test.YtefhfoioeoijlaaGreatDoorTie
import Derived.WalkKit
import Derived.Test.YtefhfoioeoijlaaGreatDoorQaa
import Derived.Test.YtefhfoioeoijlaaGreatDoorQab
import Derived.Test.YtefhfoioeoijlaaGreatDoorQac
import Derived.Test.YtefhfoioeoijlaaGreatDoorQad
import Derived.Test.YtefhfoioeoijlaaGreatDoorQae
import Derived.Test.YtefhfoioeoijlaaGreatDoorQaf
import Derived.Test.YtefhfoioeoijlaaGreatDoorQag
import Derived.Test.YtefhfoioeoijlaaGreatDoorQah
import Derived.Test.YtefhfoioeoijlaaGreatDoorQai
import Derived.Test.YtefhfoioeoijlaaGreatDoorQaj
import Derived.Test.YtefhfoioeoijlaaGreatDoorQak
import Derived.Test.YtefhfoioeoijlaaGreatDoorQal
import Derived.Test.YtefhfoioeoijlaaGreatDoorQam
import Derived.Test.YtefhfoioeoijlaaGreatDoorQan
import Derived.Test.YtefhfoioeoijlaaGreatDoorQao
import Derived.Test.YtefhfoioeoijlaaGreatDoorQap
import Derived.Test.YtefhfoioeoijlaaGreatDoorQaq
import Derived.Test.YtefhfoioeoijlaaGreatDoorQar
import Derived.Test.YtefhfoioeoijlaaGreatDoorQas
import Derived.Test.YtefhfoioeoijlaaGreatDoorQat
import Derived.Test.YtefhfoioeoijlaaGreatDoorQau
import Derived.Test.YtefhfoioeoijlaaGreatDoorQav
import Derived.Test.YtefhfoioeoijlaaGreatDoorQPathAlla
import Derived.Test.YtefhfoioeoijlaaGreatDoorQPathAllb
import Derived.Test.YtefhfoioeoijlaaGreatDoorQPathAllc
namespace Go.Proofs.YtefhfoioeoijlaaGreatDoor.pathAll
open Go Go.RowKit Go.Joins Go.ChangeShapes Go.WideShapes Go.ChangeAt
open Go.ChangeMaps (open_string shut_string)
set_option linter.unusedVariables false
theorem own : ownKnob Tryz.prog.godebug = none := by kernel_rfl
theorem laidOut : laidOutB Tryz.prog = true := by kernel_rfl
abbrev lst : List (String × DataW Unit) := Rows.pathAllRow.laid
/-- A heap in which all is laid meets the condition: two closed facts. -/
theorem laid_met (os : Os) (args : Array Value) : laidMetH Tryz.prog lst ((World.laidAll Tryz.prog os lst).forCall (fun _ _ => 0) ⟨#[], args, []⟩).memory := by
  rw [MakeChecks.laidMetH_plain _ _ _ (by kernel_rfl)]
  exact laidMet_laidAll _ (by kernel_rfl) (by kernel_rfl)
theorem mx_of {W : World} (h : W.ShapedOpen Tryz.prog) : Mx W := cell_of_shapedOpen_int (t := 3) (zero := #[.int .i64 0]) h (of_decide_eq_true (by kernel_rfl)) (by kernel_rfl) rfl (by kernel_rfl) (by kernel_rfl) Tryz.underlying3
/-- The wrap that hands the law the world's shape beside what is laid. -/
theorem handed_keep {H : Type} {enc : TypeId × Value → H} {a : Assume} {C : Checked} {os : Os} {f : FuncId} {fn : Func} {s : ChangeSpec} {conds : List PathCond} {apart fresh handsOn again : Bool} {X : World → Array Value → Prop}
    (hX : ∀ (w w' : World) (args : Array Value), w.heap = w'.heap → X w args → X w' args) (own : ownKnob C.prog.godebug = none) (started : os.Started) (noInit : C.prog.inits.idxOf? f = none) (hfn : C.prog.funcs[f]? = some fn)
    (witness : ∃ (w : World) (tape : Tape) (i : Input), w.os = os ∧ (w.forCall tape i).Shaped C.prog ∧ i.vars = [] ∧ Input.okWide C.prog (w.forCall tape i) .any w.heap.size f i ∧
      ((s.pre enc C.prog fn conds apart (w.forCall tape i).memory i.args ∧ X (w.forCall tape i).memory i.args) ∧ sizedMet enc C.prog fn (OpenSpec.ofChange s) apart (w.forCall tape i).memory i.args) ∧ a.holds C.prog (lone (Frame.enter C.prog f i.args .normal) [] (w.forCall tape i)))
    (law : ∀ (W : World) (base : Nat) (args : Array Value) (ds gs : List (DataW H)) (before : List MemPlace),
      (∀ (j : Nat) t v, fn.params[j]? = some t → args[j]? = some v → Value.okWide C.prog W .any base t v) → DataW.Whole enc C.prog fn.params.toList s.vars apart W args.toList ds gs before → W.ShapedOpen C.prog → X W args →
      Calls C.prog f args W fun e W' => ∃ v, e = .returned v ∧ s.post enc C.prog fn apart fresh handsOn again W args v W') :
    ReturnsInHanded a C os f .any (fun w args => (s.pre enc C.prog fn conds apart w args ∧ X w args) ∧ sizedMet enc C.prog fn (OpenSpec.ofChange s) apart w args) (s.post enc C.prog fn apart fresh handsOn again) := by
  refine returnsInHanded_of_calls own started noInit witness ?_
  intro w tape i _ hsh _ hok hpre _
  obtain ⟨_, _, _, fn', hfn', _, _, _, _, hval⟩ := hok
  obtain rfl : fn' = fn := Option.some.inj (hfn'.symm.trans hfn)
  obtain ⟨⟨⟨ds, gs, before, hw, _⟩, hx⟩, _⟩ := hpre
  refine (law (w.forCall tape i) w.heap.size i.args ds gs before hval (DataW.Whole.of_heap (w' := w.forCall tape i) (by rfl) hw) hsh (hX _ _ _ (by rfl) hx)).mono fun e W' ⟨v, he, hp⟩ => ?_
  subst he
  exact ChangeSpec.post_blind hp
theorem laid_tail {P : Program} {x : String × DataW Unit} {r : List (String × DataW Unit)} {w : World} (h : laidMet P (x :: r) w) : laidMet P r w := by
  obtain ⟨ps, hv, hnd, hrows⟩ := h
  obtain ⟨n, d⟩ := x
  obtain ⟨g, t, cs, fuel, p, q, _, _, _, _, hq, rfl⟩ := hv
  exact ⟨q, hq, List.Nodup.sublist (List.sublist_append_right _ _) hnd, fun b off hm => hrows b off (List.mem_append_right _ hm)⟩
theorem tab_is : (Rows.laid_internal_strconv_uint64pow10 : DataW Unit) = Lib.tabData .u64 Lib.pow10Tab := by kernel_rfl
theorem of_laid {W : World} (h : laidMetH Tryz.prog lst W) : Tab W := by
  rw [MakeChecks.laidMetH_plain _ _ _ (by kernel_rfl)] at h
  have h2 : laidMet Tryz.prog [("internal/strconv.uint64pow10", Rows.laid_internal_strconv_uint64pow10), ("unicode/utf8.acceptRanges", Rows.laid_unicode_utf8_acceptRanges), ("unicode/utf8.first", Rows.laid_unicode_utf8_first)] W := (laid_tail (laid_tail h))
  rw [tab_is] at h2
  exact Lib.tabIs_of_head (g := 0) (t := 245) (e := 218) (n := 20) (by kernel_rfl) (by kernel_rfl) Tryz.underlying245 Tryz.underlying218 (by kernel_rfl) (by kernel_rfl) h2
/-! ### THE ROW's STEP -/
set_option maxRecDepth 100000 in
theorem lifted (os : Os) (started : os.Started) (H : Type) (enc : TypeId × Value → H) :
    ReturnsInHanded {} Tryz.checked os 12 .any (fun w args => (Rows.pathAllSpec.pre enc Tryz.prog Tryz.f12 [] false w args ∧ laidMetH Tryz.prog lst w) ∧ sizedMet enc Tryz.prog Tryz.f12 (OpenSpec.ofChange Rows.pathAllSpec) false w args)
      (Rows.pathAllSpec.post enc Tryz.prog Tryz.f12 false true false false) := by
  refine handed_keep (C := Tryz.checked) (X := fun w _ => laidMetH Tryz.prog lst w) (fun _ _ _ hh h => h.of_heap hh) own started (by kernel_rfl) Tryz.func12
    (ChangeSpec.witness_shaped (enc := enc) (C := Tryz.checked) (os := os) (X := fun w _ => laidMetH Tryz.prog lst w) false (World.laidAll Tryz.prog os lst) #[.slice none 0 0] 8 (World.laidAll_os _ _ _) (World.shaped_of_ZipB (by kernel_rfl) (by kernel_rfl)) (by kernel_rfl) (by kernel_rfl) (by kernel_rfl) (laid_met os _)) ?_
  intro W base args ds gs before hval0 hW hsh hL
  have hval : ∀ (j : Nat) t v, Tryz.f12.params[j]? = some t → args[j]? = some v → Value.okWide Tryz.prog W .any base t v := hval0
  have hW' := hW
  obtain ⟨p, q, hA0, hV, rfl, hfz, hnd⟩ := hW
  have htab := of_laid hL
  have hmx := mx_of hsh
  have hA : DataW.TrodAll enc Tryz.prog W 0 (fun _ => true) true Tryz.f12.params.toList args.toList ds p := hA0
  rw [Tryz.params12] at hA hval
  obtain ⟨v0, vs0, d0, ds0, p0, q0, hargs, rfl, rfl, h0, r0⟩ := trodAll_cons hA
  obtain ⟨rfl, rfl, rfl⟩ := trodAll_nil r0
  obtain ⟨rfl, rfl⟩ := trodVars_none hV
  obtain rfl : args = #[v0] := by cases args; simp_all
  obtain ⟨a0, len0, cap0, rfl⟩ := okWide_slice Tryz.underlying22 (hval 0 22 v0 rfl rfl)
  have k0 := h0
  have lt0 : ∀ x ∈ p0, x.block < W.heap.size := by obtain ⟨m, hm⟩ := k0; exact DataW.trod_lt m _ _ _ hm
  obtain ⟨lA0, os0, lc0, hcs, hn0, w0, w0'⟩ : ∃ (A : Option Addr) (os' : List OpD) (c : Nat), [Value.slice a0 len0 cap0] = [.slice A os'.length c] ∧ os'.length ≤ 9223372036854775807 ∧ OpRow0 W A os' ∧ (Small os' → OpRow W.heap.size W A os') := by
    obtain ⟨fuel, hf⟩ := h0
    exact open_ops (by simpa [Value.cells] using hf)
  injection hcs with hcs _
  injection hcs with e1 e2 e3
  subst e1 e2 e3
  clear hA0 hval0
  refine (pathAll_at w0 w0' (Nat.le_refl _) hn0 htab hmx).mono fun e W' ⟨he, bel⟩ => ?_
  subst he
  exact ⟨_, rfl, _, _, _, [], _, [], hW', trodAll_mk1 (shut_bool Tryz.underlying4 _), (trodAll_cons_mk (Below.trod laidOut (by kernel_rfl) (of_decide_eq_true (by kernel_rfl)) k0 bel lt0) trodAll_mk0), rfl, bel.frame _, fun h => by cases h⟩
end Go.Proofs.YtefhfoioeoijlaaGreatDoor.pathAll

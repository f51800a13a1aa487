/- PathWalks: the walk held against the row. -/
import Derived.Below
import Derived.Carry
import Derived.ChangeOld
import Derived.Handed
import Derived.LaidMore
import Derived.Lay
import Derived.Lib.LaidTab
import Derived.Lib.SmallJoins
import Derived.OpenShut
import Derived.ProofKit
import Derived.SevenTiedAt
import Derived.Shelf.Vars
import Derived.ShutString
import Derived.Stop.Joined
import Derived.Test.YtefhfoioeoijlaaGreatDoorCards
import Derived.Test.YtefhfoioeoijlaaGreatDoorRows
import Derived.Test.YtefhfoioeoijlaaGreatDoorTie
import Derived.WalkKit
import Derived.Test.YtefhfoioeoijlaaGreatDoorUaa
import Derived.Test.YtefhfoioeoijlaaGreatDoorUab
import Derived.Test.YtefhfoioeoijlaaGreatDoorUac
import Derived.Test.YtefhfoioeoijlaaGreatDoorUad
import Derived.Test.YtefhfoioeoijlaaGreatDoorUae
import Derived.Test.YtefhfoioeoijlaaGreatDoorUaf
import Derived.Test.YtefhfoioeoijlaaGreatDoorUag
import Derived.Test.YtefhfoioeoijlaaGreatDoorUah
import Derived.Test.YtefhfoioeoijlaaGreatDoorUai
import Derived.Test.YtefhfoioeoijlaaGreatDoorUaj
import Derived.Test.YtefhfoioeoijlaaGreatDoorUak
import Derived.Test.YtefhfoioeoijlaaGreatDoorUal
import Derived.Test.YtefhfoioeoijlaaGreatDoorUam
import Derived.Test.YtefhfoioeoijlaaGreatDoorUan
import Derived.Test.YtefhfoioeoijlaaGreatDoorUao
import Derived.Test.YtefhfoioeoijlaaGreatDoorUap
import Derived.Test.YtefhfoioeoijlaaGreatDoorUaq
import Derived.Test.YtefhfoioeoijlaaGreatDoorUar
import Derived.Test.YtefhfoioeoijlaaGreatDoorUas
import Derived.Test.YtefhfoioeoijlaaGreatDoorUat
import Derived.Test.YtefhfoioeoijlaaGreatDoorUau
import Derived.Test.YtefhfoioeoijlaaGreatDoorUav
import Derived.Test.YtefhfoioeoijlaaGreatDoorUaw
import Derived.Test.YtefhfoioeoijlaaGreatDoorUax
import Derived.Test.YtefhfoioeoijlaaGreatDoorUay
import Derived.Test.YtefhfoioeoijlaaGreatDoorUaz
import Derived.Test.YtefhfoioeoijlaaGreatDoorUba
import Derived.Test.YtefhfoioeoijlaaGreatDoorUbb
import Derived.Test.YtefhfoioeoijlaaGreatDoorUbc
namespace Go.Proofs.YtefhfoioeoijlaaGreatDoor.pathWalks
open Go Go.RowKit Go.Joins Go.ChangeShapes Go.WideShapes Go.ChangeAt
open Go.ChangeMaps (open_string shut_string)
set_option linter.unusedVariables false
theorem own : ownKnob Tryz.prog.godebug = none := by kernel_rfl
theorem laidOut : laidOutB Tryz.prog = true := by kernel_rfl
abbrev lst : List (String × DataW Unit) := Rows.pathWalksRow.laid
/-- A heap in which all is laid meets the condition: two closed facts. -/
theorem laid_met (os : Os) (args : Array Value) : laidMetH Tryz.prog lst ((World.laidAll Tryz.prog os lst).forCall (fun _ _ => 0) ⟨#[], args, []⟩).memory := by
  rw [MakeChecks.laidMetH_plain _ _ _ (by kernel_rfl)]
  exact laidMet_laidAll _ (by kernel_rfl) (by kernel_rfl)
theorem mx_of {W : World} (h : W.ShapedOpen Tryz.prog) : Mx W := cell_of_shapedOpen_int (t := 3) (zero := #[.int .i64 0]) h (of_decide_eq_true (by kernel_rfl)) (by kernel_rfl) rfl (by kernel_rfl) (by kernel_rfl) Tryz.underlying3
/-- The wrap that hands the law the world's shape beside what is laid. -/
theorem handed_keep {H : Type} {enc : TypeId × Value → H} {a : Assume} {C : Checked} {os : Os} {f : FuncId} {fn : Func} {s : ChangeSpec} {conds : List PathCond} {apart fresh handsOn again : Bool} {X : World → Array Value → Prop}
    (hX : ∀ (w w' : World) (args : Array Value), w.heap = w'.heap → X w args → X w' args) (own : ownKnob C.prog.godebug = none) (started : os.Started) (noInit : C.prog.inits.idxOf? f = none) (hfn : C.prog.funcs[f]? = some fn)
    (witness : ∃ (w : World) (tape : Tape) (i : Input), w.os = os ∧ (w.forCall tape i).Shaped C.prog ∧ i.vars = [] ∧ Input.okWide C.prog (w.forCall tape i) .any w.heap.size f i ∧
      ((s.pre enc C.prog fn conds apart (w.forCall tape i).memory i.args ∧ X (w.forCall tape i).memory i.args) ∧ sizedMet enc C.prog fn (OpenSpec.ofChange s) apart (w.forCall tape i).memory i.args) ∧ a.holds C.prog (lone (Frame.enter C.prog f i.args .normal) [] (w.forCall tape i)))
    (law : ∀ (W : World) (base : Nat) (args : Array Value) (ds gs : List (DataW H)) (before : List MemPlace),
      (∀ (j : Nat) t v, fn.params[j]? = some t → args[j]? = some v → Value.okWide C.prog W .any base t v) → DataW.Whole enc C.prog fn.params.toList s.vars apart W args.toList ds gs before → W.ShapedOpen C.prog → X W args →
      Calls C.prog f args W fun e W' => ∃ v, e = .returned v ∧ s.post enc C.prog fn apart fresh handsOn again W args v W') :
    ReturnsInHanded a C os f .any (fun w args => (s.pre enc C.prog fn conds apart w args ∧ X w args) ∧ sizedMet enc C.prog fn (OpenSpec.ofChange s) apart w args) (s.post enc C.prog fn apart fresh handsOn again) := by
  refine returnsInHanded_of_calls own started noInit witness ?_
  intro w tape i _ hsh _ hok hpre _
  obtain ⟨_, _, _, fn', hfn', _, _, _, _, hval⟩ := hok
  obtain rfl : fn' = fn := Option.some.inj (hfn'.symm.trans hfn)
  obtain ⟨⟨⟨ds, gs, before, hw, _⟩, hx⟩, _⟩ := hpre
  refine (law (w.forCall tape i) w.heap.size i.args ds gs before hval (DataW.Whole.of_heap (w' := w.forCall tape i) (by rfl) hw) hsh (hX _ _ _ (by rfl) hx)).mono fun e W' ⟨v, he, hp⟩ => ?_
  subst he
  exact ChangeSpec.post_blind hp
theorem laid_tail {P : Program} {x : String × DataW Unit} {r : List (String × DataW Unit)} {w : World} (h : laidMet P (x :: r) w) : laidMet P r w := by
  obtain ⟨ps, hv, hnd, hrows⟩ := h
  obtain ⟨n, d⟩ := x
  obtain ⟨g, t, cs, fuel, p, q, _, _, _, _, hq, rfl⟩ := hv
  exact ⟨q, hq, List.Nodup.sublist (List.sublist_append_right _ _) hnd, fun b off hm => hrows b off (List.mem_append_right _ hm)⟩
theorem tab_is : (Rows.laid_internal_strconv_uint64pow10 : DataW Unit) = Lib.tabData .u64 Lib.pow10Tab := by kernel_rfl
theorem of_laid {W : World} (h : laidMetH Tryz.prog lst W) : Tab W := by
  rw [MakeChecks.laidMetH_plain _ _ _ (by kernel_rfl)] at h
  have h2 : laidMet Tryz.prog [("internal/strconv.uint64pow10", Rows.laid_internal_strconv_uint64pow10), ("unicode/utf8.acceptRanges", Rows.laid_unicode_utf8_acceptRanges), ("unicode/utf8.first", Rows.laid_unicode_utf8_first)] W := (laid_tail (laid_tail h))
  rw [tab_is] at h2
  exact Lib.tabIs_of_head (g := 0) (t := 245) (e := 218) (n := 20) (by kernel_rfl) (by kernel_rfl) Tryz.underlying245 Tryz.underlying218 (by kernel_rfl) (by kernel_rfl) h2
/-! ### THE ROW's STEP -/
set_option maxRecDepth 100000 in
theorem lifted (os : Os) (started : os.Started) (H : Type) (enc : TypeId × Value → H) :
    ReturnsInHanded {} Tryz.checked os 11 .any (fun w args => (Rows.pathWalksSpec.pre enc Tryz.prog Tryz.f11 [] false w args ∧ laidMetH Tryz.prog lst w) ∧ sizedMet enc Tryz.prog Tryz.f11 (OpenSpec.ofChange Rows.pathWalksSpec) false w args)
      (Rows.pathWalksSpec.post enc Tryz.prog Tryz.f11 false true false false) := by
  refine handed_keep (C := Tryz.checked) (X := fun w _ => laidMetH Tryz.prog lst w) (fun _ _ _ hh h => h.of_heap hh) own started (by kernel_rfl) Tryz.func11
    (ChangeSpec.witness_shaped (enc := enc) (C := Tryz.checked) (os := os) (X := fun w _ => laidMetH Tryz.prog lst w) false (World.laidAll Tryz.prog os lst) #[.slice none 0 0, .string ⟨#[]⟩, .agg #[.int .i64 0, .int .i64 0]] 8 (World.laidAll_os _ _ _) (World.shaped_of_ZipB (by kernel_rfl) (by kernel_rfl)) (by kernel_rfl) (by kernel_rfl) (by kernel_rfl) (laid_met os _)) ?_
  intro W base args ds gs before hval0 hW hsh hL
  have hval : ∀ (j : Nat) t v, Tryz.f11.params[j]? = some t → args[j]? = some v → Value.okWide Tryz.prog W .any base t v := hval0
  have hW' := hW
  obtain ⟨p, q, hA0, hV, rfl, hfz, hnd⟩ := hW
  have htab := of_laid hL
  have hmx := mx_of hsh
  have hA : DataW.TrodAll enc Tryz.prog W 0 (fun _ => true) true Tryz.f11.params.toList args.toList ds p := hA0
  rw [Tryz.params11] at hA hval
  obtain ⟨v0, vs0, d0, ds0, p0, q0, hargs, rfl, rfl, h0, r0⟩ := trodAll_cons hA
  obtain ⟨v1, vs1, d1, ds1, p1, q1, rfl, rfl, rfl, h1, r1⟩ := trodAll_cons r0
  obtain ⟨v2, vs2, d2, ds2, p2, q2, rfl, rfl, rfl, h2, r2⟩ := trodAll_cons r1
  obtain ⟨rfl, rfl, rfl⟩ := trodAll_nil r2
  obtain ⟨rfl, rfl⟩ := trodVars_none hV
  obtain rfl : args = #[v0, v1, v2] := by cases args; simp_all
  obtain ⟨a0, len0, cap0, rfl⟩ := okWide_slice Tryz.underlying22 (hval 0 22 v0 rfl rfl)
  have k0 := h0
  have lt0 : ∀ x ∈ p0, x.block < W.heap.size := by obtain ⟨m, hm⟩ := k0; exact DataW.trod_lt m _ _ _ hm
  obtain ⟨lA0, os0, lc0, hcs, hn0, w0, w0'⟩ : ∃ (A : Option Addr) (os' : List OpD) (c : Nat), [Value.slice a0 len0 cap0] = [.slice A os'.length c] ∧ os'.length ≤ 9223372036854775807 ∧ OpRow0 W A os' ∧ (Small os' → OpRow W.heap.size W A os') := by
    obtain ⟨fuel, hf⟩ := h0
    exact open_ops (by simpa [Value.cells] using hf)
  injection hcs with hcs _
  injection hcs with e1 e2 e3
  subst e1 e2 e3
  have k1 := h1
  obtain ⟨s1, rfl, rfl, rfl, hs1⟩ := open_string Tryz.underlying9 (hval 1 9 v1 rfl rfl) h1
  obtain ⟨s2, t2, y2, z2, n2, rfl, rfl, rfl, u2, x2⟩ := open_agg2 Tryz.underlying24 (by kernel_rfl) (by kernel_rfl) (hval 2 24 v2 rfl rfl) h2
  obtain ⟨m2, e2, _⟩ := DataW.trod_int Tryz.underlying2 u2
  obtain ⟨l2, g2, _⟩ := DataW.trod_int Tryz.underlying3 x2
  injection e2 with e2 _
  injection g2 with g2 _
  subst e2 g2
  have k2 := h2
  have lt2 : ∀ x ∈ y2.2 ++ z2.2, x.block < W.heap.size := by obtain ⟨m, hm⟩ := k2; exact DataW.trod_lt m _ _ _ hm
  clear hA0 hval0
  refine (pathWalks_at w0 w0' (Nat.le_refl _) hn0 htab hmx s1 hs1 m2 l2).mono fun e W' ⟨he, bel⟩ => ?_
  subst he
  exact ⟨_, rfl, _, _, _, [], _, [], hW', trodAll_mk1 (shut_bool Tryz.underlying4 _), (trodAll_cons_mk (Below.trod laidOut (by kernel_rfl) (of_decide_eq_true (by kernel_rfl)) k0 bel lt0) (trodAll_cons_mk (Below.trod laidOut (by kernel_rfl) (of_decide_eq_true (by kernel_rfl)) k1 bel (by simp)) (trodAll_cons_mk (Below.trod laidOut (by kernel_rfl) (of_decide_eq_true (by kernel_rfl)) k2 bel lt2) trodAll_mk0))), rfl, bel.frame _, fun h => by cases h⟩
end Go.Proofs.YtefhfoioeoijlaaGreatDoor.pathWalks

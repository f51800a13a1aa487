/- Clashes where there is no tree: a map with string keys that has nothing is ranged over. (Virtual numbers of seat .ZD.) -/
import Derived.Test.YtefhfoioeoijlaaGreatDoorSMap
import Derived.Test.YtefhfoioeoijlaaGreatDoorRws
import Derived.Test.YtefhfoioeoijlaaGreatDoorLib3
set_option linter.unusedVariables false
set_option linter.unusedSimpArgs false
namespace Go.Proofs.YtefhfoioeoijlaaGreatDoor
open Go Go.RowKit Go.Sort Go.Shelf
theorem SMap.empty {w : World} {r : Nat} {f : ByteArray → Option Value} (h : SMap w r f) (hf : ∀ s, f s = none) : ∃ c, w.heap[r]? = some (.map #[] c) := by
  obtain ⟨es, c, ps, h1, h2, h3⟩ := h
  cases ps with
  | nil =>
    have : es.toList = [] := by
      have := Pair.length h2
      exact List.eq_nil_of_length_eq_zero this
    have he : es = #[] := by
      cases es; simp at this; rw [this]
    exact ⟨c, by rw [← he]; exact h1⟩
  | cons p ps =>
    have := (h3 p.1).trans (hf p.1)
    rw [getP_cons, if_pos rfl] at this
    cases this
set_option maxRecDepth 100000 in
set_option maxHeartbeats 4000000 in
theorem del0_at {r clock : Nat} {W : World} (hr : W.heap[r]? = some (.map #[] clock)) :
    Calls Tryz.prog 89 #[.map (some r), .func (.func 90) #[] #[]] W fun e W' => e = .returned (.tuple #[]) ∧ Up W W' := by
  have hu := Tryz.underlying104
  have hrg := run_range_map (P := Tryz.prog) W 104 9 3 r #[] clock hu hr
  have hrlt := (Array.getElem?_eq_some_iff.1 hr).1
  go_enter Tryz.func89, Tryz.ntmps89
  go_wp2_with fail
  go_loopw [4, 5] (fun _ _ wr => wr.heap[W.heap.size]? = some (.mapIter (some r) clock #[] clock) ∧ wr.heap[r]? = some (.map #[] clock) ∧ Hid (Up W wr)) (fun _ _ _ => 0)
  case atStart =>
    exact ⟨heap_alloc_new W _, (heap_alloc_old W _ hrlt).trans hr, up_alloc _ _⟩
  case round =>
    obtain ⟨hit, hrm, hU⟩ := hrel
    rcases run_next_at (P := Tryz.prog) wr 0 W.heap.size r clock clock #[] #[] clock hit hrm (by simp) (Nat.le_refl _) with ⟨hl0, hrun⟩ | ⟨e, he, _⟩
    · clear hit hrm
      go_wp2_with fail
      go_end0
      exact ⟨rfl, hU.out⟩
    · unfold leftOf at he; simp at he
set_option maxRecDepth 100000 in
set_option maxHeartbeats 4000000 in
theorem keys0_in {F : Fence} {n : Nat} (h110 : F.fn 146) (hro : F.round = none) (hn : 1 ≤ n) {l Bm r clock : Nat} {W : World} (hr : W.heap[r]? = some (.map #[] clock)) (hB : W.cell? ⟨Bm, 0, none⟩ = some (.map (some r)))
    {J Jx : List ByteArray → World → Prop} (hJ : AbidesFrom W.heap.size J) (h0 : J [] W) :
    CallsIn F n Tryz.prog 146 #[.func (.yield l) #[] #[], .pointer (some ⟨Bm, 0, none⟩)] W fun e W' => (∃ v, e = .returned v) ∧ ((∃ ss, ss.Perm [] ∧ J ss W') ∨ (∃ pre, True ∧ Jx pre W')) := by
  have hu := Tryz.underlying104
  have hrg := run_range_map (P := Tryz.prog) W 104 9 3 r #[] clock hu hr
  have hrlt := (Array.getElem?_eq_some_iff.1 hr).1
  refine callsIn_of_wp Tryz.func146 rfl h110 ?_ hro
  simp only [Tryz.ntmps146, List.size_toArray, List.length_cons, List.length_nil, Nat.reduceAdd, Nat.reduceSub, Array.replicate_succ, Array.replicate_zero, List.push_toArray, List.append_toArray, List.nil_append, List.cons_append]
  gi_wp2
  gi_loopw [3] (fun _ wr => wr.heap[W.heap.size]? = some (.mapIter (some r) clock #[] clock) ∧ wr.heap[r]? = some (.map #[] clock) ∧ Hid (J [] wr)) (fun _ _ => 0)
  case atStart =>
    exact ⟨heap_alloc_new W _, (heap_alloc_old W _ hrlt).trans hr, hJ [] W _ none h0 (World.grownBy_alloc W _ none) (fun r e => by cases e)⟩
  case round =>
    obtain ⟨hit, hrm, hJs⟩ := hrel
    rcases run_next_at (P := Tryz.prog) wr 0 W.heap.size r clock clock #[] #[] clock hit hrm (by simp) (Nat.le_refl _) with ⟨hl0, hrun⟩ | ⟨e, he, _⟩
    · clear hit hrm
      gi_wp2
      go_end0
      exact ⟨⟨_, rfl⟩, .inl ⟨[], List.Perm.refl _, hJs.out⟩⟩
    · unfold leftOf at he; simp at he
theorem keys0_stops {F : Fence} {n : Nat} (h110 : F.fn 146) (hro : F.round = none) (hn : 1 ≤ n) {Bm r clock : Nat} {w : World} (hr : w.heap[r]? = some (.map #[] clock)) (hBm : Bm < w.heap.size) (hB : w.cell? ⟨Bm, 0, none⟩ = some (.map (some r))) :
    SeqStopsK F n Tryz.prog 146 #[.pointer (some ⟨Bm, 0, none⟩)] (fun x : ByteArray => #[.string x]) KeepsWalks (fun ss => ss.Perm []) (fun _ => True) 0 w := fun l J Jx W hW hJ hJx hY h0 => by
  exact keys0_in h110 hro hn (r := r) (clock := clock) ((hW.block r (Array.getElem?_eq_some_iff.1 hr).1).trans hr) ((hW.cell (p := ⟨Bm, 0, none⟩) hBm).trans hB) hJ h0
theorem strs_type : Tryz.prog.underlying 69 = some (.slice 9) := by kernel_rfl
attribute [local go_sem] Oper.semAt_some
set_option maxRecDepth 100000 in
set_option maxHeartbeats 4000000 in
theorem appendSeq0_in {F : Fence} {n : Nat} (h119 : F.fn 175) (h110 : F.fn 146) (hro : F.round = none) (hn : 4 ≤ n) {Bm r clock : Nat} {w : World} (hm : w.heap[r]? = some (.map #[] clock)) (hB : w.cell? ⟨Bm, 0, none⟩ = some (.map (some r))) :
    CallsIn F n Tryz.prog 175 #[.slice none 0 0, .func (.func 146) #[] #[.pointer (some ⟨Bm, 0, none⟩)]] w fun e w' => e = .returned (.slice none 0 0) ∧ Below w.heap.size w w' := by
  have h1 : 1 ≤ n := by omega
  have hBm := World.block_lt_of_cell? w _ hB
  have hus := strs_type
  refine callsIn_of_wp_marks Tryz.func175 rfl h119 ?_ hro
  simp only [Tryz.ntmps175, List.size_toArray, List.length_cons, List.length_nil, Nat.reduceAdd, Nat.reduceSub, Array.replicate_succ, Array.replicate_zero, List.push_toArray, List.append_toArray, List.nil_append, List.cons_append]
  gi_wp2
  have hs0 : (w.alloc (.cells #[.slice none 0 0] 69)).heap.size = w.heap.size + 1 := by simp
  have bS := Boxed.new w 69 (.slice none 0 0)
  have hB0 : Below w.heap.size w (w.alloc (.cells #[.slice none 0 0] 69)) := (Below.refl _ w).alloc (Nat.le_refl _) _
  have hm0 : (w.alloc (.cells #[.slice none 0 0] 69)).heap[r]? = some (.map #[] clock) := (hB0.block r (Array.getElem?_eq_some_iff.1 hm).1).trans hm
  have hc0 := (hB0.cell (p := ⟨Bm, 0, none⟩) hBm).trans hB
  obtain ⟨W0, hW0⟩ : ∃ W0, w.alloc (.cells #[.slice none 0 0] 69) = W0 := ⟨_, rfl⟩
  rw [hW0] at bS hB0 hs0 hm0 hc0 ⊢
  clear hW0
  refine wpIn_rangeFunc_ownH (α := ByteArray) hro h1 (gf := 146) (lb := #[.pointer (some ⟨Bm, 0, none⟩)]) rfl h110 (enters_of Tryz.func146 (by kernel_rfl) rfl)
    (keys0_stops (n := n - 1) h110 hro (by omega) hm0 (by omega) hc0) walksK_t walksK_b (Below.refl _ _) (fun _ => rfl)
    (fun pre W => (∃ v, Boxed W w.heap.size 69 v ∧ W.ownsRow w.heap.size 9 1 v pre.length (pre.map Value.string) ∧ (pre = [] → v = .slice none 0 0)) ∧ Below w.heap.size w W)
    (fun _ _ _ => False)
    (OwnFrom.and (Own.from (holdsRow_own w.heap.size w.heap.size 69 9 1 (fun pre => pre.length) (fun pre : List ByteArray => pre.map Value.string) (fun pre v => pre = [] → v = .slice none 0 0)) _) (ownFrom_below (Nat.le_refl _) (by omega)))
    (fun _ _ _ _ _ hs _ _ => hs)
    ⟨⟨_, bS, World.ownsRow_nil _ _ _ _, fun _ => rfl⟩, hB0⟩
    (fun x a' W => True)
    (fun x a' _ X Y row hs hg hr => trivial)
    ?assign ?body ?done ?stop
  case assign =>
    rintro l pre x W K ⟨⟨v, hv, hrow, hz⟩, hBW⟩ hK
    gi_wp2
    refine hK _ _ ((KeepsOthers.refl _).from _) (KeepsWalks.refl _) ⟨⟨v, hv, hrow, hz⟩, hBW⟩ trivial
  case body =>
    rintro l pre x a' W hl ⟨rr, hrr⟩ ⟨⟨v, hv, hrow, hz⟩, hBW⟩ _ hlt
    exact absurd hlt (Nat.not_lt_zero _)
  case done =>
    rintro D ss W hD hS ⟨⟨v, hv, hrow, hz⟩, hBW⟩ hK
    obtain rfl := List.Perm.eq_nil hS
    obtain rfl := hz rfl
    have hcv := hv.cell
    gi_wp2
    refine ⟨by simp, .inl ⟨_, _, rfl, run_takeDeferred hK, ?_⟩⟩
    exact ⟨_, results_tmp rfl _ _ _, rfl, hBW.trans (belowK_b (w := w) (Nat.le_refl _) W D _ _ (by omega) hK rfl rfl)⟩
  case stop =>
    rintro D c pre W _ _ h _
    exact h.elim
theorem appendSeq0_at {Bm r clock : Nat} {w : World} (hm : w.heap[r]? = some (.map #[] clock)) (hB : w.cell? ⟨Bm, 0, none⟩ = some (.map (some r))) :
    Calls Tryz.prog 175 #[.slice none 0 0, .func (.func 146) #[] #[.pointer (some ⟨Bm, 0, none⟩)]] w fun e w' => e = .returned (.slice none 0 0) ∧ Below w.heap.size w w' :=
  (callsIn_wide (n := 6)).1 (appendSeq0_in trivial trivial rfl (by omega) hm hB)
theorem collect0_at {Bm r clock : Nat} {w : World} (hm : w.heap[r]? = some (.map #[] clock)) (hB : w.cell? ⟨Bm, 0, none⟩ = some (.map (some r))) :
    Calls Tryz.prog 145 #[.func (.func 146) #[] #[.pointer (some ⟨Bm, 0, none⟩)]] w fun e w' => e = .returned (.slice none 0 0) ∧ Below w.heap.size w w' := by
  have key := Lib.hid (appendSeq0_at hm hB)
  clear hm hB
  go_enter Tryz.func145, Tryz.ntmps145
  go_wp2_with fail
  refine key.out.mono ?_
  rintro e w' ⟨rfl, h3⟩
  go_wp2_with fail
  go_ret
  exact ⟨rfl, h3⟩
theorem mkeysS_at {w : World} (r : Nat) : Calls Tryz.prog 92 #[.map (some r)] w fun e w' => ∃ b, e = .returned (.func (.func 146) #[] #[.pointer (some ⟨b, 0, none⟩)]) ∧ w'.cell? ⟨b, 0, none⟩ = some (.map (some r)) ∧ Up w w' := by
  go_enter Tryz.func92, Tryz.ntmps92
  go_wp2_with fail
  go_ret
  exact ⟨_, rfl, by unfold World.cell?; rw [heap_alloc_new]; rfl, up_alloc _ _⟩
theorem sorted0_at {Bm r clock : Nat} {w : World} (hm : w.heap[r]? = some (.map #[] clock)) (hB : w.cell? ⟨Bm, 0, none⟩ = some (.map (some r))) :
    Calls Tryz.prog 91 #[.func (.func 146) #[] #[.pointer (some ⟨Bm, 0, none⟩)]] w fun e w' => e = .returned (.slice none 0 0) ∧ Up w w' := by
  have key := Lib.hid (collect0_at hm hB)
  clear hm hB
  go_enter Tryz.func91, Tryz.ntmps91
  go_wp2_with fail
  refine key.out.mono ?_
  rintro e w1 ⟨rfl, h3⟩
  go_wp2_with fail
  refine (Tryz.slices_Sort_string_none none 0 w1).mono ?_
  rintro e w2 ⟨rfl, rfl⟩
  go_wp2_with fail
  go_ret
  exact ⟨rfl, h3⟩
end Go.Proofs.YtefhfoioeoijlaaGreatDoor

/- Rows of operations: made, appended to where there is room, cut, cleared. -/
import Derived.Test.YtefhfoioeoijlaaOSortB
import Derived.Laws.OwnMore
set_option linter.unusedVariables false
set_option linter.unusedSimpArgs false
namespace Go.Proofs.Ytefhfoioeoijlaa
open Go Go.RowKit Go.Sort
section
variable {P : Program} {d : Option Tmp} {ty : TypeId} {pos : String} {af : Array Edge} {gd : Option (Nat × Bool)} {ρ : Operand → Value} {w : World}
theorem r_sliceLo {t e : TypeId} {x lo : Operand} {b o n c k sz : Nat} (hx : ρ x = .slice (some ⟨b, o, none⟩) n c) (hlo : ρ lo = .int .i64 (k : Int)) (hu : P.underlying t = some (.slice e)) (hsz : ∀ w, (sizeOf e).run P w = .ok sz w) (hk : k ≤ n) (hkc : k < c) :
    (execOp ρ ⟨d, .slice t x (some lo) none none, ty, pos, af, gd⟩).run P w = .ok (.value (.slice (some ⟨b, o + k * sz, none⟩) (n - k) (c - k))) w := by
  have h1 : (0 : Int) ≤ (k : Int) ∧ (k : Int) ≤ (n : Int) := by omega
  have h2 : ¬ c = k := by omega
  simp [execOp, hx, hlo, Instr.sliceAt, Instr.slice, Instr.sliceBounds, Instr.sliceBound, asIntOf, run_underlying hu, hsz, h1, h2, add_at, hk]
theorem r_sliceHi {t e : TypeId} {x hi : Operand} {b o n c k sz : Nat} (hx : ρ x = .slice (some ⟨b, o, none⟩) n c) (hhi : ρ hi = .int .i64 (k : Int)) (hu : P.underlying t = some (.slice e)) (hsz : ∀ w, (sizeOf e).run P w = .ok sz w) (hk : k ≤ c) :
    (execOp ρ ⟨d, .slice t x none (some hi) none, ty, pos, af, gd⟩).run P w = .ok (.value (.slice (some ⟨b, o, none⟩) k c)) w := by
  have h1 : (0 : Int) ≤ (k : Int) ∧ (k : Int) ≤ (c : Int) := by omega
  simp [execOp, hx, hhi, Instr.sliceAt, Instr.slice, Instr.sliceBounds, Instr.sliceBound, asIntOf, run_underlying hu, hsz, h1, add_at, hk]
end
theorem up_none {w w' : World} (h : w.grownBy w' none) : Up w w' := ⟨h.os, h.tape, h.output, h.size, fun k hk => h.block k hk (by simp)⟩
section
variable {T : TypeId} {ops : Array Oper} {Q : Exit → Act → World → Prop} {a : Act} {w : World} {J : Act → World → Prop} {d : Option Tmp} {ty : TypeId} {pos : String} {af : Array Edge} {gd : Option (Nat × Bool)} {B base : Nat} {L : List OpD} {t : TypeId} {i : TypeInfo} {z : Value}
theorem mkO {l c : Operand} {m : Nat} (hw : Region.wanted (⟨d, .makeSlice t l c, ty, pos, af, gd⟩ : Oper) (yielded ops a.tmps) = true) (hl : a.eval l = .int .i64 0) (hc : a.eval c = .int .i64 (m : Int)) (ht : Try.prog.underlying t = some (.slice T)) (hi : Try.prog.info? T = some i) (hz : i.zero = some z)
    (hsize : i.size = 10) (hby : i.bytes = 104) (hm : m ≤ 1000000) (hbase : base ≤ w.heap.size)
    (k : ∀ b w', b = w.heap.size → ORow T B base w' (.slice (some ⟨b, 0, none⟩) 0 m) [] → Up w w' → J (a.put d (.slice (some ⟨b, 0, none⟩) 0 m)) w') : St1 Try.prog ops Q ⟨d, .makeSlice t l c, ty, pos, af, gd⟩ J a w := by
  obtain ⟨w', h1, h2, h3⟩ := run_make_own (P := Try.prog) w base t T i z 10 ht hi hz hsize .i64 .i64 m (by rw [hby]; omega) (by unfold maxLen; omega) hbase
  refine sv hw ?_ (k _ w' rfl ⟨[], trivial, h2⟩ (up_none h3))
  simp [execOp, hl, hc, h1]
theorem fitO {s y : Operand} {g n c b : Nat} {x : OpD} {e : Value} (hw : Region.wanted (⟨d, .call ⟨.builtin .append, #[s, y], #[t, t]⟩, ty, pos, af, gd⟩ : Oper) (yielded ops a.tmps) = true) (hs : a.eval s = .slice (some ⟨g, 0, none⟩) n c) (hy : a.eval y = .slice (some ⟨b, 0, none⟩) 1 1)
    (h : ORow T B base w (.slice (some ⟨g, 0, none⟩) n c) L) (ht : Try.prog.underlying t = some (.slice T)) (hi : Try.prog.info? T = some i) (hsize : i.size = 10) (hb : w.heap[b]? = some (.cells (opC x e).toArray T (0, 0))) (hD : Dat B w e x.data) (hT : T ≠ 5) (hB : B ≤ base) (hroom : n + 1 ≤ c)
    (k : ∀ w', ORow T B base w' (.slice (some ⟨g, 0, none⟩) (n + 1) c) (L ++ [x]) → Chg w w' g → J (a.put d (.slice (some ⟨g, 0, none⟩) (n + 1) c)) w') : St1 Try.prog ops Q ⟨d, .call ⟨.builtin .append, #[s, y], #[t, t]⟩, ty, pos, af, gd⟩ J a w := by
  have hbg := h.ge hB
  obtain ⟨hn, _, _, cur, hg, _⟩ := h.blk
  obtain ⟨ds, hp, ho⟩ := h
  obtain ⟨dA, dn, dc, rfl⟩ := hD.form
  rw [← hn] at ho
  obtain ⟨w', h1, h2, h3⟩ := run_append_fits (P := Try.prog) w base t ty T i 10 ht hi hsize g n c (flatO L ds) ho ⟨b, 0, none⟩ 1 1 (opC x (.slice dA dn dc)) (by simp [opC])
    (fun j u hj => by
      rw [add_at, Nat.zero_add]
      have : (opC x (.slice dA dn dc)).toArray[j]? = some u := by simpa using hj
      simp only [World.cell?, hb]; simpa using this) (by intro u hu; simp [opC] at hu; rcases hu with rfl | rfl | rfl | rfl | rfl | rfl | rfl | rfl | rfl | rfl <;> rfl) hroom
  have hk : B ≤ g ∧ NotU8 w g := ⟨hbg, NotU8.of hg hT⟩
  refine sv hw ?_ (k w' ⟨ds ++ [.slice dA dn dc], Pair.snoc (hp.mono fun x d hd => hd.chg h3 hk) (hD.chg h3 hk), ?_⟩ h3)
  · simp [execOp, resolve, invoke, builtin, hs, hy, h1]
  · rw [flatO_snoc x _ hp.length, List.length_append, List.length_singleton, ← hn]
    exact h2
theorem clrO {x : Operand} {g n c k m q cc : Nat} (hw : Region.wanted (⟨d, .call ⟨.builtin .clear, #[x], #[t]⟩, ty, pos, af, gd⟩ : Oper) (yielded ops a.tmps) = true) (hx : a.eval x = .slice (some ⟨g, m, none⟩) q cc) (hm : m = k * 10) (hq : k + q = n) (hq0 : 0 < q)
    (h : ORow T B base w (.slice (some ⟨g, 0, none⟩) n c) L) (ht : Try.prog.underlying t = some (.slice T)) (hz : ∀ w, (zeroValue T).run Try.prog w = .ok z w) (hzs : z.cells.size = 10) (hz1 : ∀ v ∈ z.cells.toList, v.oneCell' = true) (hT : T ≠ 5) (hB : B ≤ base)
    (kk : ∀ w', ORow T B base w' (.slice (some ⟨g, 0, none⟩) k c) (L.take k) → Chg w w' g → J (a.put d (.tuple #[])) w') : St1 Try.prog ops Q ⟨d, .call ⟨.builtin .clear, #[x], #[t]⟩, ty, pos, af, gd⟩ J a w := by
  obtain ⟨hn, hnc, _, cur, hg, hcs⟩ := h.blk
  have hlz : (Builtin.zeroCells z.cells q).toList.length = q * 10 := by simp [Builtin.zeroCells, hzs]
  have h1 : ∀ v ∈ (Builtin.zeroCells z.cells q).toList, v.oneCell' = true := by
    intro v hv
    simp only [Builtin.zeroCells, Array.toList_map, Array.toList_range, List.mem_map, List.mem_range] at hv
    obtain ⟨j, _, rfl⟩ := hv
    have hj : j % z.cells.size < z.cells.size := Nat.mod_lt _ (by omega)
    rw [getElem!_pos z.cells _ hj]
    exact hz1 _ (by simp)
  have hst := run_storeCells_at Try.prog g m T (Builtin.zeroCells z.cells q).toList 0 cur w hg (by rw [hlz, hcs, hm]; omega) h1
  rw [Nat.add_zero, hlz] at hst
  have hsz : (cur.toList.take m ++ (Builtin.zeroCells z.cells q).toList ++ cur.toList.drop (m + q * 10)).toArray.size = cur.size := by
    simp only [List.size_toArray, List.length_append, List.length_take, List.length_drop, hlz, Array.length_toList, hcs, hm]; omega
  have hw' := setRow_heap w g cur (cur.toList.take m ++ (Builtin.zeroCells z.cells q).toList ++ cur.toList.drop (m + q * 10)).toArray T (0, 0) hg
  have hC : Chg w (w.setRow g (cur.toList.take m ++ (Builtin.zeroCells z.cells q).toList ++ cur.toList.drop (m + q * 10)).toArray) g := ⟨rfl, rfl, rfl, by simp, fun k _ hk => setRow_other w g k _ (fun e => hk (by rw [e]))⟩
  refine sv hw ?_ (kk _ (h.cleared (k := k) (by omega) hT hB hg hw' hsz ?_ hC) hC)
  · obtain ⟨q', rfl⟩ : ∃ q', q = q' + 1 := ⟨q - 1, by omega⟩
    simp [execOp, resolve, invoke, builtin, hx, Builtin.clear_, run_underlying ht, hz, hst]
  · rw [← hm, List.append_assoc, List.take_append_of_le_length (by simp [hcs]; omega), List.take_take, Nat.min_self]
end
theorem zero_op : ∃ z, (∀ w, (zeroValue 40).run Try.prog w = .ok z w) ∧ z.cells.size = 10 ∧ ∀ v ∈ z.cells.toList, v.oneCell' = true := by
  refine ⟨_, Ty.zv40, rfl, ?_⟩
  intro v hv
  simp [Value.cells] at hv
  rcases hv with rfl | rfl | rfl | rfl | rfl | rfl | rfl | rfl | rfl | rfl <;> rfl

/-! ### what is left of neighbours of one stamp, in steps -/
section
variable {f : Nat → OpD}
theorem take_two {I : List Nat} {k x y : Nat} (hx : I[k]? = some x) (hy : I[k - 1]? = some y) (hk : 1 ≤ k) : I.take (k + 1) = I.take (k - 1) ++ [y] ++ [x] ∧ I.take k = I.take (k - 1) ++ [y] := by
  have h1 : I.take k = I.take (k - 1) ++ [y] := by
    have := List.take_add_one (l := I) (i := k - 1)
    rw [show k - 1 + 1 = k by omega, hy] at this
    simpa using this
  refine ⟨?_, h1⟩
  rw [List.take_add_one, hx, h1]; rfl
theorem Thin.grow {I K : List Nat} {k x y : Nat} (h : Thin f (I.take k) K) (hx : I[k]? = some x) (hy : I[k - 1]? = some y) (hk : 1 ≤ k) (hne : ¬ (f x).at_ = (f y).at_) : Thin f (I.take (k + 1)) (K ++ [x]) := by
  obtain ⟨e1, e2⟩ := take_two hx hy hk
  rw [e1]; rw [e2] at h; exact .keep h hne
theorem Thin.hold {I K : List Nat} {k x y : Nat} (h : Thin f (I.take k) K) (hx : I[k]? = some x) (hy : I[k - 1]? = some y) (hk : 1 ≤ k) (he : (f x).at_ = (f y).at_) : Thin f (I.take (k + 1)) K := by
  obtain ⟨e1, e2⟩ := take_two hx hy hk
  rw [e1]; rw [e2] at h; exact .drop h he
theorem Thin.small {I : List Nat} (h : I.length < 2) : Thin f I I := by
  match I, h with
  | [], _ => exact .nil
  | [x], _ => exact .one x
theorem Thin.first {I : List Nat} (h : 1 ≤ I.length) : Thin f (I.take 1) (I.take 1) := by
  match I, h with
  | x :: I, _ => exact .one x
theorem Thin.next {I : List Nat} {k x y : Nat} (h : Thin f (I.take k) (I.take k)) (hx : I[k]? = some x) (hy : I[k - 1]? = some y) (hk : 1 ≤ k) (hne : ¬ (f x).at_ = (f y).at_) : Thin f (I.take (k + 1)) (I.take (k + 1)) := by
  have := h.grow hx hy hk hne
  rwa [← show I.take (k + 1) = I.take k ++ [x] by rw [List.take_add_one, hx]; rfl] at this
/-- The copying part: k0 + k2 places are seen, kk are left, and what is still to be seen stands. -/
def Comp (f : Nat → OpD) (I J : List Nat) (k0 k2 kk : Nat) : Prop := 1 ≤ k0 ∧ 1 ≤ k2 ∧ kk + 1 ≤ k0 + k2 ∧ k0 + k2 ≤ I.length ∧ J.length = I.length ∧ Thin f (I.take (k0 + k2)) (J.take kk) ∧ ∀ j, k0 + k2 ≤ j + 1 → J[j]? = I[j]?
theorem Comp.first {I : List Nat} {k x y : Nat} (h : Thin f (I.take k) (I.take k)) (hx : I[k]? = some x) (hy : I[k - 1]? = some y) (hk : 1 ≤ k) (he : (f x).at_ = (f y).at_) : Comp f I I k 1 k :=
  ⟨hk, Nat.le_refl _, Nat.le_refl _, (List.getElem?_eq_some_iff.1 hx).1, rfl, h.hold hx hy hk he, fun _ _ => rfl⟩
theorem Comp.len {I J : List Nat} {k0 k2 kk : Nat} (h : Comp f I J k0 k2 kk) : 1 ≤ k0 ∧ 1 ≤ k2 ∧ kk + 1 ≤ k0 + k2 ∧ k0 + k2 ≤ I.length ∧ J.length = I.length := ⟨h.1, h.2.1, h.2.2.1, h.2.2.2.1, h.2.2.2.2.1⟩
theorem Comp.hold {I J : List Nat} {k0 k2 kk x y : Nat} (h : Comp f I J k0 k2 kk) (hx : J[k0 + k2]? = some x) (hy : J[k0 + (k2 - 1)]? = some y) (he : (f x).at_ = (f y).at_) : Comp f I J k0 (k2 + 1) kk := by
  obtain ⟨h1, h2, h3, h4, h5, h6, h7⟩ := h
  have hlt := (List.getElem?_eq_some_iff.1 hx).1
  rw [h7 _ (by omega)] at hx hy
  rw [show k0 + (k2 - 1) = k0 + k2 - 1 by omega] at hy
  exact ⟨h1, by omega, by omega, by omega, h5, h6.hold hx hy (by omega) he, fun j hj => h7 j (by omega)⟩
theorem Comp.grow {I J : List Nat} {k0 k2 kk x y u : Nat} (h : Comp f I J k0 k2 kk) (hx : J[k0 + k2]? = some x) (hy : J[k0 + (k2 - 1)]? = some y) (hne : ¬ (f x).at_ = (f y).at_) (hu : J[k0 + k2]? = some u) : Comp f I (J.set kk u) k0 (k2 + 1) (kk + 1) := by
  obtain ⟨h1, h2, h3, h4, h5, h6, h7⟩ := h
  have hlt := (List.getElem?_eq_some_iff.1 hx).1
  have hux : u = x := Option.some.inj (hu.symm.trans hx)
  subst hux
  have hx' := hx
  rw [h7 _ (by omega)] at hx hy
  rw [show k0 + (k2 - 1) = k0 + k2 - 1 by omega] at hy
  refine ⟨h1, by omega, by omega, by omega, by simpa using h5, ?_, fun j hj => ?_⟩
  · have e : (J.set kk u).take (kk + 1) = J.take kk ++ [u] := by
      rw [List.take_add_one, List.getElem?_set_self (by omega), List.take_set_of_le (Nat.le_refl _)]; rfl
    rw [e]; exact h6.grow hx hy (by omega) hne
  · rw [List.getElem?_set_ne (by omega)]; exact h7 j (by omega)
theorem Comp.fin {I J : List Nat} {k0 k2 kk : Nat} (h : Comp f I J k0 k2 kk) (hk : I.length ≤ k0 + k2) : Thin f I (J.take kk) := by
  have := h.2.2.2.2.2.1
  rwa [List.take_of_length_le hk] at this
end
end Go.Proofs.Ytefhfoioeoijlaa

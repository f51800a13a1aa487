/- Slices of operations of one's own: read, appended to. -/
import Derived.Test.YtefhfoioeoijlaaIRow
set_option linter.unusedVariables false
set_option linter.unusedSimpArgs false
namespace Go.Proofs.Ytefhfoioeoijlaa
open Go Go.RowKit Go.Sort

def flatO : List OpD → List Value → List Value
  | x :: L, d :: ds => opC x d ++ flatO L ds
  | _, _ => []
theorem flatO_snoc : ∀ {L : List OpD} {ds : List Value} (x : OpD) (d : Value), L.length = ds.length → flatO (L ++ [x]) (ds ++ [d]) = flatO L ds ++ opC x d
  | [], [], x, d, _ => by simp [flatO]
  | y :: L, e :: ds, x, d, h => by simp [flatO, flatO_snoc x d (by simpa using h : L.length = ds.length)]
theorem flatO_length : ∀ {L : List OpD} {ds : List Value}, L.length = ds.length → (flatO L ds).length = L.length * 10
  | [], [], _ => rfl
  | y :: L, e :: ds, h => by
    have := flatO_length (by simpa using h : L.length = ds.length)
    simp [flatO, opC, this]; omega
theorem flatO_get : ∀ {L : List OpD} {ds : List Value} {i k : Nat} {x : OpD} {d : Value}, L[i]? = some x → ds[i]? = some d → k < 10 → (flatO L ds)[i * 10 + k]? = (opC x d)[k]?
  | y :: L, e :: ds, 0, k, x, d, h1, h2, hk => by
    simp at h1 h2
    subst h1; subst h2
    simp only [flatO, Nat.zero_mul, Nat.zero_add]
    rw [List.getElem?_append_left (by simpa [opC] using hk)]
  | y :: L, e :: ds, i + 1, k, x, d, h1, h2, hk => by
    simp only [flatO]
    rw [List.getElem?_append_right (by simp [opC]; omega)]
    rw [show (i + 1) * 10 + k - (opC y e).length = i * 10 + k by simp [opC]; omega]
    exact flatO_get (by simpa using h1) (by simpa using h2) hk

/-- A slice of items (the document's), and where their bytes lie. -/

def ORow (T : TypeId) (B base : Nat) (w : World) (v : Value) (L : List OpD) : Prop :=
  ∃ ds, Pair (fun x d => Dat B w d x.data) L ds ∧ w.ownsRow base T 10 v L.length (flatO L ds)
theorem ORow.nil (T : TypeId) (B base : Nat) (w : World) : ORow T B base w (.slice none 0 0) [] := ⟨[], trivial, World.ownsRow_nil w base _ 10⟩
theorem ORow.keep {T : TypeId} {B base : Nat} {w w' : World} {v : Value} {L : List OpD} (h : ORow T B base w v L) {q : Option Nat} (hg : w.grownBy w' q) (hv : v.ownBlock = none ∨ v.ownBlock ≠ q)
    (hq : ∀ k, q = some k → B ≤ k ∧ NotU8 w k) : ORow T B base w' v L := by
  obtain ⟨ds, hp, ho⟩ := h
  refine ⟨ds, hp.mono fun x d hd => ?_, ho.kept hg hv⟩
  cases q with
  | none => exact hd.keep hg.size fun b hb _ => hg.block b hb (by simp)
  | some k => exact hd.grown hg (hq k rfl).1 (hq k rfl).2
theorem ORow.up {T : TypeId} {B base : Nat} {w w' : World} {v : Value} {L : List OpD} (h : ORow T B base w v L) (hb : Up w w') : ORow T B base w' v L :=
  h.keep (q := none) ⟨hb.os, hb.tape, hb.output, hb.size, fun k hk _ => hb.block k hk⟩ (by cases hv : v.ownBlock <;> simp) (by simp)
theorem ORow.chg {T : TypeId} {B base : Nat} {w w' : World} {v : Value} {L : List OpD} {b : Nat} (h : ORow T B base w v L) (c : Chg w w' b) (hb : B ≤ b) (hn : NotU8 w b) (hne : v.ownBlock ≠ some b) : ORow T B base w' v L :=
  h.keep c (.inr hne) (fun k e => by injection e with e; subst e; exact ⟨hb, hn⟩)
theorem ORow.form {T : TypeId} {B base : Nat} {w : World} {v : Value} {L : List OpD} (h : ORow T B base w v L) : ∃ A c, v = .slice A L.length c := by
  obtain ⟨ds, _, _, ⟨rfl, h0⟩ | ⟨g, cap, cur, rfl, _⟩⟩ := h
  · exact ⟨none, 0, by rw [h0]⟩
  · exact ⟨_, cap, rfl⟩
theorem ORow.base {T : TypeId} {B base base' : Nat} {w : World} {v : Value} {L : List OpD} (h : ORow T B base w v L) (hb : base' ≤ base) : ORow T B base' w v L := by
  obtain ⟨ds, hp, h1, h2⟩ := h
  refine ⟨ds, hp, h1, ?_⟩
  rcases h2 with hn | ⟨g, cap, cur, hv, hbg, rest⟩
  · exact .inl hn
  · exact .inr ⟨g, cap, cur, hv, Nat.le_trans hb hbg, rest⟩
theorem ORow.own {T : TypeId} {B base : Nat} {w : World} {v : Value} {L : List OpD} (h : ORow T B base w v L) : ∀ k, v.ownBlock = some k → base ≤ k ∧ k < w.heap.size := by
  obtain ⟨ds, _, ho⟩ := h; exact ho.lt
theorem ORow.ne_new {T : TypeId} {B base b : Nat} {w : World} {v : Value} {L : List OpD} (h : ORow T B base w v L) (e : b = w.heap.size) : v.ownBlock ≠ some b := fun hh => by have := (h.own _ hh).2; omega
theorem ORow.ne_old {T : TypeId} {B base b : Nat} {w : World} {v : Value} {L : List OpD} (h : ORow T B base w v L) (e : b < base) : v.ownBlock ≠ some b := fun hh => by have := (h.own _ hh).1; omega
/-- OpD number i, where it lies. -/
theorem ORow.get {T : TypeId} {B base : Nat} {w : World} {v : Value} {L : List OpD} (h : ORow T B base w v L) {i : Nat} {x : OpD} (hi : L[i]? = some x) :
    ∃ g cap cur dA dn dc, v = .slice (some ⟨g, 0, none⟩) L.length cap ∧ base ≤ g ∧ w.heap[g]? = some (.cells cur T (0, 0)) ∧ (cur.toList.drop (i * 10)).take 10 = opC x (.slice dA dn dc) ∧ Dat B w (.slice dA dn dc) x.data := by
  obtain ⟨ds, hp, ho⟩ := h
  obtain ⟨d, hd, hD⟩ := hp.ex hi
  obtain ⟨dA, dn, dc, rfl⟩ := hD.form
  have hil := (List.getElem?_eq_some_iff.1 hi).1
  rcases ho.2 with ⟨rfl, h0⟩ | ⟨g, cap, cur, rfl, hb, hg, hc, hm, hcs, htk⟩
  · omega
  · refine ⟨g, cap, cur, dA, dn, dc, rfl, hb, hg, ?_, hD⟩
    have hl := flatO_length hp.length
    apply List.ext_getElem?
    intro j
    by_cases hj : j < 10
    · rw [List.getElem?_take, if_pos hj, List.getElem?_drop, ← flatO_get hi hd hj, ← htk, List.getElem?_take, if_pos (by omega)]
    · rw [List.getElem?_eq_none (by simp; omega), List.getElem?_eq_none (by simp [opC]; omega)]
theorem ORow.chgn {T : TypeId} {B base b : Nat} {w w' : World} {v : Value} {L : List OpD} (h : ORow T B base w v L) (c : Chg w w' b) (hd : B ≤ b ∧ NotU8 w b) (hn : v.ownBlock ≠ some b) : ORow T B base w' v L :=
  h.keep c (.inr hn) (fun k e => by injection e with e; subst e; exact hd)
theorem ORow.snoc {T : TypeId} {B base : Nat} {w : World} {v : Value} {L : List OpD} (h : ORow T B base w v L) {t ty : TypeId} {i : TypeInfo} {z : Value} (ht : Try.prog.underlying t = some (.slice T)) (hi : Try.prog.info? T = some i) (hz : i.zero = some z)
    (hsize : i.size = 10) (hby : i.bytes = 104) (hzs : z.cells.size = 10) {b : Nat} {x : OpD} {d : Value} (hb : w.heap[b]? = some (.cells (opC x d).toArray T (0, 0))) (hD : Dat B w d x.data) (hT : T ≠ 5) (hB : B ≤ base) (hbase : base ≤ w.heap.size) (hlen : L.length ≤ 100000) :
    ∃ v' w', (Builtin.append_ #[t, t] ty #[v, .slice (some ⟨b, 0, none⟩) 1 1]).run Try.prog w = .ok v' w' ∧ ORow T B base w' v' (L ++ [x]) ∧ w.grownBy w' v.ownBlock ∧ v' ≠ .slice none 0 0 := by
  obtain ⟨ds, hp, ho⟩ := h
  obtain ⟨dA, dn, dc, rfl⟩ := hD.form
  obtain ⟨v', w', h1, h2, h3, h4⟩ := run_append_own (P := Try.prog) w base t ty T i z 10 104 ht hi hz hsize hby hzs (by decide) v L.length (flatO L ds) ho ⟨b, 0, none⟩ 1 1 (opC x (.slice dA dn dc)) (by simp [opC])
    (fun j u hj => by
      rw [add_at, Nat.zero_add]
      have : (opC x (.slice dA dn dc)).toArray[j]? = some u := by simpa using hj
      simp only [World.cell?, hb]; simpa using this) (by intro u hu; simp [opC] at hu; rcases hu with rfl | rfl | rfl | rfl | rfl | rfl | rfl | rfl | rfl | rfl <;> rfl) (by unfold maxLen; omega) (by omega) hbase
  refine ⟨v', w', h1, ⟨ds ++ [.slice dA dn dc], ?_, ?_⟩, h3, fun e => by have := (h4.1 e).2; omega⟩
  · have hk : ∀ k, v.ownBlock = some k → base ≤ k ∧ NotU8 w k := by
      intro k hk
      rcases ho.2 with ⟨rfl, _⟩ | ⟨g, cap, cur, rfl, hbg, hg, _⟩
      · simp [Value.ownBlock] at hk
      · simp [Value.ownBlock] at hk; subst hk; exact ⟨hbg, NotU8.of hg hT⟩
    have hdat : ∀ d xs, Dat B w d xs → Dat B w' d xs := fun d xs hd => by
      cases hv : v.ownBlock with
      | none => rw [hv] at h3; exact hd.keep h3.size fun b hb _ => h3.block b hb (by simp)
      | some k => rw [hv] at h3; exact hd.grown h3 (by have := (hk k hv).1; omega) (hk k hv).2
    exact Pair.snoc (hp.mono fun x d hd => hdat _ _ hd) (hdat _ _ hD)
  · rw [flatO_snoc x _ hp.length]
    simpa using h2
theorem snO {T : TypeId} {ops : Array Oper} {Q : Exit → Act → World → Prop} {a : Act} {w : World} {J : Act → World → Prop} {d : Option Tmp} {ty : TypeId} {pos : String} {af : Array Edge} {g : Option (Nat × Bool)}
    {B base : Nat} {v : Value} {L : List OpD} {t : TypeId} {s y : Operand} {i : TypeInfo} {z : Value} {b : Nat} {x : OpD} {e : Value}
    (hw : Region.wanted (⟨d, .call ⟨.builtin .append, #[s, y], #[t, t]⟩, ty, pos, af, g⟩ : Oper) (yielded ops a.tmps) = true) (hs : a.eval s = v) (hy : a.eval y = .slice (some ⟨b, 0, none⟩) 1 1)
    (h : ORow T B base w v L) (ht : Try.prog.underlying t = some (.slice T)) (hi : Try.prog.info? T = some i) (hz : i.zero = some z)
    (hsize : i.size = 10) (hby : i.bytes = 104) (hzs : z.cells.size = 10) (hb : w.heap[b]? = some (.cells (opC x e).toArray T (0, 0))) (hD : Dat B w e x.data) (hT : T ≠ 5) (hB : B ≤ base) (hbase : base ≤ w.heap.size) (hlen : L.length ≤ 100000)
    (k : ∀ A n c w', n = (L ++ [x]).length → ORow T B base w' (.slice A n c) (L ++ [x]) → w.grownBy w' v.ownBlock → J (a.put d (.slice A n c)) w') : St1 Try.prog ops Q ⟨d, .call ⟨.builtin .append, #[s, y], #[t, t]⟩, ty, pos, af, g⟩ J a w := by
  obtain ⟨v', w', h1, h2, h3, h4⟩ := h.snoc (ty := ty) ht hi hz hsize hby hzs hb hD hT hB hbase hlen
  obtain ⟨A, c, rfl⟩ := h2.form
  refine sv hw ?_ (k A _ c w' rfl h2 h3)
  simp [execOp, resolve, invoke, builtin, hs, hy, h1]
theorem info_op : ∃ i z, Try.prog.info? 40 = some i ∧ i.zero = some z ∧ i.size = 10 ∧ i.bytes = 104 ∧ z.cells.size = 10 := by
  have h : (Try.prog.info? 40).map (fun i => (i.zero.map (·.cells.size), i.size, i.bytes)) = some (some 10, 10, 104) := by kernel_rfl
  cases hi : Try.prog.info? 40 with
  | none => rw [hi] at h; cases h
  | some i =>
    rw [hi] at h; simp at h
    obtain ⟨⟨z, hz, h1⟩, h2, h3⟩ := h
    exact ⟨i, z, rfl, hz, h2, h3, h1⟩
theorem flatO_set : ∀ {L : List OpD} {ds : List Value} {i : Nat} (x : OpD) (d : Value), L.length = ds.length → i < L.length → flatO (L.set i x) (ds.set i d) = (flatO L ds).take (i * 10) ++ opC x d ++ (flatO L ds).drop (i * 10 + 10)
  | [], _, _, _, _, _, h => by simp at h
  | _ :: _, [], _, _, _, h, _ => by simp at h
  | y :: L, e :: ds, 0, x, d, _, _ => by simp [flatO, opC]
  | y :: L, e :: ds, i + 1, x, d, hl, hi => by
    have ih := flatO_set (L := L) (ds := ds) (i := i) x d (by simpa using hl) (by simpa using hi)
    simp only [List.set_cons_succ, flatO, ih]
    rw [show (i + 1) * 10 = (opC y e).length + i * 10 by simp [opC]; omega, List.take_length_add_append, show (opC y e).length + i * 10 + 10 = (opC y e).length + (i * 10 + 10) by omega, List.drop_length_add_append]
    simp [List.append_assoc]
theorem take_splice {l v : List Value} {k m : Nat} (h : k + v.length ≤ m) (hm : m ≤ l.length) : (l.take k ++ v ++ l.drop (k + v.length)).take m = (l.take m).take k ++ v ++ (l.take m).drop (k + v.length) := by
  rw [List.take_take, Nat.min_eq_left (by omega), List.drop_take, List.take_append, List.take_of_length_le (by simp; omega)]
  congr 2
  simp; omega
/-- An element is stored. -/
theorem ORow.put {T : TypeId} {B base : Nat} {w : World} {g n c : Nat} {L : List OpD} (h : ORow T B base w (.slice (some ⟨g, 0, none⟩) n c) L) {i : Nat} (hi : i < L.length) {x : OpD} {d : Value} (hD : Dat B w d x.data) (hT : T ≠ 5) (hB : B ≤ base) :
    ∃ cur : Array Value, w.heap[g]? = some (.cells cur T (0, 0)) ∧ i * 10 + 10 ≤ cur.toList.length ∧ ∀ w', w'.heap[g]? = some (.cells (cur.toList.take (i * 10) ++ opC x d ++ cur.toList.drop (i * 10 + 10)).toArray T (0, 0)) → Chg w w' g → ORow T B base w' (.slice (some ⟨g, 0, none⟩) n c) (L.set i x) := by
  obtain ⟨ds, hp, h1, h2⟩ := h
  rcases h2 with ⟨h', _⟩ | ⟨g', cap', cur, h', hb, hg, hnc, hcm, hcs, htake⟩
  · simp at h'
  · simp only [Value.slice.injEq, Option.some.injEq, Addr.mk.injEq, and_true, true_and] at h'
    obtain ⟨rfl, rfl, rfl⟩ := h'
    have hl10 : L.length * 10 ≤ cur.toList.length := by have := Nat.mul_le_mul_right 10 hnc; rw [← Array.length_toList] at hcs; omega
    refine ⟨cur, hg, by omega, fun w' hw' hc => ⟨ds.set i d, ?_, ?_, .inr ⟨g, c, _, by rw [List.length_set], hb, hw', by simpa using hnc, hcm, ?_, ?_⟩⟩⟩
    · have hk : B ≤ g ∧ NotU8 w g := ⟨by omega, NotU8.of hg hT⟩
      exact Pair.set (hp.mono fun x d hd => hd.chg hc hk) (hD.chg hc hk)
    · have hlen := flatO_length (L := L.set i x) (ds := ds.set i d) (by simpa using hp.length)
      simpa using hlen
    · rw [← hcs]; simp [opC]; rw [Array.length_toList] at hl10; omega
    · rw [flatO_set x d hp.length hi, List.length_set]
      have hs := take_splice (l := cur.toList) (v := opC x d) (k := i * 10) (m := L.length * 10) (by simp [opC]; omega) hl10
      rw [show (opC x d).length = 10 from rfl] at hs
      rw [htake] at hs
      simpa using hs
end Go.Proofs.Ytefhfoioeoijlaa

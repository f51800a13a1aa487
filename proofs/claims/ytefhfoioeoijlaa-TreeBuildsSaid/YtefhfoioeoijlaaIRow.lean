/- Slices of items, of either kind: read, appended to. -/
import Derived.Test.YtefhfoioeoijlaaStepP
import Derived.Test.YtefhfoioeoijlaaRefA
set_option linter.unusedVariables false
set_option linter.unusedSimpArgs false
namespace Go.Proofs.Ytefhfoioeoijlaa
open Go Go.RowKit Go.Sort

def IRow (T : TypeId) (B base : Nat) (w : World) (v : Value) (L : List Item) : Prop :=
  ∃ ds, Pair (fun x d => Dat B w d x.data) L ds ∧ w.ownsRow base T 10 v L.length (flatI L ds)
theorem rowI_is (B base : Nat) (w : World) (v : Value) (L : List Item) : RowI B base w v L = IRow 41 B base w v L := rfl
theorem IRow.nil (T : TypeId) (B base : Nat) (w : World) : IRow T B base w (.slice none 0 0) [] := ⟨[], trivial, World.ownsRow_nil w base _ 10⟩
theorem IRow.keep {T : TypeId} {B base : Nat} {w w' : World} {v : Value} {L : List Item} (h : IRow T B base w v L) {q : Option Nat} (hg : w.grownBy w' q) (hv : v.ownBlock = none ∨ v.ownBlock ≠ q)
    (hq : ∀ k, q = some k → B ≤ k ∧ NotU8 w k) : IRow T B base w' v L := by
  obtain ⟨ds, hp, ho⟩ := h
  refine ⟨ds, hp.mono fun x d hd => ?_, ho.kept hg hv⟩
  cases q with
  | none => exact hd.keep hg.size fun b hb _ => hg.block b hb (by simp)
  | some k => exact hd.grown hg (hq k rfl).1 (hq k rfl).2
theorem IRow.up {T : TypeId} {B base : Nat} {w w' : World} {v : Value} {L : List Item} (h : IRow T B base w v L) (hb : Up w w') : IRow T B base w' v L :=
  h.keep (q := none) ⟨hb.os, hb.tape, hb.output, hb.size, fun k hk _ => hb.block k hk⟩ (by cases hv : v.ownBlock <;> simp) (by simp)
theorem IRow.chg {T : TypeId} {B base : Nat} {w w' : World} {v : Value} {L : List Item} {b : Nat} (h : IRow T B base w v L) (c : Chg w w' b) (hb : B ≤ b) (hn : NotU8 w b) (hne : v.ownBlock ≠ some b) : IRow T B base w' v L :=
  h.keep c (.inr hne) (fun k e => by injection e with e; subst e; exact ⟨hb, hn⟩)
theorem IRow.form {T : TypeId} {B base : Nat} {w : World} {v : Value} {L : List Item} (h : IRow T B base w v L) : ∃ A c, v = .slice A L.length c := by
  obtain ⟨ds, _, _, ⟨rfl, h0⟩ | ⟨g, cap, cur, rfl, _⟩⟩ := h
  · exact ⟨none, 0, by rw [h0]⟩
  · exact ⟨_, cap, rfl⟩
theorem IRow.base {T : TypeId} {B base base' : Nat} {w : World} {v : Value} {L : List Item} (h : IRow T B base w v L) (hb : base' ≤ base) : IRow T B base' w v L := by
  obtain ⟨ds, hp, h1, h2⟩ := h
  refine ⟨ds, hp, h1, ?_⟩
  rcases h2 with hn | ⟨g, cap, cur, hv, hbg, rest⟩
  · exact .inl hn
  · exact .inr ⟨g, cap, cur, hv, Nat.le_trans hb hbg, rest⟩
theorem IRow.own {T : TypeId} {B base : Nat} {w : World} {v : Value} {L : List Item} (h : IRow T B base w v L) : ∀ k, v.ownBlock = some k → base ≤ k ∧ k < w.heap.size := by
  obtain ⟨ds, _, ho⟩ := h; exact ho.lt
theorem IRow.ne_new {T : TypeId} {B base b : Nat} {w : World} {v : Value} {L : List Item} (h : IRow T B base w v L) (e : b = w.heap.size) : v.ownBlock ≠ some b := fun hh => by have := (h.own _ hh).2; omega
theorem IRow.ne_old {T : TypeId} {B base b : Nat} {w : World} {v : Value} {L : List Item} (h : IRow T B base w v L) (e : b < base) : v.ownBlock ≠ some b := fun hh => by have := (h.own _ hh).1; omega
/-- Item number i, where it lies. -/
theorem IRow.get {T : TypeId} {B base : Nat} {w : World} {v : Value} {L : List Item} (h : IRow T B base w v L) {i : Nat} {x : Item} (hi : L[i]? = some x) :
    ∃ g cap cur dA dn dc, v = .slice (some ⟨g, 0, none⟩) L.length cap ∧ base ≤ g ∧ w.heap[g]? = some (.cells cur T (0, 0)) ∧ (cur.toList.drop (i * 10)).take 10 = itC x (.slice dA dn dc) ∧ Dat B w (.slice dA dn dc) x.data := by
  obtain ⟨ds, hp, ho⟩ := h
  obtain ⟨d, hd, hD⟩ := hp.ex hi
  obtain ⟨dA, dn, dc, rfl⟩ := hD.form
  have hil := (List.getElem?_eq_some_iff.1 hi).1
  rcases ho.2 with ⟨rfl, h0⟩ | ⟨g, cap, cur, rfl, hb, hg, hc, hm, hcs, htk⟩
  · omega
  · refine ⟨g, cap, cur, dA, dn, dc, rfl, hb, hg, ?_, hD⟩
    have hl := flatI_length hp.length
    apply List.ext_getElem?
    intro j
    by_cases hj : j < 10
    · rw [List.getElem?_take, if_pos hj, List.getElem?_drop, ← flatI_get hi hd hj, ← htk, List.getElem?_take, if_pos (by omega)]
    · rw [List.getElem?_eq_none (by simp; omega), List.getElem?_eq_none (by simp [itC]; omega)]
/-- Part of an element. -/
theorem el_get {l vs : List Value} {k m : Nat} (h : (l.drop k).take m = vs) (j : Nat) {u : Value} (hu : vs[j]? = some u) : l[k + j]? = some u := by
  rw [← h, List.getElem?_take] at hu
  split at hu
  · rw [List.getElem?_drop] at hu; exact hu
  · cases hu
theorem el_sub0 {l vs us : List Value} {k m : Nat} (h : (l.drop k).take m = vs) (hu : (vs.drop 0).take us.length = us) : (l.drop k).take us.length = us := by
  rw [← h, List.drop_zero, List.take_take] at hu
  have hm : us.length ≤ m := by
    have := congrArg List.length hu
    simp only [List.length_take, List.length_drop] at this
    omega
  rwa [Nat.min_eq_left hm] at hu
theorem el_sub {l vs us : List Value} {k m : Nat} (h : (l.drop k).take m = vs) (j : Nat) (hu : (vs.drop j).take us.length = us) : (l.drop (k + j)).take us.length = us := by
  rw [← h, List.drop_take, List.drop_drop, List.take_take] at hu
  have hm : us.length ≤ m - j := by
    have := congrArg List.length hu
    simp only [List.length_take, List.length_drop] at this
    omega
  rwa [Nat.min_eq_left hm] at hu
theorem r_ixaddr' {P : Program} {d : Option Tmp} {ty : TypeId} {pos : String} {af : Array Edge} {gd : Option (Nat × Bool)} {ρ : Operand → Value} {w : World} {t e : TypeId} {x i : Operand} {A : Option Addr} {b o n c m sz : Nat} {j : Int} (hx : ρ x = .slice A n c) (hA : A = some ⟨b, o, none⟩) (hi : ρ i = .int .i64 j) (hu : P.underlying t = some (.slice e)) (hsz : ∀ w, (sizeOf e).run P w = .ok sz w)
    (h0 : 0 ≤ j) (h1 : j < n) (hm : o + j.toNat * sz = m) : (execOp ρ ⟨d, .indexAddr t x i, ty, pos, af, gd⟩).run P w = .ok (.value (.pointer (some ⟨b, m, none⟩))) w := by
  subst hA; exact r_ixaddr hx hi hu hsz h0 h1 hm

theorem Dat.get {B : Nat} {w : World} {A : Option Addr} {n c : Nat} {xs : List Int} (h : Dat B w (.slice A n c) xs) {i : Nat} (hi : i < n) :
    ∃ b o, A = some ⟨b, o, none⟩ ∧ b < w.heap.size ∧ w.cell? ⟨b, o + i, none⟩ = some (.int .u8 (xs.getD i 0)) := by
  obtain ⟨A', n', c', e, h1, h2, h3, h4, h5⟩ := h
  injection e with e1 e2 e3
  subst e1; subst e2; subst e3
  obtain ⟨b, o, hA, hb, _, hc⟩ := h5 (by omega)
  exact ⟨b, o, hA, hb, hc i hi⟩
theorem Dat.len {B : Nat} {w : World} {A : Option Addr} {n c : Nat} {xs : List Int} (h : Dat B w (.slice A n c) xs) : xs.length = n ∧ n ≤ 140737488351232 := by
  obtain ⟨A', n', c', e, h1, h2, h3, h4, h5⟩ := h
  injection e with e1 e2 e3
  subst e2; exact ⟨h1, h3⟩
theorem Dat.chg {B : Nat} {w w' : World} {d : Value} {xs : List Int} {b : Nat} (h : Dat B w d xs) (c : Chg w w' b) (hc : B ≤ b ∧ NotU8 w b) : Dat B w' d xs := h.grown c hc.1 hc.2
theorem item_dec (x y : Item) (h1 : (⟨x.node.t, x.node.w⟩ : Stamp) = ⟨y.node.t, y.node.w⟩) (h2 : (⟨x.parent.t, x.parent.w⟩ : Stamp) = ⟨y.parent.t, y.parent.w⟩) (h3 : x.name = y.name) (h4 : x.dir = y.dir) (h5 : x.gone = y.gone)
    (h6 : (⟨x.by_.t, x.by_.w⟩ : Stamp) = ⟨y.by_.t, y.by_.w⟩) : decide (x.data = y.data) = decide (x = y) := by
  obtain ⟨⟨a, b⟩, ⟨c, d⟩, e, f, g, h, ⟨i, j⟩⟩ := x
  obtain ⟨⟨a', b'⟩, ⟨c', d'⟩, e', f', g', h', ⟨i', j'⟩⟩ := y
  simp only at h1 h2 h3 h4 h5 h6 ⊢
  injection h1 with p1 p2; injection h2 with p3 p4; injection h6 with p5 p6
  subst p1 p2 p3 p4 p5 p6 h3 h4 h5
  simp
theorem IRow.snoc {T : TypeId} {B base : Nat} {w : World} {v : Value} {L : List Item} (h : IRow T B base w v L) {t ty : TypeId} {i : TypeInfo} {z : Value} (ht : Try.prog.underlying t = some (.slice T)) (hi : Try.prog.info? T = some i) (hz : i.zero = some z)
    (hsize : i.size = 10) (hby : i.bytes = 96) (hzs : z.cells.size = 10) {b : Nat} {x : Item} {d : Value} (hb : w.heap[b]? = some (.cells (itC x d).toArray T (0, 0))) (hD : Dat B w d x.data) (hT : T ≠ 5) (hB : B ≤ base) (hbase : base ≤ w.heap.size) (hlen : L.length ≤ 100000) :
    ∃ v' w', (Builtin.append_ #[t, t] ty #[v, .slice (some ⟨b, 0, none⟩) 1 1]).run Try.prog w = .ok v' w' ∧ IRow T B base w' v' (L ++ [x]) ∧ w.grownBy w' v.ownBlock ∧ v' ≠ .slice none 0 0 := by
  obtain ⟨ds, hp, ho⟩ := h
  obtain ⟨dA, dn, dc, rfl⟩ := hD.form
  obtain ⟨v', w', h1, h2, h3, h4⟩ := run_append_own (P := Try.prog) w base t ty T i z 10 96 ht hi hz hsize hby hzs (by decide) v L.length (flatI L ds) ho ⟨b, 0, none⟩ 1 1 (itC x (.slice dA dn dc)) (by simp [itC])
    (fun j u hj => by
      rw [add_at, Nat.zero_add]
      have : (itC x (.slice dA dn dc)).toArray[j]? = some u := by simpa using hj
      simp only [World.cell?, hb]; simpa using this) (by intro u hu; simp [itC] at hu; rcases hu with rfl | rfl | rfl | rfl | rfl | rfl | rfl | rfl | rfl | rfl <;> rfl) (by unfold maxLen; omega) (by omega) hbase
  refine ⟨v', w', h1, ⟨ds ++ [.slice dA dn dc], ?_, ?_⟩, h3, fun e => by have := (h4.1 e).2; omega⟩
  · have hk : ∀ k, v.ownBlock = some k → base ≤ k ∧ NotU8 w k := by
      intro k hk
      rcases ho.2 with ⟨rfl, _⟩ | ⟨g, cap, cur, rfl, hbg, hg, _⟩
      · simp [Value.ownBlock] at hk
      · simp [Value.ownBlock] at hk; subst hk; exact ⟨hbg, NotU8.of hg hT⟩
    have hdat : ∀ d xs, Dat B w d xs → Dat B w' d xs := fun d xs hd => by
      cases hv : v.ownBlock with
      | none => rw [hv] at h3; exact hd.keep h3.size fun b hb _ => h3.block b hb (by simp)
      | some k => rw [hv] at h3; exact hd.grown h3 (by have := (hk k hv).1; omega) (hk k hv).2
    exact Pair.snoc (hp.mono fun x d hd => hdat _ _ hd) (hdat _ _ hD)
  · rw [flatI_snoc x _ hp.length]
    simpa using h2
theorem snI {T : TypeId} {ops : Array Oper} {Q : Exit → Act → World → Prop} {a : Act} {w : World} {J : Act → World → Prop} {d : Option Tmp} {ty : TypeId} {pos : String} {af : Array Edge} {g : Option (Nat × Bool)}
    {B base : Nat} {v : Value} {L : List Item} {t : TypeId} {s y : Operand} {i : TypeInfo} {z : Value} {b : Nat} {x : Item} {e : Value}
    (hw : Region.wanted (⟨d, .call ⟨.builtin .append, #[s, y], #[t, t]⟩, ty, pos, af, g⟩ : Oper) (yielded ops a.tmps) = true) (hs : a.eval s = v) (hy : a.eval y = .slice (some ⟨b, 0, none⟩) 1 1)
    (h : IRow T B base w v L) (ht : Try.prog.underlying t = some (.slice T)) (hi : Try.prog.info? T = some i) (hz : i.zero = some z)
    (hsize : i.size = 10) (hby : i.bytes = 96) (hzs : z.cells.size = 10) (hb : w.heap[b]? = some (.cells (itC x e).toArray T (0, 0))) (hD : Dat B w e x.data) (hT : T ≠ 5) (hB : B ≤ base) (hbase : base ≤ w.heap.size) (hlen : L.length ≤ 100000)
    (k : ∀ A n c w', n = (L ++ [x]).length → IRow T B base w' (.slice A n c) (L ++ [x]) → w.grownBy w' v.ownBlock → J (a.put d (.slice A n c)) w') : St1 Try.prog ops Q ⟨d, .call ⟨.builtin .append, #[s, y], #[t, t]⟩, ty, pos, af, g⟩ J a w := by
  obtain ⟨v', w', h1, h2, h3, h4⟩ := h.snoc (ty := ty) ht hi hz hsize hby hzs hb hD hT hB hbase hlen
  obtain ⟨A, c, rfl⟩ := h2.form
  refine sv hw ?_ (k A _ c w' rfl h2 h3)
  simp [execOp, resolve, invoke, builtin, hs, hy, h1]
theorem info_item : ∃ i z, Try.prog.info? 35 = some i ∧ i.zero = some z ∧ i.size = 10 ∧ i.bytes = 96 ∧ z.cells.size = 10 := by
  have h : (Try.prog.info? 35).map (fun i => (i.zero.map (·.cells.size), i.size, i.bytes)) = some (some 10, 10, 96) := by kernel_rfl
  cases hi : Try.prog.info? 35 with
  | none => rw [hi] at h; cases h
  | some i =>
    rw [hi] at h; simp at h
    obtain ⟨⟨z, hz, h1⟩, h2, h3⟩ := h
    exact ⟨i, z, rfl, hz, h2, h3, h1⟩
theorem info_ritem : ∃ i z, Try.prog.info? 41 = some i ∧ i.zero = some z ∧ i.size = 10 ∧ i.bytes = 96 ∧ z.cells.size = 10 := by
  have h : (Try.prog.info? 41).map (fun i => (i.zero.map (·.cells.size), i.size, i.bytes)) = some (some 10, 10, 96) := by kernel_rfl
  cases hi : Try.prog.info? 41 with
  | none => rw [hi] at h; cases h
  | some i =>
    rw [hi] at h; simp at h
    obtain ⟨⟨z, hz, h1⟩, h2, h3⟩ := h
    exact ⟨i, z, rfl, hz, h2, h3, h1⟩
theorem tk {L : List Item} {k : Nat} {x : Item} (h : L[k]? = some x) : L.take (k + 1) = L.take k ++ [x] := by rw [List.take_add_one, h]; rfl
/-- An append to a row of one's own, from the loop's (or the call's) beginning on. -/
theorem own_mod {X : List Nat} {w0 w w' : World} {v : Value} (hm : Mod X w0 w) (hg : w.grownBy w' v.ownBlock) (ho : ∀ k, v.ownBlock = some k → w0.heap.size ≤ k) : Mod X w0 w' :=
  hm.trans' hg ho
end Go.Proofs.Ytefhfoioeoijlaa

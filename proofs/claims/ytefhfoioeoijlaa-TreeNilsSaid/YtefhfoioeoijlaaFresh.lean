/- Rows of items whose data are one's own: nobody else's bytes lie there. -/
import Derived.Test.YtefhfoioeoijlaaSomeP
set_option linter.unusedVariables false
set_option linter.unusedSimpArgs false
namespace Go.Proofs.Ytefhfoioeoijlaa
open Go Go.RowKit Go.Sort Go.Shelf

/-- A slice of bytes in a block of bytes that is no older than B: what they are is not said, but how many. -/
def WDat (B : Nat) (w : World) (d : Value) (xs : List Int) : Prop :=
  ∃ A n c, d = .slice A n c ∧ xs.length = n ∧ (0 < n → ∃ b, ∃ cs : Array Value, A = some ⟨b, 0, none⟩ ∧ B ≤ b ∧ w.heap[b]? = some (.cells cs 5 (0, 0)) ∧ n ≤ cs.size ∧ ∀ i, i < n → ∃ z, cs[i]? = some (.int .u8 z))
theorem WDat.form {B : Nat} {w : World} {d : Value} {xs : List Int} (h : WDat B w d xs) : ∃ A n c, d = .slice A n c := by obtain ⟨A, n, c, h, _⟩ := h; exact ⟨A, n, c, h⟩
theorem WDat.len {B : Nat} {w : World} {A : Option Addr} {n c : Nat} {xs : List Int} (h : WDat B w (.slice A n c) xs) : xs.length = n := by
  obtain ⟨A', n', c', e, h1, _⟩ := h
  injection e with _ e2 _; subst e2; exact h1
theorem WDat.keep {B : Nat} {w w' : World} {d : Value} {xs : List Int} (h : WDat B w d xs) (hz : w.heap.size ≤ w'.heap.size)
    (hk : ∀ b, b < w.heap.size → (∃ cs fr, w.heap[b]? = some (.cells cs 5 fr)) → w'.heap[b]? = w.heap[b]?) : WDat B w' d xs := by
  obtain ⟨A, n, c, rfl, h1, h5⟩ := h
  refine ⟨A, n, c, rfl, h1, fun hn => ?_⟩
  obtain ⟨b, cs, e, hB, hb, hc, hz⟩ := h5 hn
  exact ⟨b, cs, e, hB, (hk b (lt_ob hb) ⟨cs, _, hb⟩).trans hb, hc, hz⟩
theorem WDat.up {B : Nat} {w w' : World} {d : Value} {xs : List Int} (h : WDat B w d xs) (u : Up w w') : WDat B w' d xs := h.keep u.size fun b hb _ => u.block b hb
theorem WDat.grown {B : Nat} {w w' : World} {d : Value} {xs : List Int} {r : Nat} {p : Prop} (h : WDat B w d xs) (hg : w.grownBy w' (some r)) (hr : p) (hn : NotU8 w r) : WDat B w' d xs :=
  h.keep hg.size fun b h1 h2 => hg.block b h1 (by
    intro e
    injection e with e
    subst e
    obtain ⟨cs, fr, h2⟩ := h2
    exact hn _ _ h2)
theorem WDat.chg {B : Nat} {w w' : World} {d : Value} {xs : List Int} {b : Nat} {p : Prop} (h : WDat B w d xs) (c : Chg w w' b) (hc : p ∧ NotU8 w b) : WDat B w' d xs := h.grown c hc.1 hc.2
theorem WDat.nil (B : Nat) (w : World) : WDat B w (.slice none 0 0) [] := ⟨none, 0, 0, rfl, rfl, fun h => by omega⟩
theorem WDat.of_own {base : Nat} {w : World} {v : Value} {xs : List Int} (h : w.ownsRow base 5 1 v xs.length (xs.map (Value.int .u8))) : WDat base w v xs := by
  rcases h.2 with ⟨rfl, h0⟩ | ⟨g, cap, cur, rfl, hb, hg, hc, hm, hcs, htk⟩
  · have : xs = [] := List.eq_nil_of_length_eq_zero h0
    subst this
    exact WDat.nil _ w
  · refine ⟨some ⟨g, 0, none⟩, xs.length, cap, rfl, rfl, fun h0 => ⟨g, cur, rfl, hb, hg, by omega, fun i hi => ⟨xs.getD i 0, ?_⟩⟩⟩
    have h2 : (xs.map (Value.int .u8))[i]? = some (.int .u8 (xs.getD i 0)) := by
      rw [List.getElem?_map, List.getElem?_eq_getElem hi]
      simp [List.getD_eq_getElem?_getD, List.getElem?_eq_getElem hi]
    rw [← htk, List.getElem?_take, if_pos (by omega)] at h2
    simpa using h2
theorem WDat.base {B B' : Nat} {w : World} {d : Value} {xs : List Int} (h : WDat B w d xs) (hb : B' ≤ B) : WDat B' w d xs := by
  obtain ⟨A, n, c, rfl, h1, h5⟩ := h
  refine ⟨A, n, c, rfl, h1, fun hn => ?_⟩
  obtain ⟨b, cs, e, hB, rest⟩ := h5 hn
  exact ⟨b, cs, e, Nat.le_trans hb hB, rest⟩
theorem clone_w {B base : Nat} {w : World} {d : Value} {xs : List Int} (h : Dat B w d xs) (hb : base ≤ w.heap.size) :
    Calls Try.prog 66 #[d] w fun e w' => ∃ A n c, e = .returned (.slice A n c) ∧ WDat base w' (.slice A n c) xs ∧ Up w w' := by
  obtain ⟨A, n, c, rfl, h1, h2, h3, h4, h5⟩ := h
  cases A with
  | none =>
    have h0 : n = 0 := by
      rcases Nat.eq_zero_or_pos n with h0 | h0
      · exact h0
      · obtain ⟨b, o, e, _⟩ := h5 h0; cases e
    subst h0
    obtain rfl : xs = [] := List.eq_nil_of_length_eq_zero h1
    refine (Try.bytes_Clone_nil 0 c w).mono ?_
    rintro e w' ⟨rfl, rfl⟩
    exact ⟨_, _, _, rfl, WDat.nil _ _, Below.refl _ _⟩
  | some a =>
    refine (Try.bytes_Clone_at a n c xs w h1 (by omega) (fun i hi => ?_)).mono ?_
    · obtain ⟨b, o, e, _, _, hc⟩ := h5 (by omega)
      injection e with e
      subst e
      rw [show (⟨b, o, none⟩ : Addr).add i = ⟨b, o + i, none⟩ by unfold Addr.add; split <;> simp_all]
      exact hc i hi
    · rintro e w' ⟨v', rfl, hown, _, hb'⟩
      subst h1
      have hW := (WDat.of_own hown).base hb
      obtain ⟨A, n, c, rfl⟩ := hW.form
      exact ⟨A, n, c, rfl, hW, hb'⟩
def FRow (T : TypeId) (B base : Nat) (w : World) (v : Value) (L : List Item) : Prop :=
  ∃ ds, Pair (fun x d => WDat B w d x.data) L ds ∧ w.ownsRow base T 10 v L.length (flatI L ds)
theorem FRow.nil (T : TypeId) (B base : Nat) (w : World) : FRow T B base w (.slice none 0 0) [] := ⟨[], trivial, World.ownsRow_nil w base _ 10⟩
theorem FRow.keep {T : TypeId} {B base : Nat} {w w' : World} {v : Value} {L : List Item} (h : FRow T B base w v L) {q : Option Nat} (hg : w.grownBy w' q) (hv : v.ownBlock = none ∨ v.ownBlock ≠ q)
    (hq : ∀ k, q = some k → B ≤ k ∧ NotU8 w k) : FRow T B base w' v L := by
  obtain ⟨ds, hp, ho⟩ := h
  refine ⟨ds, hp.mono fun x d hd => ?_, ho.kept hg hv⟩
  cases q with
  | none => exact hd.keep hg.size fun b hb _ => hg.block b hb (by simp)
  | some k => exact hd.grown hg (hq k rfl).1 (hq k rfl).2
theorem FRow.up {T : TypeId} {B base : Nat} {w w' : World} {v : Value} {L : List Item} (h : FRow T B base w v L) (hb : Up w w') : FRow T B base w' v L :=
  h.keep (q := none) ⟨hb.os, hb.tape, hb.output, hb.size, fun k hk _ => hb.block k hk⟩ (by cases hv : v.ownBlock <;> simp) (by simp)
theorem FRow.chg {T : TypeId} {B base : Nat} {w w' : World} {v : Value} {L : List Item} {b : Nat} (h : FRow T B base w v L) (c : Chg w w' b) (hb : B ≤ b) (hn : NotU8 w b) (hne : v.ownBlock ≠ some b) : FRow T B base w' v L :=
  h.keep c (.inr hne) (fun k e => by injection e with e; subst e; exact ⟨hb, hn⟩)
theorem FRow.form {T : TypeId} {B base : Nat} {w : World} {v : Value} {L : List Item} (h : FRow T B base w v L) : ∃ A c, v = .slice A L.length c := by
  obtain ⟨ds, _, _, ⟨rfl, h0⟩ | ⟨g, cap, cur, rfl, _⟩⟩ := h
  · exact ⟨none, 0, by rw [h0]⟩
  · exact ⟨_, cap, rfl⟩
theorem FRow.base {T : TypeId} {B base base' : Nat} {w : World} {v : Value} {L : List Item} (h : FRow T B base w v L) (hb : base' ≤ base) : FRow T B base' w v L := by
  obtain ⟨ds, hp, h1, h2⟩ := h
  refine ⟨ds, hp, h1, ?_⟩
  rcases h2 with hn | ⟨g, cap, cur, hv, hbg, rest⟩
  · exact .inl hn
  · exact .inr ⟨g, cap, cur, hv, Nat.le_trans hb hbg, rest⟩
theorem FRow.own {T : TypeId} {B base : Nat} {w : World} {v : Value} {L : List Item} (h : FRow T B base w v L) : ∀ k, v.ownBlock = some k → base ≤ k ∧ k < w.heap.size := by
  obtain ⟨ds, _, ho⟩ := h; exact ho.lt
theorem FRow.ne_new {T : TypeId} {B base b : Nat} {w : World} {v : Value} {L : List Item} (h : FRow T B base w v L) (e : b = w.heap.size) : v.ownBlock ≠ some b := fun hh => by have := (h.own _ hh).2; omega
theorem FRow.ne_old {T : TypeId} {B base b : Nat} {w : World} {v : Value} {L : List Item} (h : FRow T B base w v L) (e : b < base) : v.ownBlock ≠ some b := fun hh => by have := (h.own _ hh).1; omega
/-- Item number i, where it lies. -/
theorem FRow.get {T : TypeId} {B base : Nat} {w : World} {v : Value} {L : List Item} (h : FRow T B base w v L) {i : Nat} {x : Item} (hi : L[i]? = some x) :
    ∃ g cap cur dA dn dc, v = .slice (some ⟨g, 0, none⟩) L.length cap ∧ base ≤ g ∧ w.heap[g]? = some (.cells cur T (0, 0)) ∧ (cur.toList.drop (i * 10)).take 10 = itC x (.slice dA dn dc) ∧ WDat B w (.slice dA dn dc) x.data := by
  obtain ⟨ds, hp, ho⟩ := h
  obtain ⟨d, hd, hD⟩ := hp.ex hi
  obtain ⟨dA, dn, dc, rfl⟩ := hD.form
  have hil := (List.getElem?_eq_some_iff.1 hi).1
  rcases ho.2 with ⟨rfl, h0⟩ | ⟨g, cap, cur, rfl, hb, hg, hc, hm, hcs, htk⟩
  · omega
  · refine ⟨g, cap, cur, dA, dn, dc, rfl, hb, hg, ?_, hD⟩
    have hl := flatI_length hp.length
    apply List.ext_getElem?
    intro j
    by_cases hj : j < 10
    · rw [List.getElem?_take, if_pos hj, List.getElem?_drop, ← flatI_get hi hd hj, ← htk, List.getElem?_take, if_pos (by omega)]
    · rw [List.getElem?_eq_none (by simp; omega), List.getElem?_eq_none (by simp [itC]; omega)]
theorem FRow.snoc {T : TypeId} {B base : Nat} {w : World} {v : Value} {L : List Item} (h : FRow T B base w v L) {t ty : TypeId} {i : TypeInfo} {z : Value} (ht : Try.prog.underlying t = some (.slice T)) (hi : Try.prog.info? T = some i) (hz : i.zero = some z)
    (hsize : i.size = 10) (hby : i.bytes = 96) (hzs : z.cells.size = 10) {b : Nat} {x : Item} {d : Value} (hb : w.heap[b]? = some (.cells (itC x d).toArray T (0, 0))) (hD : WDat B w d x.data) (hT : T ≠ 5) (hB : B ≤ base) (hbase : base ≤ w.heap.size) (hlen : L.length ≤ 100000) :
    ∃ v' w', (Builtin.append_ #[t, t] ty #[v, .slice (some ⟨b, 0, none⟩) 1 1]).run Try.prog w = .ok v' w' ∧ FRow T B base w' v' (L ++ [x]) ∧ w.grownBy w' v.ownBlock ∧ v' ≠ .slice none 0 0 := by
  obtain ⟨ds, hp, ho⟩ := h
  obtain ⟨dA, dn, dc, rfl⟩ := hD.form
  obtain ⟨v', w', h1, h2, h3, h4⟩ := run_append_own (P := Try.prog) w base t ty T i z 10 96 ht hi hz hsize hby hzs (by decide) v L.length (flatI L ds) ho ⟨b, 0, none⟩ 1 1 (itC x (.slice dA dn dc)) (by simp [itC])
    (fun j u hj => by
      rw [add_at, Nat.zero_add]
      have : (itC x (.slice dA dn dc)).toArray[j]? = some u := by simpa using hj
      simp only [World.cell?, hb]; simpa using this) (by intro u hu; simp [itC] at hu; rcases hu with rfl | rfl | rfl | rfl | rfl | rfl | rfl | rfl | rfl | rfl <;> rfl) (by unfold maxLen; omega) (by omega) hbase
  refine ⟨v', w', h1, ⟨ds ++ [.slice dA dn dc], ?_, ?_⟩, h3, fun e => by have := (h4.1 e).2; omega⟩
  · have hk : ∀ k, v.ownBlock = some k → base ≤ k ∧ NotU8 w k := by
      intro k hk
      rcases ho.2 with ⟨rfl, _⟩ | ⟨g, cap, cur, rfl, hbg, hg, _⟩
      · simp [Value.ownBlock] at hk
      · simp [Value.ownBlock] at hk; subst hk; exact ⟨hbg, NotU8.of hg hT⟩
    have hdat : ∀ d xs, WDat B w d xs → WDat B w' d xs := fun d xs hd => by
      cases hv : v.ownBlock with
      | none => rw [hv] at h3; exact hd.keep h3.size fun b hb _ => h3.block b hb (by simp)
      | some k => rw [hv] at h3; exact hd.grown h3 (by have := (hk k hv).1; omega) (hk k hv).2
    exact Pair.snoc (hp.mono fun x d hd => hdat _ _ hd) (hdat _ _ hD)
  · rw [flatI_snoc x _ hp.length]
    simpa using h2
theorem snF {T : TypeId} {ops : Array Oper} {Q : Exit → Act → World → Prop} {a : Act} {w : World} {J : Act → World → Prop} {d : Option Tmp} {ty : TypeId} {pos : String} {af : Array Edge} {g : Option (Nat × Bool)}
    {B base : Nat} {v : Value} {L : List Item} {t : TypeId} {s y : Operand} {i : TypeInfo} {z : Value} {b : Nat} {x : Item} {e : Value}
    (hw : Region.wanted (⟨d, .call ⟨.builtin .append, #[s, y], #[t, t]⟩, ty, pos, af, g⟩ : Oper) (yielded ops a.tmps) = true) (hs : a.eval s = v) (hy : a.eval y = .slice (some ⟨b, 0, none⟩) 1 1)
    (h : FRow T B base w v L) (ht : Try.prog.underlying t = some (.slice T)) (hi : Try.prog.info? T = some i) (hz : i.zero = some z)
    (hsize : i.size = 10) (hby : i.bytes = 96) (hzs : z.cells.size = 10) (hb : w.heap[b]? = some (.cells (itC x e).toArray T (0, 0))) (hD : WDat B w e x.data) (hT : T ≠ 5) (hB : B ≤ base) (hbase : base ≤ w.heap.size) (hlen : L.length ≤ 100000)
    (k : ∀ A n c w', n = (L ++ [x]).length → FRow T B base w' (.slice A n c) (L ++ [x]) → w.grownBy w' v.ownBlock → J (a.put d (.slice A n c)) w') : St1 Try.prog ops Q ⟨d, .call ⟨.builtin .append, #[s, y], #[t, t]⟩, ty, pos, af, g⟩ J a w := by
  obtain ⟨v', w', h1, h2, h3, h4⟩ := h.snoc (ty := ty) ht hi hz hsize hby hzs hb hD hT hB hbase hlen
  obtain ⟨A, c, rfl⟩ := h2.form
  refine sv hw ?_ (k A _ c w' rfl h2 h3)
  simp [execOp, resolve, invoke, builtin, hs, hy, h1]
theorem FRow.ne_fresh {T : TypeId} {B base b : Nat} {w : World} {v : Value} {L : List Item} (h : FRow T B base w v L) (e : b = w.heap.size) : v.ownBlock ≠ some b := h.ne_new e
theorem FRow.chg' {T : TypeId} {B base : Nat} {w w' : World} {v : Value} {L : List Item} {b : Nat} (h : FRow T B base w v L) (c : Chg w w' b) (hd : B ≤ b ∧ NotU8 w b) (hlt : b < base) : FRow T B base w' v L := h.keep c (.inr (h.ne_old hlt)) (fun k e => by injection e with e; subst e; exact hd)
theorem FRow.chgn {T : TypeId} {B base b : Nat} {w w' : World} {v : Value} {L : List Item} (h : FRow T B base w v L) (c : Chg w w' b) (hd : B ≤ b ∧ NotU8 w b) (hn : v.ownBlock ≠ some b) : FRow T B base w' v L :=
  h.keep c (.inr hn) (fun k e => by injection e with e; subst e; exact hd)
theorem FRow.low {T : TypeId} {B B' base : Nat} {w : World} {v : Value} {L : List Item} (h : FRow T B base w v L) (hb : B' ≤ B) : FRow T B' base w v L := by
  obtain ⟨ds, hp, ho⟩ := h
  exact ⟨ds, hp.mono fun x d hd => hd.base hb, ho⟩
theorem WDat.bytes {B : Nat} {w : World} {A : Option Addr} {n c : Nat} {xs : List Int} (h : WDat B w (.slice A n c) xs) (hn : 0 < n) : ∃ b, ∃ cs : Array Value, ∃ z : Int, A = some ⟨b, 0, none⟩ ∧ B ≤ b ∧ w.heap[b]? = some (.cells cs 5 (0, 0)) ∧ cs.toList[0]? = some (.int .u8 z) ∧ 0 + 1 ≤ cs.toList.length := by
  obtain ⟨A', n', c', e, h1, h5⟩ := h
  injection e with e1 e2 e3
  subst e1; subst e2
  obtain ⟨b, cs, e, hB, hb, hc, hz⟩ := h5 hn
  obtain ⟨z, hz⟩ := hz 0 hn
  exact ⟨b, cs, z, e, hB, hb, by simpa using hz, by simp; omega⟩
/-- A byte of somebody's has turned. -/
theorem WDat.poke {B : Nat} {w w' : World} {d : Value} {xs : List Int} {b : Nat} {cs cs' : Array Value} (h : WDat B w d xs) (hb : w.heap[b]? = some (.cells cs 5 (0, 0))) (hC : Chg w w' b) (hb' : w'.heap[b]? = some (.cells cs' 5 (0, 0))) (hs : cs'.size = cs.size)
    (hu : ∀ (i : Nat) (z : Int), cs[i]? = some (.int .u8 z) → ∃ z', cs'[i]? = some (.int .u8 z')) : WDat B w' d xs := by
  obtain ⟨A, n, c, rfl, h1, h5⟩ := h
  refine ⟨A, n, c, rfl, h1, fun hn => ?_⟩
  obtain ⟨b2, cs2, e, hB, h2, hc, hz⟩ := h5 hn
  by_cases e2 : b2 = b
  · subst e2
    rw [hb] at h2
    simp only [Option.some.injEq, Obj.cells.injEq, and_true] at h2
    subst h2
    refine ⟨b2, cs', e, hB, hb', by omega, fun i hi => ?_⟩
    obtain ⟨z, hz⟩ := hz i hi
    exact hu i z hz
  · exact ⟨b2, cs2, e, hB, chg_ob hC e2 h2, hc, hz⟩
theorem FRow.poke {T : TypeId} {B base : Nat} {w w' : World} {v : Value} {L : List Item} {b : Nat} {cs cs' : Array Value} (h : FRow T B base w v L) (hb : w.heap[b]? = some (.cells cs 5 (0, 0))) (hC : Chg w w' b) (hb' : w'.heap[b]? = some (.cells cs' 5 (0, 0))) (hs : cs'.size = cs.size)
    (hu : ∀ (i : Nat) (z : Int), cs[i]? = some (.int .u8 z) → ∃ z', cs'[i]? = some (.int .u8 z')) (hT : T ≠ 5) : FRow T B base w' v L := by
  obtain ⟨ds, hp, ho⟩ := h
  refine ⟨ds, hp.mono fun x d hd => hd.poke hb hC hb' hs hu, ho.kept hC ?_⟩
  rcases ho.2 with ⟨rfl, _⟩ | ⟨g, cap, cur, rfl, _, hg, _⟩
  · exact .inl rfl
  · refine .inr fun e => ?_
    injection e with e
    have e : g = b := e
    rw [e, hb] at hg
    injection hg with hg; injection hg with _ hg _
    exact hT hg.symm
theorem poke_ok {cs : Array Value} {u : Int} (hl : 0 + 1 ≤ cs.toList.length) : (cs.toList.take 0 ++ [Value.int .u8 u] ++ cs.toList.drop (0 + 1)).toArray.size = cs.size ∧ ∀ (i : Nat) (z : Int), cs[i]? = some (.int .u8 z) → ∃ z', (cs.toList.take 0 ++ [Value.int .u8 u] ++ cs.toList.drop (0 + 1)).toArray[i]? = some (.int .u8 z') := by
  obtain ⟨l⟩ := cs
  cases l with
  | nil => simp at hl
  | cons a l =>
    refine ⟨by simp, fun i z hi => ?_⟩
    cases i with
    | zero => exact ⟨u, by simp⟩
    | succ i => exact ⟨z, by simpa using hi⟩
theorem row_ne_bytes {T : TypeId} {w : World} {g b : Nat} {cs cs' : Array Value} (hg : w.heap[g]? = some (.cells cs T (0, 0))) (hb : w.heap[b]? = some (.cells cs' 5 (0, 0))) (hT : T ≠ 5) : g ≠ b := fun e => by
  rw [e, hb] at hg
  injection hg with hg; injection hg with _ hg _
  exact hT hg.symm
end Go.Proofs.Ytefhfoioeoijlaa

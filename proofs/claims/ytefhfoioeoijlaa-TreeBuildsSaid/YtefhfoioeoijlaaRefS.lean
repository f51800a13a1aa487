/- Parts of rows of operations, appended to a row of one's own; the document's way to put an operation into a list in order. -/
import Derived.Test.YtefhfoioeoijlaaGN
set_option linter.unusedVariables false
set_option linter.unusedSimpArgs false
namespace Go.Proofs.Ytefhfoioeoijlaa
open Go Go.RowKit Go.Sort

/-- Operations that lie one behind the other, wherever. -/
def SubO (B : Nat) (w : World) (v : Value) (L : List OpD) : Prop :=
  ∃ A c, v = .slice A L.length c ∧ (L ≠ [] → ∃ b o ds, A = some ⟨b, o, none⟩ ∧ b < w.heap.size ∧ Pair (fun x d => Dat B w d x.data) L ds ∧ ∀ (j : Nat) (u : Value), (flatO L ds)[j]? = some u → w.cell? ⟨b, o + j, none⟩ = some u)
theorem SubO.up {B : Nat} {w w' : World} {v : Value} {L : List OpD} (h : SubO B w v L) (u : Up w w') : SubO B w' v L := by
  obtain ⟨A, c, rfl, h1⟩ := h
  refine ⟨A, c, rfl, fun hL => ?_⟩
  obtain ⟨b, o, ds, hA, hb, hp, hc⟩ := h1 hL
  exact ⟨b, o, ds, hA, Nat.lt_of_lt_of_le hb u.size, hp.mono fun x d hd => hd.up u, fun j v hj => (u.cell (p := ⟨b, o + j, none⟩) hb).trans (hc j v hj)⟩
theorem flatO_drop : ∀ {L : List OpD} {ds : List Value} (k : Nat), L.length = ds.length → flatO (L.drop k) (ds.drop k) = (flatO L ds).drop (k * 10)
  | [], [], k, _ => by simp [flatO]
  | x :: L, d :: ds, 0, _ => by simp
  | x :: L, d :: ds, k + 1, h => by
    have ih := flatO_drop (L := L) (ds := ds) k (by simpa using h)
    simp only [List.drop_succ_cons, flatO, ih]
    rw [show (k + 1) * 10 = (opC x d).length + k * 10 by simp [opC]; omega, List.drop_length_add_append]
theorem Pair.drop {α β : Type} {R : α → β → Prop} : ∀ {xs : List α} {ys : List β} (k : Nat), Pair R xs ys → Pair R (xs.drop k) (ys.drop k)
  | [], [], k, _ => by simp [Pair]
  | [], _ :: _, _, h => h.elim
  | _ :: _, [], _, h => h.elim
  | x :: xs, y :: ys, 0, h => h
  | x :: xs, y :: ys, k + 1, h => Pair.drop k h.2
theorem ORow.cells {T : TypeId} {B base : Nat} {w : World} {A : Option Addr} {n c : Nat} {L : List OpD} (h : ORow T B base w (.slice A n c) L) (hL : L ≠ []) :
    ∃ g ds, A = some ⟨g, 0, none⟩ ∧ g < w.heap.size ∧ Pair (fun x d => Dat B w d x.data) L ds ∧ ∀ (j : Nat) (u : Value), (flatO L ds)[j]? = some u → w.cell? ⟨g, j, none⟩ = some u := by
  obtain ⟨ds, hp, h1, ⟨e, h0⟩ | ⟨g, cap, cur, e, hb, hg, hc, hm, hcs, htk⟩⟩ := h
  · exact absurd (List.eq_nil_of_length_eq_zero h0) hL
  · injection e with e1 _ _
    refine ⟨g, ds, e1, lt_ob hg, hp, fun j u hj => ?_⟩
    rw [← htk, List.getElem?_take] at hj
    split at hj
    · rw [Array.getElem?_toList] at hj
      simp only [World.cell?, hg]; simpa using hj
    · cases hj
theorem ORow.addr {T : TypeId} {B base : Nat} {w : World} {A : Option Addr} {n c : Nat} {L : List OpD} (h : ORow T B base w (.slice A n c) L) : n = L.length ∧ n ≤ c ∧ (A = none ∧ c = 0 ∨ ∃ g, A = some ⟨g, 0, none⟩) := by
  obtain ⟨ds, hp, h1, ⟨e, h0⟩ | ⟨g, cap, cur, e, hb, hg, hc, hm, hcs, htk⟩⟩ := h
  · injection e with e1 e2 e3
    exact ⟨by omega, by omega, .inl ⟨e1, e3⟩⟩
  · injection e with e1 e2 e3
    exact ⟨by omega, by omega, .inr ⟨g, e1⟩⟩
section
variable {P : Program}
/-- The first k of a row. -/
theorem ORow.headCut {T : TypeId} {B base : Nat} {w : World} {A : Option Addr} {n c k : Nat} {L : List OpD} (h : ORow T B base w (.slice A n c) L) (hk : k ≤ n) (t e : TypeId) (hu : P.underlying t = some (.slice e)) (hsz : ∀ w, (sizeOf e).run P w = .ok 10 w) :
    SubO B w (.slice A k c) (L.take k) ∧ ∀ (d : Option Tmp) (ty : TypeId) (pos : String) (af : Array Edge) (gd : Option (Nat × Bool)) (ρ : Operand → Value) (x hi : Operand) (W : World), ρ x = .slice A n c → ρ hi = .int .i64 (k : Int) → (execOp ρ ⟨d, .slice t x none (some hi) none, ty, pos, af, gd⟩).run P W = .ok (.value (.slice A k c)) W := by
  obtain ⟨hn, hnc, hA⟩ := h.addr
  refine ⟨⟨A, c, by rw [List.length_take, Nat.min_eq_left (by omega)], fun hL => ?_⟩, ?_⟩
  · have hL' : L ≠ [] := by rintro rfl; simp at hL
    obtain ⟨g, ds, rfl, hg, hp, hc⟩ := h.cells hL'
    refine ⟨g, 0, ds.take k, rfl, hg, hp.take k, fun j u hj => ?_⟩
    rw [flatO_take k hp.length, List.getElem?_take] at hj
    split at hj
    · rw [Nat.zero_add]; exact hc j u hj
    · cases hj
  · intro d ty pos af gd ρ x hi W hx hhi
    have h1 : (0 : Int) ≤ (k : Int) ∧ (k : Int) ≤ (c : Int) := by omega
    rcases hA with ⟨rfl, rfl⟩ | ⟨g, rfl⟩
    · have : k = 0 := by omega
      subst this
      simp [execOp, hx, hhi, Instr.sliceAt, Instr.slice, Instr.sliceBounds, Instr.sliceBound, asIntOf, run_underlying hu, hsz]
    · exact r_sliceHi hx hhi hu hsz (by omega)
/-- All but the first k of a row. -/
theorem ORow.tailCut {T : TypeId} {B base : Nat} {w : World} {A : Option Addr} {n c k : Nat} {L : List OpD} (h : ORow T B base w (.slice A n c) L) (hk : k ≤ n) (t e : TypeId) (hu : P.underlying t = some (.slice e)) (hsz : ∀ w, (sizeOf e).run P w = .ok 10 w) :
    ∃ A', SubO B w (.slice A' (n - k) (c - k)) (L.drop k) ∧ ∀ (d : Option Tmp) (ty : TypeId) (pos : String) (af : Array Edge) (gd : Option (Nat × Bool)) (ρ : Operand → Value) (x lo : Operand) (W : World), ρ x = .slice A n c → ρ lo = .int .i64 (k : Int) → (execOp ρ ⟨d, .slice t x (some lo) none none, ty, pos, af, gd⟩).run P W = .ok (.value (.slice A' (n - k) (c - k))) W := by
  obtain ⟨hn, hnc, hA⟩ := h.addr
  have h1 : (0 : Int) ≤ (k : Int) ∧ (k : Int) ≤ (n : Int) := by omega
  by_cases hkc : k < c
  · rcases hA with ⟨rfl, rfl⟩ | ⟨g, rfl⟩
    · omega
    · refine ⟨some ⟨g, 0 + k * 10, none⟩, ⟨_, _, by rw [List.length_drop, hn], fun hL => ?_⟩, fun d ty pos af gd ρ x lo W hx hlo => r_sliceLo hx hlo hu hsz hk hkc⟩
      have hL' : L ≠ [] := by rintro rfl; simp at hL
      obtain ⟨g', ds, e, hg, hp, hc⟩ := h.cells hL'
      injection e with e; injection e with e _ _
      subst e
      refine ⟨g, 0 + k * 10, ds.drop k, rfl, hg, hp.drop k, fun j u hj => ?_⟩
      rw [flatO_drop k hp.length, List.getElem?_drop] at hj
      rw [Nat.zero_add]; exact hc _ u hj
  · have hck : c = k := by omega
    refine ⟨A, ⟨_, _, by rw [List.length_drop, hn], fun hL => ?_⟩, fun d ty pos af gd ρ x lo W hx hlo => ?_⟩
    · exact absurd (List.drop_eq_nil_of_le (by omega)) hL
    · simp [execOp, hx, hlo, Instr.sliceAt, Instr.slice, Instr.sliceBounds, Instr.sliceBound, asIntOf, run_underlying hu, hsz, h1, hck, hk]
end
theorem OpRow.sub {B : Nat} {w : World} {A : Option Addr} {c : Nat} {os : List OpD} (h : OpRow B w A os) : SubO B w (.slice A os.length c) os := by
  refine ⟨A, c, rfl, fun hL => ?_⟩
  obtain ⟨o0, os', rfl⟩ := List.exists_cons_of_ne_nil hL
  obtain ⟨g, f, oA, on, oc, hA, hg, hc, hD, _⟩ := h 0 o0 rfl
  have key : ∀ (l : List OpD) (k : Nat), (∀ i o, l[i]? = some o → (o0 :: os')[k + i]? = some o) → ∃ ds, Pair (fun x d => Dat B w d x.data) l ds ∧ ∀ (j : Nat) (u : Value), (flatO l ds)[j]? = some u → w.cell? ⟨g, f + k * 10 + j, none⟩ = some u := by
    intro l
    induction l with
    | nil => intro k _; exact ⟨[], trivial, fun j u hj => by simp [flatO] at hj⟩
    | cons x l ih =>
      intro k hk
      obtain ⟨ds, hp, hds⟩ := ih (k + 1) (fun i o ho => by rw [show k + 1 + i = k + (i + 1) by omega]; exact hk (i + 1) o ho)
      obtain ⟨g2, f2, oA2, on2, oc2, hA2, _, hc2, hD2, _⟩ := h k x (hk 0 x rfl)
      rw [hA] at hA2; injection hA2 with hA2; injection hA2 with e1 e2 _; subst e1; subst e2
      refine ⟨.slice oA2 on2 oc2 :: ds, ⟨hD2, hp⟩, fun j u hj => ?_⟩
      simp only [flatO] at hj
      by_cases hj10 : j < 10
      · rw [List.getElem?_append_left (by simpa [opC] using hj10)] at hj
        exact hc2 j u hj
      · rw [List.getElem?_append_right (by simp [opC]; omega)] at hj
        have := hds _ u hj
        rw [show f + (k + 1) * 10 + (j - (opC x (.slice oA2 on2 oc2)).length) = f + k * 10 + j by simp [opC]; omega] at this
        exact this
  obtain ⟨ds, hp, hds⟩ := key (o0 :: os') 0 (fun i o ho => by rw [Nat.zero_add]; exact ho)
  exact ⟨g, f, ds, hA, hg, hp, fun j u hj => by have := hds j u hj; simpa using this⟩
theorem SubO.one {B : Nat} {w : World} {b : Nat} {x : OpD} {d : Value} {T : TypeId} (hb : w.heap[b]? = some (.cells (opC x d).toArray T (0, 0))) (hD : Dat B w d x.data) : SubO B w (.slice (some ⟨b, 0, none⟩) 1 1) [x] := by
  refine ⟨_, _, rfl, fun _ => ⟨b, 0, [d], rfl, lt_ob hb, ⟨hD, trivial⟩, fun j u hj => ?_⟩⟩
  simp only [flatO, List.append_nil] at hj
  have : (opC x d).toArray[j]? = some u := by simpa using hj
  rw [Nat.zero_add]
  simp only [World.cell?, hb]; simpa using this
theorem opC_one {x : OpD} {d u : Value} (hd : d.oneCell' = true) (hu : u ∈ opC x d) : u.oneCell' = true := by
  simp only [opC, List.mem_cons, List.not_mem_nil, or_false] at hu
  rcases hu with rfl | rfl | rfl | rfl | rfl | rfl | rfl | rfl | rfl | rfl <;> first | rfl | exact hd
theorem flatO_one {B : Nat} {w : World} : ∀ {L : List OpD} {ds : List Value}, Pair (fun x d => Dat B w d x.data) L ds → ∀ u ∈ flatO L ds, u.oneCell' = true
  | [], [], _, u, hu => by simp [flatO] at hu
  | [], _ :: _, h, _, _ => h.elim
  | _ :: _, [], h, _, _ => h.elim
  | x :: L, d :: ds, h, u, hu => by
    simp only [flatO] at hu
    rcases List.mem_append.1 hu with hu | hu
    · obtain ⟨A, n, c, rfl⟩ := h.1.form
      exact opC_one rfl hu
    · exact flatO_one h.2 u hu
theorem flatO_app : ∀ {L M : List OpD} {ds es : List Value}, L.length = ds.length → flatO (L ++ M) (ds ++ es) = flatO L ds ++ flatO M es
  | [], M, [], es, _ => by simp [flatO]
  | x :: L, M, d :: ds, es, h => by simp [flatO, flatO_app (L := L) (ds := ds) (by simpa using h)]
theorem Pair.app {α β : Type} {R : α → β → Prop} : ∀ {xs xs' : List α} {ys ys' : List β}, Pair R xs ys → Pair R xs' ys' → Pair R (xs ++ xs') (ys ++ ys')
  | [], _, [], _, _, h => h
  | [], _, _ :: _, _, h, _ => h.elim
  | _ :: _, _, [], _, h, _ => h.elim
  | x :: xs, _, y :: ys, _, h, k => ⟨h.1, Pair.app h.2 k⟩
section
variable {T : TypeId} {ops : Array Oper} {Q : Exit → Act → World → Prop} {a : Act} {w : World} {J : Act → World → Prop} {d : Option Tmp} {ty : TypeId} {pos : String} {af : Array Edge} {gd : Option (Nat × Bool)} {B base : Nat} {L M : List OpD} {t : TypeId} {i : TypeInfo} {z : Value}
/-- An empty literal. -/
theorem litO (hw : Region.wanted (⟨d, .buildSlice t 0 #[], ty, pos, af, gd⟩ : Oper) (yielded ops a.tmps) = true) (ht : Try.prog.underlying t = some (.slice T)) (hsz : ∀ w, (sizeOf T).run Try.prog w = .ok 10 w) (hbase : base ≤ w.heap.size)
    (k : ∀ b w', b = w.heap.size → w'.heap[b]? = some (.cells #[] T (0, 0)) → ORow T B base w' (.slice (some ⟨b, 0, none⟩) 0 0) [] → Up w w' → J (a.put d (.slice (some ⟨b, 0, none⟩) 0 0)) w') : St1 Try.prog ops Q ⟨d, .buildSlice t 0 #[], ty, pos, af, gd⟩ J a w := by
  have hrun : (execOp a.eval ⟨d, .buildSlice t 0 #[], ty, pos, af, gd⟩).run Try.prog w = .ok (.value (.slice (some ⟨w.heap.size, 0, none⟩) 0 0)) (w.alloc (.cells #[] T)) := by
    simp [execOp, Instr.buildSlice, run_underlying ht, hsz, Instr.fill, newRow, Array.range_zero']
  exact sv hw hrun (k _ _ rfl (heap_alloc_new w _) ⟨[], trivial, World.ownsRow_lit w #[] 0 hbase (by unfold maxLen; omega) (by simp)⟩ (up_alloc w _))
/-- Operations behind a row of one's own. -/
theorem apO {s y : Operand} {b n c : Nat} {v : Value} (hw : Region.wanted (⟨d, .call ⟨.builtin .append, #[s, y], #[t, t]⟩, ty, pos, af, gd⟩ : Oper) (yielded ops a.tmps) = true) (hs : a.eval s = .slice (some ⟨b, 0, none⟩) n c) (hy : a.eval y = v)
    (h : ORow T B base w (.slice (some ⟨b, 0, none⟩) n c) L) (hM : SubO B w v M) (ht : Try.prog.underlying t = some (.slice T)) (hi : Try.prog.info? T = some i) (hz : i.zero = some z) (hsize : i.size = 10) (hby : i.bytes = 104) (hzs : z.cells.size = 10) (hT : T ≠ 5) (hB : B ≤ base) (hbase : base ≤ w.heap.size) (hlen : L.length + M.length ≤ 1000000)
    (k : ∀ b' n' c' w', n' = (L ++ M).length → ORow T B base w' (.slice (some ⟨b', 0, none⟩) n' c') (L ++ M) → base ≤ b' → Chg w w' b → J (a.put d (.slice (some ⟨b', 0, none⟩) n' c')) w') : St1 Try.prog ops Q ⟨d, .call ⟨.builtin .append, #[s, y], #[t, t]⟩, ty, pos, af, gd⟩ J a w := by
  have hbg := h.ge hB
  obtain ⟨hn, hnc, _, cur, hg, _⟩ := h.blk
  have hk : B ≤ b ∧ NotU8 w b := ⟨hbg, NotU8.of hg hT⟩
  obtain ⟨ds, hp, ho⟩ := h
  rw [← hn] at ho
  obtain ⟨A, c2, rfl, hM⟩ := hM
  by_cases hM0 : M = []
  · subst hM0
    have hrun : (Builtin.append_ #[t, t] ty #[.slice (some ⟨b, 0, none⟩) n c, .slice A 0 c2]).run Try.prog w = .ok (.slice (some ⟨b, 0, none⟩) n c) w := by
      cases A <;> simp [Builtin.append_, run_underlying ht, sizeOf, typeInfo, hi, Builtin.lenOf, Builtin.firstCells, hnc, storeCells, loadCells, loadCellsFrom]
    refine sv hw ?_ (k b n c w (by simpa using hn) ⟨ds, by simpa using hp, by rw [List.append_nil, ← hn]; exact ho⟩ ?_ ⟨rfl, rfl, rfl, Nat.le_refl _, fun _ _ _ => rfl⟩)
    · simp only [List.length_nil] at hy
      simp [execOp, resolve, invoke, builtin, hs, hy, hrun]
    · exact (ho.lt b rfl).1
  · obtain ⟨g, o, es, rfl, hgl, hp2, hc⟩ := hM hM0
    obtain ⟨v', w', h1, h2, h3, h4⟩ := run_append_own (P := Try.prog) w base t ty T i z 10 104 ht hi hz hsize hby hzs (by decide) _ n (flatO L ds) ho ⟨g, o, none⟩ M.length c2 (flatO M es) (flatO_length hp2.length)
      (fun j u hj => by rw [add_at]; exact hc j u hj) (flatO_one hp2) (by unfold maxLen; omega) (by omega) hbase
    have hnn : v' ≠ .slice none 0 0 := fun e => by have := (h4.1 e).1; cases this
    have hR : ORow T B base w' v' (L ++ M) := ⟨ds ++ es, Pair.app (hp.mono fun x d hd => hd.chg h3 hk) (hp2.mono fun x d hd => hd.chg h3 hk), by rw [flatO_app hp.length, List.length_append, ← hn]; exact h2⟩
    obtain ⟨A', c', rfl⟩ := hR.form
    rcases hR.addr.2.2 with ⟨rfl, rfl⟩ | ⟨b', rfl⟩
    · exfalso
      obtain ⟨_, _, _, ⟨e, h0⟩ | ⟨_, _, _, e, _⟩⟩ := hR
      · exact hnn e
      · cases e
    · refine sv hw ?_ (k b' _ c' w' rfl hR (hR.own b' rfl).1 h3)
      simp [execOp, resolve, invoke, builtin, hs, hy, h1]
end
/-! ### the document's place for an operation -/
theorem insO_at {x : OpD} : ∀ {L : List OpD} {k : Nat}, (∀ j y, j < k → L[j]? = some y → ltS y.at_ x.at_ = true) → (k = L.length ∨ ∃ y, L[k]? = some y ∧ ltS y.at_ x.at_ = false ∧ y.at_ ≠ x.at_) → insO L x = L.take k ++ [x] ++ L.drop k
  | [], k, _, _ => by simp [insO]
  | y :: L, 0, _, h => by
    rcases h with h | ⟨z, hz, h1, h2⟩
    · simp at h
    · simp at hz; subst hz
      simp [insO, h1, h2]
  | y :: L, k + 1, hlt, h => by
    have hy := hlt 0 y (by omega) rfl
    have ih := insO_at (x := x) (L := L) (k := k) (fun j z hj hz => hlt (j + 1) z (by omega) (by simpa using hz)) (by
      rcases h with h | ⟨z, hz, h1, h2⟩
      · exact .inl (by simpa using h)
      · exact .inr ⟨z, by simpa using hz, h1, h2⟩)
    rw [insO, if_pos hy, ih]; simp
theorem insO_skip {x : OpD} : ∀ {L : List OpD} {k : Nat} {y : OpD}, (∀ j y, j < k → L[j]? = some y → ltS y.at_ x.at_ = true) → L[k]? = some y → y.at_ = x.at_ → insO L x = L
  | z :: L, 0, y, _, hy, e => by
    simp at hy; subst hy
    simp [insO, e, ltS_irrefl]
  | z :: L, k + 1, y, hlt, hy, e => by
    have hz := hlt 0 z (by omega) rfl
    have ih := insO_skip (x := x) (L := L) (k := k) (y := y) (fun j z hj hz => hlt (j + 1) z (by omega) (by simpa using hz)) (by simpa using hy) e
    rw [insO, if_pos hz, ih]
theorem lt_next {L : List OpD} {k : Nat} {x y : OpD} (h : Hid (∀ (j : Nat) (y : OpD), j < k → L[j]? = some y → ltS y.at_ x.at_ = true)) (hy : L[k]? = some y) (hl : ltS y.at_ x.at_ = true) : Hid (∀ (j : Nat) (y : OpD), j < k + 1 → L[j]? = some y → ltS y.at_ x.at_ = true) := fun j z hj hz => by
  rcases Nat.lt_or_ge j k with h1 | h1
  · exact h.out j z h1 hz
  · obtain rfl : j = k := by omega
    rw [hy] at hz; injection hz with hz; subst hz; exact hl
end Go.Proofs.Ytefhfoioeoijlaa

/- Maps with string keys; rows of entries that grow; a table that stays. -/
import Derived.Test.YtefhfoioeoijlaaGreatDoorEnt
import Derived.Lib.LaidTab
set_option linter.unusedVariables false
set_option linter.unusedSimpArgs false
namespace Go.Proofs.YtefhfoioeoijlaaGreatDoor
open Go Go.RowKit Go.Sort
/-! ### maps with string keys -/
theorem beq_ba (a b : ByteArray) : (a == b) = decide (a = b) := by
  obtain ⟨a⟩ := a
  obtain ⟨b⟩ := b
  show (a == b) = _
  by_cases h : a = b
  · subst h; simp
  · have : ¬ (⟨a⟩ : ByteArray) = ⟨b⟩ := fun e => h (by injection e)
    simp [h, this]
def locP (s : ByteArray) : List (ByteArray × Value) → Nat → Option (Nat × Value)
  | [], _ => none
  | p :: ps, i => if s = p.1 then some (i, p.2) else locP s ps (i + 1)
def getP (ps : List (ByteArray × Value)) (s : ByteArray) : Option Value := (locP s ps 0).map (·.2)
def Prs (es : List MapEntry) (ps : List (ByteArray × Value)) : Prop := Pair (fun e p => e.key = .string p.1 ∧ e.val = p.2) es ps
theorem findNow_s (s : ByteArray) : ∀ {es : List MapEntry} {ps : List (ByteArray × Value)} (i : Nat), Prs es ps → Instr.findNow .string (.string s) es i = some (locP s ps i)
  | [], [], _, _ => rfl
  | e :: es, p :: ps, i, ⟨⟨h1, h2⟩, hr⟩ => by
    have ih := findNow_s s (i + 1) hr
    unfold Instr.findNow locP
    rw [h1]
    by_cases h : s = p.1
    · rw [if_pos h]
      have : (s == p.1) = true := by rw [beq_ba]; exact decide_eq_true h
      simp [Instr.sameNow, this, h2]
    · rw [if_neg h]
      have : (s == p.1) = false := by rw [beq_ba]; exact decide_eq_false h
      simp [Instr.sameNow, this, ih]
  | [], _ :: _, _, h => h.elim
  | _ :: _, [], _, h => h.elim
section
variable {P : Program} {K : TypeId}
theorem findKey_s (hK : P.underlying K = some .string) (s : ByteArray) (w : World) {es : List MapEntry} {ps : List (ByteArray × Value)} (h : Prs es ps) : (Instr.findKey K (.string s) es).run P w = .ok (locP s ps 0) w := by
  unfold Instr.findKey
  simp only [run_underlying hK, Sem.run_bind, Result.andThen_ok, findNow_s s 0 h]
  rfl
theorem check_n (hK : P.underlying K = some .string) (b : Bool) (s : ByteArray) (w : World) (d : Nat) : (Instr.checkKey b (d + 1) K (.string s)).run P w = .ok () w := by
  unfold Instr.checkKey
  simp [run_underlying hK]
theorem check_s (hK : P.underlying K = some .string) (b : Bool) (s : ByteArray) (w : World) : (Instr.checkKey b 10000 K (.string s)).run P w = .ok () w := check_n hK b s w 9999
end
theorem locP_some {s : ByteArray} : ∀ {ps : List (ByteArray × Value)} {i j : Nat} {v : Value}, locP s ps i = some (j, v) → ∃ k, j = i + k ∧ ps[k]? = some (s, v) ∧ ∀ m q, m < k → ps[m]? = some q → s ≠ q.1
  | [], _, _, _, h => by simp [locP] at h
  | p :: ps, i, j, v, h => by
    unfold locP at h
    by_cases hp : s = p.1
    · rw [if_pos hp] at h
      simp only [Option.some.injEq, Prod.mk.injEq] at h
      exact ⟨0, by omega, by simp [hp, ← h.2], fun m q hm => by omega⟩
    · rw [if_neg hp] at h
      obtain ⟨k, h1, h2, h3⟩ := locP_some h
      refine ⟨k + 1, by omega, by simpa using h2, fun m q hm hq => ?_⟩
      cases m with
      | zero => simp at hq; rw [← hq]; exact hp
      | succ m => exact h3 m q (by omega) (by simpa using hq)
theorem locP_shift {s : ByteArray} : ∀ {ps : List (ByteArray × Value)} {i : Nat}, (locP s ps (i + 1)).map (·.2) = (locP s ps i).map (·.2)
  | [], _ => rfl
  | p :: ps, i => by
    unfold locP
    by_cases h : s = p.1
    · rw [if_pos h, if_pos h]; rfl
    · rw [if_neg h, if_neg h]; exact locP_shift
theorem getP_cons {p : ByteArray × Value} {ps : List (ByteArray × Value)} {s : ByteArray} : getP (p :: ps) s = if s = p.1 then some p.2 else getP ps s := by
  unfold getP
  rw [locP]
  by_cases h : s = p.1
  · rw [if_pos h, if_pos h]; rfl
  · rw [if_neg h, if_neg h]; exact locP_shift
theorem getP_snoc {s : ByteArray} {v : Value} : ∀ {ps : List (ByteArray × Value)}, getP ps s = none → ∀ t, getP (ps ++ [(s, v)]) t = if t = s then some v else getP ps t
  | [], _, t => by rw [List.nil_append, getP_cons]
  | p :: ps, h, t => by
    rw [getP_cons] at h
    by_cases hp : s = p.1
    · rw [if_pos hp] at h; cases h
    · rw [if_neg hp] at h
      rw [List.cons_append, getP_cons, getP_cons, getP_snoc h t]
      by_cases ht : t = p.1
      · rw [if_pos ht, if_pos ht, if_neg (fun e => hp (e.symm.trans ht))]
      · rw [if_neg ht, if_neg ht]
theorem getP_set {s : ByteArray} {v : Value} : ∀ {ps : List (ByteArray × Value)} {k : Nat} {u : Value}, ps[k]? = some (s, u) → (∀ m q, m < k → ps[m]? = some q → s ≠ q.1) → ∀ t, getP (ps.set k (s, v)) t = if t = s then some v else getP ps t
  | [], _, _, h, _, _ => by simp at h
  | p :: ps, 0, u, h, _, t => by
    simp at h; subst h
    rw [List.set_cons_zero, getP_cons, getP_cons]
    by_cases ht : t = s
    · rw [if_pos ht, if_pos ht]
    · rw [if_neg ht, if_neg ht, if_neg ht]
  | p :: ps, k + 1, u, h, hm, t => by
    have hp := hm 0 p (by omega) rfl
    rw [List.set_cons_succ, getP_cons, getP_cons, getP_set (by simpa using h) (fun m q hmk hq => hm (m + 1) q (by omega) (by simpa using hq)) t]
    by_cases ht : t = p.1
    · rw [if_pos ht, if_pos ht, if_neg (fun e => hp (e.symm.trans ht))]
    · rw [if_neg ht, if_neg ht]
/-- Block r is a map with string keys, in which f is found. -/
def SMap (w : World) (r : Nat) (f : ByteArray → Option Value) : Prop := ∃ es clock ps, w.heap[r]? = some (.map es clock) ∧ Prs es.toList ps ∧ ∀ s, getP ps s = f s
theorem SMap.new {w : World} {r : Nat} {c : Nat} (h : w.heap[r]? = some (.map #[] c)) : SMap w r (fun _ => none) := ⟨#[], c, [], h, trivial, fun _ => rfl⟩
theorem SMap.up {w w' : World} {r : Nat} {f : ByteArray → Option Value} (h : SMap w r f) (u : Up w w') : SMap w' r f := by
  obtain ⟨es, c, ps, h1, h2⟩ := h
  exact ⟨es, c, ps, up_ob u h1, h2⟩
theorem SMap.chg {w w' : World} {r b : Nat} {f : ByteArray → Option Value} (h : SMap w r f) (u : Chg w w' b) (hne : r ≠ b) : SMap w' r f := by
  obtain ⟨es, c, ps, h1, h2⟩ := h
  exact ⟨es, c, ps, chg_ob u hne h1, h2⟩
theorem SMap.own {w w' : World} {r : Nat} {q : Option Nat} {f : ByteArray → Option Value} (h : SMap w r f) (u : w.grownBy w' q) (hne : q ≠ some r) : SMap w' r f := by
  obtain ⟨es, c, ps, h1, h2⟩ := h
  exact ⟨es, c, ps, own_ob u hne h1, h2⟩
theorem SMap.to {w : World} {r : Nat} {f g : ByteArray → Option Value} (h : SMap w r f) (e : ∀ s, f s = g s) : SMap w r g := by
  obtain ⟨es, c, ps, h1, h2, h3⟩ := h
  exact ⟨es, c, ps, h1, h2, fun s => (h3 s).trans (e s)⟩
theorem SMap.ob {w : World} {r : Nat} {f : ByteArray → Option Value} (h : SMap w r f) : ∃ es c, w.heap[r]? = some (.map es c) := by
  obtain ⟨es, c, _, h1, _⟩ := h; exact ⟨es, c, h1⟩
section
variable {P : Program} {T K E : TypeId}
theorem SMap.look {w : World} {r : Nat} {f : ByteArray → Option Value} (h : SMap w r f) (hT : P.underlying T = some (.map K E)) (hK : P.underlying K = some .string) {z : Value} (hz : ∀ W, (zeroValue E).run P W = .ok z W) (s : ByteArray) :
    (Instr.lookup T (.map (some r)) (.string s) false).run P w = .ok ((f s).getD z) w := by
  obtain ⟨es, c, ps, h1, h2, h3⟩ := h
  have e := h3 s
  unfold getP at e
  cases hl : locP s ps 0 with
  | none =>
    rw [hl] at e
    simp [Instr.lookup, run_underlying hT, getObj, Sem.run, h1, check_s hK, findKey_s hK s w h2, hl, hz, ← e]
  | some jv =>
    rw [hl] at e
    simp [Instr.lookup, run_underlying hT, getObj, Sem.run, h1, check_s hK, findKey_s hK s w h2, hl, ← e]
theorem SMap.store {w : World} {r : Nat} {f : ByteArray → Option Value} (h : SMap w r f) (hT : P.underlying T = some (.map K E)) (hK : P.underlying K = some .string) (s : ByteArray) (v : Value) :
    ∃ w', (Instr.mapUpdate T (.map (some r)) (.string s) v).run P w = .ok () w' ∧ Chg w w' r ∧ SMap w' r (fun t => if t = s then some v else f t) := by
  obtain ⟨es, c, ps, h1, h2, h3⟩ := h
  have hlt : r < w.heap.size := lt_ob h1
  have e := h3 s
  unfold getP at e
  cases hl : locP s ps 0 with
  | none =>
    rw [hl] at e
    refine ⟨putMap w r (es.push { key := .string s, val := v, born := c }) (c + 1), ?_, putMap_grown w r _ _, ?_⟩
    · simp [Instr.mapUpdate, run_underlying hT, getObj, setObj, Sem.run, h1, check_s hK, findKey_s hK s w h2, hl, putMap]
    · refine ⟨_, _, ps ++ [(s, v)], by show (w.heap.setIfInBounds r _)[r]? = _; rw [Array.getElem?_setIfInBounds_self, if_pos hlt], ?_, ?_⟩
      · rw [Array.toList_push]
        exact Pair.snoc h2 ⟨rfl, rfl⟩
      · intro t
        rw [getP_snoc (by unfold getP; rw [hl]; rfl), h3 t]
  | some jv =>
    obtain ⟨j, u⟩ := jv
    obtain ⟨k, hk, hp, hm⟩ := locP_some hl
    obtain rfl : j = k := by omega
    have hj : j < es.size := by have := (List.getElem?_eq_some_iff.1 hp).1; rw [← Pair.length h2] at this; simpa using this
    obtain ⟨e0, he0⟩ : ∃ e0, es[j]? = some e0 := ⟨_, Array.getElem?_eq_getElem hj⟩
    have he1 : es.toList[j]? = some e0 := by rw [Array.getElem?_toList]; exact he0
    have hkey : e0.key = .string s := (h2.get he1 hp).1
    have hss : (s == s) = true := by rw [beq_ba]; exact decide_eq_true rfl
    have hmod : (es.modify j fun e => { e with key := .string s, val := v }).toList = es.toList.set j { e0 with key := .string s, val := v } := by
      apply List.ext_getElem?
      intro i
      rw [Array.getElem?_toList, Array.getElem?_modify, List.getElem?_set]
      by_cases hi : j = i
      · subst hi
        simp [he0, hj]
        rw [Array.getElem?_eq_getElem hj] at he0
        injection he0 with he0
        rw [he0]
      · simp [hi]
    refine ⟨putMap w r (es.modify j fun e => { e with key := .string s, val := v }) c, ?_, putMap_grown w r _ _, ?_⟩
    · simp [Instr.mapUpdate, run_underlying hT, getObj, setObj, Sem.run, h1, check_s hK, findKey_s hK s w h2, hl, putMap, he0, hkey, Instr.keyThatStays, Instr.sameBits, hss]
    · refine ⟨_, _, ps.set j (s, v), by show (w.heap.setIfInBounds r _)[r]? = _; rw [Array.getElem?_setIfInBounds_self, if_pos hlt], ?_, ?_⟩
      · rw [hmod]
        exact Pair.set h2 ⟨rfl, rfl⟩
      · intro t
        rw [getP_set hp hm t, h3 t]
end
section
variable {ρ : Operand → Value} {P : Program} {w : World} {d : Option Tmp} {ty : TypeId} {pos : String} {af : Array Edge} {g : Option (Nat × Bool)}
theorem r_lookS {T K E : TypeId} {x y : Operand} {r : Nat} {f : ByteArray → Option Value} {s : ByteArray} {z v : Value} (hx : ρ x = .map (some r)) (hy : ρ y = .string s) (h : SMap w r f) (hT : P.underlying T = some (.map K E)) (hK : P.underlying K = some .string) (hz : ∀ W, (zeroValue E).run P W = .ok z W) (hv : (f s).getD z = v) :
    (execOp ρ ⟨d, .lookup T x y false, ty, pos, af, g⟩).run P w = .ok (.value v) w := by
  have := h.look hT hK hz s
  simp [execOp, hx, hy, this, hv]
theorem r_callb {fn : FuncId} {x : Operand} {xs : List Operand} {ats : Array TypeId} {us all : List Value} (hf : ∀ args w, (callFunc fn args).run P w = .ok (.enter fn args) w) (hx : ρ x = .func (.func fn) us.toArray #[]) (ha : us ++ xs.map ρ = all) :
    (execOp ρ ⟨d, .call ⟨.value x, xs.toArray, ats⟩, ty, pos, af, g⟩).run P w = .ok (.enter fn all.toArray) w := by
  subst ha
  simp [execOp, resolve, hx, Deferred.ofValue, invoke, hf]
theorem r_ges {t yt : TypeId} {x y : Operand} {m n : ByteArray} (hx : ρ x = .string m) (hy : ρ y = .string n) (h : Op.bytesLess m.data.toList n.data.toList = true) : (execOp ρ ⟨d, .binOp .geq t x y yt, ty, pos, af, g⟩).run P w = .ok (.value (.bool false)) w := by
  have h' : Op.bytesLess m.toList n.toList = true := by rw [Lib.toList_data, Lib.toList_data]; exact h
  simp [execOp, hx, hy, eqGuard, binOp, Op.stringOp, h']
end
/-! ### rows of entries -/
theorem ERow.chgm {T : TypeId} {B base b : Nat} {w w' : World} {v : Value} {L : List EntD} (h : ERow T B base w v L) (c : Chg w w' b) (hn : v.ownBlock ≠ some b) : ERow T B base w' v L := World.ownsRow.kept h c (.inr hn)
theorem ERow.snoc {T : TypeId} {base : Nat} {B : Nat} {w : World} {v : Value} {L : List EntD} (h : ERow T B base w v L) {P : Program} {t ty : TypeId} {i : TypeInfo} {z : Value} (ht : P.underlying t = some (.slice T)) (hi : P.info? T = some i) (hz : i.zero = some z)
    (hsize : i.size = 5) (hby : i.bytes = 48) (hzs : z.cells.size = 5) {b : Nat} {x : EntD} (hb : w.heap[b]? = some (.cells (enC x).toArray T (0, 0))) (hbase : base ≤ w.heap.size) (hlen : L.length ≤ 100000) :
    ∃ v' w', (Builtin.append_ #[t, t] ty #[v, .slice (some ⟨b, 0, none⟩) 1 1]).run P w = .ok v' w' ∧ ERow T B base w' v' (L ++ [x]) ∧ w.grownBy w' v.ownBlock ∧ v' ≠ .slice none 0 0 := by
  obtain ⟨v', w', h1, h2, h3, h4⟩ := run_append_own (P := P) w base t ty T i z 5 48 ht hi hz hsize hby hzs (by decide) v L.length (flatE L) h ⟨b, 0, none⟩ 1 1 (enC x) (by simp [enC])
    (fun j u hj => by
      rw [add_at, Nat.zero_add]
      have : (enC x).toArray[j]? = some u := by simpa using hj
      simp only [World.cell?, hb]; simpa using this) (by intro u hu; simp [enC] at hu; rcases hu with rfl | rfl | rfl | rfl | rfl <;> rfl) (by unfold maxLen; omega) (by omega) hbase
  refine ⟨v', w', h1, ?_, h3, fun e => by have := (h4.1 e).2; omega⟩
  unfold ERow
  rw [flatE_snoc]
  simpa using h2
theorem snE {P : Program} {T : TypeId} {ops : Array Oper} {Q : Exit → Act → World → Prop} {a : Act} {w : World} {J : Act → World → Prop} {d : Option Tmp} {ty : TypeId} {pos : String} {af : Array Edge} {g : Option (Nat × Bool)}
    {B base : Nat} {v : Value} {L : List EntD} {t : TypeId} {s y : Operand} {i : TypeInfo} {z : Value} {b : Nat} {x : EntD}
    (hw : Region.wanted (⟨d, .call ⟨.builtin .append, #[s, y], #[t, t]⟩, ty, pos, af, g⟩ : Oper) (yielded ops a.tmps) = true) (hs : a.eval s = v) (hy : a.eval y = .slice (some ⟨b, 0, none⟩) 1 1)
    (h : ERow T B base w v L) (ht : P.underlying t = some (.slice T)) (hi : P.info? T = some i) (hz : i.zero = some z)
    (hsize : i.size = 5) (hby : i.bytes = 48) (hzs : z.cells.size = 5) (hb : w.heap[b]? = some (.cells (enC x).toArray T (0, 0))) (hbase : base ≤ w.heap.size) (hlen : L.length ≤ 100000)
    (k : ∀ A n c w', n = (L ++ [x]).length → ERow T B base w' (.slice A n c) (L ++ [x]) → w.grownBy w' v.ownBlock → J (a.put d (.slice A n c)) w') : St1 P ops Q ⟨d, .call ⟨.builtin .append, #[s, y], #[t, t]⟩, ty, pos, af, g⟩ J a w := by
  obtain ⟨v', w', h1, h2, h3, h4⟩ := h.snoc (ty := ty) ht hi hz hsize hby hzs hb hbase hlen
  obtain ⟨A, c, rfl⟩ := h2.form
  refine sv hw ?_ (k A _ c w' rfl h2 h3)
  simp [execOp, resolve, invoke, builtin, hs, hy, h1]
theorem ERow.base {T : TypeId} {B base base' : Nat} {w : World} {v : Value} {L : List EntD} (h : ERow T B base w v L) (hb : base' ≤ base) : ERow T B base' w v L := by
  obtain ⟨h1, h2⟩ := h
  refine ⟨h1, ?_⟩
  rcases h2 with hn | ⟨g, cap, cur, hv, hbg, rest⟩
  · exact .inl hn
  · exact .inr ⟨g, cap, cur, hv, Nat.le_trans hb hbg, rest⟩
theorem ERow.ne_old {T : TypeId} {B base b : Nat} {w : World} {v : Value} {L : List EntD} (h : ERow T B base w v L) (e : b < base) : v.ownBlock ≠ some b := fun hh => by have := (h.own _ hh).1; omega
/-- Entry number i, where it lies. -/
theorem ERow.get {T : TypeId} {B base : Nat} {w : World} {v : Value} {L : List EntD} (h : ERow T B base w v L) {i : Nat} {x : EntD} (hi : L[i]? = some x) :
    ∃ g cap cur, v = .slice (some ⟨g, 0, none⟩) L.length cap ∧ base ≤ g ∧ w.heap[g]? = some (.cells cur T (0, 0)) ∧ (cur.toList.drop (i * 5)).take 5 = enC x := by
  obtain ⟨A, c, rfl⟩ := h.form
  have h' := h
  obtain ⟨h1, ⟨e, h0⟩ | ⟨g, cap, cur, e, hb, hg, _⟩⟩ := h
  · have := (List.getElem?_eq_some_iff.1 hi).1; omega
  · injection e with e1 e2 e3
    subst e1
    obtain ⟨cur', hc1, hc2⟩ := h'.elem hi
    exact ⟨g, c, cur', rfl, hb, hc1, hc2⟩
theorem ERow.le {T : TypeId} {B base : Nat} {w : World} {v : Value} {L : List EntD} (h : ERow T B base w v L) : L.length ≤ 9223372036854775807 := by
  obtain ⟨_, ⟨_, h0⟩ | ⟨g, cap, cur, _, _, _, hc, hm, _⟩⟩ := h
  · omega
  · unfold maxLen at hm; omega
/-! ### a table -/
theorem TabIs.up {P : Program} {w w' : World} {name : String} {k : IntKind} {zs : List Int} (h : Lib.TabIs P w name k zs) (u : Up w w') : Lib.TabIs P w' name k zs := by
  unfold Lib.TabIs World.var? at h ⊢
  cases hg : P.globalNamed name with
  | none => simp only [hg, Option.bind_none] at h; cases h
  | some g =>
    simp only [hg, Option.bind_some] at h ⊢
    cases hw : w.heap[g]? with
    | none => rw [hw] at h; cases h
    | some o => rw [up_ob u hw]; rw [hw] at h; exact h
end Go.Proofs.YtefhfoioeoijlaaGreatDoor

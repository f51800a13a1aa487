/- SMap, Nm2, Nm3, Ent3, GEK, GFK -/
import Derived.Lib.LaidTab
import Derived.Test.YtefhfoioeoijlaaGreatDoorQaa
import Derived.Test.YtefhfoioeoijlaaGreatDoorQaf
import Derived.Test.YtefhfoioeoijlaaGreatDoorQah
import Derived.Test.YtefhfoioeoijlaaGreatDoorQak
import Derived.Test.YtefhfoioeoijlaaGreatDoorQap
set_option linter.unusedVariables false
set_option linter.unusedSimpArgs false
namespace Go.Proofs.YtefhfoioeoijlaaGreatDoor
open Go Go.RowKit Go.Sort
theorem beq_ba (a b : ByteArray) : (a == b) = decide (a = b) := by
  obtain ⟨a⟩ := a
  obtain ⟨b⟩ := b
  show (a == b) = _
  by_cases h : a = b
  · subst h; simp
  · have : ¬ (⟨a⟩ : ByteArray) = ⟨b⟩ := fun e => h (by injection e)
    simp [h, this]
def locP (s : ByteArray) : List (ByteArray × Value) → Nat → Option (Nat × Value)
  | [], _ => none
  | p :: ps, i => if s = p.1 then some (i, p.2) else locP s ps (i + 1)
def getP (ps : List (ByteArray × Value)) (s : ByteArray) : Option Value := (locP s ps 0).map (·.2)
def Prs (es : List MapEntry) (ps : List (ByteArray × Value)) : Prop := Pair (fun e p => e.key = .string p.1 ∧ e.val = p.2) es ps
theorem findNow_s (s : ByteArray) : ∀ {es : List MapEntry} {ps : List (ByteArray × Value)} (i : Nat), Prs es ps → Instr.findNow .string (.string s) es i = some (locP s ps i)
  | [], [], _, _ => rfl
  | e :: es, p :: ps, i, ⟨⟨h1, h2⟩, hr⟩ => by
    have ih := findNow_s s (i + 1) hr
    unfold Instr.findNow locP
    rw [h1]
    by_cases h : s = p.1
    · rw [if_pos h]
      have : (s == p.1) = true := by rw [beq_ba]; exact decide_eq_true h
      simp [Instr.sameNow, this, h2]
    · rw [if_neg h]
      have : (s == p.1) = false := by rw [beq_ba]; exact decide_eq_false h
      simp [Instr.sameNow, this, ih]
  | [], _ :: _, _, h => h.elim
  | _ :: _, [], _, h => h.elim
section
variable {P : Program} {K : TypeId}
theorem findKey_s (hK : P.underlying K = some .string) (s : ByteArray) (w : World) {es : List MapEntry} {ps : List (ByteArray × Value)} (h : Prs es ps) : (Instr.findKey K (.string s) es).run P w = .ok (locP s ps 0) w := by
  unfold Instr.findKey
  simp only [run_underlying hK, Sem.run_bind, Result.andThen_ok, findNow_s s 0 h]
  rfl
theorem check_n (hK : P.underlying K = some .string) (b : Bool) (s : ByteArray) (w : World) (d : Nat) : (Instr.checkKey b (d + 1) K (.string s)).run P w = .ok () w := by
  unfold Instr.checkKey
  simp [run_underlying hK]
theorem check_s (hK : P.underlying K = some .string) (b : Bool) (s : ByteArray) (w : World) : (Instr.checkKey b 10000 K (.string s)).run P w = .ok () w := check_n hK b s w 9999
end
theorem locP_some {s : ByteArray} : ∀ {ps : List (ByteArray × Value)} {i j : Nat} {v : Value}, locP s ps i = some (j, v) → ∃ k, j = i + k ∧ ps[k]? = some (s, v) ∧ ∀ m q, m < k → ps[m]? = some q → s ≠ q.1
  | [], _, _, _, h => by simp [locP] at h
  | p :: ps, i, j, v, h => by
    unfold locP at h
    by_cases hp : s = p.1
    · rw [if_pos hp] at h
      simp only [Option.some.injEq, Prod.mk.injEq] at h
      exact ⟨0, by omega, by simp [hp, ← h.2], fun m q hm => by omega⟩
    · rw [if_neg hp] at h
      obtain ⟨k, h1, h2, h3⟩ := locP_some h
      refine ⟨k + 1, by omega, by simpa using h2, fun m q hm hq => ?_⟩
      cases m with
      | zero => simp at hq; rw [← hq]; exact hp
      | succ m => exact h3 m q (by omega) (by simpa using hq)
theorem locP_shift {s : ByteArray} : ∀ {ps : List (ByteArray × Value)} {i : Nat}, (locP s ps (i + 1)).map (·.2) = (locP s ps i).map (·.2)
  | [], _ => rfl
  | p :: ps, i => by
    unfold locP
    by_cases h : s = p.1
    · rw [if_pos h, if_pos h]; rfl
    · rw [if_neg h, if_neg h]; exact locP_shift
theorem getP_cons {p : ByteArray × Value} {ps : List (ByteArray × Value)} {s : ByteArray} : getP (p :: ps) s = if s = p.1 then some p.2 else getP ps s := by
  unfold getP
  rw [locP]
  by_cases h : s = p.1
  · rw [if_pos h, if_pos h]; rfl
  · rw [if_neg h, if_neg h]; exact locP_shift
theorem getP_snoc {s : ByteArray} {v : Value} : ∀ {ps : List (ByteArray × Value)}, getP ps s = none → ∀ t, getP (ps ++ [(s, v)]) t = if t = s then some v else getP ps t
  | [], _, t => by rw [List.nil_append, getP_cons]
  | p :: ps, h, t => by
    rw [getP_cons] at h
    by_cases hp : s = p.1
    · rw [if_pos hp] at h; cases h
    · rw [if_neg hp] at h
      rw [List.cons_append, getP_cons, getP_cons, getP_snoc h t]
      by_cases ht : t = p.1
      · rw [if_pos ht, if_pos ht, if_neg (fun e => hp (e.symm.trans ht))]
      · rw [if_neg ht, if_neg ht]
theorem getP_set {s : ByteArray} {v : Value} : ∀ {ps : List (ByteArray × Value)} {k : Nat} {u : Value}, ps[k]? = some (s, u) → (∀ m q, m < k → ps[m]? = some q → s ≠ q.1) → ∀ t, getP (ps.set k (s, v)) t = if t = s then some v else getP ps t
  | [], _, _, h, _, _ => by simp at h
  | p :: ps, 0, u, h, _, t => by
    simp at h; subst h
    rw [List.set_cons_zero, getP_cons, getP_cons]
    by_cases ht : t = s
    · rw [if_pos ht, if_pos ht]
    · rw [if_neg ht, if_neg ht, if_neg ht]
  | p :: ps, k + 1, u, h, hm, t => by
    have hp := hm 0 p (by omega) rfl
    rw [List.set_cons_succ, getP_cons, getP_cons, getP_set (by simpa using h) (fun m q hmk hq => hm (m + 1) q (by omega) (by simpa using hq)) t]
    by_cases ht : t = p.1
    · rw [if_pos ht, if_pos ht, if_neg (fun e => hp (e.symm.trans ht))]
    · rw [if_neg ht, if_neg ht]
def SMap (w : World) (r : Nat) (f : ByteArray → Option Value) : Prop := ∃ es clock ps, w.heap[r]? = some (.map es clock) ∧ Prs es.toList ps ∧ ∀ s, getP ps s = f s
theorem SMap.new {w : World} {r : Nat} {c : Nat} (h : w.heap[r]? = some (.map #[] c)) : SMap w r (fun _ => none) := ⟨#[], c, [], h, trivial, fun _ => rfl⟩
theorem SMap.up {w w' : World} {r : Nat} {f : ByteArray → Option Value} (h : SMap w r f) (u : Up w w') : SMap w' r f := by
  obtain ⟨es, c, ps, h1, h2⟩ := h
  exact ⟨es, c, ps, up_ob u h1, h2⟩
theorem SMap.chg {w w' : World} {r b : Nat} {f : ByteArray → Option Value} (h : SMap w r f) (u : Chg w w' b) (hne : r ≠ b) : SMap w' r f := by
  obtain ⟨es, c, ps, h1, h2⟩ := h
  exact ⟨es, c, ps, chg_ob u hne h1, h2⟩
theorem SMap.own {w w' : World} {r : Nat} {q : Option Nat} {f : ByteArray → Option Value} (h : SMap w r f) (u : w.grownBy w' q) (hne : q ≠ some r) : SMap w' r f := by
  obtain ⟨es, c, ps, h1, h2⟩ := h
  exact ⟨es, c, ps, own_ob u hne h1, h2⟩
theorem SMap.to {w : World} {r : Nat} {f g : ByteArray → Option Value} (h : SMap w r f) (e : ∀ s, f s = g s) : SMap w r g := by
  obtain ⟨es, c, ps, h1, h2, h3⟩ := h
  exact ⟨es, c, ps, h1, h2, fun s => (h3 s).trans (e s)⟩
theorem SMap.ob {w : World} {r : Nat} {f : ByteArray → Option Value} (h : SMap w r f) : ∃ es c, w.heap[r]? = some (.map es c) := by
  obtain ⟨es, c, _, h1, _⟩ := h; exact ⟨es, c, h1⟩
section
variable {P : Program} {T K E : TypeId}
theorem SMap.look {w : World} {r : Nat} {f : ByteArray → Option Value} (h : SMap w r f) (hT : P.underlying T = some (.map K E)) (hK : P.underlying K = some .string) {z : Value} (hz : ∀ W, (zeroValue E).run P W = .ok z W) (s : ByteArray) :
    (Instr.lookup T (.map (some r)) (.string s) false).run P w = .ok ((f s).getD z) w := by
  obtain ⟨es, c, ps, h1, h2, h3⟩ := h
  have e := h3 s
  unfold getP at e
  cases hl : locP s ps 0 with
  | none =>
    rw [hl] at e
    simp [Instr.lookup, run_underlying hT, getObj, Sem.run, h1, check_s hK, findKey_s hK s w h2, hl, hz, ← e]
  | some jv =>
    rw [hl] at e
    simp [Instr.lookup, run_underlying hT, getObj, Sem.run, h1, check_s hK, findKey_s hK s w h2, hl, ← e]
theorem SMap.store {w : World} {r : Nat} {f : ByteArray → Option Value} (h : SMap w r f) (hT : P.underlying T = some (.map K E)) (hK : P.underlying K = some .string) (s : ByteArray) (v : Value) :
    ∃ w', (Instr.mapUpdate T (.map (some r)) (.string s) v).run P w = .ok () w' ∧ Chg w w' r ∧ SMap w' r (fun t => if t = s then some v else f t) := by
  obtain ⟨es, c, ps, h1, h2, h3⟩ := h
  have hlt : r < w.heap.size := lt_ob h1
  have e := h3 s
  unfold getP at e
  cases hl : locP s ps 0 with
  | none =>
    rw [hl] at e
    refine ⟨putMap w r (es.push { key := .string s, val := v, born := c }) (c + 1), ?_, putMap_grown w r _ _, ?_⟩
    · simp [Instr.mapUpdate, run_underlying hT, getObj, setObj, Sem.run, h1, check_s hK, findKey_s hK s w h2, hl, putMap]
    · refine ⟨_, _, ps ++ [(s, v)], by show (w.heap.setIfInBounds r _)[r]? = _; rw [Array.getElem?_setIfInBounds_self, if_pos hlt], ?_, ?_⟩
      · rw [Array.toList_push]
        exact Pair.snoc h2 ⟨rfl, rfl⟩
      · intro t
        rw [getP_snoc (by unfold getP; rw [hl]; rfl), h3 t]
  | some jv =>
    obtain ⟨j, u⟩ := jv
    obtain ⟨k, hk, hp, hm⟩ := locP_some hl
    obtain rfl : j = k := by omega
    have hj : j < es.size := by have := (List.getElem?_eq_some_iff.1 hp).1; rw [← Pair.length h2] at this; simpa using this
    obtain ⟨e0, he0⟩ : ∃ e0, es[j]? = some e0 := ⟨_, Array.getElem?_eq_getElem hj⟩
    have he1 : es.toList[j]? = some e0 := by rw [Array.getElem?_toList]; exact he0
    have hkey : e0.key = .string s := (h2.get he1 hp).1
    have hss : (s == s) = true := by rw [beq_ba]; exact decide_eq_true rfl
    have hmod : (es.modify j fun e => { e with key := .string s, val := v }).toList = es.toList.set j { e0 with key := .string s, val := v } := by
      apply List.ext_getElem?
      intro i
      rw [Array.getElem?_toList, Array.getElem?_modify, List.getElem?_set]
      by_cases hi : j = i
      · subst hi
        simp [he0, hj]
        rw [Array.getElem?_eq_getElem hj] at he0
        injection he0 with he0
        rw [he0]
      · simp [hi]
    refine ⟨putMap w r (es.modify j fun e => { e with key := .string s, val := v }) c, ?_, putMap_grown w r _ _, ?_⟩
    · simp [Instr.mapUpdate, run_underlying hT, getObj, setObj, Sem.run, h1, check_s hK, findKey_s hK s w h2, hl, putMap, he0, hkey, Instr.keyThatStays, Instr.sameBits, hss]
    · refine ⟨_, _, ps.set j (s, v), by show (w.heap.setIfInBounds r _)[r]? = _; rw [Array.getElem?_setIfInBounds_self, if_pos hlt], ?_, ?_⟩
      · rw [hmod]
        exact Pair.set h2 ⟨rfl, rfl⟩
      · intro t
        rw [getP_set hp hm t, h3 t]
end
section
variable {ρ : Operand → Value} {P : Program} {w : World} {d : Option Tmp} {ty : TypeId} {pos : String} {af : Array Edge} {g : Option (Nat × Bool)}
theorem r_lookS {T K E : TypeId} {x y : Operand} {r : Nat} {f : ByteArray → Option Value} {s : ByteArray} {z v : Value} (hx : ρ x = .map (some r)) (hy : ρ y = .string s) (h : SMap w r f) (hT : P.underlying T = some (.map K E)) (hK : P.underlying K = some .string) (hz : ∀ W, (zeroValue E).run P W = .ok z W) (hv : (f s).getD z = v) :
    (execOp ρ ⟨d, .lookup T x y false, ty, pos, af, g⟩).run P w = .ok (.value v) w := by
  have := h.look hT hK hz s
  simp [execOp, hx, hy, this, hv]
theorem r_callb {fn : FuncId} {x : Operand} {xs : List Operand} {ats : Array TypeId} {us all : List Value} (hf : ∀ args w, (callFunc fn args).run P w = .ok (.enter fn args) w) (hx : ρ x = .func (.func fn) us.toArray #[]) (ha : us ++ xs.map ρ = all) :
    (execOp ρ ⟨d, .call ⟨.value x, xs.toArray, ats⟩, ty, pos, af, g⟩).run P w = .ok (.enter fn all.toArray) w := by
  subst ha
  simp [execOp, resolve, hx, Deferred.ofValue, invoke, hf]
end
theorem ERow.chgm {T : TypeId} {B base b : Nat} {w w' : World} {v : Value} {L : List EntD} (h : ERow T B base w v L) (c : Chg w w' b) (hn : v.ownBlock ≠ some b) : ERow T B base w' v L := World.ownsRow.kept h c (.inr hn)
theorem ERow.snoc {T : TypeId} {base : Nat} {B : Nat} {w : World} {v : Value} {L : List EntD} (h : ERow T B base w v L) {P : Program} {t ty : TypeId} {i : TypeInfo} {z : Value} (ht : P.underlying t = some (.slice T)) (hi : P.info? T = some i) (hz : i.zero = some z)
    (hsize : i.size = 5) (hby : i.bytes = 48) (hzs : z.cells.size = 5) {b : Nat} {x : EntD} (hb : w.heap[b]? = some (.cells (enC x).toArray T (0, 0))) (hbase : base ≤ w.heap.size) (hlen : L.length ≤ 100000) :
    ∃ v' w', (Builtin.append_ #[t, t] ty #[v, .slice (some ⟨b, 0, none⟩) 1 1]).run P w = .ok v' w' ∧ ERow T B base w' v' (L ++ [x]) ∧ w.grownBy w' v.ownBlock ∧ v' ≠ .slice none 0 0 := by
  obtain ⟨v', w', h1, h2, h3, h4⟩ := run_append_own (P := P) w base t ty T i z 5 48 ht hi hz hsize hby hzs (by decide) v L.length (flatE L) h ⟨b, 0, none⟩ 1 1 (enC x) (by simp [enC])
    (fun j u hj => by
      rw [add_at, Nat.zero_add]
      have : (enC x).toArray[j]? = some u := by simpa using hj
      simp only [World.cell?, hb]; simpa using this) (by intro u hu; simp [enC] at hu; rcases hu with rfl | rfl | rfl | rfl | rfl <;> rfl) (by unfold maxLen; omega) (by omega) hbase
  refine ⟨v', w', h1, ?_, h3, fun e => by have := (h4.1 e).2; omega⟩
  unfold ERow
  rw [flatE_snoc]
  simpa using h2
theorem snE {P : Program} {T : TypeId} {ops : Array Oper} {Q : Exit → Act → World → Prop} {a : Act} {w : World} {J : Act → World → Prop} {d : Option Tmp} {ty : TypeId} {pos : String} {af : Array Edge} {g : Option (Nat × Bool)}
    {B base : Nat} {v : Value} {L : List EntD} {t : TypeId} {s y : Operand} {i : TypeInfo} {z : Value} {b : Nat} {x : EntD}
    (hw : Region.wanted (⟨d, .call ⟨.builtin .append, #[s, y], #[t, t]⟩, ty, pos, af, g⟩ : Oper) (yielded ops a.tmps) = true) (hs : a.eval s = v) (hy : a.eval y = .slice (some ⟨b, 0, none⟩) 1 1)
    (h : ERow T B base w v L) (ht : P.underlying t = some (.slice T)) (hi : P.info? T = some i) (hz : i.zero = some z)
    (hsize : i.size = 5) (hby : i.bytes = 48) (hzs : z.cells.size = 5) (hb : w.heap[b]? = some (.cells (enC x).toArray T (0, 0))) (hbase : base ≤ w.heap.size) (hlen : L.length ≤ 100000)
    (k : ∀ A n c w', n = (L ++ [x]).length → ERow T B base w' (.slice A n c) (L ++ [x]) → w.grownBy w' v.ownBlock → J (a.put d (.slice A n c)) w') : St1 P ops Q ⟨d, .call ⟨.builtin .append, #[s, y], #[t, t]⟩, ty, pos, af, g⟩ J a w := by
  obtain ⟨v', w', h1, h2, h3, h4⟩ := h.snoc (ty := ty) ht hi hz hsize hby hzs hb hbase hlen
  obtain ⟨A, c, rfl⟩ := h2.form
  refine sv hw ?_ (k A _ c w' rfl h2 h3)
  simp [execOp, resolve, invoke, builtin, hs, hy, h1]
theorem ERow.base {T : TypeId} {B base base' : Nat} {w : World} {v : Value} {L : List EntD} (h : ERow T B base w v L) (hb : base' ≤ base) : ERow T B base' w v L := by
  obtain ⟨h1, h2⟩ := h
  refine ⟨h1, ?_⟩
  rcases h2 with hn | ⟨g, cap, cur, hv, hbg, rest⟩
  · exact .inl hn
  · exact .inr ⟨g, cap, cur, hv, Nat.le_trans hb hbg, rest⟩
theorem ERow.ne_old {T : TypeId} {B base b : Nat} {w : World} {v : Value} {L : List EntD} (h : ERow T B base w v L) (e : b < base) : v.ownBlock ≠ some b := fun hh => by have := (h.own _ hh).1; omega
theorem ERow.get {T : TypeId} {B base : Nat} {w : World} {v : Value} {L : List EntD} (h : ERow T B base w v L) {i : Nat} {x : EntD} (hi : L[i]? = some x) :
    ∃ g cap cur, v = .slice (some ⟨g, 0, none⟩) L.length cap ∧ base ≤ g ∧ w.heap[g]? = some (.cells cur T (0, 0)) ∧ (cur.toList.drop (i * 5)).take 5 = enC x := by
  obtain ⟨A, c, rfl⟩ := h.form
  have h' := h
  obtain ⟨h1, ⟨e, h0⟩ | ⟨g, cap, cur, e, hb, hg, _⟩⟩ := h
  · have := (List.getElem?_eq_some_iff.1 hi).1; omega
  · injection e with e1 e2 e3
    subst e1
    obtain ⟨cur', hc1, hc2⟩ := h'.elem hi
    exact ⟨g, c, cur', rfl, hb, hc1, hc2⟩
theorem ERow.le {T : TypeId} {B base : Nat} {w : World} {v : Value} {L : List EntD} (h : ERow T B base w v L) : L.length ≤ 9223372036854775807 := by
  obtain ⟨_, ⟨_, h0⟩ | ⟨g, cap, cur, _, _, _, hc, hm, _⟩⟩ := h
  · omega
  · unfold maxLen at hm; omega
theorem TabIs.up {P : Program} {w w' : World} {name : String} {k : IntKind} {zs : List Int} (h : Lib.TabIs P w name k zs) (u : Up w w') : Lib.TabIs P w' name k zs := by
  unfold Lib.TabIs World.var? at h ⊢
  cases hg : P.globalNamed name with
  | none => simp only [hg, Option.bind_none] at h; cases h
  | some g =>
    simp only [hg, Option.bind_some] at h ⊢
    cases hw : w.heap[g]? with
    | none => rw [hw] at h; cases h
    | some o => rw [up_ob u hw]; rw [hw] at h; exact h
end Go.Proofs.YtefhfoioeoijlaaGreatDoor
set_option linter.unusedVariables false
set_option linter.unusedSimpArgs false
namespace Go.Proofs.YtefhfoioeoijlaaGreatDoor
open Go Go.RowKit Go.Sort
def atE (L : List EntD) (i : Nat) : EntD := L.getD i zeroE
theorem range_atE (L : List EntD) : (List.range L.length).map (atE L) = L := by
  apply List.ext_getElem?
  intro i
  rw [List.getElem?_map]
  by_cases h : i < L.length
  · rw [List.getElem?_range h, List.getElem?_eq_getElem h]
    simp [atE, List.getD_eq_getElem?_getD, List.getElem?_eq_getElem h]
  · rw [List.getElem?_eq_none (by simpa using h), List.getElem?_eq_none (by simpa using h)]; rfl
theorem ent_short {x : Item} {met : List ByteArray} (h : OKI x) : (entOf met x).name.data.toList.length ≤ 100 := by
  rw [ent_name]
  obtain ⟨_, h1, h2, h3, h4, h5⟩ := h
  have i1 := Lib.itoa_length_le x.node.t (by omega) (by omega)
  have i2 := Lib.itoa_length_le x.node.w (by omega) (by omega)
  split
  · simp only [markL, List.length_append, List.length_cons]; omega
  · omega
theorem ents_short {l : List Item} (hc : ∀ x ∈ l, OKI x) : ∀ e ∈ entsI l, e.name.data.toList.length ≤ 100 := fun e he => by
  obtain ⟨k, hk⟩ := List.mem_iff_getElem?.1 he
  obtain ⟨x, hx, rfl⟩ := entsI_at hk
  exact ent_short (hc x (List.mem_of_getElem? hx))
theorem atE_short {E : List EntD} (h : ∀ e ∈ E, e.name.data.toList.length ≤ 100) (i : Nat) : (atE E i).name.data.toList.length ≤ 100 := by
  unfold atE
  rw [List.getD_eq_getElem?_getD]
  cases hi : E[i]? with
  | none => decide
  | some e => exact h e (List.mem_of_getElem? hi)
theorem listed_of {E : List EntD} {D : List Nat} (hN : ∀ e ∈ E, e.name.data.toList.length ≤ 100) (ha : E.Pairwise fun x y => x.name ≠ y.name) (hM : AllSorted (ky 100 (atE E)) E.length D) : Listed E (D.map (atE E)) := by
  obtain ⟨h1, h2⟩ := hM
  refine ⟨?_, List.pairwise_map.2 (h1.imp_of_mem fun {i j} hi hj hl => ?_)⟩
  · have := h2.map (atE E)
    rw [range_atE] at this
    exact this
  · have hi' : i < E.length := List.mem_range.1 (h2.mem_iff.1 hi)
    have hj' : j < E.length := List.mem_range.1 (h2.mem_iff.1 hj)
    rcases hl with hl | ⟨hl, hij⟩
    · have hc : codeN 100 (atE E i).name.data.toList < codeN 100 (atE E j).name.data.toList := by
        unfold ltS ky keyE at hl
        simp only [decide_eq_true_eq] at hl
        omega
      exact (code_less 100 _ _ (atE_short hN i) (atE_short hN j)).2 hc
    · exfalso
      have hc : codeN 100 (atE E i).name.data.toList = codeN 100 (atE E j).name.data.toList := by
        unfold ky keyE at hl
        simp only [Stamp.mk.injEq, and_true] at hl
        omega
      have he := ba_ext (code_inj (atE_short hN i) (atE_short hN j) hc)
      have := List.pairwise_iff_getElem.1 ha i j hi' hj' hij
      unfold atE at he
      rw [List.getD_eq_getElem?_getD, List.getD_eq_getElem?_getD, List.getElem?_eq_getElem hi', List.getElem?_eq_getElem hj'] at he
      exact this he
end Go.Proofs.YtefhfoioeoijlaaGreatDoor
set_option linter.unusedVariables false
set_option linter.unusedSimpArgs false
namespace Go.Proofs.YtefhfoioeoijlaaGreatDoor
open Go Go.RowKit Go.Sort
def metF (ns : List ByteArray) (s : ByteArray) : Option Value := if metB ns s = true then some (.bool true) else none
theorem metF_get (ns : List ByteArray) (s : ByteArray) : (metF ns s).getD (.bool false) = .bool (metB ns s) := by
  unfold metF; cases metB ns s <;> rfl
theorem metF_nil (l : List Item) : ∀ s, (none : Option Value) = metF (namesI (l.take 0)) s := fun s => by simp [metF, namesI, metB]
theorem metF_next {l : List Item} {k : Nat} {x : Item} (h : l[k]? = some x) : ∀ s, (if s = x.name then some (.bool true) else metF (namesI (l.take k)) s) = metF (namesI (l.take (k + 1))) s := fun s => by
  rw [names_next h]
  unfold metF metB
  rw [List.any_append]
  by_cases e : s = x.name
  · subst e; simp
  · rw [if_neg e]
    have e' : ¬ x.name = s := fun h => e h.symm
    simp only [List.any_cons, List.any_nil, decide_eq_false e', Bool.or_false]
theorem ents_yes {l : List Item} {k dn : Nat} {x : Item} (hx : l[k]? = some x) (hd : x.data.length = dn) (h : metB (namesI (l.take k)) x.name = true) :
    entsI (l.take k) ++ [(⟨x.name ++ markB ⟨x.node.t, x.node.w⟩, ⟨x.node.t, x.node.w⟩, x.dir, (dn : Int)⟩ : EntD)] = entsI (l.take (k + 1)) := by
  rw [entsI_next hx]; unfold entOf; rw [if_pos h, hd]
theorem ents_not {l : List Item} {k dn : Nat} {x : Item} (hx : l[k]? = some x) (hd : x.data.length = dn) (h : metB (namesI (l.take k)) x.name = false) :
    entsI (l.take k) ++ [(⟨x.name, ⟨x.node.t, x.node.w⟩, x.dir, (dn : Int)⟩ : EntD)] = entsI (l.take (k + 1)) := by
  rw [entsI_next hx]; unfold entOf; rw [if_neg (by rw [h]; decide), hd]
theorem mark_size {x : Item} (h : OKI x) : x.name.size + (markB ⟨x.node.t, x.node.w⟩).size ≤ 9223372036854775807 := by
  obtain ⟨_, h1, h2, h3, h4, h5⟩ := h
  have i1 := Lib.itoa_length_le x.node.t (by omega) (by omega)
  have i2 := Lib.itoa_length_le x.node.w (by omega) (by omega)
  have e : (markB ⟨x.node.t, x.node.w⟩).size = (markL x.node).length := by rw [← markB_list]; simp
  rw [e]
  have e2 : x.name.size = x.name.data.toList.length := by simp
  rw [e2]
  simp only [markL, List.length_append, List.length_cons]
  omega
theorem entsI_take {l : List Item} {k : Nat} (h : l.length ≤ k) : entsI (l.take k) = entsI l := by rw [List.take_of_length_le h]
theorem ents_le (l : List Item) (k : Nat) : (entsI (l.take k)).length ≤ l.length := by rw [entsI_len]; exact List.length_take_le' _ _
def kidsO (L : List Item) (n : Stamp) : List Item := if kidK L n = 0 then kidsI n L else []
theorem kidsO_yes {L : List Item} {n : Stamp} (h : kidK L n = 0) : kidsO L n = kidsI n L := by unfold kidsO; rw [if_pos h]
theorem kidsO_no {L : List Item} {n : Stamp} (h : kidK L n ≠ 0) : kidsO L n = [] := by unfold kidsO; rw [if_neg h]
theorem kidK_12 {L : List Item} {n : Stamp} (h : hangsI L 301 n = false) : kidK L n = 12 := by unfold kidK; rw [if_pos h]
theorem kidK_14 {L : List Item} {n : Stamp} (h : hangsI L 301 n = true) (h1 : hasI L n = true) (h2 : (gotI L n).dir = false) : kidK L n = 14 := by unfold kidK; rw [if_neg (by rw [h]; decide), h1, h2]; rfl
theorem kidK_0a {L : List Item} {n : Stamp} (h : hangsI L 301 n = true) (h1 : hasI L n = false) : kidK L n = 0 := by unfold kidK; rw [if_neg (by rw [h]; decide), h1]; rfl
theorem kidK_0b {L : List Item} {n : Stamp} (h : hangsI L 301 n = true) (h1 : hasI L n = true) (h2 : (gotI L n).dir = true) : kidK L n = 0 := by unfold kidK; rw [if_neg (by rw [h]; decide), h1, h2]; rfl
theorem IRow.kidsNo {T : TypeId} {B base : Nat} {w : World} {L : List Item} {n : Stamp} (h : kidK L n ≠ 0) : IRow T B base w (.slice none 0 0) (kidsO L n) := by rw [kidsO_no h]; exact IRow.nil _ _ _ _
theorem IRow.kidsYes {T : TypeId} {B base : Nat} {w : World} {v : Value} {L : List Item} {n : Stamp} (h : IRow T B base w v (kidsI n L)) (hk : kidK L n = 0) : IRow T B base w v (kidsO L n) := by rw [kidsO_yes hk]; exact h
theorem kidsO_ok {L : List Item} (h : Fit L) (n : Stamp) : ∀ x ∈ kidsO L n, OKI x := by
  unfold kidsO; split
  · exact (h.kids n).1
  · simp
theorem kids_300 {L : List Item} (h : Fit L) (n : Stamp) : (kidsI n L).length ≤ 300 := Nat.le_trans (kids_len n L) h.len
theorem kidsO_300 {L : List Item} (h : Fit L) (n : Stamp) : (kidsO L n).length ≤ 300 := by
  unfold kidsO; split
  · exact kids_300 h n
  · simp
theorem kidsO_apart {L : List Item} (h : Fit L) (n : Stamp) : (entsI (kidsO L n)).Pairwise fun x y => x.name ≠ y.name := by
  unfold kidsO; split
  · exact h.apart n
  · exact List.Pairwise.nil
theorem find_hit {L : List Item} {n : Stamp} {D : List EntD} {k : Nat} {y : EntD} {s : ByteArray} (hF : Fit L) (hk : kidK L n = 0) (hL : Listed (entsI (kidsI n L)) D) (hy : D[k]? = some y) (e : y.name = s) : findE L n s = y ∧ findK L n s = 0 := by
  subst e; exact hF.found hk (hL.mem hy)
theorem find_miss {L : List Item} {n : Stamp} {D : List EntD} {s : ByteArray} (hk : kidK L n = 0) (hL : Listed (entsI (kidsI n L)) D) (h : ∀ (j : Nat) (y : EntD), D[j]? = some y → y.name ≠ s) : findE L n s = zeroE ∧ findK L n s = 12 := by
  have hn : lookE L n s = none := by
    unfold lookE
    rw [List.find?_eq_none]
    intro e he
    obtain ⟨j, hj⟩ := List.mem_iff_getElem?.1 (hL.1.mem_iff.2 he)
    simpa using h j e hj
  unfold findE findK
  rw [if_pos hk, if_pos hk, hn]
  exact ⟨rfl, rfl⟩
theorem find_bad {L : List Item} {n : Stamp} {s : ByteArray} (hk : kidK L n ≠ 0) : findE L n s = zeroE ∧ findK L n s = kidK L n := by
  unfold findE findK; rw [if_neg hk, if_neg hk]; exact ⟨rfl, rfl⟩
theorem find_ret {L : List Item} {n : Stamp} {s : ByteArray} {y : EntD} {k : Int} (h : findE L n s = y ∧ findK L n s = k) : Ending.returned (.tuple #[enV y, .int .i64 k]) = .returned (.tuple #[enV (findE L n s), .int .i64 (findK L n s)]) := by rw [h.1, h.2]
theorem shown_no1 {L : List Item} {m : Stamp} (h : hasI L m = false) : shownB L m = ⟨#[]⟩ ∧ shownK L m = 12 := by
  unfold shownB shownK; rw [h]; exact ⟨rfl, rfl⟩
theorem shown_no2 {L : List Item} {m : Stamp} (h : hangsI L 301 m = false) : shownB L m = ⟨#[]⟩ ∧ shownK L m = 12 := by
  unfold shownB shownK; rw [h, Bool.and_false]; exact ⟨rfl, rfl⟩
theorem shown_hit {L : List Item} {m : Stamp} {k : Nat} {y : EntD} (hF : Fit L) (h1 : hasI L m = true) (h2 : hangsI L 301 m = true) (hy : (entsI (kidsI (gotI L m).parent L))[k]? = some y) (e : y.node = m) : shownB L m = y.name ∧ shownK L m = 0 := by
  have hn : nodeE L m = some y := by
    unfold nodeE
    have := find_one (f := fun e : EntD => e.node) (hF.nodes (gotI L m).parent) (List.mem_of_getElem? hy)
    rw [e] at this; exact this
  unfold shownB shownK
  rw [h1, h2, hn]; exact ⟨rfl, rfl⟩
theorem shown_miss {L : List Item} {m : Stamp} (h : ∀ (j : Nat) (y : EntD), (entsI (kidsI (gotI L m).parent L))[j]? = some y → y.node ≠ m) : shownB L m = ⟨#[]⟩ ∧ shownK L m = 12 := by
  have hn : nodeE L m = none := by
    unfold nodeE
    rw [List.find?_eq_none]
    intro e he
    obtain ⟨j, hj⟩ := List.mem_iff_getElem?.1 he
    simpa using h j e hj
  unfold shownB shownK
  rw [hn]; split <;> exact ⟨rfl, rfl⟩
theorem shown_ret {L : List Item} {m : Stamp} {b : ByteArray} {k : Int} (h : shownB L m = b ∧ shownK L m = k) : Ending.returned (.tuple #[.string b, .int .i64 k]) = .returned (.tuple #[.string (shownB L m), .int .i64 (shownK L m)]) := by rw [h.1, h.2]
theorem none_next {α : Type} {D : List α} {k : Nat} {x : α} {p : α → Prop} (h : Hid (∀ (j : Nat) (y : α), j < k → D[j]? = some y → ¬ p y)) (hx : D[k]? = some x) (hp : ¬ p x) : Hid (∀ (j : Nat) (y : α), j < k + 1 → D[j]? = some y → ¬ p y) := fun j y hj hy => by
  rcases Nat.lt_or_ge j k with h1 | h1
  · exact h.out j y h1 hy
  · obtain rfl : j = k := by omega
    rw [hx] at hy; injection hy with hy; subst hy; exact hp
theorem none_end {α : Type} {D : List α} {k : Nat} {p : α → Prop} (h : Hid (∀ (j : Nat) (y : α), j < k → D[j]? = some y → ¬ p y)) (hk : D.length ≤ k) : ∀ (j : Nat) (y : α), D[j]? = some y → ¬ p y := fun j y hy => h.out j y (by have := (List.getElem?_eq_some_iff.1 hy).1; omega) hy
end Go.Proofs.YtefhfoioeoijlaaGreatDoor
set_option linter.unusedVariables false
set_option linter.unusedSimpArgs false
namespace Go.Proofs.YtefhfoioeoijlaaGreatDoor
open Go Go.RowKit Go.Sort
abbrev Tab (w : World) : Prop := Lib.TabIs Tryz.prog w "internal/strconv.uint64pow10" .u64 Lib.pow10Tab
theorem fmt_at {w : World} (htab : Tab w) (n : Int) (h0 : -9223372036854775808 ≤ n) (h1 : n ≤ 9223372036854775807) : Calls Tryz.prog 94 #[.int .i64 n, .int .i64 10] w fun e w' => e = .returned (.string ⟨(Lib.itoa n).toArray⟩) ∧ Up w w' := by
  refine (Tryz.strconv_FormatInt_10 n h0 h1 w htab).mono ?_
  rintro e w' ⟨rfl, k, os, rfl⟩
  exact ⟨rfl, Ups.below ⟨k, os, rfl⟩⟩
theorem itoa_at {w : World} (htab : Tab w) (n : Int) (h0 : -9223372036854775808 ≤ n) (h1 : n ≤ 9223372036854775807) : Calls Tryz.prog 95 #[.int .i64 n] w fun e w' => e = .returned (.string ⟨(Lib.itoa n).toArray⟩) ∧ Up w w' := by
  refine (Tryz.strconv_Itoa n h0 h1 w htab).mono ?_
  rintro e w' ⟨rfl, k, os, rfl⟩
  exact ⟨rfl, Ups.below ⟨k, os, rfl⟩⟩
theorem itoa_size {n : Int} (h0 : -9223372036854775808 ≤ n) (h1 : n ≤ 9223372036854775807) : (⟨(Lib.itoa n).toArray⟩ : ByteArray).size ≤ 21 := by
  have := Lib.itoa_length_le n h0 h1
  simpa [ByteArray.size] using this
theorem info_ent : ∃ i z, Tryz.prog.info? 35 = some i ∧ i.zero = some z ∧ i.size = 5 ∧ i.bytes = 48 ∧ z.cells.size = 5 := by
  have h : (Tryz.prog.info? 35).map (fun i => (i.zero.map (·.cells.size), i.size, i.bytes)) = some (some 5, 5, 48) := by kernel_rfl
  cases hi : Tryz.prog.info? 35 with
  | none => rw [hi] at h; cases h
  | some i =>
    rw [hi] at h; simp at h
    obtain ⟨⟨z, hz, h1⟩, h2, h3⟩ := h
    exact ⟨i, z, rfl, hz, h2, h3, h1⟩
theorem sortE_at {B base : Nat} {w : World} {v : Value} {E : List EntD} (h : ERow 35 B base w v E) (hBb : B ≤ base) (hn : E.length ≤ 1000000) (hN : ∀ e ∈ E, e.name.data.toList.length ≤ 100) (ha : E.Pairwise fun x y => x.name ≠ y.name) :
    Calls Tryz.prog 59 #[v, .func (.func 60) #[] #[]] w fun e w' => ∃ D, e = .returned (.tuple #[]) ∧ ERow 35 B base w' v D ∧ Listed E D ∧ w.grownBy w' v.ownBlock := by
  obtain ⟨A, c, rfl⟩ := h.form
  have h' := h
  obtain ⟨h1, ⟨e, h0⟩ | ⟨g, cap, cur, e, _⟩⟩ := h'
  · have hE : E = [] := List.length_eq_zero_iff.1 h0
    subst hE
    injection e with e1 e2 e3
    subst e1 e3
    refine (sortNil_at (w := w)).mono ?_
    rintro e w' ⟨rfl, u⟩
    exact ⟨[], rfl, ERow.nil _ _ _ _, ⟨List.Perm.refl _, List.Pairwise.nil⟩, ⟨u.os, u.tape, u.output, u.size, fun k hk _ => u.block k hk⟩⟩
  · injection e with e1 e2 e3
    subst e1 e3
    have h2 : ERow 35 B base w (.slice (some ⟨g, 0, none⟩) E.length c) ((List.range E.length).map (atE E)) := by rw [range_atE]; exact h
    refine (sortStable_atE (NN := 100) h2 hBb hn (fun i => atE_short hN i)).mono ?_
    rintro e w' ⟨D, rfl, hr, hM, hC⟩
    exact ⟨_, rfl, hr, listed_of hN ha hM, hC⟩
end Go.Proofs.YtefhfoioeoijlaaGreatDoor
set_option linter.unusedVariables false
set_option linter.unusedSimpArgs false
namespace Go.Proofs.YtefhfoioeoijlaaGreatDoor
open Go Go.RowKit Go.Sort
set_option maxHeartbeats 2000000 in
theorem kids1_at {w : World} (x : Item) (xA : Option Addr) (xn xc kb : Nat) (m1 m2 : Int) (hkb : w.heap[kb]? = some (.cells #[.int .i64 m1, .int .i64 m2] 24 (0, 0))) : Calls Tryz.prog 98 #[itV x (.slice xA xn xc), .pointer (some ⟨kb, 0, none⟩)] w fun e w' => e = .returned (.bool (decide (x.parent = ⟨m1, m2⟩) && !x.gone)) ∧ Up w w' := by
  go_enter Tryz.func98, Tryz.ntmps98
  refine wp_seq (rg_lit ?_)
  refine wl (sn rfl (cs := (itC x (.slice xA xn xc)).toArray) (T := 42) (V := fun b => .pointer (some ⟨b, 0, none⟩)) (r_box (v := itV x (.slice xA xn xc)) (by kernel_rfl) rfl) ?_)
  intro b1 w2 e3 h4 u5
  have l6 : kb < b1 := by rw [e3]; exact lt_ob hkb
  have g7 : w.heap.size ≤ b1 := by rw [e3]; exact (Mod.refl [] w).size
  have M8 := Mod.trans (Mod.refl [] w) (Mod.of_up u5)
  refine was (v := .bool false) ?_
  refine wnil (then_n (wp_seq (rg_lit ?_)))
  refine wl (sv rfl (v := .pointer (some ⟨b1, 2, none⟩)) (r_fieldAddr (u := .pointer (some ⟨b1, 0, none⟩)) (by kernel_rfl) (fun _ => (by kernel_rfl))) ?_)
  refine wl (sv rfl (v := .agg #[.int .i64 x.parent.t, .int .i64 x.parent.w]) (r_loads (k := 2) (by kernel_rfl) Ty.ag24 Ty.sz24 h4 (by kernel_rfl)) ?_)
  have h9 := md_ob M8 nin0 hkb
  refine wl (sv rfl (v := .agg #[.int .i64 m1, .int .i64 m2]) (r_loads (k := 0) (by kernel_rfl) Ty.ag24 Ty.sz24 h9 (by kernel_rfl)) ?_)
  refine wl (sb rfl (r_eqS (a := x.parent.t) (b := x.parent.w) (c := m1) (e := m2) (by kernel_rfl) (by kernel_rfl)) ?_)
  intro b10 k11
  refine wmv (v := .bool b10) ?_
  refine bcase b10 (fun v12 => ?_) (fun v12 => ?_)
  ·
   have p13 := of_decide_eq_false (k11.trans v12)
   refine wl (sp (wf (b := b10) rfl (by kernel_rfl) v12) ?_)
   refine wl (sp (wf (b := b10) rfl (by kernel_rfl) v12) ?_)
   refine wl (sp (wf (b := b10) rfl (by kernel_rfl) v12) ?_)
   refine wl (sv rfl (v := .bool false) (r_pkF (ebool (b := b10) (by kernel_rfl) v12) (by kernel_rfl)) ?_)
   refine was (v := .bool false) ?_
   refine wnil (then_n (wp_ret ?_))
   refine bodyPost_ret (v := .bool false) (res1 rfl (rv_t (by kernel_rfl))) (by kernel_rfl) ?_
   have f14 : ¬ (x.parent = ⟨m1, m2⟩) := p13
   exact ⟨by simp [f14], (Mod.up M8)⟩
  have p13 := of_decide_eq_true (k11.trans v12)
  refine wl (sv (wt (b := b10) rfl (by kernel_rfl) v12) (v := .pointer (some ⟨b1, 6, none⟩)) (r_fieldAddr (u := .pointer (some ⟨b1, 0, none⟩)) (by kernel_rfl) (fun _ => (by kernel_rfl))) ?_)
  refine wl (sv (wt (b := b10) rfl (by kernel_rfl) v12) (v := .bool x.gone) (r_load (k := 6) (by kernel_rfl) Ty.ag4 h4 (by kernel_rfl)) ?_)
  refine wl (sv (wt (b := b10) rfl (by kernel_rfl) v12) (v := .bool (!x.gone)) (r_not (b := x.gone) (by kernel_rfl)) ?_)
  refine wl (sv rfl (v := .bool (!x.gone)) (r_pkT (ebool (b := b10) (by kernel_rfl) v12) (by kernel_rfl)) ?_)
  refine was (v := .bool (!x.gone)) ?_
  refine wnil (then_n (wp_ret ?_))
  refine bodyPost_ret (v := .bool (!x.gone)) (res1 rfl (rv_t (by kernel_rfl))) (by kernel_rfl) ?_
  have f14 : (x.parent = ⟨m1, m2⟩) := p13
  exact ⟨by simp [f14], (Mod.up M8)⟩
set_option maxHeartbeats 2000000 in
theorem some_kids_at {B : Nat} {w : World} {tb r : Nat} {L : List Item} (h : TreeIs B w tb r L) (hB : B ≤ w.heap.size) (kb : Nat) (m1 m2 : Int) (hkb : w.heap[kb]? = some (.cells #[.int .i64 m1, .int .i64 m2] 24 (0, 0))) :
    Calls Tryz.prog 97 #[trP tb, .func (.func 98) #[] #[.pointer (some ⟨kb, 0, none⟩)]] w fun e w' => ∃ v, e = .returned v ∧ IRow 42 B w.heap.size w' v (kidsI ⟨m1, m2⟩ L) ∧ Up w w' := by
  have hsrt := h.2.2.2.1.srt
  obtain ⟨hr_es, hr_cl, hr_xs, hr, _⟩ := h.2.2.2.1
  have hL := h.2.2.2.2
  obtain ⟨ii_p, iz_p, hi_p, hz_p, hs_p, hb_p, hc_p⟩ := info_item
  go_enter Tryz.func97, Tryz.ntmps97
  refine wp_seq (rg_lit ?_)
  refine was (v := .slice none 0 0) ?_
  refine wnil (then_n (wp_seq (wp_seq (rg_lit ?_))))
  refine wmv (v := .pointer (some ⟨tb, 0, none⟩)) ?_
  refine wl (sv (w' := w) rfl (v := .bool false) (by kernel_rfl) ?_)
  refine wnil (then_n ?_)
  refine wp_cond_false (by kernel_rfl) ?_
  refine wp_skip (then_n (wp_seq (wp_seq (rg_lit ?_))))
  refine wmv (v := .pointer (some ⟨tb, 0, none⟩)) ?_
  refine wl (sv rfl (v := .pointer (some ⟨tb, 0, none⟩)) (r_nilCheck (by kernel_rfl)) ?_)
  refine wl (sv rfl (v := .pointer (some ⟨tb, 0, none⟩)) (r_fieldAddr (u := .pointer (some ⟨tb, 0, none⟩)) (by kernel_rfl) (fun _ => (by kernel_rfl))) ?_)
  refine wl (sv rfl (v := .map (some r)) (r_load (k := 0) (by kernel_rfl) Ty.ag106 h.1 (by kernel_rfl)) ?_)
  refine wl (sc rfl (r_callv (caps := []) (all := [.map (some r)]) En.f149 (by kernel_rfl) (by kernel_rfl)) (mkeys_at r) ?_)
  rintro e w1 ⟨b2, rfl, h3, u4⟩
  refine ⟨.func (.func 180) #[] #[.pointer (some ⟨b2, 0, none⟩)], rfl, ?_⟩
  have M5 := Mod.trans (Mod.refl [] w) (Mod.of_up u4)
  have h6 := (TreeIs.up h (Mod.up M5))
  refine wl (sc rfl (r_callv (caps := []) (all := [.func (.func 180) #[] #[.pointer (some ⟨b2, 0, none⟩)], .func (.func 137) #[] #[]]) En.f135 (by kernel_rfl) (by kernel_rfl)) (sorted_sl h6 h3) ?_)
  rintro e w7 ⟨A8, c9, rfl, h10, u11⟩
  refine ⟨.slice A8 L.length c9, rfl, ?_⟩
  have M12 := Mod.trans M5 (Mod.of_up u11)
  refine wl (sv rfl (v := .int .i64 (L.length : Int)) (r_len Ty.un95 (ad := A8) (n := L.length) (c := c9) (by kernel_rfl)) ?_)
  refine wmv (v := .int .i64 0) ?_
  refine wnil (then_n (wp_block ?_))
  have h13 := md_ob M12 nin0 h.1
  have h14 := md_ob M12 nin0 hr
  have h15 := md_ob M12 nin0 hkb
  have h16 := (TreeIs.up h (Mod.up M12))
  have h17 := ((Below.cell u11 (World.block_lt_of_cell? _ _ h3)).trans h3)
  refine lp (fun n a r1 => ∃ (k : Nat) (oA : Option Addr) (on : Nat) (oc : Nat) (z6 z7 z18 z19 z20 z21 z22 z23 z24 z25 z26 z27 z28 z29 z30 z31 z32 z33 z34 z35 : Value), (n = L.length - k) ∧ (a = ⟨#[.pointer (some ⟨tb, 0, none⟩), .func (.func 98) #[] #[.pointer (some ⟨kb, 0, none⟩)], undef, undef, .slice oA on oc, undef, z6, z7, .pointer (some ⟨tb, 0, none⟩), .bool false, .pointer (some ⟨tb, 0, none⟩), .pointer (some ⟨tb, 0, none⟩), .pointer (some ⟨tb, 0, none⟩), .map (some r), .func (.func 180) #[] #[.pointer (some ⟨b2, 0, none⟩)], .slice A8 L.length c9, .int .i64 (L.length : Int), .int .i64 (k : Int), z18, z19, z20, z21, z22, z23, z24, z25, z26, z27, z28, z29, z30, z31, z32, z33, z34, z35, undef], []⟩) ∧ (Mod [] w7 r1) ∧ (k ≤ L.length) ∧ (IRow 42 B w7.heap.size r1 (.slice oA on oc) (kidsI ⟨m1, m2⟩ (L.take k)))) ⟨_, 0, none, 0, 0, undef, undef, undef, undef, undef, undef, undef, undef, undef, undef, undef, undef, undef, undef, undef, undef, undef, undef, undef, undef, rfl, (by kernel_rfl), Mod.refl _ _, Nat.zero_le _, IRow.nil _ _ _ _⟩ ?_
  rintro _ _ r1 ⟨k, oA, on, oc, z6, z7, z18, z19, z20, z21, z22, z23, z24, z25, z26, z27, z28, z29, z30, z31, z32, z33, z34, z35, rfl, rfl, hM1, hF1_0, hF1_1⟩
  have M18 := Mod.thin M12 hM1 (by simp)
  refine wp_seq (rg_lit ?_)
  refine wl (sb rfl (r_lt (k := .i64) (m := (k : Int)) (n := (L.length : Int)) (by kernel_rfl) (by kernel_rfl)) ?_)
  intro b19 k20
  refine wnil (then_n (wp_seq ?_))
  refine bcase b19 (fun v21 => ?_) (fun v21 => ?_)
  ·
   have p22 := of_decide_eq_false (k20.trans v21)
   refine wp_cond_false (ebool (b := b19) (by kernel_rfl) v21) ?_
   refine wp_exit (then_x (by nofun) (then_x (by nofun) (inb_hit (then_n (wp_seq (rg_lit ?_))))))
   refine wmv (v := .slice oA on oc) ?_
   refine was (v := .slice oA on oc) ?_
   refine wnil (then_n (wp_ret ?_))
   refine bodyPost_ret (v := .slice oA on oc) (res1 rfl (rv_t (by kernel_rfl))) (by kernel_rfl) ?_
   refine ⟨_, rfl, ?_, (Mod.up M18)⟩
   have hk : L.take k = L := List.take_of_length_le (by omega)
   rw [hk] at hF1_1; exact IRow.base hF1_1 M12.size
  have p22 := of_decide_eq_true (k20.trans v21)
  have q23 : k < L.length := by omega
  have q24 : k < L.length := by omega
  refine wp_cond_true (ebool (b := b19) (by kernel_rfl) v21) ?_
  refine wp_skip (then_n (wp_seq (wp_block (wp_seq (rg_lit ?_)))))
  have h25 := (SRow.up h10 (Mod.up hM1))
  obtain ⟨x26, hx26⟩ : ∃ x, L[k]? = some x := ⟨_, List.getElem?_eq_getElem q24⟩
  obtain ⟨g26, hA26, hl26, hc26, hd26⟩ := SRow.item h25 hx26
  refine wl (sv rfl (v := .pointer (some ⟨g26, k * 2, none⟩)) (r_ixaddr' (A := A8) (b := g26) (o := 0) (n := L.length) (c := c9) (sz := 2) (j := (k : Int)) (m := k * 2) (by kernel_rfl) hA26 (by kernel_rfl) Ty.un95 Ty.sz24 (by omega) (by omega) (by simp)) ?_)
  refine wl (sv rfl (v := .agg #[.int .i64 x26.node.t, .int .i64 x26.node.w]) (r_loadc2 (by kernel_rfl) Ty.ag24 Ty.sz24 hc26 hd26) ?_)
  refine wl (sn rfl (cs := #[.int .i64 0, .int .i64 0]) (T := 24) (V := fun b => .pointer (some ⟨b, 0, none⟩)) (r_alloc Ty.zv24 rfl) ?_)
  intro b27 w28 e29 h30 u31
  have h32 := md_ob M18 nin0 h.1
  have l33 : tb < b27 := by rw [e29]; exact lt_ob h32
  have h34 := md_ob M18 nin0 hr
  have l35 : r < b27 := by rw [e29]; exact lt_ob h34
  have h36 := md_ob M18 nin0 hkb
  have l37 : kb < b27 := by rw [e29]; exact lt_ob h36
  have n38 := hF1_1.ne_fresh e29
  have g39 : w.heap.size ≤ b27 := by rw [e29]; exact M18.size
  have g40 : w7.heap.size ≤ b27 := by rw [e29]; exact hM1.size
  have M41 := Mod.trans M18 (Mod.of_up u31)
  have M42 := Mod.trans hM1 (Mod.of_up u31)
  refine wl (ss rfl (k := 0) (v := .agg #[.int .i64 x26.node.t, .int .i64 x26.node.w]) (vs := [.int .i64 x26.node.t, .int .i64 x26.node.w]) (cs' := [.int .i64 x26.node.t, .int .i64 x26.node.w]) (by kernel_rfl) (by kernel_rfl) rfl Ty.sz24 h30 rfl (Nat.le_of_ble_eq_true rfl) rfl ?_)
  intro w43 h44 c45
  have M46 := Mod.trans' M41 c45 (fun i hi => by injection hi with hi; rw [← hi]; exact g39)
  have M47 := Mod.trans' M42 c45 (fun i hi => by injection hi with hi; rw [← hi]; exact g40)
  refine wnil (then_n (wp_seq ?_))
  refine rg_held [] (n := 8) (by kernel_rfl) rfl ?_
  intro w48 u49
  have M50 := Mod.trans M46 (Mod.of_up u49)
  have M51 := Mod.trans M47 (Mod.of_up u49)
  refine hvq (i := 0) (fuel := 7) rfl (fun _ _ _ h => h) (Mod.refl _ _) rfl (v := .pointer (some ⟨tb, 0, none⟩)) (fun _ _ => r_move (by kernel_rfl)) ?_
  refine hvq (i := 1) (fuel := 6) rfl (fun _ _ _ h => h) (Mod.refl _ _) rfl (v := .pointer (some ⟨tb, 0, none⟩)) (fun _ _ => r_nilCheck (by kernel_rfl)) ?_
  refine hvq (i := 2) (fuel := 5) rfl (fun _ _ _ h => h) (Mod.refl _ _) rfl (v := .pointer (some ⟨tb, 0, none⟩)) (fun _ _ => r_fieldAddr (u := .pointer (some ⟨tb, 0, none⟩)) (by kernel_rfl) (fun _ => (by kernel_rfl))) ?_
  have h52 := md_ob M50 nin0 h.1
  refine hvq (i := 3) (fuel := 4) rfl (fun _ _ _ h => h) (Mod.refl _ _) rfl (v := .map (some r)) (fun _ uz => r_load (k := 0) (by kernel_rfl) Ty.ag106 (md_ob uz nin0 h52) (by kernel_rfl)) ?_
  have h53 := (up_ob u49 h44)
  refine hvq (i := 4) (fuel := 3) rfl (fun _ _ _ h => h) (Mod.refl _ _) rfl (v := .agg #[.int .i64 x26.node.t, .int .i64 x26.node.w]) (fun _ uz => r_loads (k := 0) (by kernel_rfl) Ty.ag24 Ty.sz24 (md_ob uz nin0 h53) (by kernel_rfl)) ?_
  have h54 := (TreeIs.up h (Mod.up M50))
  obtain ⟨d55, hd55, hl55⟩ := h54.2.2.2.1.look ⟨x26.node.t, x26.node.w⟩
  have hg55 : gotI L ⟨x26.node.t, x26.node.w⟩ = x26 := gotI_idx hsrt hx26
  rw [hg55] at hd55 hl55
  obtain ⟨dA55, dn55, dc55, rfl⟩ := hd55.form
  refine hvq (i := 5) (fuel := 2) rfl (fun _ _ _ h => h) (Mod.refl _ _) rfl (v := itV x26 (.slice dA55 dn55 dc55)) (fun wz uz => r_look (mv := .map (some r)) (kv := .agg #[.int .i64 x26.node.t, .int .i64 x26.node.w]) (by kernel_rfl) (by kernel_rfl) (hl55 wz (uz.block _ h54.2.2.2.1.lt nin0)).2) ?_
  refine h1 (i := 6) (fuel := 1) (by kernel_rfl) rfl (sn rfl (cs := #[.int .i64 0, .int .i64 0, .int .i64 0, .int .i64 0, .string (⟨#[]⟩), .bool false, .bool false, .slice none 0 0, .int .i64 0, .int .i64 0]) (T := 42) (V := fun b => .pointer (some ⟨b, 0, none⟩)) (r_alloc Ty.zv42 rfl) ?_)
  intro b56 w57 e58 h59 u60
  have l61 : tb < b56 := by rw [e58]; exact lt_ob h52
  have h62 := md_ob M50 nin0 hr
  have l63 : r < b56 := by rw [e58]; exact lt_ob h62
  have h64 := md_ob M50 nin0 hkb
  have l65 : kb < b56 := by rw [e58]; exact lt_ob h64
  have l66 : b27 < b56 := by rw [e58]; exact lt_ob h53
  have h67 := (IRow.up (IRow.chgn (IRow.up hF1_1 u31) c45 ⟨(Nat.le_trans hB g39), NotU8.of h30 (by decide)⟩ n38) u49)
  have n68 := h67.ne_fresh e58
  have g69 : w.heap.size ≤ b56 := by rw [e58]; exact M50.size
  have g70 : w7.heap.size ≤ b56 := by rw [e58]; exact M51.size
  have M71 := Mod.trans M50 (Mod.of_up u60)
  have M72 := Mod.trans M51 (Mod.of_up u60)
  refine hx (Y := [b56]) (Mod.of_up u60) (ynew e58) ?_
  refine h1 (i := 7) (fuel := 0) (by kernel_rfl) rfl (ss rfl (k := 0) (v := itV x26 (.slice dA55 dn55 dc55)) (vs := (itC x26 (.slice dA55 dn55 dc55))) (cs' := (itC x26 (.slice dA55 dn55 dc55))) (by kernel_rfl) (by kernel_rfl) rfl Ty.sz42 h59 rfl (Nat.le_of_ble_eq_true rfl) rfl ?_)
  intro w73 h74 c75
  have M76 := Mod.trans' M71 c75 (fun i hi => by injection hi with hi; rw [← hi]; exact g69)
  have M77 := Mod.trans' M72 c75 (fun i hi => by injection hi with hi; rw [← hi]; exact g70)
  refine hx (Y := [b56]) (Mod.of_chg c75 (by simp)) (fun y hy => .inl hy) ?_
  refine hend (by kernel_rfl) ?_
  refine then_n (wp_seq (rg_lit ?_))
  refine wmv (v := .func (.func 98) #[] #[.pointer (some ⟨kb, 0, none⟩)]) ?_
  refine wl (sv rfl (v := itV x26 (.slice dA55 dn55 dc55)) (r_loads (k := 0) (by kernel_rfl) Ty.ag42 Ty.sz42 h74 (by kernel_rfl)) ?_)
  have h78 := md_ob M76 nin0 hkb
  refine wl (sc rfl (r_callv (caps := [.pointer (some ⟨kb, 0, none⟩)]) (all := [itV x26 (.slice dA55 dn55 dc55), .pointer (some ⟨kb, 0, none⟩)]) En.f98 (by kernel_rfl) (by kernel_rfl)) (kids1_at x26 _ _ _ kb m1 m2 h78) ?_)
  rintro e w79 ⟨rfl, u80⟩
  refine ⟨.bool (decide (x26.parent = ⟨m1, m2⟩) && !x26.gone), rfl, ?_⟩
  have M81 := Mod.trans M76 (Mod.of_up u80)
  have M82 := Mod.trans M77 (Mod.of_up u80)
  refine wnil (then_n ?_)
  refine bcase (decide (x26.parent = ⟨m1, m2⟩) && !x26.gone) (fun v83 => ?_) (fun v83 => ?_)
  ·
   refine wp_cond_false (ebool (b := (decide (x26.parent = ⟨m1, m2⟩) && !x26.gone)) (by kernel_rfl) v83) ?_
   refine wp_skip (inb_n (then_n (rg_lit ?_)))
   refine wl (sv rfl (v := .int .i64 ((k : Int) + 1)) (r_add (k := .i64) (m := (k : Int)) (n := 1) (by kernel_rfl) (by kernel_rfl) (IntWalk.i64_in _ (by omega))) ?_)
   refine wmv (v := .int .i64 ((k : Int) + 1)) ?_
   refine wnil (then_n ?_)
   have h84 := (IRow.up (IRow.chgn (IRow.up h67 u60) c75 ⟨(Nat.le_trans hB g69), NotU8.of h59 (by decide)⟩ n68) u80)
   refine ⟨L.length - (k + 1), ?_, (k + 1), oA, on, oc, .pointer (some ⟨b27, 0, none⟩), .pointer (some ⟨b56, 0, none⟩), .bool b19, .pointer (some ⟨g26, k * 2, none⟩), .agg #[.int .i64 x26.node.t, .int .i64 x26.node.w], .pointer (some ⟨tb, 0, none⟩), .pointer (some ⟨tb, 0, none⟩), .pointer (some ⟨tb, 0, none⟩), .map (some r), .agg #[.int .i64 x26.node.t, .int .i64 x26.node.w], itV x26 (.slice dA55 dn55 dc55), .func (.func 98) #[] #[.pointer (some ⟨kb, 0, none⟩)], itV x26 (.slice dA55 dn55 dc55), .bool (decide (x26.parent = ⟨m1, m2⟩) && !x26.gone), z30, z31, z32, z33, z34, .int .i64 ((k : Int) + 1), rfl, (by kernel_rfl), M82, (by omega), (by rw [kid_no hx26 v83]; exact h84)⟩
   · omega
  refine wp_cond_true (ebool (b := (decide (x26.parent = ⟨m1, m2⟩) && !x26.gone)) (by kernel_rfl) v83) ?_
  refine rg_lit ?_
  refine wmv (v := .slice oA on oc) ?_
  have h84 := (up_ob u80 h74)
  refine wl (sv rfl (v := itV x26 (.slice dA55 dn55 dc55)) (r_loads (k := 0) (by kernel_rfl) Ty.ag42 Ty.sz42 h84 (by kernel_rfl)) ?_)
  have h85 := (Dat.up (Dat.chg (Dat.up hd55 u60) c75 ⟨(Nat.le_trans hB g69), NotU8.of h59 (by decide)⟩) u80)
  refine wl (sc rfl (r_callv (caps := []) (all := [itV x26 (.slice dA55 dn55 dc55)]) En.f65 (by kernel_rfl) (by kernel_rfl)) (own_sl (Nat.le_trans hB M81.size) h85) ?_)
  rintro e w86 ⟨A87, n88, c89, rfl, h90, u91⟩
  refine ⟨itV x26 (.slice A87 n88 c89), rfl, ?_⟩
  have M92 := Mod.trans M81 (Mod.of_up u91)
  have M93 := Mod.trans M82 (Mod.of_up u91)
  refine wl (sn rfl (cs := (itC x26 (.slice A87 n88 c89)).toArray) (T := 42) (V := fun b => .slice (some ⟨b, 0, none⟩) 1 1) (r_buildSlice (n := 1) (ps := [(0, itV x26 (.slice A87 n88 c89))]) Ty.un74 Ty.sz42 Ty.zv42 (by decide) (by decide) (by kernel_rfl) (by kernel_rfl)) ?_)
  intro b94 w95 e96 h97 u98
  have h99 := md_ob M92 nin0 h.1
  have l100 : tb < b94 := by rw [e96]; exact lt_ob h99
  have h101 := md_ob M92 nin0 hr
  have l102 : r < b94 := by rw [e96]; exact lt_ob h101
  have h103 := md_ob M92 nin0 hkb
  have l104 : kb < b94 := by rw [e96]; exact lt_ob h103
  have h105 := (up_ob u91 (up_ob u80 (chg_ob c75 (Nat.ne_of_lt l66) (up_ob u60 h53))))
  have l106 : b27 < b94 := by rw [e96]; exact lt_ob h105
  have h107 := (up_ob u91 h84)
  have l108 : b56 < b94 := by rw [e96]; exact lt_ob h107
  have h109 := (IRow.up (IRow.up (IRow.chgn (IRow.up h67 u60) c75 ⟨(Nat.le_trans hB g69), NotU8.of h59 (by decide)⟩ n68) u80) u91)
  have n110 := h109.ne_fresh e96
  have g111 : w.heap.size ≤ b94 := by rw [e96]; exact M92.size
  have g112 : w7.heap.size ≤ b94 := by rw [e96]; exact M93.size
  have M113 := Mod.trans M92 (Mod.of_up u98)
  have M114 := Mod.trans M93 (Mod.of_up u98)
  have h115 := (IRow.up h109 u98)
  have h116 := (Dat.up h90 u98)
  refine wl (snI rfl (L := (kidsI ⟨m1, m2⟩ (L.take k))) (x := x26) (e := .slice A87 n88 c89) (by kernel_rfl) (by kernel_rfl) h115 Ty.un74 hi_p hz_p hs_p hb_p hc_p h97 h116 (by decide) (Nat.le_trans hB M12.size) M114.size (by have := kids_len ⟨m1, m2⟩ (L.take k); simp at this; omega) ?_)
  intro A117 n118 c119 w120 e121 h122 u123
  have M124 := Mod.trans' M113 u123 (fun k hk => Nat.le_trans M12.size (h115.own k hk).1)
  have M125 := Mod.trans' M114 u123 (fun k hk => Nat.le_trans (Nat.le_refl _) (h115.own k hk).1)
  refine was (v := .slice A117 n118 c119) ?_
  refine wnil (inb_n (then_n (rg_lit ?_)))
  refine wl (sv rfl (v := .int .i64 ((k : Int) + 1)) (r_add (k := .i64) (m := (k : Int)) (n := 1) (by kernel_rfl) (by kernel_rfl) (IntWalk.i64_in _ (by omega))) ?_)
  refine wmv (v := .int .i64 ((k : Int) + 1)) ?_
  refine wnil (then_n ?_)
  refine ⟨L.length - (k + 1), ?_, (k + 1), A117, n118, c119, .pointer (some ⟨b27, 0, none⟩), .pointer (some ⟨b56, 0, none⟩), .bool b19, .pointer (some ⟨g26, k * 2, none⟩), .agg #[.int .i64 x26.node.t, .int .i64 x26.node.w], .pointer (some ⟨tb, 0, none⟩), .pointer (some ⟨tb, 0, none⟩), .pointer (some ⟨tb, 0, none⟩), .map (some r), .agg #[.int .i64 x26.node.t, .int .i64 x26.node.w], itV x26 (.slice dA55 dn55 dc55), .func (.func 98) #[] #[.pointer (some ⟨kb, 0, none⟩)], itV x26 (.slice dA55 dn55 dc55), .bool (decide (x26.parent = ⟨m1, m2⟩) && !x26.gone), .slice oA on oc, itV x26 (.slice dA55 dn55 dc55), itV x26 (.slice A87 n88 c89), .slice (some ⟨b94, 0, none⟩) 1 1, .slice A117 n118 c119, .int .i64 ((k : Int) + 1), rfl, (by kernel_rfl), M125, (by omega), (by rw [kid_yes hx26 v83]; exact h122)⟩
  · omega
end Go.Proofs.YtefhfoioeoijlaaGreatDoor
set_option linter.unusedVariables false
set_option linter.unusedSimpArgs false
namespace Go.Proofs.YtefhfoioeoijlaaGreatDoor
open Go Go.RowKit Go.Sort
set_option maxHeartbeats 2000000 in
theorem kids_at {B : Nat} {w : World} {tb r : Nat} {L : List Item} (h : TreeIs B w tb r L) (hB : B ≤ w.heap.size) (m1 m2 : Int) : Calls Tryz.prog 38 #[trP tb, .agg #[.int .i64 m1, .int .i64 m2]] w fun e w' => ∃ v, e = .returned v ∧ IRow 42 B w.heap.size w' v (kidsI ⟨m1, m2⟩ L) ∧ Up w w' := by
  go_enter Tryz.func38, Tryz.ntmps38
  refine wp_seq (rg_lit ?_)
  refine wl (sn rfl (cs := #[.int .i64 m1, .int .i64 m2]) (T := 24) (V := fun b => .pointer (some ⟨b, 0, none⟩)) (r_box (v := .agg #[.int .i64 m1, .int .i64 m2]) (by kernel_rfl) rfl) ?_)
  intro b1 w2 e3 h4 u5
  have l6 : tb < b1 := by rw [e3]; exact lt_ob h.1
  have g7 : w.heap.size ≤ b1 := by rw [e3]; exact (Mod.refl [] w).size
  have M8 := Mod.trans (Mod.refl [] w) (Mod.of_up u5)
  refine was (v := .slice none 0 0) ?_
  refine wnil (then_n (wp_seq (rg_lit ?_)))
  refine wmv (v := .pointer (some ⟨tb, 0, none⟩)) ?_
  refine wl (sv rfl (v := .func (.func 98) #[] #[.pointer (some ⟨b1, 0, none⟩)]) (r_makeFunc (us := []) (vs := [.pointer (some ⟨b1, 0, none⟩)]) rfl (by kernel_rfl)) ?_)
  have h14 := (TreeIs.up h (Mod.up M8))
  refine wl (sc rfl (r_callv (caps := []) (all := [.pointer (some ⟨tb, 0, none⟩), .func (.func 98) #[] #[.pointer (some ⟨b1, 0, none⟩)]]) En.f97 (by kernel_rfl) (by kernel_rfl)) (row_sl (some_kids_at h14 (Nat.le_trans hB M8.size) b1 m1 m2 h4)) ?_)
  rintro e w9 ⟨A10, c11, rfl, h12, u13⟩
  refine ⟨.slice A10 ((kidsI ⟨m1, m2⟩ L).length) c11, rfl, ?_⟩
  have M15 := Mod.trans M8 (Mod.of_up u13)
  refine was (v := .slice A10 ((kidsI ⟨m1, m2⟩ L).length) c11) ?_
  refine wnil (then_n (wp_ret ?_))
  refine bodyPost_ret (v := .slice A10 ((kidsI ⟨m1, m2⟩ L).length) c11) (res1 rfl (rv_t (by kernel_rfl))) (by kernel_rfl) ?_
  exact ⟨_, rfl, IRow.base h12 (by first | exact Nat.le_refl _ | exact M15.size | exact up_sz u5), (Mod.up M15)⟩
end Go.Proofs.YtefhfoioeoijlaaGreatDoor

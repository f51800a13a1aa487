/- SMap, Nm2, Nm3, Ent3, GE, GF, GEK, GFK, GOL -/
import Derived.Lib.LaidTab
import Derived.Test.YtefhfoioeoijlaaGreatDoorUaa
import Derived.Test.YtefhfoioeoijlaaGreatDoorUaf
import Derived.Test.YtefhfoioeoijlaaGreatDoorUah
import Derived.Test.YtefhfoioeoijlaaGreatDoorUak
import Derived.Test.YtefhfoioeoijlaaGreatDoorUao
import Derived.Test.YtefhfoioeoijlaaGreatDoorUap
set_option linter.unusedVariables false
set_option linter.unusedSimpArgs false
namespace Go.Proofs.YtefhfoioeoijlaaGreatDoor
open Go Go.RowKit Go.Sort
theorem beq_ba (a b : ByteArray) : (a == b) = decide (a = b) := by
  obtain ⟨a⟩ := a
  obtain ⟨b⟩ := b
  show (a == b) = _
  by_cases h : a = b
  · subst h; simp
  · have : ¬ (⟨a⟩ : ByteArray) = ⟨b⟩ := fun e => h (by injection e)
    simp [h, this]
def locP (s : ByteArray) : List (ByteArray × Value) → Nat → Option (Nat × Value)
  | [], _ => none
  | p :: ps, i => if s = p.1 then some (i, p.2) else locP s ps (i + 1)
def getP (ps : List (ByteArray × Value)) (s : ByteArray) : Option Value := (locP s ps 0).map (·.2)
def Prs (es : List MapEntry) (ps : List (ByteArray × Value)) : Prop := Pair (fun e p => e.key = .string p.1 ∧ e.val = p.2) es ps
theorem findNow_s (s : ByteArray) : ∀ {es : List MapEntry} {ps : List (ByteArray × Value)} (i : Nat), Prs es ps → Instr.findNow .string (.string s) es i = some (locP s ps i)
  | [], [], _, _ => rfl
  | e :: es, p :: ps, i, ⟨⟨h1, h2⟩, hr⟩ => by
    have ih := findNow_s s (i + 1) hr
    unfold Instr.findNow locP
    rw [h1]
    by_cases h : s = p.1
    · rw [if_pos h]
      have : (s == p.1) = true := by rw [beq_ba]; exact decide_eq_true h
      simp [Instr.sameNow, this, h2]
    · rw [if_neg h]
      have : (s == p.1) = false := by rw [beq_ba]; exact decide_eq_false h
      simp [Instr.sameNow, this, ih]
  | [], _ :: _, _, h => h.elim
  | _ :: _, [], _, h => h.elim
section
variable {P : Program} {K : TypeId}
theorem findKey_s (hK : P.underlying K = some .string) (s : ByteArray) (w : World) {es : List MapEntry} {ps : List (ByteArray × Value)} (h : Prs es ps) : (Instr.findKey K (.string s) es).run P w = .ok (locP s ps 0) w := by
  unfold Instr.findKey
  simp only [run_underlying hK, Sem.run_bind, Result.andThen_ok, findNow_s s 0 h]
  rfl
theorem check_n (hK : P.underlying K = some .string) (b : Bool) (s : ByteArray) (w : World) (d : Nat) : (Instr.checkKey b (d + 1) K (.string s)).run P w = .ok () w := by
  unfold Instr.checkKey
  simp [run_underlying hK]
theorem check_s (hK : P.underlying K = some .string) (b : Bool) (s : ByteArray) (w : World) : (Instr.checkKey b 10000 K (.string s)).run P w = .ok () w := check_n hK b s w 9999
end
theorem locP_some {s : ByteArray} : ∀ {ps : List (ByteArray × Value)} {i j : Nat} {v : Value}, locP s ps i = some (j, v) → ∃ k, j = i + k ∧ ps[k]? = some (s, v) ∧ ∀ m q, m < k → ps[m]? = some q → s ≠ q.1
  | [], _, _, _, h => by simp [locP] at h
  | p :: ps, i, j, v, h => by
    unfold locP at h
    by_cases hp : s = p.1
    · rw [if_pos hp] at h
      simp only [Option.some.injEq, Prod.mk.injEq] at h
      exact ⟨0, by omega, by simp [hp, ← h.2], fun m q hm => by omega⟩
    · rw [if_neg hp] at h
      obtain ⟨k, h1, h2, h3⟩ := locP_some h
      refine ⟨k + 1, by omega, by simpa using h2, fun m q hm hq => ?_⟩
      cases m with
      | zero => simp at hq; rw [← hq]; exact hp
      | succ m => exact h3 m q (by omega) (by simpa using hq)
theorem locP_shift {s : ByteArray} : ∀ {ps : List (ByteArray × Value)} {i : Nat}, (locP s ps (i + 1)).map (·.2) = (locP s ps i).map (·.2)
  | [], _ => rfl
  | p :: ps, i => by
    unfold locP
    by_cases h : s = p.1
    · rw [if_pos h, if_pos h]; rfl
    · rw [if_neg h, if_neg h]; exact locP_shift
theorem getP_cons {p : ByteArray × Value} {ps : List (ByteArray × Value)} {s : ByteArray} : getP (p :: ps) s = if s = p.1 then some p.2 else getP ps s := by
  unfold getP
  rw [locP]
  by_cases h : s = p.1
  · rw [if_pos h, if_pos h]; rfl
  · rw [if_neg h, if_neg h]; exact locP_shift
theorem getP_snoc {s : ByteArray} {v : Value} : ∀ {ps : List (ByteArray × Value)}, getP ps s = none → ∀ t, getP (ps ++ [(s, v)]) t = if t = s then some v else getP ps t
  | [], _, t => by rw [List.nil_append, getP_cons]
  | p :: ps, h, t => by
    rw [getP_cons] at h
    by_cases hp : s = p.1
    · rw [if_pos hp] at h; cases h
    · rw [if_neg hp] at h
      rw [List.cons_append, getP_cons, getP_cons, getP_snoc h t]
      by_cases ht : t = p.1
      · rw [if_pos ht, if_pos ht, if_neg (fun e => hp (e.symm.trans ht))]
      · rw [if_neg ht, if_neg ht]
theorem getP_set {s : ByteArray} {v : Value} : ∀ {ps : List (ByteArray × Value)} {k : Nat} {u : Value}, ps[k]? = some (s, u) → (∀ m q, m < k → ps[m]? = some q → s ≠ q.1) → ∀ t, getP (ps.set k (s, v)) t = if t = s then some v else getP ps t
  | [], _, _, h, _, _ => by simp at h
  | p :: ps, 0, u, h, _, t => by
    simp at h; subst h
    rw [List.set_cons_zero, getP_cons, getP_cons]
    by_cases ht : t = s
    · rw [if_pos ht, if_pos ht]
    · rw [if_neg ht, if_neg ht, if_neg ht]
  | p :: ps, k + 1, u, h, hm, t => by
    have hp := hm 0 p (by omega) rfl
    rw [List.set_cons_succ, getP_cons, getP_cons, getP_set (by simpa using h) (fun m q hmk hq => hm (m + 1) q (by omega) (by simpa using hq)) t]
    by_cases ht : t = p.1
    · rw [if_pos ht, if_pos ht, if_neg (fun e => hp (e.symm.trans ht))]
    · rw [if_neg ht, if_neg ht]
def SMap (w : World) (r : Nat) (f : ByteArray → Option Value) : Prop := ∃ es clock ps, w.heap[r]? = some (.map es clock) ∧ Prs es.toList ps ∧ ∀ s, getP ps s = f s
theorem SMap.new {w : World} {r : Nat} {c : Nat} (h : w.heap[r]? = some (.map #[] c)) : SMap w r (fun _ => none) := ⟨#[], c, [], h, trivial, fun _ => rfl⟩
theorem SMap.up {w w' : World} {r : Nat} {f : ByteArray → Option Value} (h : SMap w r f) (u : Up w w') : SMap w' r f := by
  obtain ⟨es, c, ps, h1, h2⟩ := h
  exact ⟨es, c, ps, up_ob u h1, h2⟩
theorem SMap.chg {w w' : World} {r b : Nat} {f : ByteArray → Option Value} (h : SMap w r f) (u : Chg w w' b) (hne : r ≠ b) : SMap w' r f := by
  obtain ⟨es, c, ps, h1, h2⟩ := h
  exact ⟨es, c, ps, chg_ob u hne h1, h2⟩
theorem SMap.own {w w' : World} {r : Nat} {q : Option Nat} {f : ByteArray → Option Value} (h : SMap w r f) (u : w.grownBy w' q) (hne : q ≠ some r) : SMap w' r f := by
  obtain ⟨es, c, ps, h1, h2⟩ := h
  exact ⟨es, c, ps, own_ob u hne h1, h2⟩
theorem SMap.to {w : World} {r : Nat} {f g : ByteArray → Option Value} (h : SMap w r f) (e : ∀ s, f s = g s) : SMap w r g := by
  obtain ⟨es, c, ps, h1, h2, h3⟩ := h
  exact ⟨es, c, ps, h1, h2, fun s => (h3 s).trans (e s)⟩
theorem SMap.ob {w : World} {r : Nat} {f : ByteArray → Option Value} (h : SMap w r f) : ∃ es c, w.heap[r]? = some (.map es c) := by
  obtain ⟨es, c, _, h1, _⟩ := h; exact ⟨es, c, h1⟩
section
variable {P : Program} {T K E : TypeId}
theorem SMap.look {w : World} {r : Nat} {f : ByteArray → Option Value} (h : SMap w r f) (hT : P.underlying T = some (.map K E)) (hK : P.underlying K = some .string) {z : Value} (hz : ∀ W, (zeroValue E).run P W = .ok z W) (s : ByteArray) :
    (Instr.lookup T (.map (some r)) (.string s) false).run P w = .ok ((f s).getD z) w := by
  obtain ⟨es, c, ps, h1, h2, h3⟩ := h
  have e := h3 s
  unfold getP at e
  cases hl : locP s ps 0 with
  | none =>
    rw [hl] at e
    simp [Instr.lookup, run_underlying hT, getObj, Sem.run, h1, check_s hK, findKey_s hK s w h2, hl, hz, ← e]
  | some jv =>
    rw [hl] at e
    simp [Instr.lookup, run_underlying hT, getObj, Sem.run, h1, check_s hK, findKey_s hK s w h2, hl, ← e]
theorem SMap.store {w : World} {r : Nat} {f : ByteArray → Option Value} (h : SMap w r f) (hT : P.underlying T = some (.map K E)) (hK : P.underlying K = some .string) (s : ByteArray) (v : Value) :
    ∃ w', (Instr.mapUpdate T (.map (some r)) (.string s) v).run P w = .ok () w' ∧ Chg w w' r ∧ SMap w' r (fun t => if t = s then some v else f t) := by
  obtain ⟨es, c, ps, h1, h2, h3⟩ := h
  have hlt : r < w.heap.size := lt_ob h1
  have e := h3 s
  unfold getP at e
  cases hl : locP s ps 0 with
  | none =>
    rw [hl] at e
    refine ⟨putMap w r (es.push { key := .string s, val := v, born := c }) (c + 1), ?_, putMap_grown w r _ _, ?_⟩
    · simp [Instr.mapUpdate, run_underlying hT, getObj, setObj, Sem.run, h1, check_s hK, findKey_s hK s w h2, hl, putMap]
    · refine ⟨_, _, ps ++ [(s, v)], by show (w.heap.setIfInBounds r _)[r]? = _; rw [Array.getElem?_setIfInBounds_self, if_pos hlt], ?_, ?_⟩
      · rw [Array.toList_push]
        exact Pair.snoc h2 ⟨rfl, rfl⟩
      · intro t
        rw [getP_snoc (by unfold getP; rw [hl]; rfl), h3 t]
  | some jv =>
    obtain ⟨j, u⟩ := jv
    obtain ⟨k, hk, hp, hm⟩ := locP_some hl
    obtain rfl : j = k := by omega
    have hj : j < es.size := by have := (List.getElem?_eq_some_iff.1 hp).1; rw [← Pair.length h2] at this; simpa using this
    obtain ⟨e0, he0⟩ : ∃ e0, es[j]? = some e0 := ⟨_, Array.getElem?_eq_getElem hj⟩
    have he1 : es.toList[j]? = some e0 := by rw [Array.getElem?_toList]; exact he0
    have hkey : e0.key = .string s := (h2.get he1 hp).1
    have hss : (s == s) = true := by rw [beq_ba]; exact decide_eq_true rfl
    have hmod : (es.modify j fun e => { e with key := .string s, val := v }).toList = es.toList.set j { e0 with key := .string s, val := v } := by
      apply List.ext_getElem?
      intro i
      rw [Array.getElem?_toList, Array.getElem?_modify, List.getElem?_set]
      by_cases hi : j = i
      · subst hi
        simp [he0, hj]
        rw [Array.getElem?_eq_getElem hj] at he0
        injection he0 with he0
        rw [he0]
      · simp [hi]
    refine ⟨putMap w r (es.modify j fun e => { e with key := .string s, val := v }) c, ?_, putMap_grown w r _ _, ?_⟩
    · simp [Instr.mapUpdate, run_underlying hT, getObj, setObj, Sem.run, h1, check_s hK, findKey_s hK s w h2, hl, putMap, he0, hkey, Instr.keyThatStays, Instr.sameBits, hss]
    · refine ⟨_, _, ps.set j (s, v), by show (w.heap.setIfInBounds r _)[r]? = _; rw [Array.getElem?_setIfInBounds_self, if_pos hlt], ?_, ?_⟩
      · rw [hmod]
        exact Pair.set h2 ⟨rfl, rfl⟩
      · intro t
        rw [getP_set hp hm t, h3 t]
end
section
variable {ρ : Operand → Value} {P : Program} {w : World} {d : Option Tmp} {ty : TypeId} {pos : String} {af : Array Edge} {g : Option (Nat × Bool)}
theorem r_lookS {T K E : TypeId} {x y : Operand} {r : Nat} {f : ByteArray → Option Value} {s : ByteArray} {z v : Value} (hx : ρ x = .map (some r)) (hy : ρ y = .string s) (h : SMap w r f) (hT : P.underlying T = some (.map K E)) (hK : P.underlying K = some .string) (hz : ∀ W, (zeroValue E).run P W = .ok z W) (hv : (f s).getD z = v) :
    (execOp ρ ⟨d, .lookup T x y false, ty, pos, af, g⟩).run P w = .ok (.value v) w := by
  have := h.look hT hK hz s
  simp [execOp, hx, hy, this, hv]
theorem r_callb {fn : FuncId} {x : Operand} {xs : List Operand} {ats : Array TypeId} {us all : List Value} (hf : ∀ args w, (callFunc fn args).run P w = .ok (.enter fn args) w) (hx : ρ x = .func (.func fn) us.toArray #[]) (ha : us ++ xs.map ρ = all) :
    (execOp ρ ⟨d, .call ⟨.value x, xs.toArray, ats⟩, ty, pos, af, g⟩).run P w = .ok (.enter fn all.toArray) w := by
  subst ha
  simp [execOp, resolve, hx, Deferred.ofValue, invoke, hf]
end
theorem ERow.chgm {T : TypeId} {B base b : Nat} {w w' : World} {v : Value} {L : List EntD} (h : ERow T B base w v L) (c : Chg w w' b) (hn : v.ownBlock ≠ some b) : ERow T B base w' v L := World.ownsRow.kept h c (.inr hn)
theorem ERow.snoc {T : TypeId} {base : Nat} {B : Nat} {w : World} {v : Value} {L : List EntD} (h : ERow T B base w v L) {P : Program} {t ty : TypeId} {i : TypeInfo} {z : Value} (ht : P.underlying t = some (.slice T)) (hi : P.info? T = some i) (hz : i.zero = some z)
    (hsize : i.size = 5) (hby : i.bytes = 48) (hzs : z.cells.size = 5) {b : Nat} {x : EntD} (hb : w.heap[b]? = some (.cells (enC x).toArray T (0, 0))) (hbase : base ≤ w.heap.size) (hlen : L.length ≤ 100000) :
    ∃ v' w', (Builtin.append_ #[t, t] ty #[v, .slice (some ⟨b, 0, none⟩) 1 1]).run P w = .ok v' w' ∧ ERow T B base w' v' (L ++ [x]) ∧ w.grownBy w' v.ownBlock ∧ v' ≠ .slice none 0 0 := by
  obtain ⟨v', w', h1, h2, h3, h4⟩ := run_append_own (P := P) w base t ty T i z 5 48 ht hi hz hsize hby hzs (by decide) v L.length (flatE L) h ⟨b, 0, none⟩ 1 1 (enC x) (by simp [enC])
    (fun j u hj => by
      rw [add_at, Nat.zero_add]
      have : (enC x).toArray[j]? = some u := by simpa using hj
      simp only [World.cell?, hb]; simpa using this) (by intro u hu; simp [enC] at hu; rcases hu with rfl | rfl | rfl | rfl | rfl <;> rfl) (by unfold maxLen; omega) (by omega) hbase
  refine ⟨v', w', h1, ?_, h3, fun e => by have := (h4.1 e).2; omega⟩
  unfold ERow
  rw [flatE_snoc]
  simpa using h2
theorem snE {P : Program} {T : TypeId} {ops : Array Oper} {Q : Exit → Act → World → Prop} {a : Act} {w : World} {J : Act → World → Prop} {d : Option Tmp} {ty : TypeId} {pos : String} {af : Array Edge} {g : Option (Nat × Bool)}
    {B base : Nat} {v : Value} {L : List EntD} {t : TypeId} {s y : Operand} {i : TypeInfo} {z : Value} {b : Nat} {x : EntD}
    (hw : Region.wanted (⟨d, .call ⟨.builtin .append, #[s, y], #[t, t]⟩, ty, pos, af, g⟩ : Oper) (yielded ops a.tmps) = true) (hs : a.eval s = v) (hy : a.eval y = .slice (some ⟨b, 0, none⟩) 1 1)
    (h : ERow T B base w v L) (ht : P.underlying t = some (.slice T)) (hi : P.info? T = some i) (hz : i.zero = some z)
    (hsize : i.size = 5) (hby : i.bytes = 48) (hzs : z.cells.size = 5) (hb : w.heap[b]? = some (.cells (enC x).toArray T (0, 0))) (hbase : base ≤ w.heap.size) (hlen : L.length ≤ 100000)
    (k : ∀ A n c w', n = (L ++ [x]).length → ERow T B base w' (.slice A n c) (L ++ [x]) → w.grownBy w' v.ownBlock → J (a.put d (.slice A n c)) w') : St1 P ops Q ⟨d, .call ⟨.builtin .append, #[s, y], #[t, t]⟩, ty, pos, af, g⟩ J a w := by
  obtain ⟨v', w', h1, h2, h3, h4⟩ := h.snoc (ty := ty) ht hi hz hsize hby hzs hb hbase hlen
  obtain ⟨A, c, rfl⟩ := h2.form
  refine sv hw ?_ (k A _ c w' rfl h2 h3)
  simp [execOp, resolve, invoke, builtin, hs, hy, h1]
theorem ERow.base {T : TypeId} {B base base' : Nat} {w : World} {v : Value} {L : List EntD} (h : ERow T B base w v L) (hb : base' ≤ base) : ERow T B base' w v L := by
  obtain ⟨h1, h2⟩ := h
  refine ⟨h1, ?_⟩
  rcases h2 with hn | ⟨g, cap, cur, hv, hbg, rest⟩
  · exact .inl hn
  · exact .inr ⟨g, cap, cur, hv, Nat.le_trans hb hbg, rest⟩
theorem ERow.ne_old {T : TypeId} {B base b : Nat} {w : World} {v : Value} {L : List EntD} (h : ERow T B base w v L) (e : b < base) : v.ownBlock ≠ some b := fun hh => by have := (h.own _ hh).1; omega
theorem ERow.get {T : TypeId} {B base : Nat} {w : World} {v : Value} {L : List EntD} (h : ERow T B base w v L) {i : Nat} {x : EntD} (hi : L[i]? = some x) :
    ∃ g cap cur, v = .slice (some ⟨g, 0, none⟩) L.length cap ∧ base ≤ g ∧ w.heap[g]? = some (.cells cur T (0, 0)) ∧ (cur.toList.drop (i * 5)).take 5 = enC x := by
  obtain ⟨A, c, rfl⟩ := h.form
  have h' := h
  obtain ⟨h1, ⟨e, h0⟩ | ⟨g, cap, cur, e, hb, hg, _⟩⟩ := h
  · have := (List.getElem?_eq_some_iff.1 hi).1; omega
  · injection e with e1 e2 e3
    subst e1
    obtain ⟨cur', hc1, hc2⟩ := h'.elem hi
    exact ⟨g, c, cur', rfl, hb, hc1, hc2⟩
theorem ERow.le {T : TypeId} {B base : Nat} {w : World} {v : Value} {L : List EntD} (h : ERow T B base w v L) : L.length ≤ 9223372036854775807 := by
  obtain ⟨_, ⟨_, h0⟩ | ⟨g, cap, cur, _, _, _, hc, hm, _⟩⟩ := h
  · omega
  · unfold maxLen at hm; omega
theorem TabIs.up {P : Program} {w w' : World} {name : String} {k : IntKind} {zs : List Int} (h : Lib.TabIs P w name k zs) (u : Up w w') : Lib.TabIs P w' name k zs := by
  unfold Lib.TabIs World.var? at h ⊢
  cases hg : P.globalNamed name with
  | none => simp only [hg, Option.bind_none] at h; cases h
  | some g =>
    simp only [hg, Option.bind_some] at h ⊢
    cases hw : w.heap[g]? with
    | none => rw [hw] at h; cases h
    | some o => rw [up_ob u hw]; rw [hw] at h; exact h
end Go.Proofs.YtefhfoioeoijlaaGreatDoor
set_option linter.unusedVariables false
set_option linter.unusedSimpArgs false
namespace Go.Proofs.YtefhfoioeoijlaaGreatDoor
open Go Go.RowKit Go.Sort
def atE (L : List EntD) (i : Nat) : EntD := L.getD i zeroE
theorem range_atE (L : List EntD) : (List.range L.length).map (atE L) = L := by
  apply List.ext_getElem?
  intro i
  rw [List.getElem?_map]
  by_cases h : i < L.length
  · rw [List.getElem?_range h, List.getElem?_eq_getElem h]
    simp [atE, List.getD_eq_getElem?_getD, List.getElem?_eq_getElem h]
  · rw [List.getElem?_eq_none (by simpa using h), List.getElem?_eq_none (by simpa using h)]; rfl
theorem ent_short {x : Item} {met : List ByteArray} (h : OKI x) : (entOf met x).name.data.toList.length ≤ 100 := by
  rw [ent_name]
  obtain ⟨_, h1, h2, h3, h4, h5⟩ := h
  have i1 := Lib.itoa_length_le x.node.t (by omega) (by omega)
  have i2 := Lib.itoa_length_le x.node.w (by omega) (by omega)
  split
  · simp only [markL, List.length_append, List.length_cons]; omega
  · omega
theorem ents_short {l : List Item} (hc : ∀ x ∈ l, OKI x) : ∀ e ∈ entsI l, e.name.data.toList.length ≤ 100 := fun e he => by
  obtain ⟨k, hk⟩ := List.mem_iff_getElem?.1 he
  obtain ⟨x, hx, rfl⟩ := entsI_at hk
  exact ent_short (hc x (List.mem_of_getElem? hx))
theorem atE_short {E : List EntD} (h : ∀ e ∈ E, e.name.data.toList.length ≤ 100) (i : Nat) : (atE E i).name.data.toList.length ≤ 100 := by
  unfold atE
  rw [List.getD_eq_getElem?_getD]
  cases hi : E[i]? with
  | none => decide
  | some e => exact h e (List.mem_of_getElem? hi)
theorem listed_of {E : List EntD} {D : List Nat} (hN : ∀ e ∈ E, e.name.data.toList.length ≤ 100) (ha : E.Pairwise fun x y => x.name ≠ y.name) (hM : AllSorted (ky 100 (atE E)) E.length D) : Listed E (D.map (atE E)) := by
  obtain ⟨h1, h2⟩ := hM
  refine ⟨?_, List.pairwise_map.2 (h1.imp_of_mem fun {i j} hi hj hl => ?_)⟩
  · have := h2.map (atE E)
    rw [range_atE] at this
    exact this
  · have hi' : i < E.length := List.mem_range.1 (h2.mem_iff.1 hi)
    have hj' : j < E.length := List.mem_range.1 (h2.mem_iff.1 hj)
    rcases hl with hl | ⟨hl, hij⟩
    · have hc : codeN 100 (atE E i).name.data.toList < codeN 100 (atE E j).name.data.toList := by
        unfold ltS ky keyE at hl
        simp only [decide_eq_true_eq] at hl
        omega
      exact (code_less 100 _ _ (atE_short hN i) (atE_short hN j)).2 hc
    · exfalso
      have hc : codeN 100 (atE E i).name.data.toList = codeN 100 (atE E j).name.data.toList := by
        unfold ky keyE at hl
        simp only [Stamp.mk.injEq, and_true] at hl
        omega
      have he := ba_ext (code_inj (atE_short hN i) (atE_short hN j) hc)
      have := List.pairwise_iff_getElem.1 ha i j hi' hj' hij
      unfold atE at he
      rw [List.getD_eq_getElem?_getD, List.getD_eq_getElem?_getD, List.getElem?_eq_getElem hi', List.getElem?_eq_getElem hj'] at he
      exact this he
end Go.Proofs.YtefhfoioeoijlaaGreatDoor
set_option linter.unusedVariables false
set_option linter.unusedSimpArgs false
namespace Go.Proofs.YtefhfoioeoijlaaGreatDoor
open Go Go.RowKit Go.Sort
def metF (ns : List ByteArray) (s : ByteArray) : Option Value := if metB ns s = true then some (.bool true) else none
theorem metF_get (ns : List ByteArray) (s : ByteArray) : (metF ns s).getD (.bool false) = .bool (metB ns s) := by
  unfold metF; cases metB ns s <;> rfl
theorem metF_nil (l : List Item) : ∀ s, (none : Option Value) = metF (namesI (l.take 0)) s := fun s => by simp [metF, namesI, metB]
theorem metF_next {l : List Item} {k : Nat} {x : Item} (h : l[k]? = some x) : ∀ s, (if s = x.name then some (.bool true) else metF (namesI (l.take k)) s) = metF (namesI (l.take (k + 1))) s := fun s => by
  rw [names_next h]
  unfold metF metB
  rw [List.any_append]
  by_cases e : s = x.name
  · subst e; simp
  · rw [if_neg e]
    have e' : ¬ x.name = s := fun h => e h.symm
    simp only [List.any_cons, List.any_nil, decide_eq_false e', Bool.or_false]
theorem ents_yes {l : List Item} {k dn : Nat} {x : Item} (hx : l[k]? = some x) (hd : x.data.length = dn) (h : metB (namesI (l.take k)) x.name = true) :
    entsI (l.take k) ++ [(⟨x.name ++ markB ⟨x.node.t, x.node.w⟩, ⟨x.node.t, x.node.w⟩, x.dir, (dn : Int)⟩ : EntD)] = entsI (l.take (k + 1)) := by
  rw [entsI_next hx]; unfold entOf; rw [if_pos h, hd]
theorem ents_not {l : List Item} {k dn : Nat} {x : Item} (hx : l[k]? = some x) (hd : x.data.length = dn) (h : metB (namesI (l.take k)) x.name = false) :
    entsI (l.take k) ++ [(⟨x.name, ⟨x.node.t, x.node.w⟩, x.dir, (dn : Int)⟩ : EntD)] = entsI (l.take (k + 1)) := by
  rw [entsI_next hx]; unfold entOf; rw [if_neg (by rw [h]; decide), hd]
theorem mark_size {x : Item} (h : OKI x) : x.name.size + (markB ⟨x.node.t, x.node.w⟩).size ≤ 9223372036854775807 := by
  obtain ⟨_, h1, h2, h3, h4, h5⟩ := h
  have i1 := Lib.itoa_length_le x.node.t (by omega) (by omega)
  have i2 := Lib.itoa_length_le x.node.w (by omega) (by omega)
  have e : (markB ⟨x.node.t, x.node.w⟩).size = (markL x.node).length := by rw [← markB_list]; simp
  rw [e]
  have e2 : x.name.size = x.name.data.toList.length := by simp
  rw [e2]
  simp only [markL, List.length_append, List.length_cons]
  omega
theorem entsI_take {l : List Item} {k : Nat} (h : l.length ≤ k) : entsI (l.take k) = entsI l := by rw [List.take_of_length_le h]
theorem ents_le (l : List Item) (k : Nat) : (entsI (l.take k)).length ≤ l.length := by rw [entsI_len]; exact List.length_take_le' _ _
def kidsO (L : List Item) (n : Stamp) : List Item := if kidK L n = 0 then kidsI n L else []
theorem kidsO_yes {L : List Item} {n : Stamp} (h : kidK L n = 0) : kidsO L n = kidsI n L := by unfold kidsO; rw [if_pos h]
theorem kidsO_no {L : List Item} {n : Stamp} (h : kidK L n ≠ 0) : kidsO L n = [] := by unfold kidsO; rw [if_neg h]
theorem kidK_12 {L : List Item} {n : Stamp} (h : hangsI L 301 n = false) : kidK L n = 12 := by unfold kidK; rw [if_pos h]
theorem kidK_14 {L : List Item} {n : Stamp} (h : hangsI L 301 n = true) (h1 : hasI L n = true) (h2 : (gotI L n).dir = false) : kidK L n = 14 := by unfold kidK; rw [if_neg (by rw [h]; decide), h1, h2]; rfl
theorem kidK_0a {L : List Item} {n : Stamp} (h : hangsI L 301 n = true) (h1 : hasI L n = false) : kidK L n = 0 := by unfold kidK; rw [if_neg (by rw [h]; decide), h1]; rfl
theorem kidK_0b {L : List Item} {n : Stamp} (h : hangsI L 301 n = true) (h1 : hasI L n = true) (h2 : (gotI L n).dir = true) : kidK L n = 0 := by unfold kidK; rw [if_neg (by rw [h]; decide), h1, h2]; rfl
theorem IRow.kidsNo {T : TypeId} {B base : Nat} {w : World} {L : List Item} {n : Stamp} (h : kidK L n ≠ 0) : IRow T B base w (.slice none 0 0) (kidsO L n) := by rw [kidsO_no h]; exact IRow.nil _ _ _ _
theorem IRow.kidsYes {T : TypeId} {B base : Nat} {w : World} {v : Value} {L : List Item} {n : Stamp} (h : IRow T B base w v (kidsI n L)) (hk : kidK L n = 0) : IRow T B base w v (kidsO L n) := by rw [kidsO_yes hk]; exact h
theorem kidsO_ok {L : List Item} (h : Fit L) (n : Stamp) : ∀ x ∈ kidsO L n, OKI x := by
  unfold kidsO; split
  · exact (h.kids n).1
  · simp
theorem kids_300 {L : List Item} (h : Fit L) (n : Stamp) : (kidsI n L).length ≤ 300 := Nat.le_trans (kids_len n L) h.len
theorem kidsO_300 {L : List Item} (h : Fit L) (n : Stamp) : (kidsO L n).length ≤ 300 := by
  unfold kidsO; split
  · exact kids_300 h n
  · simp
theorem kidsO_apart {L : List Item} (h : Fit L) (n : Stamp) : (entsI (kidsO L n)).Pairwise fun x y => x.name ≠ y.name := by
  unfold kidsO; split
  · exact h.apart n
  · exact List.Pairwise.nil
theorem find_hit {L : List Item} {n : Stamp} {D : List EntD} {k : Nat} {y : EntD} {s : ByteArray} (hF : Fit L) (hk : kidK L n = 0) (hL : Listed (entsI (kidsI n L)) D) (hy : D[k]? = some y) (e : y.name = s) : findE L n s = y ∧ findK L n s = 0 := by
  subst e; exact hF.found hk (hL.mem hy)
theorem find_miss {L : List Item} {n : Stamp} {D : List EntD} {s : ByteArray} (hk : kidK L n = 0) (hL : Listed (entsI (kidsI n L)) D) (h : ∀ (j : Nat) (y : EntD), D[j]? = some y → y.name ≠ s) : findE L n s = zeroE ∧ findK L n s = 12 := by
  have hn : lookE L n s = none := by
    unfold lookE
    rw [List.find?_eq_none]
    intro e he
    obtain ⟨j, hj⟩ := List.mem_iff_getElem?.1 (hL.1.mem_iff.2 he)
    simpa using h j e hj
  unfold findE findK
  rw [if_pos hk, if_pos hk, hn]
  exact ⟨rfl, rfl⟩
theorem find_bad {L : List Item} {n : Stamp} {s : ByteArray} (hk : kidK L n ≠ 0) : findE L n s = zeroE ∧ findK L n s = kidK L n := by
  unfold findE findK; rw [if_neg hk, if_neg hk]; exact ⟨rfl, rfl⟩
theorem find_ret {L : List Item} {n : Stamp} {s : ByteArray} {y : EntD} {k : Int} (h : findE L n s = y ∧ findK L n s = k) : Ending.returned (.tuple #[enV y, .int .i64 k]) = .returned (.tuple #[enV (findE L n s), .int .i64 (findK L n s)]) := by rw [h.1, h.2]
theorem shown_no1 {L : List Item} {m : Stamp} (h : hasI L m = false) : shownB L m = ⟨#[]⟩ ∧ shownK L m = 12 := by
  unfold shownB shownK; rw [h]; exact ⟨rfl, rfl⟩
theorem shown_no2 {L : List Item} {m : Stamp} (h : hangsI L 301 m = false) : shownB L m = ⟨#[]⟩ ∧ shownK L m = 12 := by
  unfold shownB shownK; rw [h, Bool.and_false]; exact ⟨rfl, rfl⟩
theorem shown_hit {L : List Item} {m : Stamp} {k : Nat} {y : EntD} (hF : Fit L) (h1 : hasI L m = true) (h2 : hangsI L 301 m = true) (hy : (entsI (kidsI (gotI L m).parent L))[k]? = some y) (e : y.node = m) : shownB L m = y.name ∧ shownK L m = 0 := by
  have hn : nodeE L m = some y := by
    unfold nodeE
    have := find_one (f := fun e : EntD => e.node) (hF.nodes (gotI L m).parent) (List.mem_of_getElem? hy)
    rw [e] at this; exact this
  unfold shownB shownK
  rw [h1, h2, hn]; exact ⟨rfl, rfl⟩
theorem shown_miss {L : List Item} {m : Stamp} (h : ∀ (j : Nat) (y : EntD), (entsI (kidsI (gotI L m).parent L))[j]? = some y → y.node ≠ m) : shownB L m = ⟨#[]⟩ ∧ shownK L m = 12 := by
  have hn : nodeE L m = none := by
    unfold nodeE
    rw [List.find?_eq_none]
    intro e he
    obtain ⟨j, hj⟩ := List.mem_iff_getElem?.1 he
    simpa using h j e hj
  unfold shownB shownK
  rw [hn]; split <;> exact ⟨rfl, rfl⟩
theorem shown_ret {L : List Item} {m : Stamp} {b : ByteArray} {k : Int} (h : shownB L m = b ∧ shownK L m = k) : Ending.returned (.tuple #[.string b, .int .i64 k]) = .returned (.tuple #[.string (shownB L m), .int .i64 (shownK L m)]) := by rw [h.1, h.2]
theorem none_next {α : Type} {D : List α} {k : Nat} {x : α} {p : α → Prop} (h : Hid (∀ (j : Nat) (y : α), j < k → D[j]? = some y → ¬ p y)) (hx : D[k]? = some x) (hp : ¬ p x) : Hid (∀ (j : Nat) (y : α), j < k + 1 → D[j]? = some y → ¬ p y) := fun j y hj hy => by
  rcases Nat.lt_or_ge j k with h1 | h1
  · exact h.out j y h1 hy
  · obtain rfl : j = k := by omega
    rw [hx] at hy; injection hy with hy; subst hy; exact hp
theorem none_end {α : Type} {D : List α} {k : Nat} {p : α → Prop} (h : Hid (∀ (j : Nat) (y : α), j < k → D[j]? = some y → ¬ p y)) (hk : D.length ≤ k) : ∀ (j : Nat) (y : α), D[j]? = some y → ¬ p y := fun j y hy => h.out j y (by have := (List.getElem?_eq_some_iff.1 hy).1; omega) hy
end Go.Proofs.YtefhfoioeoijlaaGreatDoor
set_option linter.unusedVariables false
set_option linter.unusedSimpArgs false
namespace Go.Proofs.YtefhfoioeoijlaaGreatDoor
open Go Go.RowKit Go.Sort
abbrev Tab (w : World) : Prop := Lib.TabIs Tryz.prog w "internal/strconv.uint64pow10" .u64 Lib.pow10Tab
theorem fmt_at {w : World} (htab : Tab w) (n : Int) (h0 : -9223372036854775808 ≤ n) (h1 : n ≤ 9223372036854775807) : Calls Tryz.prog 94 #[.int .i64 n, .int .i64 10] w fun e w' => e = .returned (.string ⟨(Lib.itoa n).toArray⟩) ∧ Up w w' := by
  refine (Tryz.strconv_FormatInt_10 n h0 h1 w htab).mono ?_
  rintro e w' ⟨rfl, k, os, rfl⟩
  exact ⟨rfl, Ups.below ⟨k, os, rfl⟩⟩
theorem itoa_at {w : World} (htab : Tab w) (n : Int) (h0 : -9223372036854775808 ≤ n) (h1 : n ≤ 9223372036854775807) : Calls Tryz.prog 95 #[.int .i64 n] w fun e w' => e = .returned (.string ⟨(Lib.itoa n).toArray⟩) ∧ Up w w' := by
  refine (Tryz.strconv_Itoa n h0 h1 w htab).mono ?_
  rintro e w' ⟨rfl, k, os, rfl⟩
  exact ⟨rfl, Ups.below ⟨k, os, rfl⟩⟩
theorem itoa_size {n : Int} (h0 : -9223372036854775808 ≤ n) (h1 : n ≤ 9223372036854775807) : (⟨(Lib.itoa n).toArray⟩ : ByteArray).size ≤ 21 := by
  have := Lib.itoa_length_le n h0 h1
  simpa [ByteArray.size] using this
theorem info_ent : ∃ i z, Tryz.prog.info? 35 = some i ∧ i.zero = some z ∧ i.size = 5 ∧ i.bytes = 48 ∧ z.cells.size = 5 := by
  have h : (Tryz.prog.info? 35).map (fun i => (i.zero.map (·.cells.size), i.size, i.bytes)) = some (some 5, 5, 48) := by kernel_rfl
  cases hi : Tryz.prog.info? 35 with
  | none => rw [hi] at h; cases h
  | some i =>
    rw [hi] at h; simp at h
    obtain ⟨⟨z, hz, h1⟩, h2, h3⟩ := h
    exact ⟨i, z, rfl, hz, h2, h3, h1⟩
theorem sortE_at {B base : Nat} {w : World} {v : Value} {E : List EntD} (h : ERow 35 B base w v E) (hBb : B ≤ base) (hn : E.length ≤ 1000000) (hN : ∀ e ∈ E, e.name.data.toList.length ≤ 100) (ha : E.Pairwise fun x y => x.name ≠ y.name) :
    Calls Tryz.prog 59 #[v, .func (.func 60) #[] #[]] w fun e w' => ∃ D, e = .returned (.tuple #[]) ∧ ERow 35 B base w' v D ∧ Listed E D ∧ w.grownBy w' v.ownBlock := by
  obtain ⟨A, c, rfl⟩ := h.form
  have h' := h
  obtain ⟨h1, ⟨e, h0⟩ | ⟨g, cap, cur, e, _⟩⟩ := h'
  · have hE : E = [] := List.length_eq_zero_iff.1 h0
    subst hE
    injection e with e1 e2 e3
    subst e1 e3
    refine (sortNil_at (w := w)).mono ?_
    rintro e w' ⟨rfl, u⟩
    exact ⟨[], rfl, ERow.nil _ _ _ _, ⟨List.Perm.refl _, List.Pairwise.nil⟩, ⟨u.os, u.tape, u.output, u.size, fun k hk _ => u.block k hk⟩⟩
  · injection e with e1 e2 e3
    subst e1 e3
    have h2 : ERow 35 B base w (.slice (some ⟨g, 0, none⟩) E.length c) ((List.range E.length).map (atE E)) := by rw [range_atE]; exact h
    refine (sortStable_atE (NN := 100) h2 hBb hn (fun i => atE_short hN i)).mono ?_
    rintro e w' ⟨D, rfl, hr, hM, hC⟩
    exact ⟨_, rfl, hr, listed_of hN ha hM, hC⟩
end Go.Proofs.YtefhfoioeoijlaaGreatDoor
set_option linter.unusedVariables false
set_option linter.unusedSimpArgs false
namespace Go.Proofs.YtefhfoioeoijlaaGreatDoor
open Go Go.RowKit Go.Sort
set_option maxHeartbeats 2000000 in
theorem all1_at {w : World} (x : Item) (xA : Option Addr) (xn xc : Nat) : Calls Tryz.prog 100 #[itV x (.slice xA xn xc)] w fun e w' => e = .returned (.bool true) ∧ Up w w' := by
  go_enter Tryz.func100, Tryz.ntmps100
  refine wp_seq (rg_lit (wl (sn rfl (cs := (itC x (.slice xA xn xc)).toArray) (T := 42) (V := fun b => pt b 0) (r_box (v := itV x (.slice xA xn xc)) (by kernel_rfl) rfl) fun _ _ _ _ u5 => was (v := B_ false) (wnil (then_n (wp_seq (rg_lit (was (v := B_ true) (wnil (then_n (wp_ret ?_)))))))))))
  refine br1 (v := B_ true) rfl ?_
  exact ⟨rfl, (Mod.up (mtu (Mod.refl [] w) u5))⟩
set_option maxHeartbeats 2000000 in
theorem some_all_at {B : Nat} {w : World} {tb r : Nat} {L : List Item} (h : TreeIs B w tb r L) (hB : B ≤ w.heap.size) :
    Calls Tryz.prog 97 #[trP tb, .func (.func 100) #[] #[]] w fun e w' => ∃ v, e = .returned v ∧ IRow 42 B w.heap.size w' v L ∧ Up w w' := by
  have hsrt := h.2.2.2.1.srt
  obtain ⟨hr_es, hr_cl, hr_xs, hr, _⟩ := h.2.2.2.1
  have hL := h.2.2.2.2
  obtain ⟨ii_p, iz_p, hi_p, hz_p, hs_p, hb_p, hc_p⟩ := info_item
  go_enter Tryz.func97, Tryz.ntmps97
  refine wp_seq (rg_lit (was (v := .slice none 0 0) (wnil (then_n (wp_seq (wp_seq (rg_lit (wmv (v := pt tb 0) (wl (sv (w' := w) rfl (v := B_ false) (by kernel_rfl) (wnil (then_n (wp_cond_false (by kernel_rfl) (wp_skip (then_n (wp_seq (wp_seq (rg_lit (wmv (v := pt tb 0) ?_)))))))))))))))))))
  refine wlv (v := pt tb 0) (nck) (wlv (v := pt tb 0) (fa (pt tb 0)) (wlv (v := .map (some r)) (ld 0 Ty.ag106 h.1) (wl (sca [.map (some r)] En.f149 (mkeys_at r) ?_))))
  rintro e _ ⟨b2, rfl, h3, u4⟩
  refine ⟨_, rfl, ?_⟩
  have M5 := mtu (Mod.refl [] w) u4
  refine wl (sca [.func (.func 180) #[] #[pt b2 0], .func (.func 137) #[] #[]] En.f135 (sorted_sl (TreeIs.up h (Mod.up M5)) h3) ?_)
  rintro e w7 ⟨A8, c9, rfl, h10, u11⟩
  refine ⟨_, rfl, ?_⟩
  have M12 := mtu M5 u11
  refine wlv (v := I_ L.length) (ln A8 L.length c9 Ty.un95) (wmv (v := I_ 0) (wnil (then_n (wp_block ?_))))
  refine lp (fun n a r1 => ∃ (k : Nat) (oA : Option Addr) (on : Nat) (oc : Nat), (n = L.length - k) ∧ (HasFr a 37 [(0, pt tb 0), (1, .func (.func 100) #[] #[]), (4, .slice oA on oc), (15, .slice A8 L.length c9), (16, I_ L.length), (17, I_ k)] []) ∧ (Mod [] w7 r1) ∧ (k ≤ L.length) ∧ (IRow 42 B w7.heap.size r1 (.slice oA on oc) (L.take k))) ⟨_, 0, none, 0, 0, rfl, hmk, Mod.refl _ _, Nat.zero_le _, IRow.nil _ _ _ _⟩ ?_
  rintro _ _ r1 ⟨k, oA, on, oc, rfl, h17, hM1, _, hF1_1⟩
  obtain ⟨_, rfl⟩ := h17
  have M18 := Mod.thin M12 hM1 (by simp)
  refine wp_seq (rg_lit (wl (sb rfl (ltI k L.length) fun _ k20 => wnil (then_n (wp_seq ?_)))))
  refine bcd k20 (fun v21 p22 => ?_) (fun v21 p22 => ?_)
  ·
   refine wp_cond_false (ebk v21) (wp_exit (then_x (by nofun) (then_x (by nofun) (inb_hit (then_n (wp_seq (rg_lit (wmv (v := .slice oA on oc) (was (v := .slice oA on oc) (wnil (then_n (wp_ret ?_))))))))))))
   refine br1 (v := .slice oA on oc) rfl ?_
   refine ⟨_, rfl, ?_, (Mod.up M18)⟩
   have hk : L.take k = L := List.take_of_length_le (by omega)
   rw [hk] at hF1_1; exact IRow.base hF1_1 M12.size
  have q24 : k < L.length := by omega
  refine wp_cond_true (ebk v21) (wp_skip (then_n (wp_seq (wp_block (wp_seq (rg_lit ?_))))))
  have h25 := (SRow.up h10 (Mod.up hM1))
  obtain ⟨x26, hx26⟩ : ∃ x, L[k]? = some x := ⟨_, List.getElem?_eq_getElem q24⟩
  obtain ⟨g26, hA26, _, hc26, hd26⟩ := SRow.item h25 hx26
  refine wlv (v := pt g26 (k * 2)) (ixa L.length c9 2 k hA26 Ty.un95 Ty.sz24) (wlv (v := .agg #[I_ x26.node.t, I_ x26.node.w]) (r_loadc2 (by kernel_rfl) Ty.ag24 Ty.sz24 hc26 hd26) (wl (sn rfl (cs := #[I_ 0, I_ 0]) (T := 24) (V := fun b => pt b 0) (r_alloc Ty.zv24 rfl) fun _ _ e29 h30 u31 => ?_)))
  have n36 := hF1_1.ne_fresh e29
  have g37 := gsz e29 M18
  have g38 := gsz e29 hM1
  refine wl (ss rfl (k := 0) (v := .agg #[I_ x26.node.t, I_ x26.node.w]) (vs := [I_ x26.node.t, I_ x26.node.w]) (cs' := [I_ x26.node.t, I_ x26.node.w]) (by kernel_rfl) (by kernel_rfl) rfl Ty.sz24 h30 rfl (Nat.le_of_ble_eq_true rfl) rfl fun _ h42 c43 => wnil (then_n (wp_seq ?_)))
  refine rg_held [] (n := 8) (by kernel_rfl) rfl ?_
  intro w46 u47
  have M48 := mtu (mtn (mtu M18 u31) c43 g37) u47
  have M49 := mtu (mtn (mtu hM1 u31) c43 g38) u47
  refine hqm 0 7 rfl (v := pt tb 0) (hqk 1 6 rfl rfl (v := pt tb 0) (fun _ _ => nck) (hqk 2 5 rfl rfl (v := pt tb 0) (fun _ _ => fa (pt tb 0)) (hqk 3 4 rfl rfl (v := .map (some r)) (fun _ uz => ld 0 Ty.ag106 (md_ob uz nin0 (md_ob M48 nin0 h.1))) (hqk 4 3 rfl rfl (v := .agg #[I_ x26.node.t, I_ x26.node.w]) (fun _ uz => lds 0 Ty.ag24 Ty.sz24 (md_ob uz nin0 (up_ob u47 h42))) ?_))))
  have h52 := (TreeIs.up h (Mod.up M48))
  obtain ⟨_, hd53, hl53⟩ := h52.2.2.2.1.look ⟨x26.node.t, x26.node.w⟩
  have hg53 : gotI L ⟨x26.node.t, x26.node.w⟩ = x26 := gotI_idx hsrt hx26
  rw [hg53] at hd53 hl53
  obtain ⟨dA53, dn53, dc53, rfl⟩ := hd53.form
  refine hqk 5 2 rfl rfl (v := itV x26 (.slice dA53 dn53 dc53)) (fun wz uz => r_look (mv := .map (some r)) (kv := .agg #[I_ x26.node.t, I_ x26.node.w]) (by kernel_rfl) (by kernel_rfl) (hl53 wz (uz.block _ h52.2.2.2.1.lt nin0)).2) (h1a 6 1 rfl (sn rfl (cs := #[I_ 0, I_ 0, I_ 0, I_ 0, S_ (⟨#[]⟩), B_ false, B_ false, .slice none 0 0, I_ 0, I_ 0]) (T := 42) (V := fun b => pt b 0) (r_alloc Ty.zv42 rfl) fun _ _ e56 h57 u58 => ?_))
  have h63 := (IRow.up (IRow.chgn (IRow.up hF1_1 u31) c43 ⟨(Nat.le_trans hB g37), NotU8.of h30 (by decide)⟩ n36) u47)
  have n64 := h63.ne_fresh e56
  have g65 := gsz e56 M48
  have g66 := gsz e56 M49
  refine hxy u58 e56 (h1a 7 0 rfl (ss rfl (k := 0) (v := itV x26 (.slice dA53 dn53 dc53)) (vs := (itC x26 (.slice dA53 dn53 dc53))) (cs' := (itC x26 (.slice dA53 dn53 dc53))) (by kernel_rfl) (by kernel_rfl) rfl Ty.sz42 h57 rfl (Nat.le_of_ble_eq_true rfl) rfl fun _ h70 c71 => hxc c71 ?_))
  refine hend (by kernel_rfl) ?_
  refine then_n (wp_seq (rg_lit (wmv (v := .func (.func 100) #[] #[]) (wlv (v := itV x26 (.slice dA53 dn53 dc53)) (lds 0 Ty.ag42 Ty.sz42 h70) (wl (sca [itV x26 (.slice dA53 dn53 dc53)] En.f100 (all1_at x26 _ _ _) ?_))))))
  rintro e _ ⟨rfl, u75⟩
  refine ⟨_, rfl, ?_⟩
  refine wnil (then_n (wp_cond_true (by kernel_rfl) (rg_lit (wmv (v := .slice oA on oc) (wlv (v := itV x26 (.slice dA53 dn53 dc53)) (lds 0 Ty.ag42 Ty.sz42 (up_ob u75 h70)) ?_)))))
  have h79 := (Dat.up (Dat.chg (Dat.up hd53 u58) c71 ⟨(Nat.le_trans hB g65), NotU8.of h57 (by decide)⟩) u75)
  refine wl (sca [itV x26 (.slice dA53 dn53 dc53)] En.f65 (own_sl (Nat.le_trans hB (mtu (mtn (mtu M48 u58) c71 g65) u75).size) h79) ?_)
  rintro e _ ⟨A81, n82, c83, rfl, h84, u85⟩
  refine ⟨_, rfl, ?_⟩
  refine wl (sn rfl (cs := (itC x26 (.slice A81 n82 c83)).toArray) (T := 42) (V := fun b => sl b 0 1 1) (r_buildSlice (n := 1) (ps := [(0, itV x26 (.slice A81 n82 c83))]) Ty.un74 Ty.sz42 Ty.zv42 (by decide) (by decide) (by kernel_rfl) (by kernel_rfl)) fun _ _ e90 h91 u92 => ?_)
  have h101 := (IRow.up (IRow.up (IRow.chgn (IRow.up h63 u58) c71 ⟨(Nat.le_trans hB g65), NotU8.of h57 (by decide)⟩ n64) u75) u85)
  have n102 := h101.ne_fresh e90
  have M106 := mtu (mtu (mtu (mtn (mtu M49 u58) c71 g66) u75) u85) u92
  have h107 := (IRow.up h101 u92)
  refine wl (snI rfl (L := (L.take k)) (x := x26) (e := .slice A81 n82 c83) (by kernel_rfl) (by kernel_rfl) h107 Ty.un74 hi_p hz_p hs_p hb_p hc_p h91 (Dat.up h84 u92) (by decide) (Nat.le_trans hB M12.size) M106.size (by simp; omega) fun A109 n110 c111 w112 e113 h114 u115 => was (v := .slice A109 n110 c111) (wnil (inb_n (then_n (rg_lit (wlv (v := I_ ((k : Int) + 1)) (adN k 1) (wmv (v := I_ ((k : Int) + 1)) (wnil (then_n ?_)))))))))
  refine ⟨L.length - (k + 1), ?_, (k + 1), A109, n110, c111, rfl, hmk, (Mod.trans' M106 u115 (fun k hk => Nat.le_trans (Nat.le_refl _) (h107.own k hk).1)), (by omega), (by rw [tk hx26]; exact h114)⟩
  · omega
end Go.Proofs.YtefhfoioeoijlaaGreatDoor
set_option linter.unusedVariables false
set_option linter.unusedSimpArgs false
namespace Go.Proofs.YtefhfoioeoijlaaGreatDoor
open Go Go.RowKit Go.Sort
set_option maxHeartbeats 2000000 in
theorem all_at {B : Nat} {w : World} {tb r : Nat} {L : List Item} (h : TreeIs B w tb r L) (hB : B ≤ w.heap.size) : Calls Tryz.prog 41 #[trP tb] w fun e w' => ∃ v, e = .returned v ∧ IRow 42 B w.heap.size w' v L ∧ Up w w' := by
  go_enter Tryz.func41, Tryz.ntmps41
  refine wp_seq (rg_lit (was (v := .slice none 0 0) (wnil (then_n (wp_seq (rg_lit (wmv (v := pt tb 0) (wl (sca [pt tb 0, .func (.func 100) #[] #[]] En.f97 (row_sl (some_all_at h (Nat.le_trans hB (Mod.refl [] w).size))) ?_)))))))))
  rintro e _ ⟨A2, c3, rfl, h4, u5⟩
  refine ⟨_, rfl, ?_⟩
  have M6 := mtu (Mod.refl [] w) u5
  refine was (v := .slice A2 L.length c3) (wnil (then_n (wp_ret ?_)))
  refine br1 (v := .slice A2 L.length c3) rfl ?_
  exact ⟨_, rfl, IRow.base h4 (by first | exact Nat.le_refl _ | exact M6.size), (Mod.up M6)⟩
end Go.Proofs.YtefhfoioeoijlaaGreatDoor
set_option linter.unusedVariables false
set_option linter.unusedSimpArgs false
namespace Go.Proofs.YtefhfoioeoijlaaGreatDoor
open Go Go.RowKit Go.Sort
set_option maxHeartbeats 2000000 in
theorem kids1_at {w : World} (x : Item) (xA : Option Addr) (xn xc kb : Nat) (m1 m2 : Int) (hkb : w.heap[kb]? = some (.cells #[.int .i64 m1, .int .i64 m2] 24 (0, 0))) : Calls Tryz.prog 98 #[itV x (.slice xA xn xc), .pointer (some ⟨kb, 0, none⟩)] w fun e w' => e = .returned (.bool (decide (x.parent = ⟨m1, m2⟩) && !x.gone)) ∧ Up w w' := by
  go_enter Tryz.func98, Tryz.ntmps98
  refine wp_seq (rg_lit (wl (sn rfl (cs := (itC x (.slice xA xn xc)).toArray) (T := 42) (V := fun b => pt b 0) (r_box (v := itV x (.slice xA xn xc)) (by kernel_rfl) rfl) fun b1 _ _ h4 u5 => ?_)))
  have M8 := mtu (Mod.refl [] w) u5
  refine was (v := B_ false) (wnil (then_n (wp_seq (rg_lit (wlv (v := pt b1 2) (fa (pt b1 0)) (wlv (v := .agg #[I_ x.parent.t, I_ x.parent.w]) (lds 2 Ty.ag24 Ty.sz24 h4) (wlv (v := .agg #[I_ m1, I_ m2]) (lds 0 Ty.ag24 Ty.sz24 (md_ob M8 nin0 hkb)) (wl (sb rfl (r_eqS (a := x.parent.t) (b := x.parent.w) (c := m1) (e := m2) (by kernel_rfl) (by kernel_rfl)) fun b10 k11 => wmv (v := B_ b10) ?_)))))))))
  refine bcd k11 (fun v12 p13 => ?_) (fun v12 p13 => ?_)
  ·
   iterate 3 refine wls rfl v12 ?_
   refine wlv (v := B_ false) (pkF (ebk v12)) (was (v := B_ false) (wnil (then_n (wp_ret ?_))))
   refine br1 (v := B_ false) rfl ?_
   have f14 : ¬ (x.parent = ⟨m1, m2⟩) := p13
   exact ⟨by simp [f14], (Mod.up M8)⟩
  refine wlw rfl v12 (v := pt b1 6) (fa (pt b1 0)) (wlw rfl v12 (v := B_ x.gone) (ld 6 Ty.ag4 h4) (wlw rfl v12 (v := B_ (!x.gone)) (r_not (b := x.gone) (by kernel_rfl)) (wlv (v := B_ (!x.gone)) (pkT (ebk v12)) (was (v := B_ (!x.gone)) (wnil (then_n (wp_ret ?_)))))))
  refine br1 (v := B_ (!x.gone)) rfl ?_
  have f14 : (x.parent = ⟨m1, m2⟩) := p13
  exact ⟨by simp [f14], (Mod.up M8)⟩
set_option maxHeartbeats 2000000 in
theorem some_kids_at {B : Nat} {w : World} {tb r : Nat} {L : List Item} (h : TreeIs B w tb r L) (hB : B ≤ w.heap.size) (kb : Nat) (m1 m2 : Int) (hkb : w.heap[kb]? = some (.cells #[.int .i64 m1, .int .i64 m2] 24 (0, 0))) :
    Calls Tryz.prog 97 #[trP tb, .func (.func 98) #[] #[.pointer (some ⟨kb, 0, none⟩)]] w fun e w' => ∃ v, e = .returned v ∧ IRow 42 B w.heap.size w' v (kidsI ⟨m1, m2⟩ L) ∧ Up w w' := by
  have hsrt := h.2.2.2.1.srt
  obtain ⟨hr_es, hr_cl, hr_xs, hr, _⟩ := h.2.2.2.1
  have hL := h.2.2.2.2
  obtain ⟨ii_p, iz_p, hi_p, hz_p, hs_p, hb_p, hc_p⟩ := info_item
  go_enter Tryz.func97, Tryz.ntmps97
  refine wp_seq (rg_lit (was (v := .slice none 0 0) (wnil (then_n (wp_seq (wp_seq (rg_lit (wmv (v := pt tb 0) (wl (sv (w' := w) rfl (v := B_ false) (by kernel_rfl) (wnil (then_n (wp_cond_false (by kernel_rfl) (wp_skip (then_n (wp_seq (wp_seq (rg_lit (wmv (v := pt tb 0) ?_)))))))))))))))))))
  refine wlv (v := pt tb 0) (nck) (wlv (v := pt tb 0) (fa (pt tb 0)) (wlv (v := .map (some r)) (ld 0 Ty.ag106 h.1) (wl (sca [.map (some r)] En.f149 (mkeys_at r) ?_))))
  rintro e _ ⟨b2, rfl, h3, u4⟩
  refine ⟨_, rfl, ?_⟩
  have M5 := mtu (Mod.refl [] w) u4
  refine wl (sca [.func (.func 180) #[] #[pt b2 0], .func (.func 137) #[] #[]] En.f135 (sorted_sl (TreeIs.up h (Mod.up M5)) h3) ?_)
  rintro e w7 ⟨A8, c9, rfl, h10, u11⟩
  refine ⟨_, rfl, ?_⟩
  have M12 := mtu M5 u11
  refine wlv (v := I_ L.length) (ln A8 L.length c9 Ty.un95) (wmv (v := I_ 0) (wnil (then_n (wp_block ?_))))
  refine lp (fun n a r1 => ∃ (k : Nat) (oA : Option Addr) (on : Nat) (oc : Nat), (n = L.length - k) ∧ (HasFr a 37 [(0, pt tb 0), (1, .func (.func 98) #[] #[pt kb 0]), (4, .slice oA on oc), (15, .slice A8 L.length c9), (16, I_ L.length), (17, I_ k)] []) ∧ (Mod [] w7 r1) ∧ (k ≤ L.length) ∧ (IRow 42 B w7.heap.size r1 (.slice oA on oc) (kidsI ⟨m1, m2⟩ (L.take k)))) ⟨_, 0, none, 0, 0, rfl, hmk, Mod.refl _ _, Nat.zero_le _, IRow.nil _ _ _ _⟩ ?_
  rintro _ _ r1 ⟨k, oA, on, oc, rfl, h18, hM1, _, hF1_1⟩
  obtain ⟨_, rfl⟩ := h18
  have M19 := Mod.thin M12 hM1 (by simp)
  refine wp_seq (rg_lit (wl (sb rfl (ltI k L.length) fun _ k21 => wnil (then_n (wp_seq ?_)))))
  refine bcd k21 (fun v22 p23 => ?_) (fun v22 p23 => ?_)
  ·
   refine wp_cond_false (ebk v22) (wp_exit (then_x (by nofun) (then_x (by nofun) (inb_hit (then_n (wp_seq (rg_lit (wmv (v := .slice oA on oc) (was (v := .slice oA on oc) (wnil (then_n (wp_ret ?_))))))))))))
   refine br1 (v := .slice oA on oc) rfl ?_
   refine ⟨_, rfl, ?_, (Mod.up M19)⟩
   have hk : L.take k = L := List.take_of_length_le (by omega)
   rw [hk] at hF1_1; exact IRow.base hF1_1 M12.size
  have q25 : k < L.length := by omega
  refine wp_cond_true (ebk v22) (wp_skip (then_n (wp_seq (wp_block (wp_seq (rg_lit ?_))))))
  have h26 := (SRow.up h10 (Mod.up hM1))
  obtain ⟨x27, hx27⟩ : ∃ x, L[k]? = some x := ⟨_, List.getElem?_eq_getElem q25⟩
  obtain ⟨g27, hA27, _, hc27, hd27⟩ := SRow.item h26 hx27
  refine wlv (v := pt g27 (k * 2)) (ixa L.length c9 2 k hA27 Ty.un95 Ty.sz24) (wlv (v := .agg #[I_ x27.node.t, I_ x27.node.w]) (r_loadc2 (by kernel_rfl) Ty.ag24 Ty.sz24 hc27 hd27) (wl (sn rfl (cs := #[I_ 0, I_ 0]) (T := 24) (V := fun b => pt b 0) (r_alloc Ty.zv24 rfl) fun _ _ e30 h31 u32 => ?_)))
  have n39 := hF1_1.ne_fresh e30
  have g40 := gsz e30 M19
  have g41 := gsz e30 hM1
  refine wl (ss rfl (k := 0) (v := .agg #[I_ x27.node.t, I_ x27.node.w]) (vs := [I_ x27.node.t, I_ x27.node.w]) (cs' := [I_ x27.node.t, I_ x27.node.w]) (by kernel_rfl) (by kernel_rfl) rfl Ty.sz24 h31 rfl (Nat.le_of_ble_eq_true rfl) rfl fun _ h45 c46 => wnil (then_n (wp_seq ?_)))
  refine rg_held [] (n := 8) (by kernel_rfl) rfl ?_
  intro w49 u50
  have M51 := mtu (mtn (mtu M19 u32) c46 g40) u50
  have M52 := mtu (mtn (mtu hM1 u32) c46 g41) u50
  refine hqm 0 7 rfl (v := pt tb 0) (hqk 1 6 rfl rfl (v := pt tb 0) (fun _ _ => nck) (hqk 2 5 rfl rfl (v := pt tb 0) (fun _ _ => fa (pt tb 0)) (hqk 3 4 rfl rfl (v := .map (some r)) (fun _ uz => ld 0 Ty.ag106 (md_ob uz nin0 (md_ob M51 nin0 h.1))) (hqk 4 3 rfl rfl (v := .agg #[I_ x27.node.t, I_ x27.node.w]) (fun _ uz => lds 0 Ty.ag24 Ty.sz24 (md_ob uz nin0 (up_ob u50 h45))) ?_))))
  have h55 := (TreeIs.up h (Mod.up M51))
  obtain ⟨_, hd56, hl56⟩ := h55.2.2.2.1.look ⟨x27.node.t, x27.node.w⟩
  have hg56 : gotI L ⟨x27.node.t, x27.node.w⟩ = x27 := gotI_idx hsrt hx27
  rw [hg56] at hd56 hl56
  obtain ⟨dA56, dn56, dc56, rfl⟩ := hd56.form
  refine hqk 5 2 rfl rfl (v := itV x27 (.slice dA56 dn56 dc56)) (fun wz uz => r_look (mv := .map (some r)) (kv := .agg #[I_ x27.node.t, I_ x27.node.w]) (by kernel_rfl) (by kernel_rfl) (hl56 wz (uz.block _ h55.2.2.2.1.lt nin0)).2) (h1a 6 1 rfl (sn rfl (cs := #[I_ 0, I_ 0, I_ 0, I_ 0, S_ (⟨#[]⟩), B_ false, B_ false, .slice none 0 0, I_ 0, I_ 0]) (T := 42) (V := fun b => pt b 0) (r_alloc Ty.zv42 rfl) fun _ _ e59 h60 u61 => ?_))
  have h68 := (IRow.up (IRow.chgn (IRow.up hF1_1 u32) c46 ⟨(Nat.le_trans hB g40), NotU8.of h31 (by decide)⟩ n39) u50)
  have n69 := h68.ne_fresh e59
  have g70 := gsz e59 M51
  have g71 := gsz e59 M52
  refine hxy u61 e59 (h1a 7 0 rfl (ss rfl (k := 0) (v := itV x27 (.slice dA56 dn56 dc56)) (vs := (itC x27 (.slice dA56 dn56 dc56))) (cs' := (itC x27 (.slice dA56 dn56 dc56))) (by kernel_rfl) (by kernel_rfl) rfl Ty.sz42 h60 rfl (Nat.le_of_ble_eq_true rfl) rfl fun _ h75 c76 => ?_))
  have M77 := mtn (mtu M51 u61) c76 g70
  refine hxc c76 ?_
  refine hend (by kernel_rfl) ?_
  refine then_n (wp_seq (rg_lit (wmv (v := .func (.func 98) #[] #[pt kb 0]) (wlv (v := itV x27 (.slice dA56 dn56 dc56)) (lds 0 Ty.ag42 Ty.sz42 h75) (wl (sc rfl (r_callv (caps := [pt kb 0]) (all := [itV x27 (.slice dA56 dn56 dc56), pt kb 0]) En.f98 (by kernel_rfl) (by kernel_rfl)) (kids1_at x27 _ _ _ kb m1 m2 (md_ob M77 nin0 hkb)) ?_))))))
  rintro e _ ⟨rfl, u81⟩
  refine ⟨_, rfl, ?_⟩
  have M83 := mtu (mtn (mtu M52 u61) c76 g71) u81
  refine wnil (then_n ?_)
  refine bcase (decide (x27.parent = ⟨m1, m2⟩) && !x27.gone) (fun v84 => ?_) (fun v84 => ?_)
  ·
   refine wp_cond_false (ebk v84) (wp_skip (inb_n (then_n (rg_lit (wlv (v := I_ ((k : Int) + 1)) (adN k 1) (wmv (v := I_ ((k : Int) + 1)) (wnil (then_n ?_))))))))
   have h85 := (IRow.up (IRow.chgn (IRow.up h68 u61) c76 ⟨(Nat.le_trans hB g70), NotU8.of h60 (by decide)⟩ n69) u81)
   refine ⟨L.length - (k + 1), ?_, (k + 1), oA, on, oc, rfl, hmk, M83, (by omega), (by rw [kid_no hx27 v84]; exact h85)⟩
   · omega
  refine wp_cond_true (ebk v84) (rg_lit (wmv (v := .slice oA on oc) (wlv (v := itV x27 (.slice dA56 dn56 dc56)) (lds 0 Ty.ag42 Ty.sz42 (up_ob u81 h75)) ?_)))
  have h86 := (Dat.up (Dat.chg (Dat.up hd56 u61) c76 ⟨(Nat.le_trans hB g70), NotU8.of h60 (by decide)⟩) u81)
  refine wl (sca [itV x27 (.slice dA56 dn56 dc56)] En.f65 (own_sl (Nat.le_trans hB (mtu M77 u81).size) h86) ?_)
  rintro e _ ⟨A88, n89, c90, rfl, h91, u92⟩
  refine ⟨_, rfl, ?_⟩
  refine wl (sn rfl (cs := (itC x27 (.slice A88 n89 c90)).toArray) (T := 42) (V := fun b => sl b 0 1 1) (r_buildSlice (n := 1) (ps := [(0, itV x27 (.slice A88 n89 c90))]) Ty.un74 Ty.sz42 Ty.zv42 (by decide) (by decide) (by kernel_rfl) (by kernel_rfl)) fun _ _ e97 h98 u99 => ?_)
  have h110 := (IRow.up (IRow.up (IRow.chgn (IRow.up h68 u61) c76 ⟨(Nat.le_trans hB g70), NotU8.of h60 (by decide)⟩ n69) u81) u92)
  have n111 := h110.ne_fresh e97
  have M115 := mtu (mtu M83 u92) u99
  have h116 := (IRow.up h110 u99)
  refine wl (snI rfl (L := (kidsI ⟨m1, m2⟩ (L.take k))) (x := x27) (e := .slice A88 n89 c90) (by kernel_rfl) (by kernel_rfl) h116 Ty.un74 hi_p hz_p hs_p hb_p hc_p h98 (Dat.up h91 u99) (by decide) (Nat.le_trans hB M12.size) M115.size (by have := kids_len ⟨m1, m2⟩ (L.take k); simp at this; omega) fun A118 n119 c120 w121 e122 h123 u124 => was (v := .slice A118 n119 c120) (wnil (inb_n (then_n (rg_lit (wlv (v := I_ ((k : Int) + 1)) (adN k 1) (wmv (v := I_ ((k : Int) + 1)) (wnil (then_n ?_)))))))))
  refine ⟨L.length - (k + 1), ?_, (k + 1), A118, n119, c120, rfl, hmk, (Mod.trans' M115 u124 (fun k hk => Nat.le_trans (Nat.le_refl _) (h116.own k hk).1)), (by omega), (by rw [kid_yes hx27 v84]; exact h123)⟩
  · omega
end Go.Proofs.YtefhfoioeoijlaaGreatDoor
set_option linter.unusedVariables false
set_option linter.unusedSimpArgs false
namespace Go.Proofs.YtefhfoioeoijlaaGreatDoor
open Go Go.RowKit Go.Sort
set_option maxHeartbeats 2000000 in
theorem kids_at {B : Nat} {w : World} {tb r : Nat} {L : List Item} (h : TreeIs B w tb r L) (hB : B ≤ w.heap.size) (m1 m2 : Int) : Calls Tryz.prog 38 #[trP tb, .agg #[.int .i64 m1, .int .i64 m2]] w fun e w' => ∃ v, e = .returned v ∧ IRow 42 B w.heap.size w' v (kidsI ⟨m1, m2⟩ L) ∧ Up w w' := by
  go_enter Tryz.func38, Tryz.ntmps38
  refine wp_seq (rg_lit (wl (sn rfl (cs := #[I_ m1, I_ m2]) (T := 24) (V := fun b => pt b 0) (r_box (v := .agg #[I_ m1, I_ m2]) (by kernel_rfl) rfl) fun b1 _ _ h4 u5 => ?_)))
  have M8 := mtu (Mod.refl [] w) u5
  refine was (v := .slice none 0 0) (wnil (then_n (wp_seq (rg_lit (wmv (v := pt tb 0) (wlv (v := .func (.func 98) #[] #[pt b1 0]) (r_makeFunc (us := []) (vs := [pt b1 0]) rfl (by kernel_rfl)) ?_))))))
  have h14 := (TreeIs.up h (Mod.up M8))
  refine wl (sca [pt tb 0, .func (.func 98) #[] #[pt b1 0]] En.f97 (row_sl (some_kids_at h14 (Nat.le_trans hB M8.size) b1 m1 m2 h4)) ?_)
  rintro e _ ⟨A10, c11, rfl, h12, u13⟩
  refine ⟨_, rfl, ?_⟩
  have M15 := mtu M8 u13
  refine was (v := .slice A10 ((kidsI ⟨m1, m2⟩ L).length) c11) (wnil (then_n (wp_ret ?_)))
  refine br1 (v := .slice A10 ((kidsI ⟨m1, m2⟩ L).length) c11) rfl ?_
  exact ⟨_, rfl, IRow.base h12 (by first | exact Nat.le_refl _ | exact M15.size | exact up_sz u5), (Mod.up M15)⟩
end Go.Proofs.YtefhfoioeoijlaaGreatDoor
set_option linter.unusedVariables false
set_option linter.unusedSimpArgs false
namespace Go.Proofs.YtefhfoioeoijlaaGreatDoor
open Go Go.RowKit Go.Sort
set_option maxHeartbeats 2000000 in
theorem light2_at {w : World} {lA : Option Addr} {lc : Nat} {os : List OpD} (h : OpRow0 w lA os) (hn : os.length ≤ 9223372036854775807) (m : Int) : Calls Tryz.prog 13 #[.slice lA os.length lc, .int .i64 m] w fun e w' => ∃ b, e = .returned (.bool b) ∧ (b = true → Small os ∧ (os.length : Int) ≤ m) ∧ Up w w' := by
  go_enter Tryz.func13, Tryz.ntmps13
  refine wp_seq (rg_lit (was (v := B_ false) (wnil (then_n (wp_seq (wp_seq (rg_lit (wmv (v := .slice lA os.length lc) (wlv (v := I_ os.length) (ln lA os.length lc Ty.un22) (wmv (v := I_ m) (wl (sb rfl (r_gt (k := .i64) (m := (os.length : Int)) (n := m) (by kernel_rfl) (by kernel_rfl)) fun _ k2 => wnil (then_n ?_)))))))))))))
  refine bcd k2 (fun v3 p4 => ?_) (fun v3 p4 => ?_)
  ·
   refine wp_cond_false (ebk v3) (wp_skip (then_n (wp_seq (wp_seq (rg_lit (was (v := I_ 0) (wnil (then_n (wp_block ?_)))))))))
   refine lp (fun n a r1 => ∃ (k : Nat), (n = os.length - k) ∧ (HasFr a 32 [(0, .slice lA os.length lc), (1, I_ m), (5, I_ k)] []) ∧ (Mod [] w r1) ∧ (k ≤ os.length) ∧ (Hid (∀ (i : Nat) (o : OpD), i < k → os[i]? = some o → o.data.length ≤ 500))) ⟨_, 0, rfl, hmk, Mod.refl _ _, Nat.zero_le _, (fun i o hi => absurd hi (Nat.not_lt_zero _))⟩ ?_
   rintro _ _ r1 ⟨k, rfl, h5, hM1, _, hF1_1⟩
   obtain ⟨_, rfl⟩ := h5
   have M6 := Mod.thin (Mod.refl [] w) hM1 (by simp)
   refine wp_seq (wp_seq (rg_lit (wmv (v := I_ k) (wmv (v := .slice lA os.length lc) (wlv (v := I_ os.length) (ln lA os.length lc Ty.un22) (wl (sb rfl (ltI k os.length) fun _ k8 => wnil (then_n ?_))))))))
   refine bcd k8 (fun v9 p10 => ?_) (fun v9 p10 => ?_)
   ·
    refine wp_cond_false (ebk v9) (wp_exit (then_x (by nofun) (then_x (by nofun) (inb_hit (then_n (wp_seq (rg_lit (was (v := B_ true) (wnil (then_n (wp_ret ?_)))))))))))
    refine br1 (v := B_ true) rfl ?_
    exact ⟨_, rfl, fun _ => ⟨light_end hF1_1 (by omega), by omega⟩, (Mod.up M6)⟩
   have q12 : k < os.length := by omega
   refine wp_cond_true (ebk v9) (wp_skip (then_n (wp_seq (wp_block (wp_seq (rg_lit (wmv (v := .slice lA os.length lc) (wmv (v := I_ k) ?_))))))))
   have h13 := (OpRow0.up h (Mod.up M6))
   obtain ⟨o14, ho14⟩ : ∃ x, os[k]? = some x := ⟨_, List.getElem?_eq_getElem q12⟩
   obtain ⟨g14, f14, _, _, _, hA14, _, hc14, _, _⟩ := h13 k o14 ho14
   refine wlv (v := pt g14 (f14 + k * 10)) (ixa os.length lc 10 k hA14 Ty.un22 Ty.sz49) (wlv (v := pt g14 (f14 + k * 10 + 8)) (fa (pt g14 (f14 + k * 10))) (wlv (v := S_ o14.name) (r_loadc (by kernel_rfl) Ty.ag9 (hc14 8 _ rfl)) (wlv (v := I_ o14.name.size) (r_lens Ty.un9 (s := o14.name) (by kernel_rfl)) (wl (sb rfl (r_gt (k := .i64) (m := (o14.name.size : Int)) (n := 40) (by kernel_rfl) (by kernel_rfl)) fun b15 k16 => wmv (v := B_ b15) ?_)))))
   refine bcd k16 (fun v17 p18 => ?_) (fun v17 p18 => ?_)
   ·
    refine wlw rfl v17 (v := .slice lA os.length lc) (mv) (wlw rfl v17 (v := I_ k) (mv) ?_)
    obtain ⟨g19, f19, oA19, on19, oc19, hA19, _, hc19, hD19, _⟩ := h13 k o14 ho14
    refine wlw rfl v17 (v := pt g19 (f19 + k * 10)) (ixa os.length lc 10 k hA19 Ty.un22 Ty.sz49) (wlw rfl v17 (v := pt g19 (f19 + k * 10 + 9)) (fa (pt g19 (f19 + k * 10))) (wlw rfl v17 (v := .slice oA19 on19 oc19) (r_loadc (by kernel_rfl) Ty.ag40 (hc19 9 _ rfl)) (wlw rfl v17 (v := I_ on19) (ln oA19 on19 oc19 Ty.un40) (wl (sb (wt (b := b15) rfl (by kernel_rfl) v17) (r_gt (k := .i64) (m := (on19 : Int)) (n := 500) (by kernel_rfl) (by kernel_rfl)) fun b20 k21 => wlv (v := B_ b20) (pkF (ebk v17)) (wnil (then_n ?_)))))))
    refine bcd k21 (fun v22 p23 => ?_) (fun v22 p23 => ?_)
    ·
     refine wp_cond_false (ebk v22) (wp_skip (inb_n (then_n (rg_lit (wmv (v := I_ k) (wlv (v := I_ ((k : Int) + 1)) (adN k 1) (was (v := I_ ((k : Int) + 1)) (wnil (then_n ?_)))))))))
     refine ⟨os.length - (k + 1), ?_, (k + 1), rfl, hmk, hM1, (by omega), (light_next hF1_1 ho14 hD19 p23)⟩
     · omega
    refine wp_cond_true (ebk v22) (wp_seq (rg_lit (was (v := B_ false) (wnil (then_n (wp_ret (inb_r (then_x (by nofun) (then_x (by nofun) (inb_r (then_x (by nofun) ?_)))))))))))
    refine br1 (v := B_ false) rfl ?_
    exact ⟨_, rfl, fun h => (by cases h), (Mod.up M6)⟩
   iterate 7 refine wls rfl v17 ?_
   refine wlv (v := B_ true) (pkT (ebk v17)) (wnil (then_n (wp_cond_true (by kernel_rfl) (wp_seq (rg_lit (was (v := B_ false) (wnil (then_n (wp_ret (inb_r (then_x (by nofun) (then_x (by nofun) (inb_r (then_x (by nofun) ?_))))))))))))))
   refine br1 (v := B_ false) rfl ?_
   exact ⟨_, rfl, fun h => (by cases h), (Mod.up M6)⟩
  refine wp_cond_true (ebk v3) (wp_seq (rg_lit (was (v := B_ false) (wnil (then_n (wp_ret (then_x (by nofun) ?_)))))))
  refine br1 (v := B_ false) rfl ?_
  exact ⟨_, rfl, fun h => (by cases h), (Mod.up (Mod.refl [] w))⟩
end Go.Proofs.YtefhfoioeoijlaaGreatDoor

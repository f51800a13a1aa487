/- Nm, SMap, Nm2, Nm3, Ent3, GE, GF -/
import Derived.Lib.ItoaLen
import Derived.Lib.LaidTab
import Derived.Test.YtefhfoioeoijlaaGreatDoorWaa
import Derived.Test.YtefhfoioeoijlaaGreatDoorWaf
import Derived.Test.YtefhfoioeoijlaaGreatDoorWag
import Derived.Test.YtefhfoioeoijlaaGreatDoorWah
import Derived.Test.YtefhfoioeoijlaaGreatDoorWam
set_option linter.unusedVariables false
set_option linter.unusedSimpArgs false
namespace Go.Proofs.YtefhfoioeoijlaaGreatDoor
open Go Go.RowKit Go.Sort
def markB (s : Stamp) : ByteArray := (((⟨#[126]⟩ : ByteArray) ++ (⟨(Lib.itoa s.t).toArray⟩ : ByteArray)) ++ (⟨#[46]⟩ : ByteArray)) ++ (⟨(Lib.itoa s.w).toArray⟩ : ByteArray)
def markL (s : Stamp) : List UInt8 := 126 :: (Lib.itoa s.t ++ 46 :: Lib.itoa s.w)
theorem markB_list (s : Stamp) : (markB s).data.toList = markL s := by simp [markB, markL]
def metB (met : List ByteArray) (s : ByteArray) : Bool := met.any fun m => decide (m = s)
def entOf (met : List ByteArray) (x : Item) : EntD := ⟨if metB met x.name = true then x.name ++ markB x.node else x.name, x.node, x.dir, x.data.length⟩
def entsF : List ByteArray → List Item → List EntD
  | _, [] => []
  | met, x :: l => entOf met x :: entsF (met ++ [x.name]) l
def entsI (l : List Item) : List EntD := entsF [] l
def namesI (l : List Item) : List ByteArray := l.map (·.name)
theorem entsF_snoc : ∀ {met : List ByteArray} {l : List Item} {x : Item}, entsF met (l ++ [x]) = entsF met l ++ [entOf (met ++ namesI l) x]
  | met, [], x => by simp [entsF, namesI]
  | met, y :: l, x => by
    simp only [List.cons_append, entsF, entsF_snoc (met := met ++ [y.name]) (l := l)]
    simp [namesI, List.append_assoc]
theorem entsI_next {l : List Item} {k : Nat} {x : Item} (h : l[k]? = some x) : entsI (l.take (k + 1)) = entsI (l.take k) ++ [entOf (namesI (l.take k)) x] := by
  unfold entsI
  rw [List.take_add_one, h]
  exact entsF_snoc.trans (by simp)
theorem names_next {l : List Item} {k : Nat} {x : Item} (h : l[k]? = some x) : namesI (l.take (k + 1)) = namesI (l.take k) ++ [x.name] := by
  unfold namesI
  rw [List.take_add_one, h]; simp
theorem entsF_get : ∀ {met : List ByteArray} {l : List Item} {k : Nat} {x : Item}, l[k]? = some x → (entsF met l)[k]? = some (entOf (met ++ namesI (l.take k)) x)
  | met, y :: l, 0, x, h => by simp at h; subst h; simp [entsF, namesI]
  | met, y :: l, k + 1, x, h => by
    have := entsF_get (met := met ++ [y.name]) (l := l) (k := k) (x := x) (by simpa using h)
    simp only [entsF, List.getElem?_cons_succ, this]
    simp [namesI, List.append_assoc]
theorem entsI_get {l : List Item} {k : Nat} {x : Item} (h : l[k]? = some x) : (entsI l)[k]? = some (entOf (namesI (l.take k)) x) := by
  have := entsF_get (met := []) h
  simpa [entsI] using this
theorem entsF_len : ∀ {met : List ByteArray} {l : List Item}, (entsF met l).length = l.length
  | _, [] => rfl
  | met, x :: l => by simp [entsF, entsF_len (met := met ++ [x.name]) (l := l)]
theorem entsI_len (l : List Item) : (entsI l).length = l.length := entsF_len
theorem entsI_at {l : List Item} {k : Nat} {e : EntD} (h : (entsI l)[k]? = some e) : ∃ x, l[k]? = some x ∧ e = entOf (namesI (l.take k)) x := by
  have hk := (List.getElem?_eq_some_iff.1 h).1
  rw [entsI_len] at hk
  have hx : l[k]? = some l[k] := List.getElem?_eq_getElem hk
  refine ⟨_, hx, ?_⟩
  rw [entsI_get hx] at h
  injection h with h
  exact h.symm
def OKI (x : Item) : Prop := (126 : UInt8) ∉ x.name.data.toList ∧ 0 ≤ x.node.t ∧ 0 ≤ x.node.w ∧ x.name.data.toList.length ≤ 24 ∧ x.node.t ≤ 1099511627776 ∧ x.node.w ≤ 8
theorem ent_name (met : List ByteArray) (x : Item) : (entOf met x).name.data.toList = if metB met x.name = true then x.name.data.toList ++ markL x.node else x.name.data.toList := by
  unfold entOf
  by_cases h : metB met x.name = true
  · simp only [if_pos h]; rw [← markB_list]; simp
  · simp only [if_neg h]
theorem ents_nodes {l : List Item} (hd : l.Pairwise fun x y => x.node ≠ y.node) : (entsI l).Pairwise fun x y => x.node ≠ y.node := by
  rw [List.pairwise_iff_getElem]
  intro i j hi hj hij
  obtain ⟨x, hx, ex⟩ := entsI_at (List.getElem?_eq_getElem hi)
  obtain ⟨y, hy, ey⟩ := entsI_at (List.getElem?_eq_getElem hj)
  rw [ex, ey]
  have hil : i < l.length := by rw [entsI_len] at hi; exact hi
  have hjl : j < l.length := by rw [entsI_len] at hj; exact hj
  have h3 := List.pairwise_iff_getElem.1 hd i j hil hjl hij
  rw [List.getElem?_eq_getElem hil] at hx
  rw [List.getElem?_eq_getElem hjl] at hy
  injection hx with hx
  injection hy with hy
  rw [hx, hy] at h3
  exact h3
theorem find_one {α β : Type} [DecidableEq β] {f : α → β} {l : List α} (h : l.Pairwise fun x y => f x ≠ f y) {e : α} (he : e ∈ l) : l.find? (fun x => decide (f x = f e)) = some e := by
  induction l with
  | nil => cases he
  | cons z l ih =>
    obtain ⟨h1, h2⟩ := List.pairwise_cons.1 h
    rcases List.mem_cons.1 he with rfl | he'
    · simp
    · have : ¬ f z = f e := h1 _ he'
      simp [this, ih h2 he']
def nodeE (L : List Item) (m : Stamp) : Option EntD := (entsI (kidsI (gotI L m).parent L)).find? fun e => decide (e.node = m)
def shownB (L : List Item) (m : Stamp) : ByteArray := if (hasI L m && hangsI L 301 m) = true then ((nodeE L m).map (·.name)).getD ⟨#[]⟩ else ⟨#[]⟩
def shownK (L : List Item) (m : Stamp) : Int := if (hasI L m && hangsI L 301 m) = true then (if (nodeE L m).isSome then 0 else 12) else 12
structure Fit (L : List Item) : Prop where
  wf : Wf L
  len : L.length ≤ 300
  ok : ∀ x ∈ L, OKI x
theorem nameB_ok {s : ByteArray} (h : nameB s = true) : (126 : UInt8) ∉ s.data.toList ∧ s.data.toList.length ≤ 24 := by
  unfold nameB at h
  simp only [Bool.and_eq_true, decide_eq_true_eq] at h
  refine ⟨fun hm => ?_, ?_⟩
  · have h1 := h.2.2.2
    unfold nameCh at h1
    have := List.all_eq_true.1 h1 _ hm
    exact absurd this (by decide)
  · have := h.1.2
    simpa using this
theorem stR_ok {s : Stamp} (h : stR s = true) : 0 ≤ s.t ∧ 0 ≤ s.w ∧ s.t ≤ 1099511627776 ∧ s.w ≤ 8 := by
  unfold stR at h
  have := of_decide_eq_true h
  omega
theorem fit_do {L : List Item} (h : Fit L) (o : OpD) : Fit (doI L o).2 := by
  refine ⟨h.wf.doI h.len o, doI_len h.wf.srt h.len, ?_⟩
  unfold doI
  split
  · exact h.ok
  · split
    · exact h.ok
    · rename_i h1 h2
      show ∀ x ∈ (if (nowI L (gotI L o.node) o).2 = true then putI (nowI L (gotI L o.node) o).1 L else L), OKI x
      split
      · rename_i h3
        intro x hx
        rcases mem_put h.wf.srt hx with rfl | ⟨hx, _⟩
        · have hr : rightB o = true := by simpa using h1
          have hs : stR o.node = true := by unfold rightB at hr; simp only [Bool.and_eq_true] at hr; exact hr.2.1
          have hb : bodyB o = true := by unfold rightB at hr; simp only [Bool.and_eq_true] at hr; exact hr.2.2.2.2
          have hn : o.node ≠ nilS := by intro e; rw [e] at hs; cases hs
          have hnode := nowI_node h3
          have hst := stR_ok hs
          have same : (gotI L o.node).node = o.node → OKI (gotI L o.node) := fun e => h.ok _ (getI_some (got_some hn e)).1
          unfold nowI at h3 hnode ⊢
          by_cases k1 : o.kind = 1
          · rw [if_pos k1] at h3 hnode ⊢
            unfold bodyB at hb
            rw [if_pos k1] at hb
            simp only [Bool.and_eq_true] at hb
            have := nameB_ok hb.2.1
            exact ⟨this.1, hst.1, hst.2.1, this.2, hst.2.2.1, hst.2.2.2⟩
          · rw [if_neg k1] at h3 hnode ⊢
            by_cases k2 : o.kind = 2
            · rw [if_pos k2] at h3 hnode ⊢
              unfold bodyB at hb
              rw [if_neg k1, if_pos k2] at hb
              simp only [Bool.and_eq_true] at hb
              have := nameB_ok hb.2
              simp only [Bool.and_eq_true, decide_eq_true_eq] at h3
              have hx := same h3.1
              exact ⟨this.1, hx.2.1, hx.2.2.1, this.2, hx.2.2.2.2.1, hx.2.2.2.2.2⟩
            · rw [if_neg k2] at h3 hnode ⊢
              by_cases k3 : o.kind = 3
              · rw [if_pos k3] at h3 hnode ⊢
                exact same (of_decide_eq_true h3)
              · rw [if_neg k3] at h3 hnode ⊢
                simp only [Bool.and_eq_true, decide_eq_true_eq] at h3
                exact same h3.1
        · exact h.ok x hx
      · exact h.ok
theorem fit_fold : ∀ {l : List OpD} {L : List Item}, Fit L → Fit (l.foldl playI L)
  | [], _, h => h
  | o :: l, _, h => fit_fold (l := l) (fit_do h o)
theorem fit_build (os : List OpD) : Fit (buildI os) := fit_fold ⟨Wf.nil, by simp, by simp⟩
theorem srt_apart {L : List Item} (h : Srt L) : L.Pairwise fun x y => x.node ≠ y.node := h.imp fun h => ltS_ne h
theorem kids_mem {L : List Item} {n : Stamp} {x : Item} : x ∈ kidsI n L ↔ x ∈ L ∧ x.parent = n ∧ x.gone = false := by
  unfold kidsI; simp [List.mem_filter]
theorem Fit.kids {L : List Item} (h : Fit L) (n : Stamp) : (∀ x ∈ kidsI n L, OKI x) ∧ (kidsI n L).Pairwise (fun x y => x.node ≠ y.node) :=
  ⟨fun x hx => h.ok x (kids_mem.1 hx).1, (srt_apart h.wf.srt).sublist List.filter_sublist⟩
theorem Fit.nodes {L : List Item} (h : Fit L) (n : Stamp) : (entsI (kidsI n L)).Pairwise fun x y => x.node ≠ y.node := ents_nodes (h.kids n).2
end Go.Proofs.YtefhfoioeoijlaaGreatDoor
set_option linter.unusedVariables false
set_option linter.unusedSimpArgs false
namespace Go.Proofs.YtefhfoioeoijlaaGreatDoor
open Go Go.RowKit Go.Sort
theorem beq_ba (a b : ByteArray) : (a == b) = decide (a = b) := by
  obtain ⟨a⟩ := a
  obtain ⟨b⟩ := b
  show (a == b) = _
  by_cases h : a = b
  · subst h; simp
  · have : ¬ (⟨a⟩ : ByteArray) = ⟨b⟩ := fun e => h (by injection e)
    simp [h, this]
def locP (s : ByteArray) : List (ByteArray × Value) → Nat → Option (Nat × Value)
  | [], _ => none
  | p :: ps, i => if s = p.1 then some (i, p.2) else locP s ps (i + 1)
def getP (ps : List (ByteArray × Value)) (s : ByteArray) : Option Value := (locP s ps 0).map (·.2)
def Prs (es : List MapEntry) (ps : List (ByteArray × Value)) : Prop := Pair (fun e p => e.key = .string p.1 ∧ e.val = p.2) es ps
theorem findNow_s (s : ByteArray) : ∀ {es : List MapEntry} {ps : List (ByteArray × Value)} (i : Nat), Prs es ps → Instr.findNow .string (.string s) es i = some (locP s ps i)
  | [], [], _, _ => rfl
  | e :: es, p :: ps, i, ⟨⟨h1, h2⟩, hr⟩ => by
    have ih := findNow_s s (i + 1) hr
    unfold Instr.findNow locP
    rw [h1]
    by_cases h : s = p.1
    · rw [if_pos h]
      have : (s == p.1) = true := by rw [beq_ba]; exact decide_eq_true h
      simp [Instr.sameNow, this, h2]
    · rw [if_neg h]
      have : (s == p.1) = false := by rw [beq_ba]; exact decide_eq_false h
      simp [Instr.sameNow, this, ih]
  | [], _ :: _, _, h => h.elim
  | _ :: _, [], _, h => h.elim
section
variable {P : Program} {K : TypeId}
theorem findKey_s (hK : P.underlying K = some .string) (s : ByteArray) (w : World) {es : List MapEntry} {ps : List (ByteArray × Value)} (h : Prs es ps) : (Instr.findKey K (.string s) es).run P w = .ok (locP s ps 0) w := by
  unfold Instr.findKey
  simp only [run_underlying hK, Sem.run_bind, Result.andThen_ok, findNow_s s 0 h]
  rfl
theorem check_n (hK : P.underlying K = some .string) (b : Bool) (s : ByteArray) (w : World) (d : Nat) : (Instr.checkKey b (d + 1) K (.string s)).run P w = .ok () w := by
  unfold Instr.checkKey
  simp [run_underlying hK]
theorem check_s (hK : P.underlying K = some .string) (b : Bool) (s : ByteArray) (w : World) : (Instr.checkKey b 10000 K (.string s)).run P w = .ok () w := check_n hK b s w 9999
end
theorem locP_some {s : ByteArray} : ∀ {ps : List (ByteArray × Value)} {i j : Nat} {v : Value}, locP s ps i = some (j, v) → ∃ k, j = i + k ∧ ps[k]? = some (s, v) ∧ ∀ m q, m < k → ps[m]? = some q → s ≠ q.1
  | [], _, _, _, h => by simp [locP] at h
  | p :: ps, i, j, v, h => by
    unfold locP at h
    by_cases hp : s = p.1
    · rw [if_pos hp] at h
      simp only [Option.some.injEq, Prod.mk.injEq] at h
      exact ⟨0, by omega, by simp [hp, ← h.2], fun m q hm => by omega⟩
    · rw [if_neg hp] at h
      obtain ⟨k, h1, h2, h3⟩ := locP_some h
      refine ⟨k + 1, by omega, by simpa using h2, fun m q hm hq => ?_⟩
      cases m with
      | zero => simp at hq; rw [← hq]; exact hp
      | succ m => exact h3 m q (by omega) (by simpa using hq)
theorem locP_shift {s : ByteArray} : ∀ {ps : List (ByteArray × Value)} {i : Nat}, (locP s ps (i + 1)).map (·.2) = (locP s ps i).map (·.2)
  | [], _ => rfl
  | p :: ps, i => by
    unfold locP
    by_cases h : s = p.1
    · rw [if_pos h, if_pos h]; rfl
    · rw [if_neg h, if_neg h]; exact locP_shift
theorem getP_cons {p : ByteArray × Value} {ps : List (ByteArray × Value)} {s : ByteArray} : getP (p :: ps) s = if s = p.1 then some p.2 else getP ps s := by
  unfold getP
  rw [locP]
  by_cases h : s = p.1
  · rw [if_pos h, if_pos h]; rfl
  · rw [if_neg h, if_neg h]; exact locP_shift
theorem getP_snoc {s : ByteArray} {v : Value} : ∀ {ps : List (ByteArray × Value)}, getP ps s = none → ∀ t, getP (ps ++ [(s, v)]) t = if t = s then some v else getP ps t
  | [], _, t => by rw [List.nil_append, getP_cons]
  | p :: ps, h, t => by
    rw [getP_cons] at h
    by_cases hp : s = p.1
    · rw [if_pos hp] at h; cases h
    · rw [if_neg hp] at h
      rw [List.cons_append, getP_cons, getP_cons, getP_snoc h t]
      by_cases ht : t = p.1
      · rw [if_pos ht, if_pos ht, if_neg (fun e => hp (e.symm.trans ht))]
      · rw [if_neg ht, if_neg ht]
theorem getP_set {s : ByteArray} {v : Value} : ∀ {ps : List (ByteArray × Value)} {k : Nat} {u : Value}, ps[k]? = some (s, u) → (∀ m q, m < k → ps[m]? = some q → s ≠ q.1) → ∀ t, getP (ps.set k (s, v)) t = if t = s then some v else getP ps t
  | [], _, _, h, _, _ => by simp at h
  | p :: ps, 0, u, h, _, t => by
    simp at h; subst h
    rw [List.set_cons_zero, getP_cons, getP_cons]
    by_cases ht : t = s
    · rw [if_pos ht, if_pos ht]
    · rw [if_neg ht, if_neg ht, if_neg ht]
  | p :: ps, k + 1, u, h, hm, t => by
    have hp := hm 0 p (by omega) rfl
    rw [List.set_cons_succ, getP_cons, getP_cons, getP_set (by simpa using h) (fun m q hmk hq => hm (m + 1) q (by omega) (by simpa using hq)) t]
    by_cases ht : t = p.1
    · rw [if_pos ht, if_pos ht, if_neg (fun e => hp (e.symm.trans ht))]
    · rw [if_neg ht, if_neg ht]
def SMap (w : World) (r : Nat) (f : ByteArray → Option Value) : Prop := ∃ es clock ps, w.heap[r]? = some (.map es clock) ∧ Prs es.toList ps ∧ ∀ s, getP ps s = f s
theorem SMap.new {w : World} {r : Nat} {c : Nat} (h : w.heap[r]? = some (.map #[] c)) : SMap w r (fun _ => none) := ⟨#[], c, [], h, trivial, fun _ => rfl⟩
theorem SMap.up {w w' : World} {r : Nat} {f : ByteArray → Option Value} (h : SMap w r f) (u : Up w w') : SMap w' r f := by
  obtain ⟨es, c, ps, h1, h2⟩ := h
  exact ⟨es, c, ps, up_ob u h1, h2⟩
theorem SMap.chg {w w' : World} {r b : Nat} {f : ByteArray → Option Value} (h : SMap w r f) (u : Chg w w' b) (hne : r ≠ b) : SMap w' r f := by
  obtain ⟨es, c, ps, h1, h2⟩ := h
  exact ⟨es, c, ps, chg_ob u hne h1, h2⟩
theorem SMap.own {w w' : World} {r : Nat} {q : Option Nat} {f : ByteArray → Option Value} (h : SMap w r f) (u : w.grownBy w' q) (hne : q ≠ some r) : SMap w' r f := by
  obtain ⟨es, c, ps, h1, h2⟩ := h
  exact ⟨es, c, ps, own_ob u hne h1, h2⟩
theorem SMap.to {w : World} {r : Nat} {f g : ByteArray → Option Value} (h : SMap w r f) (e : ∀ s, f s = g s) : SMap w r g := by
  obtain ⟨es, c, ps, h1, h2, h3⟩ := h
  exact ⟨es, c, ps, h1, h2, fun s => (h3 s).trans (e s)⟩
theorem SMap.ob {w : World} {r : Nat} {f : ByteArray → Option Value} (h : SMap w r f) : ∃ es c, w.heap[r]? = some (.map es c) := by
  obtain ⟨es, c, _, h1, _⟩ := h; exact ⟨es, c, h1⟩
section
variable {P : Program} {T K E : TypeId}
theorem SMap.look {w : World} {r : Nat} {f : ByteArray → Option Value} (h : SMap w r f) (hT : P.underlying T = some (.map K E)) (hK : P.underlying K = some .string) {z : Value} (hz : ∀ W, (zeroValue E).run P W = .ok z W) (s : ByteArray) :
    (Instr.lookup T (.map (some r)) (.string s) false).run P w = .ok ((f s).getD z) w := by
  obtain ⟨es, c, ps, h1, h2, h3⟩ := h
  have e := h3 s
  unfold getP at e
  cases hl : locP s ps 0 with
  | none =>
    rw [hl] at e
    simp [Instr.lookup, run_underlying hT, getObj, Sem.run, h1, check_s hK, findKey_s hK s w h2, hl, hz, ← e]
  | some jv =>
    rw [hl] at e
    simp [Instr.lookup, run_underlying hT, getObj, Sem.run, h1, check_s hK, findKey_s hK s w h2, hl, ← e]
theorem SMap.store {w : World} {r : Nat} {f : ByteArray → Option Value} (h : SMap w r f) (hT : P.underlying T = some (.map K E)) (hK : P.underlying K = some .string) (s : ByteArray) (v : Value) :
    ∃ w', (Instr.mapUpdate T (.map (some r)) (.string s) v).run P w = .ok () w' ∧ Chg w w' r ∧ SMap w' r (fun t => if t = s then some v else f t) := by
  obtain ⟨es, c, ps, h1, h2, h3⟩ := h
  have hlt : r < w.heap.size := lt_ob h1
  have e := h3 s
  unfold getP at e
  cases hl : locP s ps 0 with
  | none =>
    rw [hl] at e
    refine ⟨putMap w r (es.push { key := .string s, val := v, born := c }) (c + 1), ?_, putMap_grown w r _ _, ?_⟩
    · simp [Instr.mapUpdate, run_underlying hT, getObj, setObj, Sem.run, h1, check_s hK, findKey_s hK s w h2, hl, putMap]
    · refine ⟨_, _, ps ++ [(s, v)], by show (w.heap.setIfInBounds r _)[r]? = _; rw [Array.getElem?_setIfInBounds_self, if_pos hlt], ?_, ?_⟩
      · rw [Array.toList_push]
        exact Pair.snoc h2 ⟨rfl, rfl⟩
      · intro t
        rw [getP_snoc (by unfold getP; rw [hl]; rfl), h3 t]
  | some jv =>
    obtain ⟨j, u⟩ := jv
    obtain ⟨k, hk, hp, hm⟩ := locP_some hl
    obtain rfl : j = k := by omega
    have hj : j < es.size := by have := (List.getElem?_eq_some_iff.1 hp).1; rw [← Pair.length h2] at this; simpa using this
    obtain ⟨e0, he0⟩ : ∃ e0, es[j]? = some e0 := ⟨_, Array.getElem?_eq_getElem hj⟩
    have he1 : es.toList[j]? = some e0 := by rw [Array.getElem?_toList]; exact he0
    have hkey : e0.key = .string s := (h2.get he1 hp).1
    have hss : (s == s) = true := by rw [beq_ba]; exact decide_eq_true rfl
    have hmod : (es.modify j fun e => { e with key := .string s, val := v }).toList = es.toList.set j { e0 with key := .string s, val := v } := by
      apply List.ext_getElem?
      intro i
      rw [Array.getElem?_toList, Array.getElem?_modify, List.getElem?_set]
      by_cases hi : j = i
      · subst hi
        simp [he0, hj]
        rw [Array.getElem?_eq_getElem hj] at he0
        injection he0 with he0
        rw [he0]
      · simp [hi]
    refine ⟨putMap w r (es.modify j fun e => { e with key := .string s, val := v }) c, ?_, putMap_grown w r _ _, ?_⟩
    · simp [Instr.mapUpdate, run_underlying hT, getObj, setObj, Sem.run, h1, check_s hK, findKey_s hK s w h2, hl, putMap, he0, hkey, Instr.keyThatStays, Instr.sameBits, hss]
    · refine ⟨_, _, ps.set j (s, v), by show (w.heap.setIfInBounds r _)[r]? = _; rw [Array.getElem?_setIfInBounds_self, if_pos hlt], ?_, ?_⟩
      · rw [hmod]
        exact Pair.set h2 ⟨rfl, rfl⟩
      · intro t
        rw [getP_set hp hm t, h3 t]
end
section
variable {ρ : Operand → Value} {P : Program} {w : World} {d : Option Tmp} {ty : TypeId} {pos : String} {af : Array Edge} {g : Option (Nat × Bool)}
theorem r_lookS {T K E : TypeId} {x y : Operand} {r : Nat} {f : ByteArray → Option Value} {s : ByteArray} {z v : Value} (hx : ρ x = .map (some r)) (hy : ρ y = .string s) (h : SMap w r f) (hT : P.underlying T = some (.map K E)) (hK : P.underlying K = some .string) (hz : ∀ W, (zeroValue E).run P W = .ok z W) (hv : (f s).getD z = v) :
    (execOp ρ ⟨d, .lookup T x y false, ty, pos, af, g⟩).run P w = .ok (.value v) w := by
  have := h.look hT hK hz s
  simp [execOp, hx, hy, this, hv]
theorem r_callb {fn : FuncId} {x : Operand} {xs : List Operand} {ats : Array TypeId} {us all : List Value} (hf : ∀ args w, (callFunc fn args).run P w = .ok (.enter fn args) w) (hx : ρ x = .func (.func fn) us.toArray #[]) (ha : us ++ xs.map ρ = all) :
    (execOp ρ ⟨d, .call ⟨.value x, xs.toArray, ats⟩, ty, pos, af, g⟩).run P w = .ok (.enter fn all.toArray) w := by
  subst ha
  simp [execOp, resolve, hx, Deferred.ofValue, invoke, hf]
end
theorem ERow.chgm {T : TypeId} {B base b : Nat} {w w' : World} {v : Value} {L : List EntD} (h : ERow T B base w v L) (c : Chg w w' b) (hn : v.ownBlock ≠ some b) : ERow T B base w' v L := World.ownsRow.kept h c (.inr hn)
theorem ERow.snoc {T : TypeId} {base : Nat} {B : Nat} {w : World} {v : Value} {L : List EntD} (h : ERow T B base w v L) {P : Program} {t ty : TypeId} {i : TypeInfo} {z : Value} (ht : P.underlying t = some (.slice T)) (hi : P.info? T = some i) (hz : i.zero = some z)
    (hsize : i.size = 5) (hby : i.bytes = 48) (hzs : z.cells.size = 5) {b : Nat} {x : EntD} (hb : w.heap[b]? = some (.cells (enC x).toArray T (0, 0))) (hbase : base ≤ w.heap.size) (hlen : L.length ≤ 100000) :
    ∃ v' w', (Builtin.append_ #[t, t] ty #[v, .slice (some ⟨b, 0, none⟩) 1 1]).run P w = .ok v' w' ∧ ERow T B base w' v' (L ++ [x]) ∧ w.grownBy w' v.ownBlock ∧ v' ≠ .slice none 0 0 := by
  obtain ⟨v', w', h1, h2, h3, h4⟩ := run_append_own (P := P) w base t ty T i z 5 48 ht hi hz hsize hby hzs (by decide) v L.length (flatE L) h ⟨b, 0, none⟩ 1 1 (enC x) (by simp [enC])
    (fun j u hj => by
      rw [add_at, Nat.zero_add]
      have : (enC x).toArray[j]? = some u := by simpa using hj
      simp only [World.cell?, hb]; simpa using this) (by intro u hu; simp [enC] at hu; rcases hu with rfl | rfl | rfl | rfl | rfl <;> rfl) (by unfold maxLen; omega) (by omega) hbase
  refine ⟨v', w', h1, ?_, h3, fun e => by have := (h4.1 e).2; omega⟩
  unfold ERow
  rw [flatE_snoc]
  simpa using h2
theorem snE {P : Program} {T : TypeId} {ops : Array Oper} {Q : Exit → Act → World → Prop} {a : Act} {w : World} {J : Act → World → Prop} {d : Option Tmp} {ty : TypeId} {pos : String} {af : Array Edge} {g : Option (Nat × Bool)}
    {B base : Nat} {v : Value} {L : List EntD} {t : TypeId} {s y : Operand} {i : TypeInfo} {z : Value} {b : Nat} {x : EntD}
    (hw : Region.wanted (⟨d, .call ⟨.builtin .append, #[s, y], #[t, t]⟩, ty, pos, af, g⟩ : Oper) (yielded ops a.tmps) = true) (hs : a.eval s = v) (hy : a.eval y = .slice (some ⟨b, 0, none⟩) 1 1)
    (h : ERow T B base w v L) (ht : P.underlying t = some (.slice T)) (hi : P.info? T = some i) (hz : i.zero = some z)
    (hsize : i.size = 5) (hby : i.bytes = 48) (hzs : z.cells.size = 5) (hb : w.heap[b]? = some (.cells (enC x).toArray T (0, 0))) (hbase : base ≤ w.heap.size) (hlen : L.length ≤ 100000)
    (k : ∀ A n c w', n = (L ++ [x]).length → ERow T B base w' (.slice A n c) (L ++ [x]) → w.grownBy w' v.ownBlock → J (a.put d (.slice A n c)) w') : St1 P ops Q ⟨d, .call ⟨.builtin .append, #[s, y], #[t, t]⟩, ty, pos, af, g⟩ J a w := by
  obtain ⟨v', w', h1, h2, h3, h4⟩ := h.snoc (ty := ty) ht hi hz hsize hby hzs hb hbase hlen
  obtain ⟨A, c, rfl⟩ := h2.form
  refine sv hw ?_ (k A _ c w' rfl h2 h3)
  simp [execOp, resolve, invoke, builtin, hs, hy, h1]
theorem ERow.base {T : TypeId} {B base base' : Nat} {w : World} {v : Value} {L : List EntD} (h : ERow T B base w v L) (hb : base' ≤ base) : ERow T B base' w v L := by
  obtain ⟨h1, h2⟩ := h
  refine ⟨h1, ?_⟩
  rcases h2 with hn | ⟨g, cap, cur, hv, hbg, rest⟩
  · exact .inl hn
  · exact .inr ⟨g, cap, cur, hv, Nat.le_trans hb hbg, rest⟩
theorem ERow.ne_old {T : TypeId} {B base b : Nat} {w : World} {v : Value} {L : List EntD} (h : ERow T B base w v L) (e : b < base) : v.ownBlock ≠ some b := fun hh => by have := (h.own _ hh).1; omega
theorem ERow.get {T : TypeId} {B base : Nat} {w : World} {v : Value} {L : List EntD} (h : ERow T B base w v L) {i : Nat} {x : EntD} (hi : L[i]? = some x) :
    ∃ g cap cur, v = .slice (some ⟨g, 0, none⟩) L.length cap ∧ base ≤ g ∧ w.heap[g]? = some (.cells cur T (0, 0)) ∧ (cur.toList.drop (i * 5)).take 5 = enC x := by
  obtain ⟨A, c, rfl⟩ := h.form
  have h' := h
  obtain ⟨h1, ⟨e, h0⟩ | ⟨g, cap, cur, e, hb, hg, _⟩⟩ := h
  · have := (List.getElem?_eq_some_iff.1 hi).1; omega
  · injection e with e1 e2 e3
    subst e1
    obtain ⟨cur', hc1, hc2⟩ := h'.elem hi
    exact ⟨g, c, cur', rfl, hb, hc1, hc2⟩
theorem ERow.le {T : TypeId} {B base : Nat} {w : World} {v : Value} {L : List EntD} (h : ERow T B base w v L) : L.length ≤ 9223372036854775807 := by
  obtain ⟨_, ⟨_, h0⟩ | ⟨g, cap, cur, _, _, _, hc, hm, _⟩⟩ := h
  · omega
  · unfold maxLen at hm; omega
theorem TabIs.up {P : Program} {w w' : World} {name : String} {k : IntKind} {zs : List Int} (h : Lib.TabIs P w name k zs) (u : Up w w') : Lib.TabIs P w' name k zs := by
  unfold Lib.TabIs World.var? at h ⊢
  cases hg : P.globalNamed name with
  | none => simp only [hg, Option.bind_none] at h; cases h
  | some g =>
    simp only [hg, Option.bind_some] at h ⊢
    cases hw : w.heap[g]? with
    | none => rw [hw] at h; cases h
    | some o => rw [up_ob u hw]; rw [hw] at h; exact h
end Go.Proofs.YtefhfoioeoijlaaGreatDoor
set_option linter.unusedVariables false
set_option linter.unusedSimpArgs false
namespace Go.Proofs.YtefhfoioeoijlaaGreatDoor
open Go Go.RowKit Go.Sort
theorem ent_short {x : Item} {met : List ByteArray} (h : OKI x) : (entOf met x).name.data.toList.length ≤ 100 := by
  rw [ent_name]
  obtain ⟨_, h1, h2, h3, h4, h5⟩ := h
  have i1 := Lib.itoa_length_le x.node.t (by omega) (by omega)
  have i2 := Lib.itoa_length_le x.node.w (by omega) (by omega)
  split
  · simp only [markL, List.length_append, List.length_cons]; omega
  · omega
theorem ents_short {l : List Item} (hc : ∀ x ∈ l, OKI x) : ∀ e ∈ entsI l, e.name.data.toList.length ≤ 100 := fun e he => by
  obtain ⟨k, hk⟩ := List.mem_iff_getElem?.1 he
  obtain ⟨x, hx, rfl⟩ := entsI_at hk
  exact ent_short (hc x (List.mem_of_getElem? hx))
end Go.Proofs.YtefhfoioeoijlaaGreatDoor
set_option linter.unusedVariables false
set_option linter.unusedSimpArgs false
namespace Go.Proofs.YtefhfoioeoijlaaGreatDoor
open Go Go.RowKit Go.Sort
def metF (ns : List ByteArray) (s : ByteArray) : Option Value := if metB ns s = true then some (.bool true) else none
theorem metF_get (ns : List ByteArray) (s : ByteArray) : (metF ns s).getD (.bool false) = .bool (metB ns s) := by
  unfold metF; cases metB ns s <;> rfl
theorem metF_nil (l : List Item) : ∀ s, (none : Option Value) = metF (namesI (l.take 0)) s := fun s => by simp [metF, namesI, metB]
theorem metF_next {l : List Item} {k : Nat} {x : Item} (h : l[k]? = some x) : ∀ s, (if s = x.name then some (.bool true) else metF (namesI (l.take k)) s) = metF (namesI (l.take (k + 1))) s := fun s => by
  rw [names_next h]
  unfold metF metB
  rw [List.any_append]
  by_cases e : s = x.name
  · subst e; simp
  · rw [if_neg e]
    have e' : ¬ x.name = s := fun h => e h.symm
    simp only [List.any_cons, List.any_nil, decide_eq_false e', Bool.or_false]
theorem ents_yes {l : List Item} {k dn : Nat} {x : Item} (hx : l[k]? = some x) (hd : x.data.length = dn) (h : metB (namesI (l.take k)) x.name = true) :
    entsI (l.take k) ++ [(⟨x.name ++ markB ⟨x.node.t, x.node.w⟩, ⟨x.node.t, x.node.w⟩, x.dir, (dn : Int)⟩ : EntD)] = entsI (l.take (k + 1)) := by
  rw [entsI_next hx]; unfold entOf; rw [if_pos h, hd]
theorem ents_not {l : List Item} {k dn : Nat} {x : Item} (hx : l[k]? = some x) (hd : x.data.length = dn) (h : metB (namesI (l.take k)) x.name = false) :
    entsI (l.take k) ++ [(⟨x.name, ⟨x.node.t, x.node.w⟩, x.dir, (dn : Int)⟩ : EntD)] = entsI (l.take (k + 1)) := by
  rw [entsI_next hx]; unfold entOf; rw [if_neg (by rw [h]; decide), hd]
theorem mark_size {x : Item} (h : OKI x) : x.name.size + (markB ⟨x.node.t, x.node.w⟩).size ≤ 9223372036854775807 := by
  obtain ⟨_, h1, h2, h3, h4, h5⟩ := h
  have i1 := Lib.itoa_length_le x.node.t (by omega) (by omega)
  have i2 := Lib.itoa_length_le x.node.w (by omega) (by omega)
  have e : (markB ⟨x.node.t, x.node.w⟩).size = (markL x.node).length := by rw [← markB_list]; simp
  rw [e]
  have e2 : x.name.size = x.name.data.toList.length := by simp
  rw [e2]
  simp only [markL, List.length_append, List.length_cons]
  omega
theorem entsI_take {l : List Item} {k : Nat} (h : l.length ≤ k) : entsI (l.take k) = entsI l := by rw [List.take_of_length_le h]
theorem ents_le (l : List Item) (k : Nat) : (entsI (l.take k)).length ≤ l.length := by rw [entsI_len]; exact List.length_take_le' _ _
theorem kids_300 {L : List Item} (h : Fit L) (n : Stamp) : (kidsI n L).length ≤ 300 := Nat.le_trans (kids_len n L) h.len
theorem shown_no1 {L : List Item} {m : Stamp} (h : hasI L m = false) : shownB L m = ⟨#[]⟩ ∧ shownK L m = 12 := by
  unfold shownB shownK; rw [h]; exact ⟨rfl, rfl⟩
theorem shown_no2 {L : List Item} {m : Stamp} (h : hangsI L 301 m = false) : shownB L m = ⟨#[]⟩ ∧ shownK L m = 12 := by
  unfold shownB shownK; rw [h, Bool.and_false]; exact ⟨rfl, rfl⟩
theorem shown_hit {L : List Item} {m : Stamp} {k : Nat} {y : EntD} (hF : Fit L) (h1 : hasI L m = true) (h2 : hangsI L 301 m = true) (hy : (entsI (kidsI (gotI L m).parent L))[k]? = some y) (e : y.node = m) : shownB L m = y.name ∧ shownK L m = 0 := by
  have hn : nodeE L m = some y := by
    unfold nodeE
    have := find_one (f := fun e : EntD => e.node) (hF.nodes (gotI L m).parent) (List.mem_of_getElem? hy)
    rw [e] at this; exact this
  unfold shownB shownK
  rw [h1, h2, hn]; exact ⟨rfl, rfl⟩
theorem shown_miss {L : List Item} {m : Stamp} (h : ∀ (j : Nat) (y : EntD), (entsI (kidsI (gotI L m).parent L))[j]? = some y → y.node ≠ m) : shownB L m = ⟨#[]⟩ ∧ shownK L m = 12 := by
  have hn : nodeE L m = none := by
    unfold nodeE
    rw [List.find?_eq_none]
    intro e he
    obtain ⟨j, hj⟩ := List.mem_iff_getElem?.1 he
    simpa using h j e hj
  unfold shownB shownK
  rw [hn]; split <;> exact ⟨rfl, rfl⟩
theorem shown_ret {L : List Item} {m : Stamp} {b : ByteArray} {k : Int} (h : shownB L m = b ∧ shownK L m = k) : Ending.returned (.tuple #[.string b, .int .i64 k]) = .returned (.tuple #[.string (shownB L m), .int .i64 (shownK L m)]) := by rw [h.1, h.2]
theorem none_next {α : Type} {D : List α} {k : Nat} {x : α} {p : α → Prop} (h : Hid (∀ (j : Nat) (y : α), j < k → D[j]? = some y → ¬ p y)) (hx : D[k]? = some x) (hp : ¬ p x) : Hid (∀ (j : Nat) (y : α), j < k + 1 → D[j]? = some y → ¬ p y) := fun j y hj hy => by
  rcases Nat.lt_or_ge j k with h1 | h1
  · exact h.out j y h1 hy
  · obtain rfl : j = k := by omega
    rw [hx] at hy; injection hy with hy; subst hy; exact hp
theorem none_end {α : Type} {D : List α} {k : Nat} {p : α → Prop} (h : Hid (∀ (j : Nat) (y : α), j < k → D[j]? = some y → ¬ p y)) (hk : D.length ≤ k) : ∀ (j : Nat) (y : α), D[j]? = some y → ¬ p y := fun j y hy => h.out j y (by have := (List.getElem?_eq_some_iff.1 hy).1; omega) hy
end Go.Proofs.YtefhfoioeoijlaaGreatDoor
set_option linter.unusedVariables false
set_option linter.unusedSimpArgs false
namespace Go.Proofs.YtefhfoioeoijlaaGreatDoor
open Go Go.RowKit Go.Sort
abbrev Tab (w : World) : Prop := Lib.TabIs Tryz.prog w "internal/strconv.uint64pow10" .u64 Lib.pow10Tab
theorem fmt_at {w : World} (htab : Tab w) (n : Int) (h0 : -9223372036854775808 ≤ n) (h1 : n ≤ 9223372036854775807) : Calls Tryz.prog 94 #[.int .i64 n, .int .i64 10] w fun e w' => e = .returned (.string ⟨(Lib.itoa n).toArray⟩) ∧ Up w w' := by
  refine (Tryz.strconv_FormatInt_10 n h0 h1 w htab).mono ?_
  rintro e w' ⟨rfl, k, os, rfl⟩
  exact ⟨rfl, Ups.below ⟨k, os, rfl⟩⟩
theorem itoa_at {w : World} (htab : Tab w) (n : Int) (h0 : -9223372036854775808 ≤ n) (h1 : n ≤ 9223372036854775807) : Calls Tryz.prog 95 #[.int .i64 n] w fun e w' => e = .returned (.string ⟨(Lib.itoa n).toArray⟩) ∧ Up w w' := by
  refine (Tryz.strconv_Itoa n h0 h1 w htab).mono ?_
  rintro e w' ⟨rfl, k, os, rfl⟩
  exact ⟨rfl, Ups.below ⟨k, os, rfl⟩⟩
theorem itoa_size {n : Int} (h0 : -9223372036854775808 ≤ n) (h1 : n ≤ 9223372036854775807) : (⟨(Lib.itoa n).toArray⟩ : ByteArray).size ≤ 21 := by
  have := Lib.itoa_length_le n h0 h1
  simpa [ByteArray.size] using this
theorem info_ent : ∃ i z, Tryz.prog.info? 35 = some i ∧ i.zero = some z ∧ i.size = 5 ∧ i.bytes = 48 ∧ z.cells.size = 5 := by
  have h : (Tryz.prog.info? 35).map (fun i => (i.zero.map (·.cells.size), i.size, i.bytes)) = some (some 5, 5, 48) := by kernel_rfl
  cases hi : Tryz.prog.info? 35 with
  | none => rw [hi] at h; cases h
  | some i =>
    rw [hi] at h; simp at h
    obtain ⟨⟨z, hz, h1⟩, h2, h3⟩ := h
    exact ⟨i, z, rfl, hz, h2, h3, h1⟩
end Go.Proofs.YtefhfoioeoijlaaGreatDoor
set_option linter.unusedVariables false
set_option linter.unusedSimpArgs false
namespace Go.Proofs.YtefhfoioeoijlaaGreatDoor
open Go Go.RowKit Go.Sort
set_option maxHeartbeats 2000000 in
theorem all1_at {w : World} (x : Item) (xA : Option Addr) (xn xc : Nat) : Calls Tryz.prog 100 #[itV x (.slice xA xn xc)] w fun e w' => e = .returned (.bool true) ∧ Up w w' := by
  go_enter Tryz.func100, Tryz.ntmps100
  refine wp_seq (rg_lit ?_)
  refine wl (sn rfl (cs := (itC x (.slice xA xn xc)).toArray) (T := 42) (V := fun b => .pointer (some ⟨b, 0, none⟩)) (r_box (v := itV x (.slice xA xn xc)) (by kernel_rfl) rfl) ?_)
  intro b1 w2 e3 h4 u5
  have g6 : w.heap.size ≤ b1 := by rw [e3]; exact (Mod.refl [] w).size
  have M7 := Mod.trans (Mod.refl [] w) (Mod.of_up u5)
  refine was (v := .bool false) ?_
  refine wnil (then_n (wp_seq (rg_lit ?_)))
  refine was (v := .bool true) ?_
  refine wnil (then_n (wp_ret ?_))
  refine bodyPost_ret (v := .bool true) (res1 rfl (rv_t (by kernel_rfl))) (by kernel_rfl) ?_
  exact ⟨rfl, (Mod.up M7)⟩
set_option maxHeartbeats 2000000 in
theorem some_all_at {B : Nat} {w : World} {tb r : Nat} {L : List Item} (h : TreeIs B w tb r L) (hB : B ≤ w.heap.size) :
    Calls Tryz.prog 97 #[trP tb, .func (.func 100) #[] #[]] w fun e w' => ∃ v, e = .returned v ∧ IRow 42 B w.heap.size w' v L ∧ Up w w' := by
  have hsrt := h.2.2.2.1.srt
  obtain ⟨hr_es, hr_cl, hr_xs, hr, _⟩ := h.2.2.2.1
  have hL := h.2.2.2.2
  obtain ⟨ii_p, iz_p, hi_p, hz_p, hs_p, hb_p, hc_p⟩ := info_item
  go_enter Tryz.func97, Tryz.ntmps97
  refine wp_seq (rg_lit ?_)
  refine was (v := .slice none 0 0) ?_
  refine wnil (then_n (wp_seq (wp_seq (rg_lit ?_))))
  refine wmv (v := .pointer (some ⟨tb, 0, none⟩)) ?_
  refine wl (sv (w' := w) rfl (v := .bool false) (by kernel_rfl) ?_)
  refine wnil (then_n ?_)
  refine wp_cond_false (by kernel_rfl) ?_
  refine wp_skip (then_n (wp_seq (wp_seq (rg_lit ?_))))
  refine wmv (v := .pointer (some ⟨tb, 0, none⟩)) ?_
  refine wl (sv rfl (v := .pointer (some ⟨tb, 0, none⟩)) (r_nilCheck (by kernel_rfl)) ?_)
  refine wl (sv rfl (v := .pointer (some ⟨tb, 0, none⟩)) (r_fieldAddr (u := .pointer (some ⟨tb, 0, none⟩)) (by kernel_rfl) (fun _ => (by kernel_rfl))) ?_)
  refine wl (sv rfl (v := .map (some r)) (r_load (k := 0) (by kernel_rfl) Ty.ag106 h.1 (by kernel_rfl)) ?_)
  refine wl (sc rfl (r_callv (caps := []) (all := [.map (some r)]) En.f149 (by kernel_rfl) (by kernel_rfl)) (mkeys_at r) ?_)
  rintro e w1 ⟨b2, rfl, h3, u4⟩
  refine ⟨.func (.func 180) #[] #[.pointer (some ⟨b2, 0, none⟩)], rfl, ?_⟩
  have M5 := Mod.trans (Mod.refl [] w) (Mod.of_up u4)
  have h6 := (TreeIs.up h (Mod.up M5))
  refine wl (sc rfl (r_callv (caps := []) (all := [.func (.func 180) #[] #[.pointer (some ⟨b2, 0, none⟩)], .func (.func 137) #[] #[]]) En.f135 (by kernel_rfl) (by kernel_rfl)) (sorted_sl h6 h3) ?_)
  rintro e w7 ⟨A8, c9, rfl, h10, u11⟩
  refine ⟨.slice A8 L.length c9, rfl, ?_⟩
  have M12 := Mod.trans M5 (Mod.of_up u11)
  refine wl (sv rfl (v := .int .i64 (L.length : Int)) (r_len Ty.un95 (ad := A8) (n := L.length) (c := c9) (by kernel_rfl)) ?_)
  refine wmv (v := .int .i64 0) ?_
  refine wnil (then_n (wp_block ?_))
  have h13 := md_ob M12 nin0 h.1
  have h14 := md_ob M12 nin0 hr
  have h15 := (TreeIs.up h (Mod.up M12))
  have h16 := ((Below.cell u11 (World.block_lt_of_cell? _ _ h3)).trans h3)
  refine lp (fun n a r1 => ∃ (k : Nat) (oA : Option Addr) (on : Nat) (oc : Nat) (z6 z7 z18 z19 z20 z21 z22 z23 z24 z25 z26 z27 z28 z29 z30 z31 z32 z33 z34 z35 : Value), (n = L.length - k) ∧ (a = ⟨#[.pointer (some ⟨tb, 0, none⟩), .func (.func 100) #[] #[], undef, undef, .slice oA on oc, undef, z6, z7, .pointer (some ⟨tb, 0, none⟩), .bool false, .pointer (some ⟨tb, 0, none⟩), .pointer (some ⟨tb, 0, none⟩), .pointer (some ⟨tb, 0, none⟩), .map (some r), .func (.func 180) #[] #[.pointer (some ⟨b2, 0, none⟩)], .slice A8 L.length c9, .int .i64 (L.length : Int), .int .i64 (k : Int), z18, z19, z20, z21, z22, z23, z24, z25, z26, z27, z28, z29, z30, z31, z32, z33, z34, z35, undef], []⟩) ∧ (Mod [] w7 r1) ∧ (k ≤ L.length) ∧ (IRow 42 B w7.heap.size r1 (.slice oA on oc) (L.take k))) ⟨_, 0, none, 0, 0, undef, undef, undef, undef, undef, undef, undef, undef, undef, undef, undef, undef, undef, undef, undef, undef, undef, undef, undef, undef, rfl, (by kernel_rfl), Mod.refl _ _, Nat.zero_le _, IRow.nil _ _ _ _⟩ ?_
  rintro _ _ r1 ⟨k, oA, on, oc, z6, z7, z18, z19, z20, z21, z22, z23, z24, z25, z26, z27, z28, z29, z30, z31, z32, z33, z34, z35, rfl, rfl, hM1, hF1_0, hF1_1⟩
  have M17 := Mod.thin M12 hM1 (by simp)
  refine wp_seq (rg_lit ?_)
  refine wl (sb rfl (r_lt (k := .i64) (m := (k : Int)) (n := (L.length : Int)) (by kernel_rfl) (by kernel_rfl)) ?_)
  intro b18 k19
  refine wnil (then_n (wp_seq ?_))
  refine bcase b18 (fun v20 => ?_) (fun v20 => ?_)
  ·
   have p21 := of_decide_eq_false (k19.trans v20)
   refine wp_cond_false (ebool (b := b18) (by kernel_rfl) v20) ?_
   refine wp_exit (then_x (by nofun) (then_x (by nofun) (inb_hit (then_n (wp_seq (rg_lit ?_))))))
   refine wmv (v := .slice oA on oc) ?_
   refine was (v := .slice oA on oc) ?_
   refine wnil (then_n (wp_ret ?_))
   refine bodyPost_ret (v := .slice oA on oc) (res1 rfl (rv_t (by kernel_rfl))) (by kernel_rfl) ?_
   refine ⟨_, rfl, ?_, (Mod.up M17)⟩
   have hk : L.take k = L := List.take_of_length_le (by omega)
   rw [hk] at hF1_1; exact IRow.base hF1_1 M12.size
  have p21 := of_decide_eq_true (k19.trans v20)
  have q22 : k < L.length := by omega
  have q23 : k < L.length := by omega
  refine wp_cond_true (ebool (b := b18) (by kernel_rfl) v20) ?_
  refine wp_skip (then_n (wp_seq (wp_block (wp_seq (rg_lit ?_)))))
  have h24 := (SRow.up h10 (Mod.up hM1))
  obtain ⟨x25, hx25⟩ : ∃ x, L[k]? = some x := ⟨_, List.getElem?_eq_getElem q23⟩
  obtain ⟨g25, hA25, hl25, hc25, hd25⟩ := SRow.item h24 hx25
  refine wl (sv rfl (v := .pointer (some ⟨g25, k * 2, none⟩)) (r_ixaddr' (A := A8) (b := g25) (o := 0) (n := L.length) (c := c9) (sz := 2) (j := (k : Int)) (m := k * 2) (by kernel_rfl) hA25 (by kernel_rfl) Ty.un95 Ty.sz24 (by omega) (by omega) (by simp)) ?_)
  refine wl (sv rfl (v := .agg #[.int .i64 x25.node.t, .int .i64 x25.node.w]) (r_loadc2 (by kernel_rfl) Ty.ag24 Ty.sz24 hc25 hd25) ?_)
  refine wl (sn rfl (cs := #[.int .i64 0, .int .i64 0]) (T := 24) (V := fun b => .pointer (some ⟨b, 0, none⟩)) (r_alloc Ty.zv24 rfl) ?_)
  intro b26 w27 e28 h29 u30
  have h31 := md_ob M17 nin0 h.1
  have l32 : tb < b26 := by rw [e28]; exact lt_ob h31
  have h33 := md_ob M17 nin0 hr
  have l34 : r < b26 := by rw [e28]; exact lt_ob h33
  have n35 := hF1_1.ne_fresh e28
  have g36 : w.heap.size ≤ b26 := by rw [e28]; exact M17.size
  have g37 : w7.heap.size ≤ b26 := by rw [e28]; exact hM1.size
  have M38 := Mod.trans M17 (Mod.of_up u30)
  have M39 := Mod.trans hM1 (Mod.of_up u30)
  refine wl (ss rfl (k := 0) (v := .agg #[.int .i64 x25.node.t, .int .i64 x25.node.w]) (vs := [.int .i64 x25.node.t, .int .i64 x25.node.w]) (cs' := [.int .i64 x25.node.t, .int .i64 x25.node.w]) (by kernel_rfl) (by kernel_rfl) rfl Ty.sz24 h29 rfl (Nat.le_of_ble_eq_true rfl) rfl ?_)
  intro w40 h41 c42
  have M43 := Mod.trans' M38 c42 (fun i hi => by injection hi with hi; rw [← hi]; exact g36)
  have M44 := Mod.trans' M39 c42 (fun i hi => by injection hi with hi; rw [← hi]; exact g37)
  refine wnil (then_n (wp_seq ?_))
  refine rg_held [] (n := 8) (by kernel_rfl) rfl ?_
  intro w45 u46
  have M47 := Mod.trans M43 (Mod.of_up u46)
  have M48 := Mod.trans M44 (Mod.of_up u46)
  refine hvq (i := 0) (fuel := 7) rfl (fun _ _ _ h => h) (Mod.refl _ _) rfl (v := .pointer (some ⟨tb, 0, none⟩)) (fun _ _ => r_move (by kernel_rfl)) ?_
  refine hvq (i := 1) (fuel := 6) rfl (fun _ _ _ h => h) (Mod.refl _ _) rfl (v := .pointer (some ⟨tb, 0, none⟩)) (fun _ _ => r_nilCheck (by kernel_rfl)) ?_
  refine hvq (i := 2) (fuel := 5) rfl (fun _ _ _ h => h) (Mod.refl _ _) rfl (v := .pointer (some ⟨tb, 0, none⟩)) (fun _ _ => r_fieldAddr (u := .pointer (some ⟨tb, 0, none⟩)) (by kernel_rfl) (fun _ => (by kernel_rfl))) ?_
  have h49 := md_ob M47 nin0 h.1
  refine hvq (i := 3) (fuel := 4) rfl (fun _ _ _ h => h) (Mod.refl _ _) rfl (v := .map (some r)) (fun _ uz => r_load (k := 0) (by kernel_rfl) Ty.ag106 (md_ob uz nin0 h49) (by kernel_rfl)) ?_
  have h50 := (up_ob u46 h41)
  refine hvq (i := 4) (fuel := 3) rfl (fun _ _ _ h => h) (Mod.refl _ _) rfl (v := .agg #[.int .i64 x25.node.t, .int .i64 x25.node.w]) (fun _ uz => r_loads (k := 0) (by kernel_rfl) Ty.ag24 Ty.sz24 (md_ob uz nin0 h50) (by kernel_rfl)) ?_
  have h51 := (TreeIs.up h (Mod.up M47))
  obtain ⟨d52, hd52, hl52⟩ := h51.2.2.2.1.look ⟨x25.node.t, x25.node.w⟩
  have hg52 : gotI L ⟨x25.node.t, x25.node.w⟩ = x25 := gotI_idx hsrt hx25
  rw [hg52] at hd52 hl52
  obtain ⟨dA52, dn52, dc52, rfl⟩ := hd52.form
  refine hvq (i := 5) (fuel := 2) rfl (fun _ _ _ h => h) (Mod.refl _ _) rfl (v := itV x25 (.slice dA52 dn52 dc52)) (fun wz uz => r_look (mv := .map (some r)) (kv := .agg #[.int .i64 x25.node.t, .int .i64 x25.node.w]) (by kernel_rfl) (by kernel_rfl) (hl52 wz (uz.block _ h51.2.2.2.1.lt nin0)).2) ?_
  refine h1 (i := 6) (fuel := 1) (by kernel_rfl) rfl (sn rfl (cs := #[.int .i64 0, .int .i64 0, .int .i64 0, .int .i64 0, .string (⟨#[]⟩), .bool false, .bool false, .slice none 0 0, .int .i64 0, .int .i64 0]) (T := 42) (V := fun b => .pointer (some ⟨b, 0, none⟩)) (r_alloc Ty.zv42 rfl) ?_)
  intro b53 w54 e55 h56 u57
  have l58 : tb < b53 := by rw [e55]; exact lt_ob h49
  have h59 := md_ob M47 nin0 hr
  have l60 : r < b53 := by rw [e55]; exact lt_ob h59
  have l61 : b26 < b53 := by rw [e55]; exact lt_ob h50
  have h62 := (IRow.up (IRow.chgn (IRow.up hF1_1 u30) c42 ⟨(Nat.le_trans hB g36), NotU8.of h29 (by decide)⟩ n35) u46)
  have n63 := h62.ne_fresh e55
  have g64 : w.heap.size ≤ b53 := by rw [e55]; exact M47.size
  have g65 : w7.heap.size ≤ b53 := by rw [e55]; exact M48.size
  have M66 := Mod.trans M47 (Mod.of_up u57)
  have M67 := Mod.trans M48 (Mod.of_up u57)
  refine hx (Y := [b53]) (Mod.of_up u57) (ynew e55) ?_
  refine h1 (i := 7) (fuel := 0) (by kernel_rfl) rfl (ss rfl (k := 0) (v := itV x25 (.slice dA52 dn52 dc52)) (vs := (itC x25 (.slice dA52 dn52 dc52))) (cs' := (itC x25 (.slice dA52 dn52 dc52))) (by kernel_rfl) (by kernel_rfl) rfl Ty.sz42 h56 rfl (Nat.le_of_ble_eq_true rfl) rfl ?_)
  intro w68 h69 c70
  have M71 := Mod.trans' M66 c70 (fun i hi => by injection hi with hi; rw [← hi]; exact g64)
  have M72 := Mod.trans' M67 c70 (fun i hi => by injection hi with hi; rw [← hi]; exact g65)
  refine hx (Y := [b53]) (Mod.of_chg c70 (by simp)) (fun y hy => .inl hy) ?_
  refine hend (by kernel_rfl) ?_
  refine then_n (wp_seq (rg_lit ?_))
  refine wmv (v := .func (.func 100) #[] #[]) ?_
  refine wl (sv rfl (v := itV x25 (.slice dA52 dn52 dc52)) (r_loads (k := 0) (by kernel_rfl) Ty.ag42 Ty.sz42 h69 (by kernel_rfl)) ?_)
  refine wl (sc rfl (r_callv (caps := []) (all := [itV x25 (.slice dA52 dn52 dc52)]) En.f100 (by kernel_rfl) (by kernel_rfl)) (all1_at x25 _ _ _) ?_)
  rintro e w73 ⟨rfl, u74⟩
  refine ⟨.bool true, rfl, ?_⟩
  have M75 := Mod.trans M71 (Mod.of_up u74)
  have M76 := Mod.trans M72 (Mod.of_up u74)
  refine wnil (then_n ?_)
  refine wp_cond_true (by kernel_rfl) ?_
  refine rg_lit ?_
  refine wmv (v := .slice oA on oc) ?_
  have h77 := (up_ob u74 h69)
  refine wl (sv rfl (v := itV x25 (.slice dA52 dn52 dc52)) (r_loads (k := 0) (by kernel_rfl) Ty.ag42 Ty.sz42 h77 (by kernel_rfl)) ?_)
  have h78 := (Dat.up (Dat.chg (Dat.up hd52 u57) c70 ⟨(Nat.le_trans hB g64), NotU8.of h56 (by decide)⟩) u74)
  refine wl (sc rfl (r_callv (caps := []) (all := [itV x25 (.slice dA52 dn52 dc52)]) En.f65 (by kernel_rfl) (by kernel_rfl)) (own_sl (Nat.le_trans hB M75.size) h78) ?_)
  rintro e w79 ⟨A80, n81, c82, rfl, h83, u84⟩
  refine ⟨itV x25 (.slice A80 n81 c82), rfl, ?_⟩
  have M85 := Mod.trans M75 (Mod.of_up u84)
  have M86 := Mod.trans M76 (Mod.of_up u84)
  refine wl (sn rfl (cs := (itC x25 (.slice A80 n81 c82)).toArray) (T := 42) (V := fun b => .slice (some ⟨b, 0, none⟩) 1 1) (r_buildSlice (n := 1) (ps := [(0, itV x25 (.slice A80 n81 c82))]) Ty.un74 Ty.sz42 Ty.zv42 (by decide) (by decide) (by kernel_rfl) (by kernel_rfl)) ?_)
  intro b87 w88 e89 h90 u91
  have h92 := md_ob M85 nin0 h.1
  have l93 : tb < b87 := by rw [e89]; exact lt_ob h92
  have h94 := md_ob M85 nin0 hr
  have l95 : r < b87 := by rw [e89]; exact lt_ob h94
  have h96 := (up_ob u84 (up_ob u74 (chg_ob c70 (Nat.ne_of_lt l61) (up_ob u57 h50))))
  have l97 : b26 < b87 := by rw [e89]; exact lt_ob h96
  have h98 := (up_ob u84 h77)
  have l99 : b53 < b87 := by rw [e89]; exact lt_ob h98
  have h100 := (IRow.up (IRow.up (IRow.chgn (IRow.up h62 u57) c70 ⟨(Nat.le_trans hB g64), NotU8.of h56 (by decide)⟩ n63) u74) u84)
  have n101 := h100.ne_fresh e89
  have g102 : w.heap.size ≤ b87 := by rw [e89]; exact M85.size
  have g103 : w7.heap.size ≤ b87 := by rw [e89]; exact M86.size
  have M104 := Mod.trans M85 (Mod.of_up u91)
  have M105 := Mod.trans M86 (Mod.of_up u91)
  have h106 := (IRow.up h100 u91)
  have h107 := (Dat.up h83 u91)
  refine wl (snI rfl (L := (L.take k)) (x := x25) (e := .slice A80 n81 c82) (by kernel_rfl) (by kernel_rfl) h106 Ty.un74 hi_p hz_p hs_p hb_p hc_p h90 h107 (by decide) (Nat.le_trans hB M12.size) M105.size (by simp; omega) ?_)
  intro A108 n109 c110 w111 e112 h113 u114
  have M115 := Mod.trans' M104 u114 (fun k hk => Nat.le_trans M12.size (h106.own k hk).1)
  have M116 := Mod.trans' M105 u114 (fun k hk => Nat.le_trans (Nat.le_refl _) (h106.own k hk).1)
  refine was (v := .slice A108 n109 c110) ?_
  refine wnil (inb_n (then_n (rg_lit ?_)))
  refine wl (sv rfl (v := .int .i64 ((k : Int) + 1)) (r_add (k := .i64) (m := (k : Int)) (n := 1) (by kernel_rfl) (by kernel_rfl) (IntWalk.i64_in _ (by omega))) ?_)
  refine wmv (v := .int .i64 ((k : Int) + 1)) ?_
  refine wnil (then_n ?_)
  refine ⟨L.length - (k + 1), ?_, (k + 1), A108, n109, c110, .pointer (some ⟨b26, 0, none⟩), .pointer (some ⟨b53, 0, none⟩), .bool b18, .pointer (some ⟨g25, k * 2, none⟩), .agg #[.int .i64 x25.node.t, .int .i64 x25.node.w], .pointer (some ⟨tb, 0, none⟩), .pointer (some ⟨tb, 0, none⟩), .pointer (some ⟨tb, 0, none⟩), .map (some r), .agg #[.int .i64 x25.node.t, .int .i64 x25.node.w], itV x25 (.slice dA52 dn52 dc52), .func (.func 100) #[] #[], itV x25 (.slice dA52 dn52 dc52), .bool true, .slice oA on oc, itV x25 (.slice dA52 dn52 dc52), itV x25 (.slice A80 n81 c82), .slice (some ⟨b87, 0, none⟩) 1 1, .slice A108 n109 c110, .int .i64 ((k : Int) + 1), rfl, (by kernel_rfl), M116, (by omega), (by rw [tk hx25]; exact h113)⟩
  · omega
end Go.Proofs.YtefhfoioeoijlaaGreatDoor
set_option linter.unusedVariables false
set_option linter.unusedSimpArgs false
namespace Go.Proofs.YtefhfoioeoijlaaGreatDoor
open Go Go.RowKit Go.Sort
set_option maxHeartbeats 2000000 in
theorem all_at {B : Nat} {w : World} {tb r : Nat} {L : List Item} (h : TreeIs B w tb r L) (hB : B ≤ w.heap.size) : Calls Tryz.prog 41 #[trP tb] w fun e w' => ∃ v, e = .returned v ∧ IRow 42 B w.heap.size w' v L ∧ Up w w' := by
  go_enter Tryz.func41, Tryz.ntmps41
  refine wp_seq (rg_lit ?_)
  refine was (v := .slice none 0 0) ?_
  refine wnil (then_n (wp_seq (rg_lit ?_)))
  refine wmv (v := .pointer (some ⟨tb, 0, none⟩)) ?_
  refine wl (sc rfl (r_callv (caps := []) (all := [.pointer (some ⟨tb, 0, none⟩), .func (.func 100) #[] #[]]) En.f97 (by kernel_rfl) (by kernel_rfl)) (row_sl (some_all_at h (Nat.le_trans hB (Mod.refl [] w).size))) ?_)
  rintro e w1 ⟨A2, c3, rfl, h4, u5⟩
  refine ⟨.slice A2 L.length c3, rfl, ?_⟩
  have M6 := Mod.trans (Mod.refl [] w) (Mod.of_up u5)
  refine was (v := .slice A2 L.length c3) ?_
  refine wnil (then_n (wp_ret ?_))
  refine bodyPost_ret (v := .slice A2 L.length c3) (res1 rfl (rv_t (by kernel_rfl))) (by kernel_rfl) ?_
  exact ⟨_, rfl, IRow.base h4 (by first | exact Nat.le_refl _ | exact M6.size), (Mod.up M6)⟩
end Go.Proofs.YtefhfoioeoijlaaGreatDoor

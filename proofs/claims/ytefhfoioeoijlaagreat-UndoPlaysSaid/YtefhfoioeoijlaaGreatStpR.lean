/- Rows of an undo log: steps; slices.Backward, Insert, Delete (one text of several) -/
import Derived.Test.YtefhfoioeoijlaaGreatOrd
import Derived.Test.YtefhfoioeoijlaaGreatRws
import Derived.Test.YtefhfoioeoijlaaGreatTyB
import Derived.Lib.AppendZerosOnto
import Derived.Lib.Overlaps
import Derived.Laws.Externs
set_option linter.unusedVariables false
set_option linter.unusedSimpArgs false
namespace Go.Proofs.YtefhfoioeoijlaaGreat
open Go Go.RowKit Go.Sort

structure StepD where
  o : OpD
  was : Item
  there : Bool
  did : Bool
  deriving DecidableEq, Inhabited
def spC (s : StepD) (d : Value × Value) : List Value := opC s.o d.1 ++ (itC s.was d.2 ++ [.bool s.there, .bool s.did])
theorem spC_length (s : StepD) (d : Value × Value) : (spC s d).length = 22 := rfl
/-- Where a step's bytes lie. -/
def SDat (B : Nat) (w : World) (d : Value × Value) (s : StepD) : Prop := Dat B w d.1 s.o.data ∧ Dat B w d.2 s.was.data
theorem SDat.up {B : Nat} {w w' : World} {d : Value × Value} {s : StepD} (h : SDat B w d s) (u : Up w w') : SDat B w' d s := ⟨h.1.up u, h.2.up u⟩
theorem SDat.chg {B : Nat} {w w' : World} {d : Value × Value} {s : StepD} {b : Nat} (h : SDat B w d s) (c : Chg w w' b) (hc : B ≤ b ∧ NotU8 w b) : SDat B w' d s := ⟨h.1.chg c hc, h.2.chg c hc⟩
def flatP : List StepD → List (Value × Value) → List Value
  | x :: L, d :: ds => spC x d ++ flatP L ds
  | _, _ => []
theorem flatP_length : ∀ {L : List StepD} {ds : List (Value × Value)}, L.length = ds.length → (flatP L ds).length = L.length * 22
  | [], [], _ => rfl
  | y :: L, e :: ds, h => by
    have := flatP_length (by simpa using h : L.length = ds.length)
    simp only [flatP, List.length_append, spC_length, this, List.length_cons]; omega
theorem flatP_app : ∀ {L M : List StepD} {ds es : List (Value × Value)}, L.length = ds.length → flatP (L ++ M) (ds ++ es) = flatP L ds ++ flatP M es
  | [], M, [], es, _ => by simp [flatP]
  | x :: L, M, d :: ds, es, h => by simp [flatP, flatP_app (L := L) (ds := ds) (by simpa using h)]
theorem flatP_get {k : Nat} {x : StepD} {d : Value × Value} (hk : k < 22) {L : List StepD} : ∀ {ds : List (Value × Value)} {i : Nat}, L[i]? = some x → ds[i]? = some d → (flatP L ds)[i * 22 + k]? = (spC x d)[k]? := by
  induction L with
  | nil => intro ds i h; simp at h
  | cons y L ih =>
    intro ds i h1 h2
    cases ds with
    | nil => simp at h2
    | cons e ds =>
      cases i with
      | zero =>
        rw [List.getElem?_cons_zero, Option.some.injEq] at h1 h2
        rw [h1, h2, Nat.zero_mul, Nat.zero_add, flatP, List.getElem?_append_left (by rw [spC_length]; exact hk)]
      | succ i =>
        rw [List.getElem?_cons_succ] at h1 h2
        rw [flatP, List.getElem?_append_right (by rw [spC_length]; omega), spC_length, show (i + 1) * 22 + k - 22 = i * 22 + k by omega]
        exact ih h1 h2
theorem flatP_take : ∀ {L : List StepD} {ds : List (Value × Value)} (k : Nat), L.length = ds.length → flatP (L.take k) (ds.take k) = (flatP L ds).take (k * 22)
  | [], [], k, _ => by simp [flatP]
  | _, _, 0, _ => by simp [flatP]
  | x :: L, d :: ds, k + 1, h => by
    have ih := flatP_take (L := L) (ds := ds) k (by simpa using h)
    simp only [List.take_succ_cons, flatP, ih]
    rw [show (k + 1) * 22 = (spC x d).length + k * 22 by rw [spC_length]; omega, List.take_length_add_append]
theorem flatP_drop : ∀ {L : List StepD} {ds : List (Value × Value)} (k : Nat), L.length = ds.length → flatP (L.drop k) (ds.drop k) = (flatP L ds).drop (k * 22)
  | [], [], k, _ => by simp [flatP]
  | x :: L, d :: ds, 0, _ => by simp
  | x :: L, d :: ds, k + 1, h => by
    have ih := flatP_drop (L := L) (ds := ds) k (by simpa using h)
    simp only [List.drop_succ_cons, flatP, ih]
    rw [show (k + 1) * 22 = (spC x d).length + k * 22 by rw [spC_length]; omega, List.drop_length_add_append]
theorem flatP_set : ∀ {L : List StepD} {ds : List (Value × Value)} {i : Nat} (x : StepD) (d : Value × Value), L.length = ds.length → i < L.length → flatP (L.set i x) (ds.set i d) = (flatP L ds).take (i * 22) ++ spC x d ++ (flatP L ds).drop (i * 22 + 22)
  | [], _, _, _, _, _, h => by simp at h
  | _ :: _, [], _, _, _, h, _ => by simp at h
  | y :: L, e :: ds, 0, x, d, _, _ => by
    simp only [List.set_cons_zero, flatP, Nat.zero_mul, List.take_zero, List.nil_append, Nat.zero_add]
    rw [show 22 = (spC y e).length + 0 from rfl, List.drop_length_add_append]; rfl
  | y :: L, e :: ds, i + 1, x, d, hl, hi => by
    have ih := flatP_set (L := L) (ds := ds) (i := i) x d (by simpa using hl) (by simpa using hi)
    simp only [List.set_cons_succ, flatP, ih]
    rw [show (i + 1) * 22 = (spC y e).length + i * 22 by rw [spC_length]; omega, List.take_length_add_append, show (spC y e).length + i * 22 + 22 = (spC y e).length + (i * 22 + 22) by omega, List.drop_length_add_append]
    simp [List.append_assoc]
def PRow (T : TypeId) (B base : Nat) (w : World) (v : Value) (L : List StepD) : Prop :=
  ∃ ds, Pair (fun x d => SDat B w d x) L ds ∧ w.ownsRow base T 22 v L.length (flatP L ds)
theorem PRow.nil (T : TypeId) (B base : Nat) (w : World) : PRow T B base w (.slice none 0 0) [] := ⟨[], trivial, World.ownsRow_nil w base _ 22⟩
theorem PRow.own {T : TypeId} {B base : Nat} {w : World} {v : Value} {L : List StepD} (h : PRow T B base w v L) : ∀ k, v.ownBlock = some k → base ≤ k ∧ k < w.heap.size := by
  obtain ⟨ds, _, ho⟩ := h; exact ho.lt
theorem PRow.up {T : TypeId} {B base : Nat} {w w' : World} {v : Value} {L : List StepD} (h : PRow T B base w v L) (hb : Up w w') : PRow T B base w' v L := by
  obtain ⟨ds, hp, ho⟩ := h
  have hg : w.grownBy w' none := ⟨hb.os, hb.tape, hb.output, hb.size, fun k hk _ => hb.block k hk⟩
  exact ⟨ds, hp.mono fun x d hd => hd.up hb, ho.kept hg (by cases hv : v.ownBlock <;> simp)⟩
theorem PRow.chgn {T : TypeId} {B base b : Nat} {w w' : World} {v : Value} {L : List StepD} (h : PRow T B base w v L) (c : Chg w w' b) (hd : B ≤ b ∧ NotU8 w b) (hn : v.ownBlock ≠ some b) : PRow T B base w' v L := by
  obtain ⟨ds, hp, ho⟩ := h
  exact ⟨ds, hp.mono fun x d hx => hx.chg c hd, ho.kept c (.inr hn)⟩
theorem PRow.form {T : TypeId} {B base : Nat} {w : World} {v : Value} {L : List StepD} (h : PRow T B base w v L) : ∃ A c, v = .slice A L.length c := by
  obtain ⟨ds, _, _, ⟨rfl, h0⟩ | ⟨g, cap, cur, rfl, _⟩⟩ := h
  · exact ⟨none, 0, by rw [h0]⟩
  · exact ⟨_, cap, rfl⟩
theorem PRow.base {T : TypeId} {B base base' : Nat} {w : World} {v : Value} {L : List StepD} (h : PRow T B base w v L) (hb : base' ≤ base) : PRow T B base' w v L := by
  obtain ⟨ds, hp, h1, h2⟩ := h
  refine ⟨ds, hp, h1, ?_⟩
  rcases h2 with hn | ⟨g, cap, cur, hv, hbg, rest⟩
  · exact .inl hn
  · exact .inr ⟨g, cap, cur, hv, Nat.le_trans hb hbg, rest⟩
theorem PRow.to {T : TypeId} {B base : Nat} {w : World} {v : Value} {L L' : List StepD} (h : PRow T B base w v L) (e : L = L') : PRow T B base w v L' := e ▸ h
theorem PRow.addr {T : TypeId} {B base : Nat} {w : World} {A : Option Addr} {n c : Nat} {L : List StepD} (h : PRow T B base w (.slice A n c) L) : n = L.length ∧ n ≤ c ∧ c ≤ maxLen ∧ (A = none ∧ c = 0 ∨ ∃ g cur, A = some ⟨g, 0, none⟩ ∧ base ≤ g ∧ w.heap[g]? = some (.cells cur T (0, 0)) ∧ cur.size = c * 22) := by
  obtain ⟨ds, hp, h1, ⟨e, h0⟩ | ⟨g, cap, cur, e, hb, hg, hc, hm, hcs, htk⟩⟩ := h
  · injection e with e1 e2 e3
    subst e3
    exact ⟨by omega, by omega, by unfold maxLen; omega, .inl ⟨e1, rfl⟩⟩
  · injection e with e1 e2 e3
    subst e3
    exact ⟨by omega, by omega, hm, .inr ⟨g, cur, e1, hb, hg, hcs⟩⟩
/-- Step number i, where it lies. -/
theorem PRow.get {T : TypeId} {B base : Nat} {w : World} {A : Option Addr} {n c : Nat} {L : List StepD} (h : PRow T B base w (.slice A n c) L) {i : Nat} {x : StepD} (hi : L[i]? = some x) :
    ∃ g cur oA on oc iA in_ ic, A = some ⟨g, 0, none⟩ ∧ base ≤ g ∧ w.heap[g]? = some (.cells cur T (0, 0)) ∧ (cur.toList.drop (i * 22)).take 22 = spC x (.slice oA on oc, .slice iA in_ ic) ∧ Dat B w (.slice oA on oc) x.o.data ∧ Dat B w (.slice iA in_ ic) x.was.data := by
  obtain ⟨ds, hp, ho⟩ := h
  obtain ⟨⟨d1, d2⟩, hd, hD1, hD2⟩ := hp.ex hi
  obtain ⟨oA, on, oc, rfl⟩ := hD1.form
  obtain ⟨iA, in_, ic, rfl⟩ := hD2.form
  have hil := (List.getElem?_eq_some_iff.1 hi).1
  rcases ho.2 with ⟨e, h0⟩ | ⟨g, cap, cur, e, hb, hg, hc, hm, hcs, htk⟩
  · omega
  · injection e with e1 e2 e3
    refine ⟨g, cur, oA, on, oc, iA, in_, ic, e1, hb, hg, ?_, hD1, hD2⟩
    have hl := flatP_length hp.length
    apply List.ext_getElem?
    intro j
    by_cases hj : j < 22
    · rw [List.getElem?_take, if_pos hj, List.getElem?_drop, ← flatP_get hj hi hd, ← htk, List.getElem?_take, if_pos (by omega)]
    · rw [List.getElem?_eq_none (by simp; omega), List.getElem?_eq_none (by rw [spC_length]; omega)]
/-- A step is stored (whole, or some of its cells: what matters is what its cells are then). -/
theorem PRow.put {T : TypeId} {B base : Nat} {w : World} {g n c : Nat} {L : List StepD} (h : PRow T B base w (.slice (some ⟨g, 0, none⟩) n c) L) {i : Nat} (hi : i < L.length) {x : StepD} {d : Value × Value} (hD : SDat B w d x) (hT : T ≠ 5) (hB : B ≤ base) :
    ∃ cur : Array Value, w.heap[g]? = some (.cells cur T (0, 0)) ∧ i * 22 + 22 ≤ cur.toList.length ∧ ∀ w', w'.heap[g]? = some (.cells (cur.toList.take (i * 22) ++ spC x d ++ cur.toList.drop (i * 22 + 22)).toArray T (0, 0)) → Chg w w' g → PRow T B base w' (.slice (some ⟨g, 0, none⟩) n c) (L.set i x) := by
  obtain ⟨ds, hp, h1, h2⟩ := h
  rcases h2 with ⟨h', _⟩ | ⟨g', cap', cur, h', hb, hg, hnc, hcm, hcs, htake⟩
  · simp at h'
  · simp only [Value.slice.injEq, Option.some.injEq, Addr.mk.injEq, and_true, true_and] at h'
    obtain ⟨rfl, rfl, rfl⟩ := h'
    have hl22 : L.length * 22 ≤ cur.toList.length := by have := Nat.mul_le_mul_right 22 hnc; rw [← Array.length_toList] at hcs; omega
    refine ⟨cur, hg, by omega, fun w' hw' hc => ⟨ds.set i d, ?_, ?_, .inr ⟨g, c, _, by rw [List.length_set], hb, hw', by simpa using hnc, hcm, ?_, ?_⟩⟩⟩
    · have hk : B ≤ g ∧ NotU8 w g := ⟨by omega, NotU8.of hg hT⟩
      exact Pair.set (hp.mono fun x d hd => hd.chg hc hk) (hD.chg hc hk)
    · have hlen := flatP_length (L := L.set i x) (ds := ds.set i d) (by simpa using hp.length)
      simpa using hlen
    · rw [← hcs]; simp only [List.size_toArray, List.length_append, List.length_take, List.length_drop, spC_length]; rw [Array.length_toList] at hl22 ⊢; omega
    · rw [flatP_set x d hp.length hi, List.length_set]
      have hs := take_splice (l := cur.toList) (v := spC x d) (k := i * 22) (m := L.length * 22) (by rw [spC_length]; omega) hl22
      rw [spC_length, htake] at hs
      simpa using hs
end Go.Proofs.YtefhfoioeoijlaaGreat

namespace Go.Proofs.YtefhfoioeoijlaaGreat
open Go Go.RowKit Go.Sort
theorem splice_abc {A e C vs : List Value} {off : Nat} (ho : off + vs.length ≤ e.length) : (A ++ (e ++ C)).take (A.length + off) ++ vs ++ (A ++ (e ++ C)).drop (A.length + off + vs.length) = A ++ (e.take off ++ vs ++ e.drop (off + vs.length)) ++ C := by
  rw [List.take_length_add_append, Nat.add_assoc, List.drop_length_add_append, List.take_append_of_le_length (by omega), List.drop_append_of_le_length (by omega)]
  simp [List.append_assoc]
theorem splice_part {l e vs : List Value} {k off m : Nat} (he : (l.drop k).take m = e) (hk : k + m ≤ l.length) (ho : off + vs.length ≤ m) :
    l.take (k + off) ++ vs ++ l.drop (k + off + vs.length) = l.take k ++ (e.take off ++ vs ++ e.drop (off + vs.length)) ++ l.drop (k + m) := by
  have hl : l = l.take k ++ (e ++ l.drop (k + m)) := by
    rw [← he, ← List.drop_drop, List.take_append_drop, List.take_append_drop]
  have hA : (l.take k).length = k := by rw [List.length_take]; omega
  have hE : e.length = m := by rw [← he]; simp; omega
  have := splice_abc (A := l.take k) (e := e) (C := l.drop (k + m)) (vs := vs) (off := off) (by omega)
  rw [hA, ← hl] at this
  exact this
theorem ssP {T : TypeId} {ops : Array Oper} {Q : Exit → Act → World → Prop} {a : Act} {w : World} {J : Act → World → Prop} {d : Option Tmp} {ty : TypeId} {pos : String} {af : Array Edge} {gd : Option (Nat × Bool)} {B base : Nat} {t : TypeId} {x y : Operand} {g n c i off k : Nat} {S : List StepD} {s : StepD} {v : Value} {vs : List Value} (x' : StepD) (nd : Value → Value)
    (hw : Region.wanted (⟨d, .store t x y, ty, pos, af, gd⟩ : Oper) (yielded ops a.tmps) = true) (hx : a.eval x = .pointer (some ⟨g, k, none⟩)) (hk : k = i * 22 + off) (hy : a.eval y = v) (hvs : v.cells = vs.toArray) (hs : ∀ w, (sizeOf t).run Tryz.prog w = .ok vs.length w)
    (h : PRow T B base w (.slice (some ⟨g, 0, none⟩) n c) S) (hi : S[i]? = some s) (hone : vs.all Value.oneCell' = true) (hoff : off + vs.length ≤ 22) (hnew : ∀ d1 d2, (spC s (d1, d2)).take off ++ vs ++ (spC s (d1, d2)).drop (off + vs.length) = spC x' (d1, nd d2))
    (hD : ∀ d1 d2, SDat B w (d1, d2) s → SDat B w (d1, nd d2) x') (hT : T ≠ 5) (hB : B ≤ base)
    (kk : ∀ w', PRow T B base w' (.slice (some ⟨g, 0, none⟩) n c) (S.set i x') → Chg w w' g → J (a.put d undef) w') : St1 Tryz.prog ops Q ⟨d, .store t x y, ty, pos, af, gd⟩ J a w := by
  obtain ⟨g', cur, oA, on, oc, iA, in_, ic, e, _, hg, he, hD1, hD2⟩ := h.get hi
  injection e with e; injection e with e _ _
  subst e
  obtain ⟨cur2, hg2, hlen, hput⟩ := h.put (x := x') (d := (.slice oA on oc, nd (.slice iA in_ ic))) (List.getElem?_eq_some_iff.1 hi).1 (hD _ _ ⟨hD1, hD2⟩) hT hB
  rw [hg] at hg2
  simp only [Option.some.injEq, Obj.cells.injEq, and_true] at hg2
  subst hg2
  refine ss hw hx hy hvs hs hg hone (by omega) ?_ (fun w' h' c' => kk w' (hput w' h' c') c')
  rw [hk, splice_part he hlen hoff, hnew]
end Go.Proofs.YtefhfoioeoijlaaGreat

namespace Go.Proofs.YtefhfoioeoijlaaGreat
open Go Go.RowKit

/-- The fence that bars nothing, within a round or not. -/
abbrev wideAt (ro : Option Nat) : Fence := { Fence.wide with round := ro }
@[irreducible] def XL (ro : Option Nat) (n : Nat) (P : Program) (ops : Array Oper) (Q : Exit → Act → World → Prop) : List Oper → Act → World → Prop := wpListIn (wideAt ro) n P ops Q
variable {ro : Option Nat} {n : Nat} {P : Program} {ops : Array Oper} {Q : Exit → Act → World → Prop} {o : Oper} {rest : List Oper} {a : Act} {w : World}
theorem xnil (h : Q .normal a w) : XL ro n P ops Q [] a w := by unfold XL; exact h
theorem rg_x {id : Nat} {l : List Oper} (h : XL ro n P l.toArray Q l a w) : (Code.region id l.toArray false).wpIn (wideAt ro) n P Q a w := wpIn_region_lit (by unfold XL at h; exact h)
theorem xl (hw : Region.wanted o (yielded ops a.tmps) = true) (hd : o.semAt ro a.eval = execOp a.eval o) (h : o.uponIn (wideAt ro) n P a (XL ro n P ops Q rest) Q ((execOp a.eval o).run P w)) : XL ro n P ops Q (o :: rest) a w := by
  unfold XL at h ⊢
  unfold wpListIn
  rw [if_pos hw]
  refine ⟨fun _ _ => trivial, ?_⟩
  rw [hd]
  exact h
theorem xv {v : Value} {w' : World} (hw : Region.wanted o (yielded ops a.tmps) = true) (hd : o.semAt ro a.eval = execOp a.eval o) (h : (execOp a.eval o).run P w = .ok (.value v) w') (k : XL ro n P ops Q rest (a.put o.dst v) w') : XL ro n P ops Q (o :: rest) a w :=
  xl hw hd (by rw [h]; exact k)
theorem xk {w' : World} (hw : Region.wanted o (yielded ops a.tmps) = true) (hd : o.semAt ro a.eval = execOp a.eval o) (h : (execOp a.eval o).run P w = .ok .skip w') (k : XL ro n P ops Q rest (a.put o.dst undef) w') : XL ro n P ops Q (o :: rest) a w :=
  xl hw hd (by rw [h]; exact k)
theorem xn {cs : Array Value} {T : TypeId} {V : Nat → Value} (hw : Region.wanted o (yielded ops a.tmps) = true) (hd : o.semAt ro a.eval = execOp a.eval o) (h : (execOp a.eval o).run P w = .ok (.value (V w.heap.size)) (w.alloc (.cells cs T)))
    (k : ∀ b w', b = w.heap.size → w'.heap[b]? = some (.cells cs T (0, 0)) → Up w w' → XL ro n P ops Q rest (a.put o.dst (V b)) w') : XL ro n P ops Q (o :: rest) a w :=
  xv hw hd h (k _ _ rfl (heap_alloc_new w _) (up_new _))
theorem xss {d : Option Tmp} {ty : TypeId} {pos : String} {af : Array Edge} {g : Option (Nat × Bool)} {t : TypeId} {x y : Operand} {b k : Nat} {v : Value} {vs cs' : List Value} {cs : Array Value} {T : TypeId} (hw : Region.wanted (⟨d, .store t x y, ty, pos, af, g⟩ : Oper) (yielded ops a.tmps) = true)
    (hd : (⟨d, .store t x y, ty, pos, af, g⟩ : Oper).semAt ro a.eval = execOp a.eval ⟨d, .store t x y, ty, pos, af, g⟩) (hx : a.eval x = .pointer (some ⟨b, k, none⟩)) (hy : a.eval y = v) (hvs : v.cells = vs.toArray) (hs : ∀ w, (sizeOf t).run P w = .ok vs.length w)
    (hb : w.heap[b]? = some (.cells cs T (0, 0))) (hone : vs.all Value.oneCell' = true) (hk : k + vs.length ≤ cs.toList.length) (hcs : cs.toList.take k ++ vs ++ cs.toList.drop (k + vs.length) = cs')
    (kk : ∀ w', w'.heap[b]? = some (.cells cs'.toArray T (0, 0)) → Chg w w' b → XL ro n P ops Q rest (a.put d undef) w') : XL ro n P ops Q (⟨d, .store t x y, ty, pos, af, g⟩ :: rest) a w := by
  obtain ⟨w', h1, h2, h3, _⟩ := r_store (P := P) (d := d) (ty := ty) (pos := pos) (af := af) (g := g) hx hy hvs hs hb hone hk hcs
  exact xk hw hd h1 (kk w' h2 h3)
theorem callsAt {f : FuncId} {args : Array Value} {R : Ending → World → Prop} (h : Calls P f args w R) : CallsIn (wideAt ro) n P f args w R := by
  have := (callsIn_wide (n := n)).2 h
  cases ro with
  | none => exact this
  | some l => exact CallsIn.inRound l this
theorem xc {f : FuncId} {args : Array Value} {R : Ending → World → Prop} (hw : Region.wanted o (yielded ops a.tmps) = true) (hd : o.semAt ro a.eval = execOp a.eval o) (h : (execOp a.eval o).run P w = .ok (.enter f args) w) (hc : Calls P f args w R)
    (k : ∀ e w', R e w' → ∃ v, e = .returned v ∧ XL ro n P ops Q rest (a.put o.dst v) w') : XL ro n P ops Q (o :: rest) a w :=
  xl hw hd (by
    rw [h]
    refine ⟨fun hn => (by cases hn), (callsAt hc).mono fun e w' hR => ?_⟩
    obtain ⟨v, rfl, h⟩ := k e w' hR
    exact h)
theorem xy {l : Nat} {f : FuncId} {tmps : Array Value} {assign body : Code} {R : Ending → World → Prop} (hw : Region.wanted o (yielded ops a.tmps) = true) (hd : o.semAt ro a.eval = execOp a.eval o) (h : (execOp a.eval o).run P w = .ok (.round l f tmps assign body) w)
    (hr : RoundIn (wideAt ro) (n - 1) P l f tmps assign body w R) (k : ∀ e w', R e w' → ∃ v, e = .returned v ∧ XL ro n P ops Q rest (a.put o.dst v) w') : XL ro n P ops Q (o :: rest) a w :=
  xl hw hd (by
    rw [h]
    refine ⟨fun hn => (by cases hn), hr.mono fun e w' hR => ?_⟩
    obtain ⟨v, rfl, h⟩ := k e w' hR
    exact h)
end Go.Proofs.YtefhfoioeoijlaaGreat

namespace Go.Proofs.YtefhfoioeoijlaaGreat
open Go Go.RowKit Go.Sort

theorem rev_take {m j : Nat} (h : j < m) : (List.range m).reverse.take (j + 1) = (List.range m).reverse.take j ++ [m - 1 - j] := by
  rw [List.take_add_one, List.getElem?_eq_getElem (by simpa using h)]
  simp
theorem r_yield {P : Program} {w : World} {ρ : Operand → Value} {d : Option Tmp} {ty : TypeId} {pos : String} {af : Array Edge} {gd : Option (Nat × Bool)} {l f : Nat} {x : Operand} {xs : List Operand} {ats : Array TypeId} {all : List Value} {tmps : Array Value} {assign body : Code} (hx : ρ x = .func (.yield l) #[] #[]) (ha : xs.map ρ = all)
    (h : (Instr.yield l all.toArray).run P w = .ok (.round l f tmps assign body) w) : (execOp ρ ⟨d, .call { callee := .value x, args := xs.toArray, argTypes := ats }, ty, pos, af, gd⟩).run P w = .ok (.round l f tmps assign body) w := by
  subst ha
  simp only [execOp, resolve, go_sem, hx]
  simpa [go_sem, invoke] using h
set_option maxHeartbeats 2000000 in
theorem back_stops {n Bm m c : Nat} {Ad : Option Addr} {vs : Nat → List Value} {BI : World → Prop} {w : World} (hm : m ≤ 1000000) (hlen : ∀ i, (vs i).length = 22)
    (hBm : ∀ W, BI W → W.heap[Bm]? = some (.cells #[.slice Ad m c] 64 (0, 0)))
    (hrd : ∀ W i, BI W → i < m → ∃ g o cu, Ad = some ⟨g, o, none⟩ ∧ W.heap[g]? = some (.cells cu 73 (0, 0)) ∧ (cu.toList.drop (o + i * 22)).take 22 = vs i)
    (h0 : ∀ W, Below w.heap.size w W → BI W) :
    SeqStopsK Fence.wide n Tryz.prog 75 #[.pointer (some ⟨Bm, 0, none⟩)] (fun i : Nat => #[.int .i64 (i : Int), .agg (vs i).toArray]) (fun W W' => BI W → BI W') (fun xs => xs = (List.range m).reverse) (fun _ => True) m w := fun l J Jx W hW hJ hJx hY hJ0 => by
  have hI := h0 W hW
  refine callsIn_wide.2 ?_
  go_enter Tryz.func75, Tryz.ntmps75
  refine wp_seq (rg_lit ?_)
  refine wl (sv rfl (v := .slice Ad m c) (r_load (k := 0) (by kernel_rfl) Ty.ag64 (hBm W hI) (by kernel_rfl)) ?_)
  refine wl (sv rfl (v := .int .i64 ((m : Int))) (r_len Ty.un64 (ad := Ad) (n := m) (c := c) (by kernel_rfl)) ?_)
  refine wl (sv rfl (v := .int .i64 ((m : Int) - 1)) (r_sub (k := .i64) (m := ((m : Int))) (n := 1) (c := (m : Int) - 1) (by kernel_rfl) (by kernel_rfl) ((IntWalk.i64_in _ (by omega)).trans (by omega))) ?_)
  refine was (v := .int .i64 ((m : Int) - 1)) ?_
  refine wnil (then_n (wp_block ?_))
  refine lp (fun n a r1 => ∃ (j : Nat) (q : Int) (z7 z8 z9 z10 z11 z12 z13 z14 z15 z16 z17 z18 : Value), (n = m - j) ∧ (a = ⟨#[.func (.yield l) #[] #[], .pointer (some ⟨Bm, 0, none⟩), undef, .int .i64 q, .slice Ad m c, .int .i64 ((m : Int)), .int .i64 ((m : Int) - 1), z7, z8, z9, z10, z11, z12, z13, z14, z15, z16, z17, z18], []⟩) ∧ q = (m : Int) - 1 - j ∧ j ≤ m ∧ BI r1 ∧ J ((List.range m).reverse.take j) r1) ⟨_, 0, (m : Int) - 1, undef, undef, undef, undef, undef, undef, undef, undef, undef, undef, undef, undef, rfl, (by kernel_rfl), (by omega), Nat.zero_le _, hI, hJ0⟩ ?_
  rintro _ _ r1 ⟨j, q, z7, z8, z9, z10, z11, z12, z13, z14, z15, z16, z17, z18, rfl, rfl, hq, hj, hI1, hJ1⟩
  refine wp_seq (wp_seq (rg_lit ?_))
  refine wmv (v := .int .i64 q) ?_
  refine wl (sb rfl (r_ge (k := .i64) (m := q) (n := 0) (by kernel_rfl) (by kernel_rfl)) ?_)
  intro b2 k3
  refine wnil (then_n ?_)
  refine bcase b2 (fun v4 => ?_) (fun v4 => ?_)
  · have p5 := of_decide_eq_false (k3.trans v4)
    refine wp_cond_false (ebool (b := b2) (by kernel_rfl) v4) ?_
    have hjm : j = m := by omega
    refine wp_exit (then_x (by nofun) (then_x (by nofun) (inb_hit ?_)))
    refine bodyPost_end (v := .tuple #[]) (res0 rfl) (by kernel_rfl) ?_
    exact ⟨⟨_, rfl⟩, .inl ⟨_, rfl, by rw [hjm, List.take_of_length_le (by simp)] at hJ1; exact hJ1⟩⟩
  have p5 := of_decide_eq_true (k3.trans v4)
  have hjm : j < m := by omega
  obtain ⟨i, hi⟩ : ∃ i : Nat, i = m - 1 - j := ⟨_, rfl⟩
  have hqi : q = (i : Int) := by omega
  have hY1 := hY ((List.range m).reverse.take j) i r1 hJ1 (by simp; omega)
  obtain ⟨yf, yt, ya, yb, hrun, hround⟩ := hY1
  obtain ⟨g, o, cu, hA, hg, he⟩ := hrd r1 i hI1 (by omega)
  have hq2 : (((i : Nat)) : Int) = q := hqi.symm
  dsimp only at hrun
  rw [hq2] at hrun
  refine wp_cond_true (ebool (b := b2) (by kernel_rfl) v4) ?_
  refine wp_skip (then_n (wp_seq (wp_block (wp_seq (wpIn_wide.1 (rg_x (ro := none) (n := n) ?_))))))
  refine xv rfl rfl (v := .func (.yield l) #[] #[]) (r_move (by kernel_rfl)) ?_
  refine xv rfl rfl (v := .int .i64 q) (r_move (by kernel_rfl)) ?_
  refine xv rfl rfl (v := .slice Ad m c) (r_load (k := 0) (by kernel_rfl) Ty.ag64 (hBm r1 hI1) (by kernel_rfl)) ?_
  refine xv rfl rfl (v := .int .i64 q) (r_move (by kernel_rfl)) ?_
  refine xv rfl rfl (v := .pointer (some ⟨g, o + i * 22, none⟩)) (r_ixaddr' (A := Ad) (b := g) (o := o) (n := m) (c := c) (sz := 22) (j := q) (by kernel_rfl) hA (by kernel_rfl) Ty.un64 Ty.sz73 (by omega) (by omega) (by omega)) ?_
  refine xv rfl rfl (v := .agg (vs i).toArray) (r_loads (k := o + i * 22) (by kernel_rfl) Ty.ag73 (by rw [hlen]; exact Ty.sz73) hg (by rw [hlen]; exact he)) ?_
  refine xy rfl rfl (l := l) (f := yf) (tmps := yt) (assign := ya) (body := yb) (r_yield (by kernel_rfl) (by kernel_rfl) hrun) hround ?_
  rintro e W3 (⟨rfl, hJ3, hk3⟩ | ⟨rfl, hJx3⟩)
  · refine ⟨_, rfl, ?_⟩
    refine xv rfl rfl (v := .bool false) (r_not (b := true) (by kernel_rfl)) ?_
    refine xnil (then_n (wp_cond_false (by kernel_rfl) (wp_skip (inb_n (then_n (rg_lit ?_))))))
    refine wmv (v := .int .i64 q) ?_
    refine wl (sv rfl (v := .int .i64 (q - 1)) (r_sub (k := .i64) (m := q) (n := 1) (c := q - 1) (by kernel_rfl) (by kernel_rfl) ((IntWalk.i64_in _ (by omega)).trans (by omega))) ?_)
    refine was (v := .int .i64 (q - 1)) ?_
    refine wnil (then_n ?_)
    exact ⟨m - (j + 1), by omega, j + 1, q - 1, .int .i64 q, .bool b2, .int .i64 q, .int .i64 (q - 1), .func (.yield l) #[] #[], .int .i64 q, .slice Ad m c, .int .i64 q, .pointer (some ⟨g, o + i * 22, none⟩), .agg (vs i).toArray, .bool true, .bool false, rfl, (by kernel_rfl), by omega, by omega, hk3 hI1, by rw [rev_take hjm, ← hi]; exact hJ3⟩
  · refine ⟨_, rfl, ?_⟩
    refine xv rfl rfl (v := .bool true) (r_not (b := false) (by kernel_rfl)) ?_
    refine xnil (then_n (wp_cond_true (by kernel_rfl) (wp_ret (inb_r (then_x (by nofun) (then_x (by nofun) (inb_r ?_)))))))
    refine bodyPost_ret (v := .tuple #[]) (res0 rfl) (by kernel_rfl) ?_
    exact ⟨⟨_, rfl⟩, .inr ⟨_, trivial, hJx3⟩⟩
end Go.Proofs.YtefhfoioeoijlaaGreat

namespace Go.Proofs.YtefhfoioeoijlaaGreat
open Go Go.RowKit Go.Sort

structure DD where
  oA : Option Addr
  on : Nat
  oc : Nat
  iA : Option Addr
  in_ : Nat
  ic : Nat
def DD.d (x : DD) : Value × Value := (.slice x.oA x.on x.oc, .slice x.iA x.in_ x.ic)
theorem PRow.pick {T : TypeId} {B base : Nat} {w : World} {A : Option Addr} {n c : Nat} {L : List StepD} (h : PRow T B base w (.slice A n c) L) :
    ∃ dd : Nat → DD, (∀ i x, L[i]? = some x → ∃ g cur, A = some ⟨g, 0, none⟩ ∧ base ≤ g ∧ w.heap[g]? = some (.cells cur T (0, 0)) ∧ (cur.toList.drop (i * 22)).take 22 = spC x (dd i).d ∧ Dat B w (dd i).d.1 x.o.data ∧ Dat B w (dd i).d.2 x.was.data) ∧ ∀ i, Dat B w (dd i).d.2 (L.getD i default).was.data := by
  have key : ∀ i, ∃ d : DD, (∀ x, L[i]? = some x → ∃ g cur, A = some ⟨g, 0, none⟩ ∧ base ≤ g ∧ w.heap[g]? = some (.cells cur T (0, 0)) ∧ (cur.toList.drop (i * 22)).take 22 = spC x d.d ∧ Dat B w d.d.1 x.o.data ∧ Dat B w d.d.2 x.was.data) ∧ Dat B w d.d.2 (L.getD i default).was.data := by
    intro i
    cases hx : L[i]? with
    | none => exact ⟨⟨none, 0, 0, none, 0, 0⟩, (fun x h => by cases h), by rw [List.getD_eq_getElem?_getD, hx]; exact Dat.nil B w⟩
    | some y =>
      obtain ⟨g, cur, oA, on, oc, iA, in_, ic, h1, h2, h3, h4, h5, h6⟩ := PRow.get h hx
      exact ⟨⟨oA, on, oc, iA, in_, ic⟩, (fun x h => by injection h with h; subst h; exact ⟨g, cur, h1, h2, h3, h4, h5, h6⟩), by rw [List.getD_eq_getElem?_getD, hx]; exact h6⟩
  exact ⟨fun i => Classical.choose (key i), fun i => (Classical.choose_spec (key i)).1, fun i => (Classical.choose_spec (key i)).2⟩
/-- What a range's own book-keeping keeps: all that was there, but for one block. -/
theorem mod_put {r k : Nat} {wk W : World} {o : Obj} (h : Mod [r] wk W) (hk : wk.heap.size ≤ k) (hW : k < W.heap.size) : Mod [r] wk (W.putObj k o) :=
  Mod.trans' h (grownBy_putObj' W k o) (fun i hi => by injection hi with hi; omega)
set_option maxHeartbeats 1000000 in
theorem backward_at {w : World} (A : Option Addr) (m c : Nat) :
    Calls Tryz.prog 60 #[.slice A m c] w fun e w' => ∃ b, e = .returned (.func (.func 75) #[] #[.pointer (some ⟨b, 0, none⟩)]) ∧ b = w.heap.size ∧ w'.heap[b]? = some (.cells #[.slice A m c] 64 (0, 0)) ∧ Up w w' := by
  go_enter Tryz.func60, Tryz.ntmps60
  refine wp_seq (rg_lit ?_)
  refine wl (sn rfl (cs := #[.slice A m c]) (T := 64) (V := fun b => .pointer (some ⟨b, 0, none⟩)) (r_box (v := .slice A m c) (by kernel_rfl) rfl) ?_)
  intro b w1 e1 h1 u1
  refine was (v := .nilFunc) ?_
  refine wnil (then_n (wp_seq (rg_lit ?_)))
  refine wl (sv rfl (v := .func (.func 75) #[] #[.pointer (some ⟨b, 0, none⟩)]) (r_makeFunc (xs := []) (ys := [.tmp 1]) (us := []) (vs := [.pointer (some ⟨b, 0, none⟩)]) (by kernel_rfl) (by kernel_rfl)) ?_)
  refine was (v := .func (.func 75) #[] #[.pointer (some ⟨b, 0, none⟩)]) ?_
  refine wnil (then_n (wp_ret ?_))
  refine bodyPost_ret (v := .func (.func 75) #[] #[.pointer (some ⟨b, 0, none⟩)]) (res1 rfl (rv_t (by kernel_rfl))) (by kernel_rfl) ?_
  exact ⟨b, rfl, e1, h1, u1⟩
end Go.Proofs.YtefhfoioeoijlaaGreat

namespace Go.Proofs.YtefhfoioeoijlaaGreat
open Go Go.RowKit Go.Sort

theorem spC_one {s : StepD} {oA iA : Option Addr} {on oc in_ ic : Nat} {u : Value} (hu : u ∈ spC s (.slice oA on oc, .slice iA in_ ic)) : u.oneCell' = true := by
  simp [spC, opC, itC] at hu
  rcases hu with rfl | rfl | rfl | rfl | rfl | rfl | rfl | rfl | rfl | rfl | rfl | rfl | rfl | rfl | rfl | rfl | rfl | rfl | rfl | rfl | rfl | rfl <;> rfl
theorem SDat.one {B : Nat} {w : World} {d : Value × Value} {s : StepD} (h : SDat B w d s) {u : Value} (hu : u ∈ spC s d) : u.oneCell' = true := by
  obtain ⟨d1, d2⟩ := d
  obtain ⟨h1, h2⟩ := h
  obtain ⟨A, n, c, rfl⟩ := h1.form
  obtain ⟨A', n', c', rfl⟩ := h2.form
  exact spC_one hu
theorem flatP_one {B : Nat} {w : World} : ∀ {L : List StepD} {ds : List (Value × Value)}, Pair (fun x d => SDat B w d x) L ds → ∀ u ∈ flatP L ds, u.oneCell' = true
  | [], [], _, u, hu => by simp [flatP] at hu
  | [], _ :: _, h, _, _ => h.elim
  | _ :: _, [], h, _, _ => h.elim
  | x :: L, d :: ds, h, u, hu => by
    simp only [flatP] at hu
    rcases List.mem_append.1 hu with hu | hu
    · exact h.1.one hu
    · exact flatP_one h.2 u hu
theorem Pair.cat {α β : Type} {R : α → β → Prop} : ∀ {xs xs' : List α} {ys ys' : List β}, Pair R xs ys → Pair R xs' ys' → Pair R (xs ++ xs') (ys ++ ys')
  | [], _, [], _, _, h => h
  | [], _, _ :: _, _, h, _ => h.elim
  | _ :: _, _, [], _, h, _ => h.elim
  | x :: xs, _, y :: ys, _, h, k => ⟨h.1, Pair.cat h.2 k⟩
theorem Pair.drp {α β : Type} {R : α → β → Prop} : ∀ {xs : List α} {ys : List β} (k : Nat), Pair R xs ys → Pair R (xs.drop k) (ys.drop k)
  | [], [], k, _ => by simp [Pair]
  | [], _ :: _, _, h => h.elim
  | _ :: _, [], _, h => h.elim
  | x :: xs, y :: ys, 0, h => h
  | x :: xs, y :: ys, k + 1, h => Pair.drp k h.2
theorem PRow.blk {T : TypeId} {B base : Nat} {w : World} {g n c : Nat} {L : List StepD} (h : PRow T B base w (.slice (some ⟨g, 0, none⟩) n c) L) :
    n = L.length ∧ n ≤ c ∧ c ≤ maxLen ∧ base ≤ g ∧ ∃ cur ds, w.heap[g]? = some (.cells cur T (0, 0)) ∧ cur.size = c * 22 ∧ Pair (fun x d => SDat B w d x) L ds ∧ cur.toList.take (n * 22) = flatP L ds := by
  obtain ⟨ds, hp, h1, ⟨e, _⟩ | ⟨g', cap, cur, e, hb, hg, hc, hm, hcs, htk⟩⟩ := h
  · cases e
  · simp only [Value.slice.injEq, Option.some.injEq, Addr.mk.injEq, and_true, true_and] at e
    obtain ⟨rfl, rfl, rfl⟩ := e
    exact ⟨rfl, hc, hm, hb, cur, ds, hg, hcs, hp, htk⟩
theorem PRow.mk {T : TypeId} {B base : Nat} {w : World} {g n c : Nat} {L : List StepD} {cur : Array Value} {ds : List (Value × Value)} (hp : Pair (fun x d => SDat B w d x) L ds) (hn : n = L.length) (hnc : n ≤ c) (hm : c ≤ maxLen) (hb : base ≤ g)
    (hg : w.heap[g]? = some (.cells cur T (0, 0))) (hs : cur.size = c * 22) (ht : cur.toList.take (n * 22) = flatP L ds) : PRow T B base w (.slice (some ⟨g, 0, none⟩) n c) L := by
  subst hn
  exact ⟨ds, hp, flatP_length hp.length, .inr ⟨g, c, cur, rfl, hb, hg, hnc, hm, hs, ht⟩⟩
/-- 'copy' between rows that are known whole (of one block too: all is read before anything is written). -/
theorem r_copyc {P : Program} {d : Option Tmp} {ty : TypeId} {pos : String} {af : Array Edge} {gd : Option (Nat × Bool)} {ρ : Operand → Value} {w : World} {x y : Operand} {dT sT elem : TypeId} {b o dn dc sb so sn sc m sz : Nat} {cs src : Array Value} {T T' : TypeId} {fr : Nat × Nat} {vs : List Value}
    (hx : ρ x = .slice (some ⟨b, o, none⟩) dn dc) (hy : ρ y = .slice (some ⟨sb, so, none⟩) sn sc) (hu : P.underlying dT = some (.slice elem)) (hs : ∀ w, (sizeOf elem).run P w = .ok sz w) (hm : Nat.min sn dn = m)
    (hb : w.heap[b]? = some (.cells cs T (0, 0))) (hsb : w.heap[sb]? = some (.cells src T' fr)) (hvs : (src.toList.drop so).take vs.length = vs) (hvl : vs.length = m * sz) (hone : ∀ v ∈ vs, v.oneCell' = true) (hk : o + vs.length ≤ cs.toList.length) :
    ∃ w', (execOp ρ ⟨d, .call { callee := .builtin .copy, args := #[x, y], argTypes := #[dT, sT] }, ty, pos, af, gd⟩).run P w = .ok (.value (.int .i64 (m : Int))) w' ∧ w'.heap[b]? = some (.cells (cs.toList.take o ++ vs ++ cs.toList.drop (o + vs.length)).toArray T (0, 0)) ∧ Chg w w' b ∧ w'.heap.size = w.heap.size := by
  have hl := run_loadCells_list (P := P) w ⟨sb, so, none⟩ vs (fun j v hj => by
    rw [add_at]
    have hj2 : src.toList[so + j]? = some v := by
      rw [← hvs, List.getElem?_take] at hj
      split at hj
      · rwa [List.getElem?_drop] at hj
      · cases hj
    rw [Array.getElem?_toList] at hj2
    simp [World.cell?, hsb, hj2])
  have hst := run_storeCells_at P b o T vs 0 cs w hb (by simpa using hk) hone
  rw [Nat.add_zero] at hst
  refine ⟨w.setRow b (cs.toList.take o ++ vs ++ cs.toList.drop (o + vs.length)).toArray, ?_, setRow_heap w b cs _ T _ hb, ⟨rfl, rfl, rfl, by simp, fun k _ hk => setRow_other w b k _ (fun e => hk (by rw [e]))⟩, by simp⟩
  simp [execOp, resolve, invoke, builtin, hx, hy, Builtin.copy_, run_underlying hu, Builtin.lenOf, Builtin.firstCells, hs, hm, ← hvl, hl, hst, goInt]
/-- The cells behind the two copies of an insertion, in place: first what is behind, then the new one. -/
theorem ins_cells {α : Type} {l A D X : List α} (hA : l.take A.length = A) (hl : A.length + X.length + D.length ≤ l.length) :
    ((l.take (A.length + X.length) ++ D ++ l.drop (A.length + X.length + D.length)).take A.length ++ X ++ (l.take (A.length + X.length) ++ D ++ l.drop (A.length + X.length + D.length)).drop (A.length + X.length)).take (A.length + X.length + D.length) = A ++ X ++ D := by
  have h1 : (l.take (A.length + X.length)).length = A.length + X.length := by rw [List.length_take]; omega
  have h2 : (l.take (A.length + X.length) ++ D ++ l.drop (A.length + X.length + D.length)).take A.length = A := by
    rw [List.append_assoc, List.take_append_of_le_length (by omega), List.take_take, Nat.min_eq_left (by omega), hA]
  have h3 : (l.take (A.length + X.length) ++ D ++ l.drop (A.length + X.length + D.length)).drop (A.length + X.length) = D ++ l.drop (A.length + X.length + D.length) := by
    rw [List.append_assoc, List.drop_append_of_le_length (by omega), List.drop_of_length_le (by omega), List.nil_append]
  rw [h2, h3, ← List.append_assoc, List.take_append_of_le_length (by simp; omega), List.take_of_length_le (by simp; omega)]
/-- .. and in a new row: first the new one, then what is behind. -/
theorem grw_cells {α : Type} {l A D X : List α} (hA : l.take A.length = A) (hl : A.length + X.length + D.length ≤ l.length) :
    ((l.take A.length ++ X ++ l.drop (A.length + X.length)).take (A.length + X.length) ++ D ++ (l.take A.length ++ X ++ l.drop (A.length + X.length)).drop (A.length + X.length + D.length)).take (A.length + X.length + D.length) = A ++ X ++ D := by
  rw [hA]
  have h1 : (A ++ X ++ l.drop (A.length + X.length)).take (A.length + X.length) = A ++ X := by
    rw [List.take_append_of_le_length (by simp), List.take_of_length_le (by simp)]
  rw [h1, List.take_append_of_le_length (by simp; omega), List.take_of_length_le (by simp; omega)]
theorem spl_len {α : Type} {l v : List α} {k : Nat} (h : k + v.length ≤ l.length) : (l.take k ++ v ++ l.drop (k + v.length)).length = l.length := by
  simp only [List.length_append, List.length_take, List.length_drop]; omega
/-- A row into which one step is inserted: its cells. -/
theorem PRow.ins {T : TypeId} {B base : Nat} {w : World} {g n c i : Nat} {L : List StepD} {cur : Array Value} {ds : List (Value × Value)} {x : StepD} {d : Value × Value} (hp : Pair (fun x d => SDat B w d x) L ds) (hd : SDat B w d x) (hi : i ≤ L.length) (hn : n = L.length + 1) (hnc : n ≤ c) (hm : c ≤ maxLen) (hb : base ≤ g)
    (hg : w.heap[g]? = some (.cells cur T (0, 0))) (hs : cur.size = c * 22) (ht : cur.toList.take (n * 22) = (flatP L ds).take (i * 22) ++ spC x d ++ (flatP L ds).drop (i * 22)) : PRow T B base w (.slice (some ⟨g, 0, none⟩) n c) (L.take i ++ [x] ++ L.drop i) := by
  have hl := hp.length
  refine PRow.mk (ds := ds.take i ++ [d] ++ ds.drop i) (Pair.cat (Pair.cat (Pair.take i hp) ⟨hd, trivial⟩) (Pair.drp i hp)) (by simp; omega) hnc hm hb hg hs ?_
  rw [flatP_app (by simp; omega), flatP_app (by simp; omega), flatP_take i hl, flatP_drop i hl, ht]
  simp [flatP]
/-- .. from which one is deleted. -/
theorem PRow.del {T : TypeId} {B base : Nat} {w : World} {g n c i : Nat} {L : List StepD} {cur : Array Value} {ds : List (Value × Value)} (hp : Pair (fun x d => SDat B w d x) L ds) (hi : i < L.length) (hn : n + 1 = L.length) (hnc : n ≤ c) (hm : c ≤ maxLen) (hb : base ≤ g)
    (hg : w.heap[g]? = some (.cells cur T (0, 0))) (hs : cur.size = c * 22) (ht : cur.toList.take (n * 22) = (flatP L ds).take (i * 22) ++ (flatP L ds).drop ((i + 1) * 22)) : PRow T B base w (.slice (some ⟨g, 0, none⟩) n c) (L.take i ++ L.drop (i + 1)) := by
  have hl := hp.length
  refine PRow.mk (ds := ds.take i ++ ds.drop (i + 1)) (Pair.cat (Pair.take i hp) (Pair.drp (i + 1) hp)) (by simp; omega) hnc hm hb hg hs ?_
  rw [flatP_app (by simp; omega), flatP_take i hl, flatP_drop (i + 1) hl, ht]
end Go.Proofs.YtefhfoioeoijlaaGreat

namespace Go.Proofs.YtefhfoioeoijlaaGreat
open Go Go.RowKit Go.Sort
section
variable {P : Program} {ops : Array Oper} {Q : Exit → Act → World → Prop} {a : Act} {w : World} {J : Act → World → Prop} {d : Option Tmp} {ty : TypeId} {pos : String} {af : Array Edge} {gd : Option (Nat × Bool)}
theorem r_cap {ρ : Operand → Value} {t e : TypeId} {x : Operand} {ad : Option Addr} {n c : Nat} (hu : P.underlying t = some (.slice e)) (hx : ρ x = .slice ad n c) :
    (execOp ρ ⟨d, .call { callee := .builtin .cap, args := #[x], argTypes := #[t] }, ty, pos, af, gd⟩).run P w = .ok (.value (.int .i64 c)) w := by
  simp [execOp, resolve, hx, invoke, builtin, Builtin.cap_, run_underlying hu, goInt]
theorem r_sliceLo' {ρ : Operand → Value} {t e : TypeId} {x lo : Operand} {A : Option Addr} {n c k sz : Nat} (hx : ρ x = .slice A n c) (hA : (A = none ∧ c = 0) ∨ ∃ g, A = some ⟨g, 0, none⟩) (hlo : ρ lo = .int .i64 (k : Int)) (hu : P.underlying t = some (.slice e)) (hsz : ∀ w, (sizeOf e).run P w = .ok sz w) (hk : k ≤ n) (hnc : n ≤ c) :
    ∃ Ad, (execOp ρ ⟨d, .slice t x (some lo) none none, ty, pos, af, gd⟩).run P w = .ok (.value (.slice Ad (n - k) (c - k))) w := by
  by_cases hkc : k < c
  · rcases hA with ⟨rfl, h0⟩ | ⟨g, rfl⟩
    · omega
    · exact ⟨_, r_sliceLo hx hlo hu hsz hk hkc⟩
  · have h1 : (0 : Int) ≤ (k : Int) ∧ (k : Int) ≤ (n : Int) := by omega
    have h2 : c = k := by omega
    have h3 : n = k := by omega
    rcases hA with ⟨rfl, h0⟩ | ⟨g, rfl⟩
    · exact ⟨none, by simp [execOp, hx, hlo, Instr.sliceAt, Instr.slice, Instr.sliceBounds, Instr.sliceBound, asIntOf, run_underlying hu, hsz, h1, h2, h3, add_at]⟩
    · exact ⟨some ⟨g, 0, none⟩, by simp [execOp, hx, hlo, Instr.sliceAt, Instr.slice, Instr.sliceBounds, Instr.sliceBound, asIntOf, run_underlying hu, hsz, h1, h2, h3, add_at]⟩
theorem slE {t e : TypeId} {x lo : Operand} {A : Option Addr} {n c k sz : Nat} (hw : Region.wanted (⟨d, .slice t x (some lo) none none, ty, pos, af, gd⟩ : Oper) (yielded ops a.tmps) = true) (hx : a.eval x = .slice A n c) (hA : (A = none ∧ c = 0) ∨ ∃ g, A = some ⟨g, 0, none⟩) (hlo : a.eval lo = .int .i64 (k : Int)) (hu : P.underlying t = some (.slice e)) (hsz : ∀ w, (sizeOf e).run P w = .ok sz w) (hk : k ≤ n) (hnc : n ≤ c)
    (kk : ∀ Ad, J (a.put d (.slice Ad (n - k) (c - k))) w) : St1 P ops Q ⟨d, .slice t x (some lo) none none, ty, pos, af, gd⟩ J a w := by
  obtain ⟨Ad, h⟩ := r_sliceLo' (P := P) (d := d) (ty := ty) (pos := pos) (af := af) (gd := gd) (w := w) hx hA hlo hu hsz hk hnc
  exact sv hw h (kk Ad)
theorem cpS {x y : Operand} {dT sT elem : TypeId} {b o dn dc sb so sn sc m sz : Nat} {cs src : Array Value} {T T' : TypeId} {fr : Nat × Nat} {vs : List Value} (hw : Region.wanted (⟨d, .call { callee := .builtin .copy, args := #[x, y], argTypes := #[dT, sT] }, ty, pos, af, gd⟩ : Oper) (yielded ops a.tmps) = true)
    (hx : a.eval x = .slice (some ⟨b, o, none⟩) dn dc) (hy : a.eval y = .slice (some ⟨sb, so, none⟩) sn sc) (hu : P.underlying dT = some (.slice elem)) (hs : ∀ w, (sizeOf elem).run P w = .ok sz w) (hm : Nat.min sn dn = m)
    (hb : w.heap[b]? = some (.cells cs T (0, 0))) (hsb : w.heap[sb]? = some (.cells src T' fr)) (hvs : (src.toList.drop so).take vs.length = vs) (hvl : vs.length = m * sz) (hone : ∀ v ∈ vs, v.oneCell' = true) (hk : o + vs.length ≤ cs.toList.length)
    (kk : ∀ w', w'.heap[b]? = some (.cells (cs.toList.take o ++ vs ++ cs.toList.drop (o + vs.length)).toArray T (0, 0)) → Chg w w' b → J (a.put d (.int .i64 (m : Int))) w') : St1 P ops Q ⟨d, .call { callee := .builtin .copy, args := #[x, y], argTypes := #[dT, sT] }, ty, pos, af, gd⟩ J a w := by
  obtain ⟨w', h1, h2, h3, _⟩ := r_copyc (P := P) (d := d) (ty := ty) (pos := pos) (af := af) (gd := gd) hx hy hu hs hm hb hsb hvs hvl hone hk
  exact sv hw h1 (kk w' h2 h3)
end
theorem r_callx {P : Program} {d : Option Tmp} {ty : TypeId} {pos : String} {af : Array Edge} {gd : Option (Nat × Bool)} {ρ : Operand → Value} {w : World} {f : FuncId} {x : Operand} {xs : List Operand} {ats : Array TypeId} {all : List Value} {v : Value} (hf : (callFunc f all.toArray).run P w = .ok (.value v) w) (hx : ρ x = .func (.func f) #[] #[]) (ha : xs.map ρ = all) :
    (execOp ρ ⟨d, .call { callee := .value x, args := xs.toArray, argTypes := ats }, ty, pos, af, gd⟩).run P w = .ok (.value v) w := by
  subst ha
  simp [execOp, resolve, hx, Deferred.ofValue, invoke, hf]
theorem over_no {w : World} {vb g o lb cb : Nat} {cs cur : Array Value} (hne : vb ≠ g) (hv : w.heap[vb]? = some (.cells cs 73 (0, 0))) (hg : w.heap[g]? = some (.cells cur 73 (0, 0))) (h0 : cur.size ≠ 0) :
    (callFunc 63 #[.slice (some ⟨vb, 0, none⟩) 1 1, .slice (some ⟨g, o, none⟩) lb cb]).run Tryz.prog w = .ok (.value (.bool false)) w := by
  rw [run_callFunc_extern (fn := Tryz.f63) (e := Extern.SlicesOverlaps.overlaps #[64, 64] #[4]) (by kernel_rfl) (by kernel_rfl) (by kernel_rfl) (by kernel_rfl) (by kernel_rfl),
    Lib.run_overlaps_apart w 64 4 73 Ty.un64 22 Ty.sz73 ⟨vb, 0, none⟩ ⟨g, o, none⟩ 1 1 lb cb hne 73 73 cs.size cur.size (by simp [World.shape?, hv]) (by simp [World.shape?, hg]) h0 (by simp [World.frozen?, hv]) (by simp [World.frozen?, hv])]
  rfl
theorem info_step : ∃ i z, Tryz.prog.info? 73 = some i ∧ i.zero = some z ∧ i.size = 22 ∧ i.bytes = 208 ∧ z.cells.size = 22 := by
  have h : (Tryz.prog.info? 73).map (fun i => (i.zero.map (·.cells.size), i.size, i.bytes)) = some (some 22, 22, 208) := by kernel_rfl
  cases hi : Tryz.prog.info? 73 with
  | none => rw [hi] at h; cases h
  | some i =>
    rw [hi] at h; simp at h
    obtain ⟨⟨z, hz, h1⟩, h2, h3⟩ := h
    exact ⟨i, z, rfl, hz, h2, h3, h1⟩
theorem cells_at {w : World} {b : Nat} {cs : List Value} {T : TypeId} {fr : Nat × Nat} (h : w.heap[b]? = some (.cells cs.toArray T fr)) : ∀ j u, cs[j]? = some u → w.cell? ((⟨b, 0, none⟩ : Addr).add j) = some u := by
  intro j u hj
  rw [add_at, Nat.zero_add]
  have : cs.toArray[j]? = some u := by simpa using hj
  simp only [World.cell?, h]; simpa using this
theorem cells_take {w : World} {b k : Nat} {cur : Array Value} {cs : List Value} {T : TypeId} {fr : Nat × Nat} (h : w.heap[b]? = some (.cells cur T fr)) (hc : (cur.toList.drop k).take cs.length = cs) : ∀ j u, cs[j]? = some u → w.cell? ((⟨b, k, none⟩ : Addr).add j) = some u := by
  intro j u hj
  rw [add_at]
  rw [← hc, List.getElem?_take] at hj
  split at hj
  · rw [List.getElem?_drop, Array.getElem?_toList] at hj
    simp [World.cell?, h, hj]
  · cases hj
theorem spC_min {n : Nat} (h : 1 ≤ n) : Nat.min 1 n = 1 := Nat.min_eq_left h
/-- What an insertion does, beside the row itself. -/
def InsPost (B base : Nat) (w : World) (A : Option Addr) (n c : Nat) (S' : List StepD) (e : Ending) (w' : World) : Prop :=
  ∃ A' c', e = .returned (.slice A' S'.length c') ∧ PRow 73 B base w' (.slice A' S'.length c') S' ∧ w.grownBy w' (Value.ownBlock (.slice A n c)) ∧ ∀ g, Value.ownBlock (.slice A' S'.length c') = some g → Value.ownBlock (.slice A n c) = some g ∨ w.heap.size ≤ g
set_option maxHeartbeats 4000000 in
theorem insert_at {B base : Nat} {w : World} {A : Option Addr} {n c i vb : Nat} {S : List StepD} {x : StepD} {dv : Value × Value} (hp : PRow 73 B base w (.slice A n c) S) (hv : w.heap[vb]? = some (.cells (spC x dv).toArray 73 (0, 0))) (hd : SDat B w dv x) (hi : i ≤ S.length) (hlen : S.length ≤ 100000) (hBb : B ≤ base) (hbase : base ≤ w.heap.size) (hne : ∀ g, A = some ⟨g, 0, none⟩ → vb ≠ g) :
    Calls Tryz.prog 38 #[.slice A n c, .int .i64 (i : Int), .slice (some ⟨vb, 0, none⟩) 1 1] w (InsPost B base w A n c (S.take i ++ [x] ++ S.drop i)) := by
  obtain ⟨hl, hnc, hcm, hA⟩ := PRow.addr hp
  have hA2 : (A = none ∧ c = 0) ∨ ∃ g, A = some ⟨g, 0, none⟩ := by rcases hA with h | ⟨g, _, h, _⟩; exact .inl h; exact .inr ⟨g, h⟩
  obtain ⟨iP, zP, hiP, hzP, hsP, hbP, hcP⟩ := info_step
  have hvl : (spC x dv).length = 1 * 22 := rfl
  have hSl : (S.take i ++ [x] ++ S.drop i).length = n + 1 := by simp; omega
  go_enter Tryz.func38, Tryz.ntmps38
  refine wp_seq (rg_lit ?_)
  refine was (v := .slice none 0 0) ?_
  refine wnil (then_n (wp_seq (rg_lit ?_)))
  refine wmv (v := .slice A n c) ?_
  refine wmv (v := .int .i64 (i : Int)) ?_
  refine wl (slE rfl (A := A) (n := n) (c := c) (k := i) (by kernel_rfl) hA2 (by kernel_rfl) Ty.un64 Ty.sz73 (by omega) hnc ?_)
  intro A12
  refine wnil (then_n (wp_seq (rg_lit ?_)))
  refine wmv (v := .slice (some ⟨vb, 0, none⟩) 1 1) ?_
  refine wl (sv rfl (v := .int .i64 1) (r_len Ty.un64 (ad := some ⟨vb, 0, none⟩) (n := 1) (c := 1) (by kernel_rfl)) ?_)
  refine was (v := .int .i64 1) ?_
  refine wnil (then_n (wp_seq (wp_seq (rg_lit ?_))))
  refine wmv (v := .int .i64 1) ?_
  refine wl (sv rfl (v := .bool false) (r_eq (k := .i64) (m := 1) (n := 0) (by kernel_rfl) (by kernel_rfl)) ?_)
  refine wnil (then_n (wp_cond_false (by kernel_rfl) (wp_skip (then_n (wp_seq (rg_lit ?_))))))
  refine wmv (v := .slice A n c) ?_
  refine wl (sv rfl (v := .int .i64 (n : Int)) (r_len Ty.un64 (ad := A) (n := n) (c := c) (by kernel_rfl)) ?_)
  refine was (v := .int .i64 (n : Int)) ?_
  refine wnil (then_n (wp_seq (wp_seq (rg_lit ?_))))
  refine wmv (v := .int .i64 (i : Int)) ?_
  refine wmv (v := .int .i64 (n : Int)) ?_
  refine wl (sb rfl (r_eq (k := .i64) (m := (i : Int)) (n := (n : Int)) (by kernel_rfl) (by kernel_rfl)) ?_)
  intro b1 k1
  refine wnil (then_n ?_)
  refine bcase b1 (fun v1 => ?_) (fun v1 => ?_)
  rotate_left
  · -- at the end
    have hin : i = n := by have := of_decide_eq_true (k1.trans v1); omega
    refine wp_cond_true (ebool (b := b1) (by kernel_rfl) v1) (wp_seq (rg_lit ?_))
    refine wmv (v := .slice A n c) ?_
    refine wmv (v := .slice (some ⟨vb, 0, none⟩) 1 1) ?_
    obtain ⟨ds, hpr, ho⟩ := hp
    rw [← hl] at ho
    obtain ⟨v', w', h1, h2, h3, h4, h5⟩ := run_append_own_at (P := Tryz.prog) w base 64 64 73 iP zP 22 208 Ty.un64 hiP hzP hsP hbP hcP (by decide) _ n (flatP S ds) ho ⟨vb, 0, none⟩ 1 1 (spC x dv) hvl (cells_at hv) (fun u hu => hd.one hu) (by unfold maxLen; omega) (by omega) hbase
    have hX : ∀ k, Value.ownBlock (.slice A n c) = some k → B ≤ k ∧ NotU8 w k := by
      intro k hk
      rcases hA with ⟨rfl, _⟩ | ⟨g, cur, rfl, hg, hgc, _⟩
      · cases hk
      · injection hk with hk; subst hk; exact ⟨by show B ≤ g; omega, NotU8.of hgc (by decide)⟩
    have hsd : ∀ d s, SDat B w d s → SDat B w' d s := fun d s hd => by
      cases hv : Value.ownBlock (.slice A n c) with
      | none => rw [hv] at h3; exact hd.up (up_none h3)
      | some k => rw [hv] at h3; exact hd.chg h3 (hX k hv)
    have hR : PRow 73 B base w' v' (S.take i ++ [x] ++ S.drop i) := by
      refine ⟨ds ++ [dv], ?_, ?_⟩
      · rw [List.take_of_length_le (by omega), List.drop_of_length_le (by omega), List.append_nil]
        exact Pair.cat (hpr.mono fun x d hd => hsd _ _ hd) ⟨hsd _ _ hd, trivial⟩
      · rw [List.take_of_length_le (by omega), List.drop_of_length_le (by omega), List.append_nil, List.length_append, ← hl, flatP_app hpr.length]
        simpa [flatP] using h2
    obtain ⟨A', c', rfl⟩ := hR.form
    refine wl (sv rfl (v := .slice A' (S.take i ++ [x] ++ S.drop i).length c') (w' := w') (by simp [execOp, resolve, invoke, builtin, Act.eval, Act.put, h1]) ?_)
    refine was (v := .slice A' (S.take i ++ [x] ++ S.drop i).length c') ?_
    refine wnil (then_n (wp_ret (then_x (by nofun) ?_)))
    refine bodyPost_ret (v := .slice A' (S.take i ++ [x] ++ S.drop i).length c') (res1 rfl (rv_t (by kernel_rfl))) (by kernel_rfl) ?_
    refine ⟨A', c', rfl, hR, h3, fun g hg => ?_⟩
    rcases h5 with h5 | h5
    · exact .inl (h5.symm.trans hg)
    · right; rw [hg] at h5; injection h5 with h5; omega
  -- within
  have hin : i < n := by have := of_decide_eq_false (k1.trans v1); omega
  obtain ⟨g, cur, rfl, hbg, hg, hcs⟩ : ∃ g cur, A = some ⟨g, 0, none⟩ ∧ base ≤ g ∧ w.heap[g]? = some (.cells cur 73 (0, 0)) ∧ cur.size = c * 22 := by
    rcases hA with ⟨_, h0⟩ | h
    · omega
    · exact h
  have hvg : vb ≠ g := hne g rfl
  obtain ⟨_, _, _, _, cur', ds, hg', _, hpr, htk⟩ := PRow.blk hp
  rw [hg] at hg'
  simp only [Option.some.injEq, Obj.cells.injEq, and_true] at hg'
  subst hg'
  have hfl := flatP_length hpr.length
  obtain ⟨FA, hFA⟩ : ∃ FA, FA = (flatP S ds).take (i * 22) := ⟨_, rfl⟩
  obtain ⟨FD, hFD⟩ : ∃ FD, FD = (flatP S ds).drop (i * 22) := ⟨_, rfl⟩
  have hFAl : FA.length = i * 22 := by rw [hFA, List.length_take]; omega
  have hFDl : FD.length = (n - i) * 22 := by rw [hFD, List.length_drop]; omega
  have hcl : cur.toList.length = c * 22 := by simpa using hcs
  have hFDa : (cur.toList.drop (i * 22)).take FD.length = FD := by
    rw [List.take_drop, hFDl, show i * 22 + (n - i) * 22 = n * 22 by omega, htk, hFD]
  have hFAa : cur.toList.take FA.length = FA := by
    rw [hFAl, hFA, ← htk, List.take_take, Nat.min_eq_left (by omega)]
  have hone : ∀ u ∈ flatP S ds, u.oneCell' = true := flatP_one hpr
  have hgX : B ≤ g ∧ NotU8 w g := ⟨by omega, NotU8.of hg (by decide)⟩
  refine wp_cond_false (ebool (b := b1) (by kernel_rfl) v1) (wp_skip (then_n (wp_seq (wp_seq (rg_lit ?_)))))
  refine wmv (v := .int .i64 (n : Int)) ?_
  refine wmv (v := .int .i64 1) ?_
  refine wl (sv rfl (v := .int .i64 ((n : Int) + 1)) (r_add (k := .i64) (m := (n : Int)) (n := 1) (c := (n : Int) + 1) (by kernel_rfl) (by kernel_rfl) (IntWalk.i64_in _ (by omega))) ?_)
  refine wmv (v := .slice (some ⟨g, 0, none⟩) n c) ?_
  refine wl (sv rfl (v := .int .i64 (c : Int)) (r_cap Ty.un64 (ad := some ⟨g, 0, none⟩) (n := n) (c := c) (by kernel_rfl)) ?_)
  refine wl (sb rfl (r_gt (k := .i64) (m := (n : Int) + 1) (n := (c : Int)) (by kernel_rfl) (by kernel_rfl)) ?_)
  intro b2 k2
  refine wnil (then_n ?_)
  refine bcase b2 (fun v2 => ?_) (fun v2 => ?_)
  rotate_left
  · -- a new row
    have hroom : c < n + 1 := by have := of_decide_eq_true (k2.trans v2); omega
    refine wp_cond_true (ebool (b := b2) (by kernel_rfl) v2) (wp_seq (rg_lit ?_))
    refine wmv (v := .slice (some ⟨g, 0, none⟩) n c) ?_
    refine wmv (v := .int .i64 (i : Int)) ?_
    refine wl (sv rfl (v := .slice (some ⟨g, 0, none⟩) i c) (r_sliceHi (b := g) (o := 0) (n := n) (c := c) (k := i) (by kernel_rfl) (by kernel_rfl) Ty.un64 Ty.sz73 (by omega)) ?_)
    refine wmv (v := .int .i64 (n : Int)) ?_
    refine wmv (v := .int .i64 1) ?_
    refine wl (sv rfl (v := .int .i64 ((n : Int) + 1)) (r_add (k := .i64) (m := (n : Int)) (n := 1) (c := (n : Int) + 1) (by kernel_rfl) (by kernel_rfl) (IntWalk.i64_in _ (by omega))) ?_)
    refine wmv (v := .int .i64 (i : Int)) ?_
    refine wl (sv rfl (v := .int .i64 ((n + 1 - i : Nat) : Int)) (r_sub (k := .i64) (m := (n : Int) + 1) (n := (i : Int)) (c := ((n + 1 - i : Nat) : Int)) (by kernel_rfl) (by kernel_rfl) ((IntWalk.i64_in _ (by omega)).trans (by omega))) ?_)
    obtain ⟨G, hG⟩ : ∃ G, G = grownCap w (n + 1) c 73 := ⟨_, rfl⟩
    have hGn : n + 1 ≤ G := by rw [hG]; exact grownCap_ge w _ _ _
    have hGm : G ≤ maxLen := by rw [hG]; exact grownCap_le_maxLen w (n + 1) c 73 (by unfold maxLen; omega)
    have happ := Lib.run_append_grow_zeros (P := Tryz.prog) w 64 3 64 73 iP zP .i64 .i64 Ty.un64 Tryz.underlying3 hiP hzP (some ⟨g, 0, none⟩) i c FA (by rw [hsP]; exact run_firstCells_some w.drew 22 i ⟨g, 0, none⟩ i c FA hFAl (cells_take (w := w.drew) (k := 0) hg (by simpa using hFAa))) (n + 1 - i) (by omega) (by omega) (by omega) (by omega) (by rw [hbP]; omega) (by rw [hbP, show i + (n + 1 - i) = n + 1 by omega]; exact growslice_fits hroom (by omega))
    rw [show i + (n + 1 - i) = n + 1 by omega, ← hG] at happ
    obtain ⟨row, hrow⟩ : ∃ row, row = FA.toArray ++ Builtin.zeroCells zP.cells (n + 1 - i) ++ Builtin.zeroCells zP.cells (G - (n + 1)) := ⟨_, rfl⟩
    rw [← hrow] at happ
    have hrl : row.toList.length = G * 22 := by rw [hrow]; simp [Builtin.zeroCells, hcP, hFAl]; omega
    have hrA : row.toList.take FA.length = FA := by rw [hrow]; simp
    obtain ⟨ng, w1, e1, h1, u1, hrun1⟩ : ∃ ng w1, ng = w.heap.size ∧ w1.heap[ng]? = some (.cells row 73 (0, 0)) ∧ Up w w1 ∧ (Builtin.append_ #[64, 3] 64 #[.slice (some ⟨g, 0, none⟩) i c, .int .i64 ((n + 1 - i : Nat) : Int)]).run Tryz.prog w = .ok (.slice (some ⟨ng, 0, none⟩) (n + 1) G) w1 := ⟨_, _, rfl, heap_alloc_new w.drew _, up_up (up_drew w) (up_alloc w.drew _), happ⟩
    refine wl (sv rfl (v := .slice (some ⟨ng, 0, none⟩) (n + 1) G) (w' := w1) (by simp [execOp, resolve, invoke, builtin, Act.eval, Act.put, hrun1]) ?_)
    refine was (v := .slice (some ⟨ng, 0, none⟩) (n + 1) G) ?_
    refine wnil (then_n (wp_seq (rg_lit ?_)))
    refine wmv (v := .slice (some ⟨ng, 0, none⟩) (n + 1) G) ?_
    refine wmv (v := .int .i64 (i : Int)) ?_
    refine wl (sv rfl (v := .slice (some ⟨ng, FA.length, none⟩) (n + 1 - i) (G - i)) (by rw [show FA.length = 0 + i * 22 by omega]; exact r_sliceLo (b := ng) (o := 0) (n := n + 1) (c := G) (k := i) (by kernel_rfl) (by kernel_rfl) Ty.un64 Ty.sz73 (by omega) (by omega)) ?_)
    refine wmv (v := .slice (some ⟨vb, 0, none⟩) 1 1) ?_
    refine wl (cpS rfl (dn := n + 1 - i) (dc := G - i) (sn := 1) (sc := 1) (b := ng) (o := FA.length) (sb := vb) (so := 0) (m := 1) (sz := 22) (vs := spC x dv) (by kernel_rfl) (by kernel_rfl) Ty.un64 Ty.sz73 (spC_min (n := n + 1 - i) (by omega)) h1 (up_ob u1 hv) (by rfl) rfl (fun u hu => hd.one hu) (by rw [hrl, hFAl, hvl]; omega) ?_)
    intro w2 h2 c2
    obtain ⟨l2, hl2⟩ : ∃ l2, l2 = row.toList.take FA.length ++ spC x dv ++ row.toList.drop (FA.length + (spC x dv).length) := ⟨_, rfl⟩
    rw [← hl2] at h2
    have hl2l : l2.length = G * 22 := by rw [hl2, spl_len (by rw [hrl, hFAl, hvl]; omega), hrl]
    have hge : w.heap.size ≤ ng := Nat.le_of_eq e1.symm
    have hgn : g ≠ ng := by have := lt_ob hg; omega
    have hXl : (spC x dv).length = 22 := rfl
    refine wnil (then_n (wp_seq (rg_tail 8 (by kernel_rfl) (by kernel_rfl) rfl rfl ?_)))
    refine qmv (v := .slice (some ⟨ng, 0, none⟩) (n + 1) G) ?_
    refine qmv (v := .int .i64 (i : Int)) ?_
    refine qmv (v := .int .i64 1) ?_
    refine qv rfl (v := .int .i64 ((i + 1 : Nat) : Int)) (fun _ _ => r_add (k := .i64) (m := (i : Int)) (n := 1) (c := ((i + 1 : Nat) : Int)) (by kernel_rfl) (by kernel_rfl) ((IntWalk.i64_in _ (by omega)).trans (by omega))) ?_
    refine qv rfl (v := .slice (some ⟨ng, FA.length + (spC x dv).length, none⟩) (n + 1 - (i + 1)) (G - (i + 1))) (fun _ _ => by rw [show FA.length + (spC x dv).length = 0 + (i + 1) * 22 by omega]; exact r_sliceLo (b := ng) (o := 0) (n := n + 1) (c := G) (k := i + 1) (by kernel_rfl) (by kernel_rfl) Ty.un64 Ty.sz73 (by omega) (by omega)) ?_
    refine qmv (v := .slice (some ⟨g, 0, none⟩) n c) ?_
    refine qmv (v := .int .i64 (i : Int)) ?_
    refine qv rfl (v := .slice (some ⟨g, i * 22, none⟩) (n - i) (c - i)) (fun _ _ => by rw [show i * 22 = 0 + i * 22 by omega]; exact r_sliceLo (b := g) (o := 0) (n := n) (c := c) (k := i) (by kernel_rfl) (by kernel_rfl) Ty.un64 Ty.sz73 (by omega) (by omega)) ?_
    refine qnil ?_
    intro w3 u3
    refine wl (cpS rfl (dn := n + 1 - (i + 1)) (dc := G - (i + 1)) (sn := n - i) (sc := c - i) (b := ng) (o := FA.length + (spC x dv).length) (sb := g) (so := i * 22) (m := n - i) (sz := 22) (vs := FD) (by kernel_rfl) (by kernel_rfl) Ty.un64 Ty.sz73 (by rw [show n + 1 - (i + 1) = n - i by omega]; exact Nat.min_self _) (up_ob u3 h2) (up_ob u3 (chg_ob c2 hgn (up_ob u1 hg))) hFDa hFDl (fun u hu => hone u (by rw [hFD] at hu; exact List.mem_of_mem_drop hu)) (by simp only [List.toList_toArray]; rw [hl2l]; omega) ?_)
    intro w4 h4 c4
    have uu : Up w w4 := up_chgn (up_up (up_chgn u1 c2 hge) u3) c4 hge
    refine wnil (then_n (wp_seq (rg_lit ?_)))
    refine wmv (v := .slice (some ⟨ng, 0, none⟩) (n + 1) G) ?_
    refine was (v := .slice (some ⟨ng, 0, none⟩) (n + 1) G) ?_
    refine wnil (then_n (wp_ret (then_x (by nofun) ?_)))
    refine bodyPost_ret (v := .slice (some ⟨ng, 0, none⟩) (n + 1) G) (res1 rfl (rv_t (by kernel_rfl))) (by kernel_rfl) ?_
    simp only [List.toList_toArray] at h4
    refine ⟨some ⟨ng, 0, none⟩, G, by rw [hSl], PRow.ins (hpr.mono fun x d hd => hd.up uu) (hd.up uu) hi (by rw [hSl, hl]) (by rw [hSl]; exact hGn) hGm (Nat.le_trans hbase hge) h4 ?_ ?_, to_chg uu g, fun k hk => ?_⟩
    · rw [List.size_toArray, spl_len (by rw [hl2l]; omega), hl2l]
    · have hk := grw_cells (l := row.toList) (A := FA) (X := spC x dv) (D := FD) hrA (by rw [hrl]; omega)
      rw [← hl2] at hk
      rw [hSl, ← hFA, ← hFD, show (n + 1) * 22 = FA.length + (spC x dv).length + FD.length by omega]
      exact hk
    · injection hk with hk
      right
      show w.heap.size ≤ k
      rw [← hk]; exact hge
  -- in place
  have hroom : n + 1 ≤ c := by have := of_decide_eq_false (k2.trans v2); omega
  refine wp_cond_false (ebool (b := b2) (by kernel_rfl) v2) (wp_skip (then_n (wp_seq (rg_lit ?_))))
  refine wmv (v := .slice (some ⟨g, 0, none⟩) n c) ?_
  refine wmv (v := .int .i64 (n : Int)) ?_
  refine wmv (v := .int .i64 1) ?_
  refine wl (sv rfl (v := .int .i64 ((n + 1 : Nat) : Int)) (r_add (k := .i64) (m := (n : Int)) (n := 1) (c := ((n + 1 : Nat) : Int)) (by kernel_rfl) (by kernel_rfl) ((IntWalk.i64_in _ (by omega)).trans (by omega))) ?_)
  refine wl (sv rfl (v := .slice (some ⟨g, 0, none⟩) (n + 1) c) (r_sliceHi (b := g) (o := 0) (n := n) (c := c) (k := n + 1) (by kernel_rfl) (by kernel_rfl) Ty.un64 Ty.sz73 hroom) ?_)
  refine was (v := .slice (some ⟨g, 0, none⟩) (n + 1) c) ?_
  refine wnil (then_n (wp_seq (wp_seq (rg_lit ?_))))
  refine wmv (v := .slice (some ⟨vb, 0, none⟩) 1 1) ?_
  refine wmv (v := .slice (some ⟨g, 0, none⟩) (n + 1) c) ?_
  refine wmv (v := .int .i64 (i : Int)) ?_
  refine wmv (v := .int .i64 1) ?_
  refine wl (sv rfl (v := .int .i64 ((i + 1 : Nat) : Int)) (r_add (k := .i64) (m := (i : Int)) (n := 1) (c := ((i + 1 : Nat) : Int)) (by kernel_rfl) (by kernel_rfl) ((IntWalk.i64_in _ (by omega)).trans (by omega))) ?_)
  refine wl (sv rfl (v := .slice (some ⟨g, 0 + (i + 1) * 22, none⟩) (n + 1 - (i + 1)) (c - (i + 1))) (r_sliceLo (b := g) (o := 0) (n := n + 1) (c := c) (k := i + 1) (by kernel_rfl) (by kernel_rfl) Ty.un64 Ty.sz73 (by omega) (by omega)) ?_)
  refine wl (sv rfl (v := .bool false) (r_callx (all := [.slice (some ⟨vb, 0, none⟩) 1 1, .slice (some ⟨g, 0 + (i + 1) * 22, none⟩) (n + 1 - (i + 1)) (c - (i + 1))]) (over_no hvg hv hg (by omega)) (by kernel_rfl) (by kernel_rfl)) ?_)
  refine wl (sv rfl (v := .bool true) (r_not (b := false) (by kernel_rfl)) ?_)
  have hXl : (spC x dv).length = 22 := rfl
  refine wnil (then_n (wp_cond_true (by kernel_rfl) (wp_seq (rg_tail 8 (by kernel_rfl) (by kernel_rfl) rfl rfl ?_))))
  refine qmv (v := .slice (some ⟨g, 0, none⟩) (n + 1) c) ?_
  refine qmv (v := .int .i64 (i : Int)) ?_
  refine qmv (v := .int .i64 1) ?_
  refine qv rfl (v := .int .i64 ((i + 1 : Nat) : Int)) (fun _ _ => r_add (k := .i64) (m := (i : Int)) (n := 1) (c := ((i + 1 : Nat) : Int)) (by kernel_rfl) (by kernel_rfl) ((IntWalk.i64_in _ (by omega)).trans (by omega))) ?_
  refine qv rfl (v := .slice (some ⟨g, FA.length + (spC x dv).length, none⟩) (n + 1 - (i + 1)) (c - (i + 1))) (fun _ _ => by rw [show FA.length + (spC x dv).length = 0 + (i + 1) * 22 by omega]; exact r_sliceLo (b := g) (o := 0) (n := n + 1) (c := c) (k := i + 1) (by kernel_rfl) (by kernel_rfl) Ty.un64 Ty.sz73 (by omega) (by omega)) ?_
  refine qmv (v := .slice (some ⟨g, 0, none⟩) (n + 1) c) ?_
  refine qmv (v := .int .i64 (i : Int)) ?_
  refine qv rfl (v := .slice (some ⟨g, i * 22, none⟩) (n + 1 - i) (c - i)) (fun _ _ => by rw [show i * 22 = 0 + i * 22 by omega]; exact r_sliceLo (b := g) (o := 0) (n := n + 1) (c := c) (k := i) (by kernel_rfl) (by kernel_rfl) Ty.un64 Ty.sz73 (by omega) (by omega)) ?_
  refine qnil ?_
  intro w3 u3
  refine wl (cpS rfl (dn := n + 1 - (i + 1)) (dc := c - (i + 1)) (sn := n + 1 - i) (sc := c - i) (b := g) (o := FA.length + (spC x dv).length) (sb := g) (so := i * 22) (m := n - i) (sz := 22) (vs := FD) (by kernel_rfl) (by kernel_rfl) Ty.un64 Ty.sz73 (show Nat.min (n + 1 - i) (n + 1 - (i + 1)) = n - i by rw [show n + 1 - (i + 1) = n - i by omega]; exact Nat.min_eq_right (by omega)) (up_ob u3 hg) (up_ob u3 hg) hFDa hFDl (fun u hu => hone u (by rw [hFD] at hu; exact List.mem_of_mem_drop hu)) (by rw [hcl]; omega) ?_)
  intro w4 h4 c4
  obtain ⟨l4, hl4⟩ : ∃ l4, l4 = cur.toList.take (FA.length + (spC x dv).length) ++ FD ++ cur.toList.drop (FA.length + (spC x dv).length + FD.length) := ⟨_, rfl⟩
  rw [← hl4] at h4
  have hl4l : l4.length = c * 22 := by rw [hl4, spl_len (by rw [hcl]; omega), hcl]
  have hv4 := chg_ob c4 hvg (up_ob u3 hv)
  refine wnil (then_n (wp_seq (rg_lit ?_)))
  refine wmv (v := .slice (some ⟨g, 0, none⟩) (n + 1) c) ?_
  refine wmv (v := .int .i64 (i : Int)) ?_
  refine wl (sv rfl (v := .slice (some ⟨g, FA.length, none⟩) (n + 1 - i) (c - i)) (by rw [show FA.length = 0 + i * 22 by omega]; exact r_sliceLo (b := g) (o := 0) (n := n + 1) (c := c) (k := i) (by kernel_rfl) (by kernel_rfl) Ty.un64 Ty.sz73 (by omega) (by omega)) ?_)
  refine wmv (v := .slice (some ⟨vb, 0, none⟩) 1 1) ?_
  refine wl (cpS rfl (dn := n + 1 - i) (dc := c - i) (sn := 1) (sc := 1) (b := g) (o := FA.length) (sb := vb) (so := 0) (m := 1) (sz := 22) (vs := spC x dv) (by kernel_rfl) (by kernel_rfl) Ty.un64 Ty.sz73 (spC_min (n := n + 1 - i) (by omega)) h4 hv4 (by rfl) rfl (fun u hu => hd.one hu) (by simp only [List.toList_toArray]; rw [hl4l]; omega) ?_)
  intro w5 h5 c5
  simp only [List.toList_toArray] at h5
  have cc : Chg w w5 g := chg_trans (chg_trans (to_chg u3 g) c4) c5
  refine wnil (then_n (wp_seq (rg_lit ?_)))
  refine wmv (v := .slice (some ⟨g, 0, none⟩) (n + 1) c) ?_
  refine was (v := .slice (some ⟨g, 0, none⟩) (n + 1) c) ?_
  refine wnil (then_n (wp_ret (then_x (by nofun) ?_)))
  refine bodyPost_ret (v := .slice (some ⟨g, 0, none⟩) (n + 1) c) (res1 rfl (rv_t (by kernel_rfl))) (by kernel_rfl) ?_
  refine ⟨some ⟨g, 0, none⟩, c, by rw [hSl], PRow.ins (hpr.mono fun x d hd => hd.chg cc hgX) (hd.chg cc hgX) hi (by rw [hSl, hl]) (by rw [hSl]; exact hroom) hcm hbg h5 ?_ ?_, cc, fun k hk => .inl hk⟩
  · rw [List.size_toArray, spl_len (by rw [hl4l]; omega), hl4l]
  · have hk := ins_cells (l := cur.toList) (A := FA) (X := spC x dv) (D := FD) hFAa (by rw [hcl]; omega)
    rw [← hl4] at hk
    rw [hSl, ← hFA, ← hFD, show (n + 1) * 22 = FA.length + (spC x dv).length + FD.length by omega]
    exact hk
end Go.Proofs.YtefhfoioeoijlaaGreat

namespace Go.Proofs.YtefhfoioeoijlaaGreat
open Go Go.RowKit Go.Sort
def loA (g k c : Nat) : Addr := if k < c then ⟨g, k * 22, none⟩ else ⟨g, 0, none⟩
section
variable {P : Program} {d : Option Tmp} {ty : TypeId} {pos : String} {af : Array Edge} {gd : Option (Nat × Bool)} {ρ : Operand → Value} {w : World}
theorem r_sliceLoG {t e : TypeId} {x lo : Operand} {g n c k : Nat} (hx : ρ x = .slice (some ⟨g, 0, none⟩) n c) (hlo : ρ lo = .int .i64 (k : Int)) (hu : P.underlying t = some (.slice e)) (hsz : ∀ w, (sizeOf e).run P w = .ok 22 w) (hk : k ≤ n) (hnc : n ≤ c) :
    (execOp ρ ⟨d, .slice t x (some lo) none none, ty, pos, af, gd⟩).run P w = .ok (.value (.slice (some (loA g k c)) (n - k) (c - k))) w := by
  by_cases hkc : k < c
  · have := r_sliceLo (P := P) (d := d) (ty := ty) (pos := pos) (af := af) (gd := gd) (w := w) hx hlo hu hsz hk hkc
    rw [this]
    unfold loA
    rw [if_pos hkc, Nat.zero_add]
  · have h1 : (0 : Int) ≤ (k : Int) ∧ (k : Int) ≤ (n : Int) := by omega
    have h2 : c = k := by omega
    have h3 : n = k := by omega
    unfold loA
    rw [if_neg hkc]
    simp [execOp, hx, hlo, Instr.sliceAt, Instr.slice, Instr.sliceBounds, Instr.sliceBound, asIntOf, run_underlying hu, hsz, h1, h2, h3, add_at]
theorem r_slice3 {t e : TypeId} {x lo hi mx : Operand} {g n c i j m : Nat} (hx : ρ x = .slice (some ⟨g, 0, none⟩) n c) (hlo : ρ lo = .int .i64 (i : Int)) (hhi : ρ hi = .int .i64 (j : Int)) (hmx : ρ mx = .int .i64 (m : Int)) (hu : P.underlying t = some (.slice e)) (hsz : ∀ w, (sizeOf e).run P w = .ok 22 w) (hij : i < j) (hjm : j ≤ m) (hmc : m ≤ c) :
    (execOp ρ ⟨d, .slice t x (some lo) (some hi) (some mx), ty, pos, af, gd⟩).run P w = .ok (.value (.slice (some ⟨g, 0 + i * 22, none⟩) (j - i) (m - i))) w := by
  have h1 : (0 : Int) ≤ (i : Int) ∧ (i : Int) ≤ (j : Int) := by omega
  have h2 : (0 : Int) ≤ (j : Int) ∧ (j : Int) ≤ (m : Int) := by omega
  have h3 : (0 : Int) ≤ (m : Int) ∧ (m : Int) ≤ (c : Int) := by omega
  have h4 : ¬ m = i := by omega
  simp [execOp, hx, hlo, hhi, hmx, Instr.sliceAt, Instr.slice, Instr.sliceBounds, Instr.sliceBound, asIntOf, run_underlying hu, hsz, h1, h2, h3, h4, add_at, hmc, hjm, Nat.le_of_lt hij]
theorem r_slice2 {t e : TypeId} {x lo hi : Operand} {g n c i j : Nat} (hx : ρ x = .slice (some ⟨g, 0, none⟩) n c) (hlo : ρ lo = .int .i64 (i : Int)) (hhi : ρ hi = .int .i64 (j : Int)) (hu : P.underlying t = some (.slice e)) (hsz : ∀ w, (sizeOf e).run P w = .ok 22 w) (hij : i < j) (hjc : j ≤ c) :
    (execOp ρ ⟨d, .slice t x (some lo) (some hi) none, ty, pos, af, gd⟩).run P w = .ok (.value (.slice (some ⟨g, i * 22, none⟩) (j - i) (c - i))) w := by
  have h1 : (0 : Int) ≤ (i : Int) ∧ (i : Int) ≤ (j : Int) := by omega
  have h2 : (0 : Int) ≤ (j : Int) ∧ (j : Int) ≤ (c : Int) := by omega
  have h4 : ¬ c = i := by omega
  simp [execOp, hx, hlo, hhi, Instr.sliceAt, Instr.slice, Instr.sliceBounds, Instr.sliceBound, asIntOf, run_underlying hu, hsz, h1, h2, h4, add_at, hjc, Nat.le_of_lt hij]
end
theorem zero_step : ∃ z, (∀ w, (zeroValue 73).run Tryz.prog w = .ok z w) ∧ z.cells.size = 22 ∧ ∀ v ∈ z.cells.toList, v.oneCell' = true := by
  refine ⟨_, Ty.zv73, rfl, ?_⟩
  intro v hv
  simp [Value.cells] at hv
  rcases hv with rfl | rfl | rfl | rfl | rfl | rfl | rfl | rfl | rfl | rfl | rfl | rfl | rfl | rfl | rfl | rfl | rfl | rfl | rfl | rfl | rfl | rfl <;> rfl
/-- One step's cells are cleared. -/
theorem clr1 {ops : Array Oper} {Q : Exit → Act → World → Prop} {a : Act} {w : World} {J : Act → World → Prop} {d : Option Tmp} {ty : TypeId} {pos : String} {af : Array Edge} {gd : Option (Nat × Bool)} {x : Operand} {g m cc : Nat} {cur : Array Value}
    (hw : Region.wanted (⟨d, .call { callee := .builtin .clear, args := #[x], argTypes := #[64] }, ty, pos, af, gd⟩ : Oper) (yielded ops a.tmps) = true) (hx : a.eval x = .slice (some ⟨g, m, none⟩) 1 cc) (hg : w.heap[g]? = some (.cells cur 73 (0, 0))) (hm : m + 22 ≤ cur.toList.length)
    (kk : ∀ w' cs, w'.heap[g]? = some (.cells cs 73 (0, 0)) → cs.size = cur.size → cs.toList.take m = cur.toList.take m → Chg w w' g → J (a.put d (.tuple #[])) w') : St1 Tryz.prog ops Q ⟨d, .call { callee := .builtin .clear, args := #[x], argTypes := #[64] }, ty, pos, af, gd⟩ J a w := by
  obtain ⟨z, hz, hzs, hz1⟩ := zero_step
  have hlz : (Builtin.zeroCells z.cells 1).toList.length = 22 := by simp [Builtin.zeroCells, hzs]
  have h1 : ∀ v ∈ (Builtin.zeroCells z.cells 1).toList, v.oneCell' = true := by
    intro v hv
    simp only [Builtin.zeroCells, Array.toList_map, Array.toList_range, List.mem_map, List.mem_range] at hv
    obtain ⟨j, _, rfl⟩ := hv
    have hj : j % z.cells.size < z.cells.size := Nat.mod_lt _ (by omega)
    rw [getElem!_pos z.cells _ hj]
    exact hz1 _ (by simp)
  have hst := run_storeCells_at Tryz.prog g m 73 (Builtin.zeroCells z.cells 1).toList 0 cur w hg (by rw [hlz]; simpa using hm) h1
  rw [Nat.add_zero] at hst
  have hl : (cur.toList.take m ++ (Builtin.zeroCells z.cells 1).toList ++ cur.toList.drop (m + (Builtin.zeroCells z.cells 1).toList.length)).length = cur.toList.length := spl_len (by rw [hlz]; exact hm)
  refine sv hw ?_ (kk _ _ (setRow_heap w g cur (cur.toList.take m ++ (Builtin.zeroCells z.cells 1).toList ++ cur.toList.drop (m + (Builtin.zeroCells z.cells 1).toList.length)).toArray 73 (0, 0) hg) ?_ ?_ ⟨rfl, rfl, rfl, by simp, fun k _ hk => setRow_other w g k _ (fun e => hk (by rw [e]))⟩)
  · simp [execOp, resolve, invoke, builtin, hx, Builtin.clear_, run_underlying Ty.un64, hz, hst]
  · simpa using hl
  · simp only [List.toList_toArray]
    rw [List.append_assoc, List.take_append_of_le_length (by rw [List.length_take]; omega), List.take_take, Nat.min_self]
set_option maxHeartbeats 4000000 in
theorem delete_at {B base : Nat} {w : World} {A : Option Addr} {n c i : Nat} {S : List StepD} (hp : PRow 73 B base w (.slice A n c) S) (hi : i < S.length) (hlen : S.length ≤ 100000) (hBb : B ≤ base) :
    Calls Tryz.prog 41 #[.slice A n c, .int .i64 (i : Int), .int .i64 ((i + 1 : Nat) : Int)] w fun e w' => e = .returned (.slice A (n - 1) c) ∧ PRow 73 B base w' (.slice A (n - 1) c) (S.take i ++ S.drop (i + 1)) ∧ w.grownBy w' (Value.ownBlock (.slice A n c)) := by
  obtain ⟨hl, hnc, hcm, hA⟩ := PRow.addr hp
  obtain ⟨iP, zP, hiP, hzP, hsP, hbP, hcP⟩ := info_step
  obtain ⟨g, cur, rfl, hbg, hg, hcs⟩ : ∃ g cur, A = some ⟨g, 0, none⟩ ∧ base ≤ g ∧ w.heap[g]? = some (.cells cur 73 (0, 0)) ∧ cur.size = c * 22 := by
    rcases hA with ⟨_, h0⟩ | h
    · omega
    · exact h
  obtain ⟨_, _, _, _, cur', ds, hg', _, hpr, htk⟩ := PRow.blk hp
  rw [hg] at hg'
  simp only [Option.some.injEq, Obj.cells.injEq, and_true] at hg'
  subst hg'
  have hfl := flatP_length hpr.length
  have hcl : cur.toList.length = c * 22 := by simpa using hcs
  have hone : ∀ u ∈ flatP S ds, u.oneCell' = true := flatP_one hpr
  have hgX : B ≤ g ∧ NotU8 w g := ⟨by omega, NotU8.of hg (by decide)⟩
  obtain ⟨FA, hFA⟩ : ∃ FA, FA = (flatP S ds).take (i * 22) := ⟨_, rfl⟩
  obtain ⟨FD, hFD⟩ : ∃ FD, FD = (flatP S ds).drop ((i + 1) * 22) := ⟨_, rfl⟩
  have hFAl : FA.length = i * 22 := by rw [hFA, List.length_take]; omega
  have hFDl : FD.length = (n - (i + 1)) * 22 := by rw [hFD, List.length_drop]; omega
  have hFDa : (cur.toList.drop ((i + 1) * 22)).take FD.length = FD := by
    rw [List.take_drop, hFDl, show (i + 1) * 22 + (n - (i + 1)) * 22 = n * 22 by omega, htk, hFD]
  have hFAa : cur.toList.take (i * 22) = FA := by
    rw [hFA, ← htk, List.take_take, Nat.min_eq_left (by omega)]
  have hown : w.ownsRow base 73 22 (.slice (some ⟨g, 0, none⟩) i c) i FA := ⟨hFAl, .inr ⟨g, c, cur, rfl, hbg, hg, by omega, hcm, hcs, hFAa⟩⟩
  go_enter Tryz.func41, Tryz.ntmps41
  refine wp_seq (rg_lit ?_)
  refine was (v := .slice none 0 0) ?_
  refine wnil (then_n (wp_seq (rg_lit ?_)))
  refine wmv (v := .slice (some ⟨g, 0, none⟩) n c) ?_
  refine wmv (v := .int .i64 (i : Int)) ?_
  refine wmv (v := .int .i64 ((i + 1 : Nat) : Int)) ?_
  refine wmv (v := .slice (some ⟨g, 0, none⟩) n c) ?_
  refine wl (sv rfl (v := .int .i64 (n : Int)) (r_len Ty.un64 (ad := some ⟨g, 0, none⟩) (n := n) (c := c) (by kernel_rfl)) ?_)
  refine wl (sv rfl (v := .slice (some ⟨g, 0 + i * 22, none⟩) (i + 1 - i) (n - i)) (r_slice3 (g := g) (n := n) (c := c) (i := i) (j := i + 1) (m := n) (by kernel_rfl) (by kernel_rfl) (by kernel_rfl) (by kernel_rfl) Ty.un64 Ty.sz73 (by omega) (by omega) (by omega)) ?_)
  refine wnil (then_n (wp_seq (wp_seq (rg_lit ?_))))
  refine wmv (v := .int .i64 (i : Int)) ?_
  refine wmv (v := .int .i64 ((i + 1 : Nat) : Int)) ?_
  refine wl (sb rfl (r_eq (k := .i64) (m := (i : Int)) (n := ((i + 1 : Nat) : Int)) (by kernel_rfl) (by kernel_rfl)) ?_)
  intro b1 k1
  have v1 : b1 = false := by rw [← k1]; exact decide_eq_false (by omega)
  refine wnil (then_n (wp_cond_false (ebool (b := b1) (by kernel_rfl) v1) (wp_skip (then_n (wp_seq (rg_lit ?_))))))
  refine wmv (v := .slice (some ⟨g, 0, none⟩) n c) ?_
  refine wl (sv rfl (v := .int .i64 (n : Int)) (r_len Ty.un64 (ad := some ⟨g, 0, none⟩) (n := n) (c := c) (by kernel_rfl)) ?_)
  refine was (v := .int .i64 (n : Int)) ?_
  refine wnil (then_n (wp_seq (rg_tail 6 (by kernel_rfl) (by kernel_rfl) rfl rfl ?_)))
  refine qmv (v := .slice (some ⟨g, 0, none⟩) n c) ?_
  refine qmv (v := .int .i64 (i : Int)) ?_
  refine qv rfl (v := .slice (some ⟨g, 0, none⟩) i c) (fun _ _ => r_sliceHi (b := g) (o := 0) (n := n) (c := c) (k := i) (by kernel_rfl) (by kernel_rfl) Ty.un64 Ty.sz73 (by omega)) ?_
  refine qmv (v := .slice (some ⟨g, 0, none⟩) n c) ?_
  refine qmv (v := .int .i64 ((i + 1 : Nat) : Int)) ?_
  refine qv rfl (v := .slice (some (loA g (i + 1) c)) (n - (i + 1)) (c - (i + 1))) (fun _ _ => r_sliceLoG (g := g) (n := n) (c := c) (k := i + 1) (by kernel_rfl) (by kernel_rfl) Ty.un64 Ty.sz73 (by omega) hnc) ?_
  refine qnil ?_
  intro w1 u1
  have hg1 := up_ob u1 hg
  have hown1 : w1.ownsRow base 73 22 (.slice (some ⟨g, 0, none⟩) i c) i FA := ⟨hFAl, .inr ⟨g, c, cur, rfl, hbg, hg1, by omega, hcm, hcs, hFAa⟩⟩
  obtain ⟨w2, h2, h3, h4⟩ := run_append_fits (P := Tryz.prog) w1 base 64 64 73 iP 22 Ty.un64 hiP hsP g i c FA hown1 (loA g (i + 1) c) (n - (i + 1)) (c - (i + 1)) FD hFDl (fun j u hj => by
    have hj' := (List.getElem?_eq_some_iff.1 hj).1
    have hlo : loA g (i + 1) c = ⟨g, (i + 1) * 22, none⟩ := by unfold loA; rw [if_pos (by omega)]
    rw [hlo]
    exact cells_take hg1 hFDa j u hj) (fun u hu => hone u (by rw [hFD] at hu; exact List.mem_of_mem_drop hu)) (by omega)
  rw [show i + (n - (i + 1)) = n - 1 by omega] at h2 h3
  refine wl (sv rfl (v := .slice (some ⟨g, 0, none⟩) (n - 1) c) (w' := w2) (by simp [execOp, resolve, invoke, builtin, Act.eval, Act.put, h2]) ?_)
  refine was (v := .slice (some ⟨g, 0, none⟩) (n - 1) c) ?_
  obtain ⟨_, ⟨e0, _⟩ | ⟨g2, cap2, cur2, e0, _, hg2, _, _, hcs2, htk2⟩⟩ := h3
  · cases e0
  simp only [Value.slice.injEq, Option.some.injEq, Addr.mk.injEq, and_true, true_and] at e0
  obtain ⟨rfl, rfl⟩ := e0
  refine wnil (then_n (wp_seq (rg_lit ?_)))
  refine wmv (v := .slice (some ⟨g, 0, none⟩) (n - 1) c) ?_
  refine wmv (v := .slice (some ⟨g, 0, none⟩) (n - 1) c) ?_
  refine wl (sv rfl (v := .int .i64 ((n - 1 : Nat) : Int)) (r_len Ty.un64 (ad := some ⟨g, 0, none⟩) (n := n - 1) (c := c) (by kernel_rfl)) ?_)
  refine wmv (v := .int .i64 (n : Int)) ?_
  refine wl (sv rfl (v := .slice (some ⟨g, (n - 1) * 22, none⟩) (n - (n - 1)) (c - (n - 1))) (r_slice2 (g := g) (n := n - 1) (c := c) (i := n - 1) (j := n) (by kernel_rfl) (by kernel_rfl) (by kernel_rfl) Ty.un64 Ty.sz73 (by omega) (by omega)) ?_)
  rw [show n - (n - 1) = 1 by omega]
  refine wl (clr1 rfl (g := g) (m := (n - 1) * 22) (cc := c - (n - 1)) (cur := cur2) (by kernel_rfl) hg2 (by simp [hcs2]; omega) ?_)
  intro w3 cs3 hg3 hs3 ht3 c3
  have cc : Chg w w3 g := chg_trans (chg_trans (to_chg u1 g) h4) c3
  refine wnil (then_n (wp_seq (rg_lit ?_)))
  refine wmv (v := .slice (some ⟨g, 0, none⟩) (n - 1) c) ?_
  refine was (v := .slice (some ⟨g, 0, none⟩) (n - 1) c) ?_
  refine wnil (then_n (wp_ret ?_))
  refine bodyPost_ret (v := .slice (some ⟨g, 0, none⟩) (n - 1) c) (res1 rfl (rv_t (by kernel_rfl))) (by kernel_rfl) ?_
  refine ⟨rfl, PRow.del (hpr.mono fun x d hd => hd.chg cc hgX) hi (by omega) (by omega) hcm hbg hg3 (by rw [hs3]; exact hcs2) ?_, cc⟩
  rw [ht3, htk2, ← hFA, ← hFD]
end Go.Proofs.YtefhfoioeoijlaaGreat

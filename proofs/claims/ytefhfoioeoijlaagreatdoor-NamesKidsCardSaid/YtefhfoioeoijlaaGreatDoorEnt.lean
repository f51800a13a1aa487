/- Rows of a directory's entries (five cells each: name, node, dir, size), as XOrd's rows of operations. -/
import Derived.Test.YtefhfoioeoijlaaGreatDoorOrd
import Derived.Test.YtefhfoioeoijlaaGreatDoorCode
set_option linter.unusedVariables false
set_option linter.unusedSimpArgs false
namespace Go.Proofs.YtefhfoioeoijlaaGreatDoor
open Go Go.RowKit Go.Sort
structure EntD where
  name : ByteArray
  node : Stamp
  dir : Bool
  size : Int
def enC (e : EntD) : List Value := [.string e.name, .int .i64 e.node.t, .int .i64 e.node.w, .bool e.dir, .int .i64 e.size]
def enV (e : EntD) : Value := .agg #[.string e.name, .int .i64 e.node.t, .int .i64 e.node.w, .bool e.dir, .int .i64 e.size]
/-- An entry's key, as an operation's: the sort's plain laws speak of these. -/
def keyE (n : Nat) (e : EntD) : OpD := ⟨0, ⟨(codeN n e.name.data.toList : Int), 0⟩, ⟨0, 0⟩, ⟨0, 0⟩, false, ⟨#[]⟩, []⟩
def flatE (L : List EntD) : List Value := L.flatMap enC
theorem flatE_cons (x : EntD) (L : List EntD) : flatE (x :: L) = enC x ++ flatE L := rfl
theorem flatE_snoc (x : EntD) (L : List EntD) : flatE (L ++ [x]) = flatE L ++ enC x := by simp [flatE]
theorem flatE_length : ∀ (L : List EntD), (flatE L).length = L.length * 5
  | [] => rfl
  | y :: L => by rw [flatE_cons, List.length_append, flatE_length L]; simp [enC]; omega
theorem flatE_get : ∀ {L : List EntD} {i k : Nat} {x : EntD}, L[i]? = some x → k < 5 → (flatE L)[i * 5 + k]? = (enC x)[k]?
  | y :: L, 0, k, x, h1, hk => by
    simp at h1; subst h1
    rw [flatE_cons, Nat.zero_mul, Nat.zero_add, List.getElem?_append_left (by simpa [enC] using hk)]
  | y :: L, i + 1, k, x, h1, hk => by
    rw [flatE_cons, List.getElem?_append_right (by simp [enC]; omega), show (i + 1) * 5 + k - (enC y).length = i * 5 + k by simp [enC]; omega]
    exact flatE_get (by simpa using h1) hk
theorem flatE_set : ∀ {L : List EntD} {i : Nat} (x : EntD), i < L.length → flatE (L.set i x) = (flatE L).take (i * 5) ++ enC x ++ (flatE L).drop (i * 5 + 5)
  | [], _, _, h => by simp at h
  | y :: L, 0, x, _ => by simp [flatE_cons, enC]
  | y :: L, i + 1, x, hi => by
    have ih := flatE_set (L := L) (i := i) x (by simpa using hi)
    simp only [List.set_cons_succ, flatE_cons, ih]
    rw [show (i + 1) * 5 = (enC y).length + i * 5 by simp [enC]; omega, List.take_length_add_append, show (enC y).length + i * 5 + 5 = (enC y).length + (i * 5 + 5) by omega, List.drop_length_add_append]
    simp [List.append_assoc]
def ERow (T : TypeId) (B base : Nat) (w : World) (v : Value) (L : List EntD) : Prop := w.ownsRow base T 5 v L.length (flatE L)
theorem ERow.nil (T : TypeId) (B base : Nat) (w : World) : ERow T B base w (.slice none 0 0) [] := World.ownsRow_nil w base _ 5
theorem ERow.keep {T : TypeId} {B base : Nat} {w w' : World} {v : Value} {L : List EntD} (h : ERow T B base w v L) {q : Option Nat} (hg : w.grownBy w' q) (hv : v.ownBlock = none ∨ v.ownBlock ≠ q) : ERow T B base w' v L := World.ownsRow.kept h hg hv
theorem ERow.up {T : TypeId} {B base : Nat} {w w' : World} {v : Value} {L : List EntD} (h : ERow T B base w v L) (hb : Up w w') : ERow T B base w' v L :=
  h.keep (q := none) ⟨hb.os, hb.tape, hb.output, hb.size, fun k hk _ => hb.block k hk⟩ (by cases hv : v.ownBlock <;> simp)
theorem ERow.form {T : TypeId} {B base : Nat} {w : World} {v : Value} {L : List EntD} (h : ERow T B base w v L) : ∃ A c, v = .slice A L.length c := by
  obtain ⟨_, ⟨rfl, h0⟩ | ⟨g, cap, cur, rfl, _⟩⟩ := h
  · exact ⟨none, 0, by rw [h0]⟩
  · exact ⟨_, cap, rfl⟩
theorem ERow.own {T : TypeId} {B base : Nat} {w : World} {v : Value} {L : List EntD} (h : ERow T B base w v L) : ∀ k, v.ownBlock = some k → base ≤ k ∧ k < w.heap.size := World.ownsRow.lt h
theorem ERow.ge {T : TypeId} {B base : Nat} {w : World} {g n c : Nat} {L : List EntD} (h : ERow T B base w (.slice (some ⟨g, 0, none⟩) n c) L) (hB : B ≤ base) : B ≤ g := by
  have := (h.own g rfl).1; omega
theorem ERow.to {T : TypeId} {B base : Nat} {w : World} {v : Value} {L L' : List EntD} (h : ERow T B base w v L) (e : L = L') : ERow T B base w v L' := e ▸ h
theorem ERow.blk {T : TypeId} {B base : Nat} {w : World} {g n c : Nat} {L : List EntD} (h : ERow T B base w (.slice (some ⟨g, 0, none⟩) n c) L) : n = L.length ∧ n ≤ c ∧ c ≤ maxLen ∧ ∃ cur : Array Value, w.heap[g]? = some (.cells cur T (0, 0)) ∧ cur.size = c * 5 := by
  obtain ⟨h1, ⟨e, _⟩ | ⟨g', cap, cur, e, hb, hg, hc, hm, hcs, htk⟩⟩ := h
  · cases e
  · simp only [Value.slice.injEq, Option.some.injEq, Addr.mk.injEq, and_true, true_and] at e
    obtain ⟨rfl, rfl, rfl⟩ := e
    exact ⟨rfl, hc, hm, cur, hg, hcs⟩
theorem ERow.elem {T : TypeId} {B base : Nat} {w : World} {g n c : Nat} {L : List EntD} (h : ERow T B base w (.slice (some ⟨g, 0, none⟩) n c) L) {i : Nat} {x : EntD} (hi : L[i]? = some x) :
    ∃ cur, w.heap[g]? = some (.cells cur T (0, 0)) ∧ (cur.toList.drop (i * 5)).take 5 = enC x := by
  have hil := (List.getElem?_eq_some_iff.1 hi).1
  obtain ⟨h1, ⟨e, _⟩ | ⟨g', cap, cur, e, hb, hg, hc, hm, hcs, htk⟩⟩ := h
  · cases e
  · simp only [Value.slice.injEq, Option.some.injEq, Addr.mk.injEq, and_true, true_and] at e
    obtain ⟨rfl, rfl, rfl⟩ := e
    refine ⟨cur, hg, ?_⟩
    have hl := flatE_length L
    apply List.ext_getElem?
    intro j
    by_cases hj : j < 5
    · rw [List.getElem?_take, if_pos hj, List.getElem?_drop, ← flatE_get hi hj, ← htk, List.getElem?_take, if_pos (by omega)]
    · rw [List.getElem?_eq_none (by simp; omega), List.getElem?_eq_none (by simp [enC]; omega)]
theorem ERow.put {T : TypeId} {B base : Nat} {w : World} {g n c : Nat} {L : List EntD} (h : ERow T B base w (.slice (some ⟨g, 0, none⟩) n c) L) {i : Nat} (hi : i < L.length) {x : EntD} :
    ∃ cur : Array Value, w.heap[g]? = some (.cells cur T (0, 0)) ∧ i * 5 + 5 ≤ cur.toList.length ∧ ∀ w', w'.heap[g]? = some (.cells (cur.toList.take (i * 5) ++ enC x ++ cur.toList.drop (i * 5 + 5)).toArray T (0, 0)) → Chg w w' g → ERow T B base w' (.slice (some ⟨g, 0, none⟩) n c) (L.set i x) := by
  obtain ⟨h1, ⟨e, _⟩ | ⟨g', cap', cur, h', hb, hg, hnc, hcm, hcs, htake⟩⟩ := h
  · cases e
  · simp only [Value.slice.injEq, Option.some.injEq, Addr.mk.injEq, and_true, true_and] at h'
    obtain ⟨rfl, rfl, rfl⟩ := h'
    have hl5 : L.length * 5 ≤ cur.toList.length := by have := Nat.mul_le_mul_right 5 hnc; rw [← Array.length_toList] at hcs; omega
    refine ⟨cur, hg, by omega, fun w' hw' hc => ⟨?_, .inr ⟨g, c, _, by rw [List.length_set], hb, hw', by simpa using hnc, hcm, ?_, ?_⟩⟩⟩
    · rw [flatE_length]
    · rw [← hcs]; simp [enC]; rw [Array.length_toList] at hl5; omega
    · rw [flatE_set x hi, List.length_set]
      have hs := take_splice (l := cur.toList) (v := enC x) (k := i * 5) (m := L.length * 5) (by simp [enC]; omega) hl5
      rw [show (enC x).length = 5 from rfl] at hs
      rw [htake] at hs
      simpa using hs
abbrev ky (n : Nat) (f : Nat → EntD) : Nat → OpD := fun i => keyE n (f i)
theorem map_sete {f : Nat → EntD} {I : List Nat} {i x : Nat} : (I.map f).set i (f x) = (I.set i x).map f := by simp
theorem map_gete {f : Nat → EntD} {I : List Nat} {i x : Nat} (h : I[i]? = some x) : (I.map f)[i]? = some (f x) := by rw [List.getElem?_map, h]; rfl
/-- What cmp.Compare says of two names is what the keys' order says. -/
theorem cmp_code {n : Nat} {x y : EntD} (hx : x.name.data.toList.length ≤ n) (hy : y.name.data.toList.length ≤ n) :
    (if Op.bytesLess x.name.toList y.name.toList = true then (-1 : Int) else if Op.bytesLess y.name.toList x.name.toList = true then 1 else 0) = cmpS (keyE n x).at_ (keyE n y).at_ := by
  rw [Lib.toList_data, Lib.toList_data]
  have h1 := code_less n _ _ hx hy
  have h2 := code_less n _ _ hy hx
  show _ = orI (cmpI (codeN n x.name.data.toList : Int) (codeN n y.name.data.toList : Int)) (cmpI 0 0)
  generalize codeN n x.name.data.toList = u at h1 h2 ⊢
  generalize codeN n y.name.data.toList = v at h1 h2 ⊢
  by_cases k1 : u < v
  · rw [if_pos (h1.2 k1)]
    have e : (u : Int) < (v : Int) := by omega
    simp [orI, cmpI, e]
  · rw [if_neg (fun h => k1 (h1.1 h))]
    have e : ¬ (u : Int) < (v : Int) := by omega
    by_cases k2 : v < u
    · rw [if_pos (h2.2 k2)]
      have e2 : (v : Int) < (u : Int) := by omega
      simp [orI, cmpI, e, e2]
    · rw [if_neg (fun h => k2 (h2.1 h))]
      have e2 : ¬ (v : Int) < (u : Int) := by omega
      simp [orI, cmpI, e, e2]
theorem bytes_gt (a b : List UInt8) : (!Op.bytesLess a b && !a == b) = Op.bytesLess b a := by
  have ha : a.length ≤ max a.length b.length := Nat.le_max_left _ _
  have hb : b.length ≤ max a.length b.length := Nat.le_max_right _ _
  have h1 := code_less _ a b ha hb
  have h2 := code_less _ b a hb ha
  have h3 := fun h => code_inj (x := a) (y := b) ha hb h
  rw [Bool.eq_iff_iff]
  simp only [Bool.and_eq_true, Bool.not_eq_true', beq_eq_false_iff_ne, ne_eq, ← Bool.not_eq_true, h1, h2, beq_iff_eq]
  constructor
  · rintro ⟨k1, k2⟩
    rcases Nat.lt_trichotomy (codeN (max a.length b.length) a) (codeN (max a.length b.length) b) with h | h | h
    · exact absurd h k1
    · exact absurd (h3 h) k2
    · exact h
  · intro k
    refine ⟨by omega, fun e => ?_⟩
    rw [e] at k; exact Nat.lt_irrefl _ k
section
variable {ρ : Operand → Value} {P : Program} {w : World} {d : Option Tmp} {ty : TypeId} {pos : String} {af : Array Edge} {g : Option (Nat × Bool)}
theorem r_lts {t yt : TypeId} {x y : Operand} {m n : ByteArray} (hx : ρ x = .string m) (hy : ρ y = .string n) : (execOp ρ ⟨d, .binOp .lss t x y yt, ty, pos, af, g⟩).run P w = .ok (.value (.bool (Op.bytesLess m.toList n.toList))) w := by
  simp [execOp, hx, hy, eqGuard, binOp, Op.stringOp]
theorem r_gts {t yt : TypeId} {x y : Operand} {m n : ByteArray} (hx : ρ x = .string m) (hy : ρ y = .string n) : (execOp ρ ⟨d, .binOp .gtr t x y yt, ty, pos, af, g⟩).run P w = .ok (.value (.bool (Op.bytesLess n.toList m.toList))) w := by
  rw [← bytes_gt]; simp [execOp, hx, hy, eqGuard, binOp, Op.stringOp]
theorem r_adds {t yt : TypeId} {x y : Operand} {m n : ByteArray} (hx : ρ x = .string m) (hy : ρ y = .string n) (h : m.size + n.size ≤ 9223372036854775807) : (execOp ρ ⟨d, .binOp .add t x y yt, ty, pos, af, g⟩).run P w = .ok (.value (.string (m ++ n))) w := by
  simp [execOp, hx, hy, eqGuard, binOp, Op.stringOp]; omega
theorem nes_same {o : Oper} {m : ByteArray} (h : (execOp ρ o).run P w = .ok (.value (.bool (decide (m ≠ m)))) w) : (execOp ρ o).run P w = .ok (.value (.bool false)) w := by rw [h]; simp
end
end Go.Proofs.YtefhfoioeoijlaaGreatDoor

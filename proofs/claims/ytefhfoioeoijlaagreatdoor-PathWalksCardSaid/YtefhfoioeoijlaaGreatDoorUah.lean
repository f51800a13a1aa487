/- Code, Ent, Short, Ent2 -/
import Derived.Test.YtefhfoioeoijlaaGreatDoorUae
import Derived.Test.YtefhfoioeoijlaaGreatDoorUag
set_option linter.unusedVariables false
namespace Go.Proofs.YtefhfoioeoijlaaGreatDoor
open Go Go.RowKit Go.Sort
def codeN : Nat → List UInt8 → Nat
  | 0, _ => 0
  | _ + 1, [] => 0
  | n + 1, b :: l => (b.toNat + 1) * 257 ^ n + codeN n l
theorem codeN_lt : ∀ (n : Nat) (l : List UInt8), codeN n l < 257 ^ n
  | 0, _ => by simp [codeN]
  | n + 1, [] => by simp only [codeN]; exact Nat.pow_pos (by decide)
  | n + 1, b :: l => by
    have h := codeN_lt n l
    have hb := b.toNat_lt
    simp only [codeN, Nat.pow_succ]
    generalize 257 ^ n = P at h ⊢
    have h1 : (b.toNat + 1) * P ≤ 256 * P := Nat.mul_le_mul_right P (by omega)
    omega
theorem code_less : ∀ (n : Nat) (x y : List UInt8), x.length ≤ n → y.length ≤ n → (Op.bytesLess x y = true ↔ codeN n x < codeN n y)
  | 0, x, y, hx, hy => by
    have h1 : x = [] := List.length_eq_zero_iff.1 (by omega)
    have h2 : y = [] := List.length_eq_zero_iff.1 (by omega)
    subst h1 h2; simp [Op.bytesLess, codeN]
  | n + 1, [], [], _, _ => by simp [Op.bytesLess, codeN]
  | n + 1, [], c :: y, _, _ => by
    have hp : 0 < 257 ^ n := Nat.pow_pos (by decide)
    have h1 : 1 * 257 ^ n ≤ (c.toNat + 1) * 257 ^ n := Nat.mul_le_mul_right _ (by omega)
    simp only [Op.bytesLess, codeN, true_iff]
    omega
  | n + 1, b :: x, [], _, _ => by simp [Op.bytesLess, codeN]
  | n + 1, b :: x, c :: y, hx, hy => by
    have ih := code_less n x y (by simpa using hx) (by simpa using hy)
    have lx := codeN_lt n x
    have ly := codeN_lt n y
    have hl : b < c ↔ b.toNat < c.toNat := UInt8.lt_iff_toNat_lt
    have he : b = c ↔ b.toNat = c.toNat := ⟨fun e => by rw [e], UInt8.toNat_inj.1⟩
    simp only [codeN, Op.bytesLess, Bool.or_eq_true, Bool.and_eq_true, decide_eq_true_eq, beq_iff_eq, hl, he, ih]
    generalize codeN n x = u at lx ⊢
    generalize codeN n y = v at ly ⊢
    generalize 257 ^ n = P at lx ly ⊢
    generalize b.toNat = i
    generalize c.toNat = j
    rcases Nat.lt_trichotomy i j with h | h | h
    · have h1 : (i + 1 + 1) * P ≤ (j + 1) * P := Nat.mul_le_mul_right P (by omega)
      rw [Nat.add_mul] at h1
      constructor
      · intro _; omega
      · intro _; exact .inl h
    · subst h; simp
    · have h1 : (j + 1 + 1) * P ≤ (i + 1) * P := Nat.mul_le_mul_right P (by omega)
      rw [Nat.add_mul] at h1
      constructor
      · rintro (h2 | ⟨h2, _⟩) <;> omega
      · intro h2; omega
theorem code_inj {n : Nat} : ∀ {x y : List UInt8}, x.length ≤ n → y.length ≤ n → codeN n x = codeN n y → x = y := by
  induction n with
  | zero => intro x y hx hy _; rw [List.length_eq_zero_iff.1 (by omega : x.length = 0), List.length_eq_zero_iff.1 (by omega : y.length = 0)]
  | succ n ih =>
    intro x y hx hy h
    have hp : 0 < 257 ^ n := Nat.pow_pos (by decide)
    cases x with
    | nil => cases y with
      | nil => rfl
      | cons c y =>
        have h1 : 1 * 257 ^ n ≤ (c.toNat + 1) * 257 ^ n := Nat.mul_le_mul_right _ (by omega)
        simp only [codeN] at h; omega
    | cons b x => cases y with
      | nil =>
        have h1 : 1 * 257 ^ n ≤ (b.toNat + 1) * 257 ^ n := Nat.mul_le_mul_right _ (by omega)
        simp only [codeN] at h; omega
      | cons c y =>
        have lx := codeN_lt n x
        have ly := codeN_lt n y
        simp only [codeN] at h
        have key : b.toNat = c.toNat := by
          rcases Nat.lt_trichotomy b.toNat c.toNat with g | g | g
          · have h1 : (b.toNat + 1 + 1) * 257 ^ n ≤ (c.toNat + 1) * 257 ^ n := Nat.mul_le_mul_right _ (by omega)
            rw [Nat.add_mul] at h1; omega
          · exact g
          · have h1 : (c.toNat + 1 + 1) * 257 ^ n ≤ (b.toNat + 1) * 257 ^ n := Nat.mul_le_mul_right _ (by omega)
            rw [Nat.add_mul] at h1; omega
        rw [key] at h
        have e1 : b = c := UInt8.toNat_inj.1 key
        have e2 : x = y := ih (by simpa using hx) (by simpa using hy) (by omega)
        rw [e1, e2]
end Go.Proofs.YtefhfoioeoijlaaGreatDoor
set_option linter.unusedVariables false
set_option linter.unusedSimpArgs false
namespace Go.Proofs.YtefhfoioeoijlaaGreatDoor
open Go Go.RowKit Go.Sort
structure EntD where
  name : ByteArray
  node : Stamp
  dir : Bool
  size : Int
def enC (e : EntD) : List Value := [.string e.name, .int .i64 e.node.t, .int .i64 e.node.w, .bool e.dir, .int .i64 e.size]
def enV (e : EntD) : Value := .agg #[.string e.name, .int .i64 e.node.t, .int .i64 e.node.w, .bool e.dir, .int .i64 e.size]
def keyE (n : Nat) (e : EntD) : OpD := ⟨0, ⟨(codeN n e.name.data.toList : Int), 0⟩, ⟨0, 0⟩, ⟨0, 0⟩, false, ⟨#[]⟩, []⟩
def flatE (L : List EntD) : List Value := L.flatMap enC
theorem flatE_cons (x : EntD) (L : List EntD) : flatE (x :: L) = enC x ++ flatE L := rfl
theorem flatE_snoc (x : EntD) (L : List EntD) : flatE (L ++ [x]) = flatE L ++ enC x := by simp [flatE]
theorem flatE_length : ∀ (L : List EntD), (flatE L).length = L.length * 5
  | [] => rfl
  | y :: L => by rw [flatE_cons, List.length_append, flatE_length L]; simp [enC]; omega
theorem flatE_get : ∀ {L : List EntD} {i k : Nat} {x : EntD}, L[i]? = some x → k < 5 → (flatE L)[i * 5 + k]? = (enC x)[k]?
  | y :: L, 0, k, x, h1, hk => by
    simp at h1; subst h1
    rw [flatE_cons, Nat.zero_mul, Nat.zero_add, List.getElem?_append_left (by simpa [enC] using hk)]
  | y :: L, i + 1, k, x, h1, hk => by
    rw [flatE_cons, List.getElem?_append_right (by simp [enC]; omega), show (i + 1) * 5 + k - (enC y).length = i * 5 + k by simp [enC]; omega]
    exact flatE_get (by simpa using h1) hk
theorem flatE_set : ∀ {L : List EntD} {i : Nat} (x : EntD), i < L.length → flatE (L.set i x) = (flatE L).take (i * 5) ++ enC x ++ (flatE L).drop (i * 5 + 5)
  | [], _, _, h => by simp at h
  | y :: L, 0, x, _ => by simp [flatE_cons, enC]
  | y :: L, i + 1, x, hi => by
    have ih := flatE_set (L := L) (i := i) x (by simpa using hi)
    simp only [List.set_cons_succ, flatE_cons, ih]
    rw [show (i + 1) * 5 = (enC y).length + i * 5 by simp [enC]; omega, List.take_length_add_append, show (enC y).length + i * 5 + 5 = (enC y).length + (i * 5 + 5) by omega, List.drop_length_add_append]
    simp [List.append_assoc]
def ERow (T : TypeId) (B base : Nat) (w : World) (v : Value) (L : List EntD) : Prop := w.ownsRow base T 5 v L.length (flatE L)
theorem ERow.nil (T : TypeId) (B base : Nat) (w : World) : ERow T B base w (.slice none 0 0) [] := World.ownsRow_nil w base _ 5
theorem ERow.keep {T : TypeId} {B base : Nat} {w w' : World} {v : Value} {L : List EntD} (h : ERow T B base w v L) {q : Option Nat} (hg : w.grownBy w' q) (hv : v.ownBlock = none ∨ v.ownBlock ≠ q) : ERow T B base w' v L := World.ownsRow.kept h hg hv
theorem ERow.up {T : TypeId} {B base : Nat} {w w' : World} {v : Value} {L : List EntD} (h : ERow T B base w v L) (hb : Up w w') : ERow T B base w' v L :=
  h.keep (q := none) ⟨hb.os, hb.tape, hb.output, hb.size, fun k hk _ => hb.block k hk⟩ (by cases hv : v.ownBlock <;> simp)
theorem ERow.form {T : TypeId} {B base : Nat} {w : World} {v : Value} {L : List EntD} (h : ERow T B base w v L) : ∃ A c, v = .slice A L.length c := by
  obtain ⟨_, ⟨rfl, h0⟩ | ⟨g, cap, cur, rfl, _⟩⟩ := h
  · exact ⟨none, 0, by rw [h0]⟩
  · exact ⟨_, cap, rfl⟩
theorem ERow.own {T : TypeId} {B base : Nat} {w : World} {v : Value} {L : List EntD} (h : ERow T B base w v L) : ∀ k, v.ownBlock = some k → base ≤ k ∧ k < w.heap.size := World.ownsRow.lt h
theorem ERow.ge {T : TypeId} {B base : Nat} {w : World} {g n c : Nat} {L : List EntD} (h : ERow T B base w (.slice (some ⟨g, 0, none⟩) n c) L) (hB : B ≤ base) : B ≤ g := by
  have := (h.own g rfl).1; omega
theorem ERow.to {T : TypeId} {B base : Nat} {w : World} {v : Value} {L L' : List EntD} (h : ERow T B base w v L) (e : L = L') : ERow T B base w v L' := e ▸ h
theorem ERow.blk {T : TypeId} {B base : Nat} {w : World} {g n c : Nat} {L : List EntD} (h : ERow T B base w (.slice (some ⟨g, 0, none⟩) n c) L) : n = L.length ∧ n ≤ c ∧ c ≤ maxLen ∧ ∃ cur : Array Value, w.heap[g]? = some (.cells cur T (0, 0)) ∧ cur.size = c * 5 := by
  obtain ⟨h1, ⟨e, _⟩ | ⟨g', cap, cur, e, hb, hg, hc, hm, hcs, htk⟩⟩ := h
  · cases e
  · simp only [Value.slice.injEq, Option.some.injEq, Addr.mk.injEq, and_true, true_and] at e
    obtain ⟨rfl, rfl, rfl⟩ := e
    exact ⟨rfl, hc, hm, cur, hg, hcs⟩
theorem ERow.elem {T : TypeId} {B base : Nat} {w : World} {g n c : Nat} {L : List EntD} (h : ERow T B base w (.slice (some ⟨g, 0, none⟩) n c) L) {i : Nat} {x : EntD} (hi : L[i]? = some x) :
    ∃ cur, w.heap[g]? = some (.cells cur T (0, 0)) ∧ (cur.toList.drop (i * 5)).take 5 = enC x := by
  have hil := (List.getElem?_eq_some_iff.1 hi).1
  obtain ⟨h1, ⟨e, _⟩ | ⟨g', cap, cur, e, hb, hg, hc, hm, hcs, htk⟩⟩ := h
  · cases e
  · simp only [Value.slice.injEq, Option.some.injEq, Addr.mk.injEq, and_true, true_and] at e
    obtain ⟨rfl, rfl, rfl⟩ := e
    refine ⟨cur, hg, ?_⟩
    have hl := flatE_length L
    apply List.ext_getElem?
    intro j
    by_cases hj : j < 5
    · rw [List.getElem?_take, if_pos hj, List.getElem?_drop, ← flatE_get hi hj, ← htk, List.getElem?_take, if_pos (by omega)]
    · rw [List.getElem?_eq_none (by simp; omega), List.getElem?_eq_none (by simp [enC]; omega)]
theorem ERow.put {T : TypeId} {B base : Nat} {w : World} {g n c : Nat} {L : List EntD} (h : ERow T B base w (.slice (some ⟨g, 0, none⟩) n c) L) {i : Nat} (hi : i < L.length) {x : EntD} :
    ∃ cur : Array Value, w.heap[g]? = some (.cells cur T (0, 0)) ∧ i * 5 + 5 ≤ cur.toList.length ∧ ∀ w', w'.heap[g]? = some (.cells (cur.toList.take (i * 5) ++ enC x ++ cur.toList.drop (i * 5 + 5)).toArray T (0, 0)) → Chg w w' g → ERow T B base w' (.slice (some ⟨g, 0, none⟩) n c) (L.set i x) := by
  obtain ⟨h1, ⟨e, _⟩ | ⟨g', cap', cur, h', hb, hg, hnc, hcm, hcs, htake⟩⟩ := h
  · cases e
  · simp only [Value.slice.injEq, Option.some.injEq, Addr.mk.injEq, and_true, true_and] at h'
    obtain ⟨rfl, rfl, rfl⟩ := h'
    have hl5 : L.length * 5 ≤ cur.toList.length := by have := Nat.mul_le_mul_right 5 hnc; rw [← Array.length_toList] at hcs; omega
    refine ⟨cur, hg, by omega, fun w' hw' hc => ⟨?_, .inr ⟨g, c, _, by rw [List.length_set], hb, hw', by simpa using hnc, hcm, ?_, ?_⟩⟩⟩
    · rw [flatE_length]
    · rw [← hcs]; simp [enC]; rw [Array.length_toList] at hl5; omega
    · rw [flatE_set x hi, List.length_set]
      have hs := take_splice (l := cur.toList) (v := enC x) (k := i * 5) (m := L.length * 5) (by simp [enC]; omega) hl5
      rw [show (enC x).length = 5 from rfl] at hs
      rw [htake] at hs
      simpa using hs
abbrev ky (n : Nat) (f : Nat → EntD) : Nat → OpD := fun i => keyE n (f i)
theorem map_sete {f : Nat → EntD} {I : List Nat} {i x : Nat} : (I.map f).set i (f x) = (I.set i x).map f := by simp
theorem map_gete {f : Nat → EntD} {I : List Nat} {i x : Nat} (h : I[i]? = some x) : (I.map f)[i]? = some (f x) := by rw [List.getElem?_map, h]; rfl
theorem cmp_code {n : Nat} {x y : EntD} (hx : x.name.data.toList.length ≤ n) (hy : y.name.data.toList.length ≤ n) :
    (if Op.bytesLess x.name.toList y.name.toList = true then (-1 : Int) else if Op.bytesLess y.name.toList x.name.toList = true then 1 else 0) = cmpS (keyE n x).at_ (keyE n y).at_ := by
  rw [Lib.toList_data, Lib.toList_data]
  have h1 := code_less n _ _ hx hy
  have h2 := code_less n _ _ hy hx
  show _ = orI (cmpI (codeN n x.name.data.toList : Int) (codeN n y.name.data.toList : Int)) (cmpI 0 0)
  generalize codeN n x.name.data.toList = u at h1 h2 ⊢
  generalize codeN n y.name.data.toList = v at h1 h2 ⊢
  by_cases k1 : u < v
  · rw [if_pos (h1.2 k1)]
    have e : (u : Int) < (v : Int) := by omega
    simp [orI, cmpI, e]
  · rw [if_neg (fun h => k1 (h1.1 h))]
    have e : ¬ (u : Int) < (v : Int) := by omega
    by_cases k2 : v < u
    · rw [if_pos (h2.2 k2)]
      have e2 : (v : Int) < (u : Int) := by omega
      simp [orI, cmpI, e, e2]
    · rw [if_neg (fun h => k2 (h2.1 h))]
      have e2 : ¬ (v : Int) < (u : Int) := by omega
      simp [orI, cmpI, e, e2]
theorem bytes_gt (a b : List UInt8) : (!Op.bytesLess a b && !a == b) = Op.bytesLess b a := by
  have ha : a.length ≤ max a.length b.length := Nat.le_max_left _ _
  have hb : b.length ≤ max a.length b.length := Nat.le_max_right _ _
  have h1 := code_less _ a b ha hb
  have h2 := code_less _ b a hb ha
  have h3 := fun h => code_inj (x := a) (y := b) ha hb h
  rw [Bool.eq_iff_iff]
  simp only [Bool.and_eq_true, Bool.not_eq_true', beq_eq_false_iff_ne, ne_eq, ← Bool.not_eq_true, h1, h2, beq_iff_eq]
  constructor
  · rintro ⟨k1, k2⟩
    rcases Nat.lt_trichotomy (codeN (max a.length b.length) a) (codeN (max a.length b.length) b) with h | h | h
    · exact absurd h k1
    · exact absurd (h3 h) k2
    · exact h
  · intro k
    refine ⟨by omega, fun e => ?_⟩
    rw [e] at k; exact Nat.lt_irrefl _ k
section
variable {ρ : Operand → Value} {P : Program} {w : World} {d : Option Tmp} {ty : TypeId} {pos : String} {af : Array Edge} {g : Option (Nat × Bool)}
theorem r_lts {t yt : TypeId} {x y : Operand} {m n : ByteArray} (hx : ρ x = .string m) (hy : ρ y = .string n) : (execOp ρ ⟨d, .binOp .lss t x y yt, ty, pos, af, g⟩).run P w = .ok (.value (.bool (Op.bytesLess m.toList n.toList))) w := by
  simp [execOp, hx, hy, eqGuard, binOp, Op.stringOp]
theorem r_gts {t yt : TypeId} {x y : Operand} {m n : ByteArray} (hx : ρ x = .string m) (hy : ρ y = .string n) : (execOp ρ ⟨d, .binOp .gtr t x y yt, ty, pos, af, g⟩).run P w = .ok (.value (.bool (Op.bytesLess n.toList m.toList))) w := by
  rw [← bytes_gt]; simp [execOp, hx, hy, eqGuard, binOp, Op.stringOp]
theorem r_adds {t yt : TypeId} {x y : Operand} {m n : ByteArray} (hx : ρ x = .string m) (hy : ρ y = .string n) (h : m.size + n.size ≤ 9223372036854775807) : (execOp ρ ⟨d, .binOp .add t x y yt, ty, pos, af, g⟩).run P w = .ok (.value (.string (m ++ n))) w := by
  simp [execOp, hx, hy, eqGuard, binOp, Op.stringOp]; omega
theorem nes_same {o : Oper} {m : ByteArray} (h : (execOp ρ o).run P w = .ok (.value (.bool (decide (m ≠ m)))) w) : (execOp ρ o).run P w = .ok (.value (.bool false)) w := by rw [h]; simp
end
end Go.Proofs.YtefhfoioeoijlaaGreatDoor
set_option linter.unusedVariables false
set_option linter.unusedSimpArgs false
namespace Go.Proofs.YtefhfoioeoijlaaGreatDoor
open Go Go.RowKit Go.Sort
abbrev I_ (n : Int) : Value := .int .i64 n
abbrev S_ (s : ByteArray) : Value := .string s
abbrev B_ (b : Bool) : Value := .bool b
abbrev pt (b k : Nat) : Value := .pointer (some ⟨b, k, none⟩)
abbrev sl (b o n c : Nat) : Value := .slice (some ⟨b, o, none⟩) n c
section
variable {X : List Nat} {a b c : World}
theorem mtu (M : Mod X a b) (u : Up b c) : Mod X a c := Mod.trans M (Mod.of_up u)
theorem mtx {q : Nat} (M : Mod X a b) (k : Chg b c q) (h : q ∈ X := by simp) : Mod X a c := Mod.trans M (Mod.of_chg k h)
theorem mtn {q : Nat} (M : Mod X a b) (k : Chg b c q) (g : a.heap.size ≤ q) : Mod X a c := Mod.trans' M k (fun i hi => by injection hi with hi; rw [← hi]; exact g)
theorem gsz {n : Nat} (e : n = b.heap.size) (M : Mod X a b) : a.heap.size ≤ n := by rw [e]; exact M.size
theorem lsz {n x : Nat} {o : Obj} (e : n = b.heap.size) (h : b.heap[x]? = some o) : x < n := by rw [e]; exact lt_ob h
end
section
variable {P : Program} {ops : Array Oper} {Q : Exit → Act → World → Prop} {a : Act} {w w0 : World} {rest : List Oper} {o oi : Oper} {J : Act → World → Prop} {S : World → Prop} {X : List Nat} {fuel : Nat} {listed : Array Bool}
theorem hxu (u : Up w0 w) (k : HL P ops Q (Mod X w) fuel listed a w) : Mod X w0 w ∧ HL P ops Q (Mod X w0) fuel listed a w := hx (Mod.of_up u) (fun y hy => .inl hy) k
theorem hxy {n : Nat} (u : Up w0 w) (e : n = w0.heap.size) (k : HL P ops Q (Mod (n :: X) w) fuel listed a w) : Mod X w0 w ∧ HL P ops Q (Mod X w0) fuel listed a w := hx (Mod.of_up u) (ynew e) k
theorem hxc {q : Nat} (c : Chg w0 w q) (k : HL P ops Q (Mod X w) fuel listed a w) (h : q ∈ X := by simp) : Mod X w0 w ∧ HL P ops Q (Mod X w0) fuel listed a w := hx (Mod.of_chg c h) (fun y hy => .inl hy) k
theorem h1a (i fuel : Nat) (hi : ops[i]? = some oi) (k : St1 P ops Q oi (fun a' w' => S w' ∧ HL P ops Q S fuel (listed.setIfInBounds i true) a' w') a w) (hr : Region.ready .any ops listed = [i] := by kernel_rfl) : HL P ops Q S (fuel + 1) listed a w := h1 hr hi k
theorem h2a {oj : Oper} (i j fuel : Nat) (hi : ops[i]? = some oi) (hj : ops[j]? = some oj) (k : St1 P ops Q oi (fun a' w' => S w' ∧ HL P ops Q S fuel (listed.setIfInBounds i true) a' w') a w)
    (k2 : St1 P ops Q oj (fun a' w' => S w' ∧ HL P ops Q S fuel (listed.setIfInBounds j true) a' w') a w) (hr : Region.ready .any ops listed = [i, j] := by kernel_rfl) : HL P ops Q S (fuel + 1) listed a w := h2 hr hi hj k k2
theorem hqk {v : Value} (i fuel : Nat) (hi : ops[i]? = some oi) (hw : Region.wanted oi (yielded ops a.tmps) = true) (h : ∀ w', Mod X w w' → (execOp a.eval oi).run P w' = .ok (.value v) w')
    (k : HL P ops Q (Mod X w) fuel (listed.setIfInBounds i true) (a.put oi.dst v) w) (hQ : ∀ c a w, Q (.panic c) (a.put oi.dst v) w → Q (.panic c) a w := by exact fun _ _ _ h => h) (hs : Region.noSelect ops = true := by kernel_rfl) (hf : Region.free .any ops listed i = true := by kernel_rfl) (hr : (Region.ready .any ops listed).contains i = true := by kernel_rfl) :
    HL P ops Q (Mod X w) (fuel + 1) listed a w := hvq hi hQ (Mod.refl _ _) hw h k hs hf hr
theorem wlv {v : Value} {w' : World} (h : (execOp a.eval o).run P w = .ok (.value v) w') (k : WL P ops Q rest (a.put o.dst v) w') (hw : Region.wanted o (yielded ops a.tmps) = true := by rfl) : WL P ops Q (o :: rest) a w := wl (sv hw h k)
theorem ebk {x : Value} {b c : Bool} (hb : b = c) (h : x = .bool b := by kernel_rfl) : x = .bool c := ebool h hb
end
section
variable {P : Program} {ops : Array Oper} {Q : Exit → Act → World → Prop} {a : Act} {w : World} {J : Act → World → Prop} {d : Option Tmp} {ty : TypeId} {pos : String} {af : Array Edge} {g : Option (Nat × Bool)}
theorem sca {f : FuncId} {x : Operand} {xs : List Operand} {ats : Array TypeId} {R : Ending → World → Prop} (all : List Value) (hf : ∀ args w, (callFunc f args).run P w = .ok (.enter f args) w) (hc : Calls P f all.toArray w R) (k : ∀ e w', R e w' → ∃ v, e = .returned v ∧ J (a.put d v) w')
    (hx : a.eval x = .func (.func f) #[] ([] : List Value).toArray := by kernel_rfl) (ha : xs.map a.eval ++ [] = all := by kernel_rfl) (hw : Region.wanted (⟨d, .call ⟨.value x, xs.toArray, ats⟩, ty, pos, af, g⟩ : Oper) (yielded ops a.tmps) = true := by rfl) : St1 P ops Q ⟨d, .call ⟨.value x, xs.toArray, ats⟩, ty, pos, af, g⟩ J a w :=
  sc hw (r_callv (caps := []) hf hx ha) hc k
end
section
variable {P : Program} {d : Option Tmp} {ty : TypeId} {pos : String} {af : Array Edge} {g : Option (Nat × Bool)} {ρ : Operand → Value} {w : World}
theorem ld {t : TypeId} {x : Operand} {b : Nat} {v : Value} {cs : Array Value} {T : TypeId} {fr : Nat × Nat} (k : Nat) (ht : ∀ w, (isAgg t).run P w = .ok false w) (hb : w.heap[b]? = some (.cells cs T fr))
    (hx : ρ x = .pointer (some ⟨b, k, none⟩) := by kernel_rfl) (hv : cs.toList[k]? = some v := by kernel_rfl) : (execOp ρ ⟨d, .load t x, ty, pos, af, g⟩).run P w = .ok (.value v) w := r_load hx ht hb hv
theorem lds {t : TypeId} {x : Operand} {b : Nat} {vs : List Value} {cs : Array Value} {T : TypeId} {fr : Nat × Nat} (k : Nat) (ht : ∀ w, (isAgg t).run P w = .ok true w) (hs : ∀ w, (sizeOf t).run P w = .ok vs.length w) (hb : w.heap[b]? = some (.cells cs T fr))
    (hx : ρ x = .pointer (some ⟨b, k, none⟩) := by kernel_rfl) (hv : (cs.toList.drop k).take vs.length = vs := by kernel_rfl) : (execOp ρ ⟨d, .load t x, ty, pos, af, g⟩).run P w = .ok (.value (.agg vs.toArray)) w := r_loads hx ht hs hb hv
theorem mv {x : Operand} {v : Value} (h : ρ x = v := by kernel_rfl) : (execOp ρ ⟨d, .move x, ty, pos, af, g⟩).run P w = .ok (.value v) w := r_move h
theorem fa {t : TypeId} {x : Operand} {i : Nat} {v : Value} (u : Value) (hx : ρ x = u := by kernel_rfl) (h : ∀ w, (Instr.fieldAt t u i).run P w = .ok v w := by intro _; kernel_rfl) : (execOp ρ ⟨d, .fieldAddr t x i, ty, pos, af, g⟩).run P w = .ok (.value v) w := r_fieldAddr hx h
theorem xt {x : Operand} {i : Nat} {v : Value} (vs : List Value) (hx : ρ x = .tuple vs.toArray := by kernel_rfl) (h : vs[i]? = some v := by rfl) : (execOp ρ ⟨d, .extract x i, ty, pos, af, g⟩).run P w = .ok (.value v) w := r_extract hx h
theorem ltI {t yt : TypeId} {x y : Operand} (m n : Int) (hx : ρ x = .int .i64 m := by kernel_rfl) (hy : ρ y = .int .i64 n := by kernel_rfl) : (execOp ρ ⟨d, .binOp .lss t x y yt, ty, pos, af, g⟩).run P w = .ok (.value (.bool (decide (m < n)))) w := r_lt hx hy
theorem eqI {t yt : TypeId} {x y : Operand} (m n : Int) (hx : ρ x = .int .i64 m := by kernel_rfl) (hy : ρ y = .int .i64 n := by kernel_rfl) : (execOp ρ ⟨d, .binOp .eql t x y yt, ty, pos, af, g⟩).run P w = .ok (.value (.bool (decide (m = n)))) w := r_eq hx hy
theorem neI {t yt : TypeId} {x y : Operand} (m n : Int) (hx : ρ x = .int .i64 m := by kernel_rfl) (hy : ρ y = .int .i64 n := by kernel_rfl) : (execOp ρ ⟨d, .binOp .neq t x y yt, ty, pos, af, g⟩).run P w = .ok (.value (.bool (decide (m ≠ n)))) w := r_ne hx hy
end
end Go.Proofs.YtefhfoioeoijlaaGreatDoor
namespace Go.Proofs.YtefhfoioeoijlaaGreatDoor
open Go Go.RowKit Go.Sort
def frL : Nat → Nat → List (Nat × Value) → (Nat → Value) → List Value
  | 0, _, _, _ => []
  | n + 1, i, [], Y => Y i :: frL n (i + 1) [] Y
  | n + 1, i, (k, v) :: kv, Y => bif Nat.beq i k then v :: frL n (i + 1) kv Y else Y i :: frL n (i + 1) ((k, v) :: kv) Y
def frA (n : Nat) (kv : List (Nat × Value)) (d : List Deferred) (Y : Nat → Value) : Act := ⟨(frL n 0 kv Y).toArray, d⟩
def HasFr (a : Act) (n : Nat) (kv : List (Nat × Value)) (d : List Deferred) : Prop := ∃ Y, a = frA n kv d Y
theorem hmk {a : Act} {n : Nat} {kv : List (Nat × Value)} {d : List Deferred} (h : a = frA n kv d (fun i => a.tmps.getD i undef) := by kernel_rfl) : HasFr a n kv d := ⟨_, h⟩
end Go.Proofs.YtefhfoioeoijlaaGreatDoor
namespace Go.Proofs.YtefhfoioeoijlaaGreatDoor
open Go Go.RowKit Go.Sort
section
variable {P : Program} {fn : Func} {R : Ending → World → Prop} {a : Act} {w : World}
theorem br1 {v : Value} {t : Tmp} (h : fn.results = #[.tmp t]) (hR : R (.returned v) w) (hv : a.tmps[t]?.getD undef = v := by kernel_rfl) (hd : a.defers = [] := by kernel_rfl) : bodyPost P fn R .ret a w := bodyPost_ret (res1 h (rv_t hv)) hd hR
theorem br2 {v u : Value} {t s : Tmp} (h : fn.results = #[.tmp t, .tmp s]) (hR : R (.returned (.tuple #[v, u])) w) (hv : a.tmps[t]?.getD undef = v := by kernel_rfl) (hu : a.tmps[s]?.getD undef = u := by kernel_rfl) (hd : a.defers = [] := by kernel_rfl) : bodyPost P fn R .ret a w := bodyPost_ret (res2 h (rv_t hv) (rv_t hu)) hd hR
end
section
variable {P : Program} {ops : Array Oper} {Q : Exit → Act → World → Prop} {a : Act} {w : World} {rest : List Oper} {o : Oper} {J : Act → World → Prop}
theorem wlw {v : Value} {w' : World} {j : Nat} {want b : Bool} (hg : o.guard = some (j, want)) (hb : b = want) (h : (execOp a.eval o).run P w = .ok (.value v) w') (k : WL P ops Q rest (a.put o.dst v) w') (hy : yielded ops a.tmps j = some b := by kernel_rfl) : WL P ops Q (o :: rest) a w := wl (sv (wt hg hy hb) h k)
theorem wls {j : Nat} {want b : Bool} (hg : o.guard = some (j, want)) (hb : b = !want) (k : WL P ops Q rest (a.put o.dst undef) w) (hy : yielded ops a.tmps j = some b := by kernel_rfl) : WL P ops Q (o :: rest) a w := wl (sp (wf hg hy hb) k)
theorem bcd {p : Prop} {q : Prop} [Decidable q] {b : Bool} (k : decide q = b) (f : b = false → ¬ q → p) (t : b = true → q → p) : p := by
  cases b with
  | false => exact f rfl (of_decide_eq_false k)
  | true => exact t rfl (of_decide_eq_true k)
end
end Go.Proofs.YtefhfoioeoijlaaGreatDoor
namespace Go.Proofs.YtefhfoioeoijlaaGreatDoor
open Go Go.RowKit Go.Sort
section
variable {P : Program} {d : Option Tmp} {ty : TypeId} {pos : String} {af : Array Edge} {g : Option (Nat × Bool)} {ρ : Operand → Value} {w : World}
theorem ixa {t e : TypeId} {x i : Operand} {A : Option Addr} {b o m : Nat} (n c sz : Nat) (j : Int) (hA : A = some ⟨b, o, none⟩) (hu : P.underlying t = some (.slice e)) (hsz : ∀ w, (sizeOf e).run P w = .ok sz w) (hx : ρ x = .slice A n c := by kernel_rfl) (hi : ρ i = .int .i64 j := by kernel_rfl)
    (h0 : 0 ≤ j := by omega) (h1 : j < n := by omega) (hm : o + j.toNat * sz = m := by first | omega | simp) : (execOp ρ ⟨d, .indexAddr t x i, ty, pos, af, g⟩).run P w = .ok (.value (.pointer (some ⟨b, m, none⟩))) w := by
  subst hA; exact r_ixaddr hx hi hu hsz h0 h1 hm
theorem nck {x : Operand} {p : Addr} (hx : ρ x = .pointer (some p) := by kernel_rfl) : (execOp ρ ⟨d, .nilCheck x, ty, pos, af, g⟩).run P w = .ok (.value (.pointer (some p))) w := r_nilCheck hx
theorem ln {t : TypeId} {x : Operand} {e : TypeId} (ad : Option Addr) (n c : Nat) (hu : P.underlying t = some (.slice e)) (hx : ρ x = .slice ad n c := by kernel_rfl) : (execOp ρ ⟨d, .call ⟨.builtin .len, #[x], #[t]⟩, ty, pos, af, g⟩).run P w = .ok (.value (.int .i64 n)) w := r_len hu hx
theorem pkT {c x y : Operand} {v : Value} (hc : ρ c = .bool true) (hx : ρ x = v := by kernel_rfl) : (execOp ρ ⟨d, .pick c x y, ty, pos, af, g⟩).run P w = .ok (.value v) w := r_pkT hc hx
theorem pkF {c x y : Operand} {v : Value} (hc : ρ c = .bool false) (hy : ρ y = v := by kernel_rfl) : (execOp ρ ⟨d, .pick c x y, ty, pos, af, g⟩).run P w = .ok (.value v) w := r_pkF hc hy
end
section
variable {P : Program} {ops : Array Oper} {C : World → Prop} {Qq : Act → Prop} {a : Act} {rest : List Oper} {o : Oper}
theorem qls {j : Nat} {want b : Bool} (hg : o.guard = some (j, want)) (hb : b = !want) (k : QL P ops C Qq rest (a.put o.dst undef)) (hy : yielded ops a.tmps j = some b := by kernel_rfl) : QL P ops C Qq (o :: rest) a := qp (wf hg hy hb) k
end
end Go.Proofs.YtefhfoioeoijlaaGreatDoor
namespace Go.Proofs.YtefhfoioeoijlaaGreatDoor
open Go Go.RowKit Go.Sort
abbrev N_ (n : Nat) : Value := .int .i64 (n : Int)
section
variable {P : Program} {d : Option Tmp} {ty : TypeId} {pos : String} {af : Array Edge} {g : Option (Nat × Bool)} {ρ : Operand → Value} {w : World}
theorem adN {t yt : TypeId} {x y : Operand} {c : Int} (m n : Int) (hx : ρ x = .int .i64 m := by kernel_rfl) (hy : ρ y = .int .i64 n := by kernel_rfl) (h : IntKind.i64.wrap (m + n) = c := by exact (IntWalk.i64_in _ (by omega)).trans (by omega)) : (execOp ρ ⟨d, .binOp .add t x y yt, ty, pos, af, g⟩).run P w = .ok (.value (.int .i64 c)) w := r_add hx hy h
theorem sbN {t yt : TypeId} {x y : Operand} {c : Int} (m n : Int) (hx : ρ x = .int .i64 m := by kernel_rfl) (hy : ρ y = .int .i64 n := by kernel_rfl) (h : IntKind.i64.wrap (m - n) = c := by exact (IntWalk.i64_in _ (by omega)).trans (by omega)) : (execOp ρ ⟨d, .binOp .sub t x y yt, ty, pos, af, g⟩).run P w = .ok (.value (.int .i64 c)) w := r_sub hx hy h
end
section
variable {P : Program} {ops : Array Oper} {Q : Exit → Act → World → Prop} {a : Act} {w : World} {X : List Nat} {fuel : Nat} {listed : Array Bool} {d : Option Tmp} {ty : TypeId} {pos : String} {af : Array Edge}
theorem hqm {v : Value} {x : Operand} (i fuel : Nat) (hi : ops[i]? = some ⟨d, .move x, ty, pos, af, none⟩) (k : HL P ops Q (Mod X w) fuel (listed.setIfInBounds i true) (a.put d v) w) (h : a.eval x = v := by kernel_rfl)
    (hQ : ∀ c a' w, Q (.panic c) (a'.put d v) w → Q (.panic c) a' w := by exact fun _ _ _ h => h) (hs : Region.noSelect ops = true := by kernel_rfl) (hf : Region.free .any ops listed i = true := by kernel_rfl) (hr : (Region.ready .any ops listed).contains i = true := by kernel_rfl) :
    HL P ops Q (Mod X w) (fuel + 1) listed a w := hqk i fuel hi rfl (fun _ _ => r_move h) k hQ hs hf hr
end
end Go.Proofs.YtefhfoioeoijlaaGreatDoor
set_option linter.unusedVariables false
set_option linter.unusedSimpArgs false
namespace Go.Proofs.YtefhfoioeoijlaaGreatDoor
open Go Go.RowKit Go.Sort
set_option maxHeartbeats 2000000 in
theorem isNaNs_at (a : ByteArray) {w : World} : Calls Tryz.prog 119 #[.string a] w fun e w' => e = .returned (.bool false) ∧ Up w w' := by
  go_enter Tryz.func119, Tryz.ntmps119
  refine wp_seq (rg_lit (was (v := B_ false) (wnil (then_n (wp_seq (rg_lit ?_))))))
  iterate 2 refine wmv (v := S_ a) ?_
  refine wlv (v := B_ false) (nes_same (r_nes (m := a) (n := a) (by kernel_rfl) (by kernel_rfl))) (was (v := B_ false) (wnil (then_n (wp_ret ?_))))
  refine br1 (v := B_ false) rfl ?_
  exact ⟨rfl, (Mod.up (Mod.refl [] w))⟩
set_option maxHeartbeats 2000000 in
theorem compares_at (a b : ByteArray) {w : World} : Calls Tryz.prog 61 #[.string a, .string b] w fun e w' => e = .returned (.int .i64 (if Op.bytesLess a.toList b.toList = true then (-1 : Int) else if Op.bytesLess b.toList a.toList = true then 1 else 0)) ∧ Up w w' := by
  go_enter Tryz.func61, Tryz.ntmps61
  refine wp_seq (rg_lit (was (v := I_ 0) (wnil (then_n (wp_seq (rg_lit (wmv (v := S_ a) (wl (sca [S_ a] En.f119 (isNaNs_at a) ?_)))))))))
  rintro e _ ⟨rfl, u2⟩
  refine ⟨_, rfl, ?_⟩
  refine was (v := B_ false) (wnil (then_n (wp_seq (rg_lit (wmv (v := S_ b) (wl (sca [S_ b] En.f119 (isNaNs_at b) ?_)))))))
  rintro e _ ⟨rfl, u5⟩
  refine ⟨_, rfl, ?_⟩
  have M6 := mtu (mtu (Mod.refl [] w) u2) u5
  refine was (v := B_ false) (wnil (then_n (wp_seq (wp_seq (rg_lit (wmv (v := B_ false) (wnil (then_n (wp_cond_false (by kernel_rfl) (wp_skip (then_n (wp_seq (wp_seq (rg_lit (wmv (v := B_ false) (wnil (then_n (wp_cond_false (by kernel_rfl) ?_))))))))))))))))))
  refine wp_skip (then_n (wp_seq (wp_seq (rg_lit (wmv (v := S_ a) (wmv (v := S_ b) (wlv (v := B_ (Op.bytesLess a.toList b.toList)) (r_lts (m := a) (n := b) (by kernel_rfl) (by kernel_rfl)) (wnil (then_n ?_)))))))))
  refine bcase (Op.bytesLess a.toList b.toList) (fun v7 => ?_) (fun v7 => ?_)
  ·
   refine wp_cond_false (ebk v7) (wp_skip (then_n (wp_seq (wp_seq (rg_lit (wmv (v := S_ a) (wmv (v := S_ b) (wlv (v := B_ (Op.bytesLess b.toList a.toList)) (r_gts (m := a) (n := b) (by kernel_rfl) (by kernel_rfl)) (wnil (then_n ?_))))))))))
   refine bcase (Op.bytesLess b.toList a.toList) (fun v8 => ?_) (fun v8 => ?_)
   ·
    refine wp_cond_false (ebk v8) (wp_skip (then_n (wp_seq (rg_lit (was (v := I_ 0) (wnil (then_n (wp_ret ?_))))))))
    refine br1 (v := I_ 0) rfl ?_
    exact ⟨by rw [v7]; rw [v8]; rfl, (Mod.up M6)⟩
   refine wp_cond_true (ebk v8) (wp_seq (rg_lit (was (v := I_ 1) (wnil (then_n (wp_ret (then_x (by nofun) ?_)))))))
   refine br1 (v := I_ 1) rfl ?_
   exact ⟨by rw [v7]; rw [v8]; rfl, (Mod.up M6)⟩
  refine wp_cond_true (ebk v7) (wp_seq (rg_lit (was (v := I_ (-1)) (wnil (then_n (wp_ret (then_x (by nofun) ?_)))))))
  refine br1 (v := I_ (-1)) rfl ?_
  exact ⟨by rw [v7]; rfl, (Mod.up M6)⟩
set_option maxHeartbeats 2000000 in
theorem ecompare_at {N : Nat} (x y : EntD) (hx : x.name.data.toList.length ≤ N) (hy : y.name.data.toList.length ≤ N) {w : World} : Calls Tryz.prog 60 #[enV x, enV y] w fun e w' => e = .returned (.int .i64 (cmpS (keyE N x).at_ (keyE N y).at_)) ∧ Up w w' := by
  go_enter Tryz.func60, Tryz.ntmps60
  refine wp_seq (rg_lit (wl (sn rfl (cs := #[S_ x.name, I_ x.node.t, I_ x.node.w, B_ x.dir, I_ x.size]) (T := 35) (V := fun b => pt b 0) (r_box (v := .agg #[S_ x.name, I_ x.node.t, I_ x.node.w, B_ x.dir, I_ x.size]) (by kernel_rfl) rfl) fun b1 _ _ h4 u5 => wl (sn rfl (cs := #[S_ y.name, I_ y.node.t, I_ y.node.w, B_ y.dir, I_ y.size]) (T := 35) (V := fun b => pt b 0) (r_box (v := .agg #[S_ y.name, I_ y.node.t, I_ y.node.w, B_ y.dir, I_ y.size]) (by kernel_rfl) rfl) fun b8 _ _ h11 u12 => was (v := I_ 0) (wnil (then_n (wp_seq (rg_lit (wlv (v := pt b1 0) (fa (pt b1 0)) (wlv (v := S_ x.name) (ld 0 Ty.ag9 (up_ob u12 h4)) (wlv (v := pt b8 0) (fa (pt b8 0)) (wlv (v := S_ y.name) (ld 0 Ty.ag9 h11) ?_))))))))))))
  refine wl (sca [S_ x.name, S_ y.name] En.f61 (compares_at x.name y.name) ?_)
  rintro e _ ⟨rfl, u18⟩
  refine ⟨_, rfl, ?_⟩
  refine was (v := I_ (if Op.bytesLess x.name.toList y.name.toList = true then (-1 : Int) else if Op.bytesLess y.name.toList x.name.toList = true then 1 else 0)) (wnil (then_n (wp_ret ?_)))
  refine br1 (v := I_ (if Op.bytesLess x.name.toList y.name.toList = true then (-1 : Int) else if Op.bytesLess y.name.toList x.name.toList = true then 1 else 0)) rfl ?_
  exact ⟨by rw [← cmp_code hx hy], (Mod.up (mtu (mtu (mtu (Mod.refl [] w) u5) u12) u18))⟩
end Go.Proofs.YtefhfoioeoijlaaGreatDoor

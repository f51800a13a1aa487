/- Ord -/
import Derived.Laws.OwnMore
import Derived.Test.YtefhfoioeoijlaaGreatDoorUac
import Derived.Test.YtefhfoioeoijlaaGreatDoorUaf
set_option linter.unusedVariables false
set_option linter.unusedSimpArgs false
namespace Go.Proofs.YtefhfoioeoijlaaGreatDoor
open Go Go.RowKit Go.Sort
theorem clone_sl {B : Nat} {w : World} {d : Value} {xs : List Int} (h : Dat B w d xs) :
    Calls Tryz.prog 122 #[d] w fun e w' => ∃ A n c, e = .returned (.slice A n c) ∧ Dat B w' (.slice A n c) xs ∧ Up w w' := by
  refine (clone_any h).mono ?_
  rintro e w' ⟨d', rfl, hD, u⟩
  obtain ⟨A, n, c, rfl⟩ := hD.form
  exact ⟨A, n, c, rfl, hD, u⟩
def flatO : List OpD → List Value → List Value
  | x :: L, d :: ds => opC x d ++ flatO L ds
  | _, _ => []
theorem flatO_snoc : ∀ {L : List OpD} {ds : List Value} (x : OpD) (d : Value), L.length = ds.length → flatO (L ++ [x]) (ds ++ [d]) = flatO L ds ++ opC x d
  | [], [], x, d, _ => by simp [flatO]
  | y :: L, e :: ds, x, d, h => by simp [flatO, flatO_snoc x d (by simpa using h : L.length = ds.length)]
theorem flatO_length : ∀ {L : List OpD} {ds : List Value}, L.length = ds.length → (flatO L ds).length = L.length * 10
  | [], [], _ => rfl
  | y :: L, e :: ds, h => by
    have := flatO_length (by simpa using h : L.length = ds.length)
    simp [flatO, opC, this]; omega
theorem flatO_get : ∀ {L : List OpD} {ds : List Value} {i k : Nat} {x : OpD} {d : Value}, L[i]? = some x → ds[i]? = some d → k < 10 → (flatO L ds)[i * 10 + k]? = (opC x d)[k]?
  | y :: L, e :: ds, 0, k, x, d, h1, h2, hk => by
    simp at h1 h2
    subst h1; subst h2
    simp only [flatO, Nat.zero_mul, Nat.zero_add]
    rw [List.getElem?_append_left (by simpa [opC] using hk)]
  | y :: L, e :: ds, i + 1, k, x, d, h1, h2, hk => by
    simp only [flatO]
    rw [List.getElem?_append_right (by simp [opC]; omega)]
    rw [show (i + 1) * 10 + k - (opC y e).length = i * 10 + k by simp [opC]; omega]
    exact flatO_get (by simpa using h1) (by simpa using h2) hk
def ORow (T : TypeId) (B base : Nat) (w : World) (v : Value) (L : List OpD) : Prop :=
  ∃ ds, Pair (fun x d => Dat B w d x.data) L ds ∧ w.ownsRow base T 10 v L.length (flatO L ds)
theorem ORow.nil (T : TypeId) (B base : Nat) (w : World) : ORow T B base w (.slice none 0 0) [] := ⟨[], trivial, World.ownsRow_nil w base _ 10⟩
theorem ORow.keep {T : TypeId} {B base : Nat} {w w' : World} {v : Value} {L : List OpD} (h : ORow T B base w v L) {q : Option Nat} (hg : w.grownBy w' q) (hv : v.ownBlock = none ∨ v.ownBlock ≠ q)
    (hq : ∀ k, q = some k → B ≤ k ∧ NotU8 w k) : ORow T B base w' v L := by
  obtain ⟨ds, hp, ho⟩ := h
  refine ⟨ds, hp.mono fun x d hd => ?_, ho.kept hg hv⟩
  cases q with
  | none => exact hd.keep hg.size fun b hb _ => hg.block b hb (by simp)
  | some k => exact hd.grown hg (hq k rfl).1 (hq k rfl).2
theorem ORow.up {T : TypeId} {B base : Nat} {w w' : World} {v : Value} {L : List OpD} (h : ORow T B base w v L) (hb : Up w w') : ORow T B base w' v L :=
  h.keep (q := none) ⟨hb.os, hb.tape, hb.output, hb.size, fun k hk _ => hb.block k hk⟩ (by cases hv : v.ownBlock <;> simp) (by simp)
theorem ORow.form {T : TypeId} {B base : Nat} {w : World} {v : Value} {L : List OpD} (h : ORow T B base w v L) : ∃ A c, v = .slice A L.length c := by
  obtain ⟨ds, _, _, ⟨rfl, h0⟩ | ⟨g, cap, cur, rfl, _⟩⟩ := h
  · exact ⟨none, 0, by rw [h0]⟩
  · exact ⟨_, cap, rfl⟩
theorem ORow.base {T : TypeId} {B base base' : Nat} {w : World} {v : Value} {L : List OpD} (h : ORow T B base w v L) (hb : base' ≤ base) : ORow T B base' w v L := by
  obtain ⟨ds, hp, h1, h2⟩ := h
  refine ⟨ds, hp, h1, ?_⟩
  rcases h2 with hn | ⟨g, cap, cur, hv, hbg, rest⟩
  · exact .inl hn
  · exact .inr ⟨g, cap, cur, hv, Nat.le_trans hb hbg, rest⟩
theorem ORow.own {T : TypeId} {B base : Nat} {w : World} {v : Value} {L : List OpD} (h : ORow T B base w v L) : ∀ k, v.ownBlock = some k → base ≤ k ∧ k < w.heap.size := by
  obtain ⟨ds, _, ho⟩ := h; exact ho.lt
theorem ORow.ne_old {T : TypeId} {B base b : Nat} {w : World} {v : Value} {L : List OpD} (h : ORow T B base w v L) (e : b < base) : v.ownBlock ≠ some b := fun hh => by have := (h.own _ hh).1; omega
theorem ORow.get {T : TypeId} {B base : Nat} {w : World} {v : Value} {L : List OpD} (h : ORow T B base w v L) {i : Nat} {x : OpD} (hi : L[i]? = some x) :
    ∃ g cap cur dA dn dc, v = .slice (some ⟨g, 0, none⟩) L.length cap ∧ base ≤ g ∧ w.heap[g]? = some (.cells cur T (0, 0)) ∧ (cur.toList.drop (i * 10)).take 10 = opC x (.slice dA dn dc) ∧ Dat B w (.slice dA dn dc) x.data := by
  obtain ⟨ds, hp, ho⟩ := h
  obtain ⟨d, hd, hD⟩ := hp.ex hi
  obtain ⟨dA, dn, dc, rfl⟩ := hD.form
  have hil := (List.getElem?_eq_some_iff.1 hi).1
  rcases ho.2 with ⟨rfl, h0⟩ | ⟨g, cap, cur, rfl, hb, hg, hc, hm, hcs, htk⟩
  · omega
  · refine ⟨g, cap, cur, dA, dn, dc, rfl, hb, hg, ?_, hD⟩
    have hl := flatO_length hp.length
    apply List.ext_getElem?
    intro j
    by_cases hj : j < 10
    · rw [List.getElem?_take, if_pos hj, List.getElem?_drop, ← flatO_get hi hd hj, ← htk, List.getElem?_take, if_pos (by omega)]
    · rw [List.getElem?_eq_none (by simp; omega), List.getElem?_eq_none (by simp [opC]; omega)]
theorem ORow.chgn {T : TypeId} {B base b : Nat} {w w' : World} {v : Value} {L : List OpD} (h : ORow T B base w v L) (c : Chg w w' b) (hd : B ≤ b ∧ NotU8 w b) (hn : v.ownBlock ≠ some b) : ORow T B base w' v L :=
  h.keep c (.inr hn) (fun k e => by injection e with e; subst e; exact hd)
theorem info_op : ∃ i z, Tryz.prog.info? 49 = some i ∧ i.zero = some z ∧ i.size = 10 ∧ i.bytes = 104 ∧ z.cells.size = 10 := by
  have h : (Tryz.prog.info? 49).map (fun i => (i.zero.map (·.cells.size), i.size, i.bytes)) = some (some 10, 10, 104) := by kernel_rfl
  cases hi : Tryz.prog.info? 49 with
  | none => rw [hi] at h; cases h
  | some i =>
    rw [hi] at h; simp at h
    obtain ⟨⟨z, hz, h1⟩, h2, h3⟩ := h
    exact ⟨i, z, rfl, hz, h2, h3, h1⟩
theorem flatO_set : ∀ {L : List OpD} {ds : List Value} {i : Nat} (x : OpD) (d : Value), L.length = ds.length → i < L.length → flatO (L.set i x) (ds.set i d) = (flatO L ds).take (i * 10) ++ opC x d ++ (flatO L ds).drop (i * 10 + 10)
  | [], _, _, _, _, _, h => by simp at h
  | _ :: _, [], _, _, _, h, _ => by simp at h
  | y :: L, e :: ds, 0, x, d, _, _ => by simp [flatO, opC]
  | y :: L, e :: ds, i + 1, x, d, hl, hi => by
    have ih := flatO_set (L := L) (ds := ds) (i := i) x d (by simpa using hl) (by simpa using hi)
    simp only [List.set_cons_succ, flatO, ih]
    rw [show (i + 1) * 10 = (opC y e).length + i * 10 by simp [opC]; omega, List.take_length_add_append, show (opC y e).length + i * 10 + 10 = (opC y e).length + (i * 10 + 10) by omega, List.drop_length_add_append]
    simp [List.append_assoc]
theorem take_splice {l v : List Value} {k m : Nat} (h : k + v.length ≤ m) (hm : m ≤ l.length) : (l.take k ++ v ++ l.drop (k + v.length)).take m = (l.take m).take k ++ v ++ (l.take m).drop (k + v.length) := by
  rw [List.take_take, Nat.min_eq_left (by omega), List.drop_take, List.take_append, List.take_of_length_le (by simp; omega)]
  congr 2
  simp; omega
theorem ORow.put {T : TypeId} {B base : Nat} {w : World} {g n c : Nat} {L : List OpD} (h : ORow T B base w (.slice (some ⟨g, 0, none⟩) n c) L) {i : Nat} (hi : i < L.length) {x : OpD} {d : Value} (hD : Dat B w d x.data) (hT : T ≠ 5) (hB : B ≤ base) :
    ∃ cur : Array Value, w.heap[g]? = some (.cells cur T (0, 0)) ∧ i * 10 + 10 ≤ cur.toList.length ∧ ∀ w', w'.heap[g]? = some (.cells (cur.toList.take (i * 10) ++ opC x d ++ cur.toList.drop (i * 10 + 10)).toArray T (0, 0)) → Chg w w' g → ORow T B base w' (.slice (some ⟨g, 0, none⟩) n c) (L.set i x) := by
  obtain ⟨ds, hp, h1, h2⟩ := h
  rcases h2 with ⟨h', _⟩ | ⟨g', cap', cur, h', hb, hg, hnc, hcm, hcs, htake⟩
  · simp at h'
  · simp only [Value.slice.injEq, Option.some.injEq, Addr.mk.injEq, and_true, true_and] at h'
    obtain ⟨rfl, rfl, rfl⟩ := h'
    have hl10 : L.length * 10 ≤ cur.toList.length := by have := Nat.mul_le_mul_right 10 hnc; rw [← Array.length_toList] at hcs; omega
    refine ⟨cur, hg, by omega, fun w' hw' hc => ⟨ds.set i d, ?_, ?_, .inr ⟨g, c, _, by rw [List.length_set], hb, hw', by simpa using hnc, hcm, ?_, ?_⟩⟩⟩
    · have hk : B ≤ g ∧ NotU8 w g := ⟨by omega, NotU8.of hg hT⟩
      exact Pair.set (hp.mono fun x d hd => hd.chg hc hk) (hD.chg hc hk)
    · have hlen := flatO_length (L := L.set i x) (ds := ds.set i d) (by simpa using hp.length)
      simpa using hlen
    · rw [← hcs]; simp [opC]; rw [Array.length_toList] at hl10; omega
    · rw [flatO_set x d hp.length hi, List.length_set]
      have hs := take_splice (l := cur.toList) (v := opC x d) (k := i * 10) (m := L.length * 10) (by simp [opC]; omega) hl10
      rw [show (opC x d).length = 10 from rfl] at hs
      rw [htake] at hs
      simpa using hs
end Go.Proofs.YtefhfoioeoijlaaGreatDoor
namespace Go.Proofs.YtefhfoioeoijlaaGreatDoor
section
variable {α : Type} {lt : α → α → Prop}
def Ahead (lt : α → α → Prop) (xs ys : List α) : Prop := ∀ x ∈ xs, ∀ y ∈ ys, lt x y
theorem Ahead.app {xs ys zs us : List α} (h1 : Ahead lt xs zs) (h2 : Ahead lt xs us) (h3 : Ahead lt ys zs) (h4 : Ahead lt ys us) : Ahead lt (xs ++ ys) (zs ++ us) := fun x hx y hy => by
  rcases List.mem_append.1 hx with hx | hx <;> rcases List.mem_append.1 hy with hy | hy
  · exact h1 x hx y hy
  · exact h2 x hx y hy
  · exact h3 x hx y hy
  · exact h4 x hx y hy
def Merged (lt : α → α → Prop) (A B C : List α) : Prop := C.Pairwise lt ∧ C.Perm (A ++ B)
theorem Merged.step {A1 A2 B1 B2 C1 C2 : List α} (h : Ahead lt (A1 ++ B1) (A2 ++ B2)) (h1 : Merged lt A1 B1 C1) (h2 : Merged lt A2 B2 C2) : Merged lt (A1 ++ A2) (B1 ++ B2) (C1 ++ C2) := by
  refine ⟨List.pairwise_append.2 ⟨h1.1, h2.1, fun x hx y hy => h x (h1.2.mem_iff.1 hx) y (h2.2.mem_iff.1 hy)⟩, ?_⟩
  refine (h1.2.append h2.2).trans ?_
  rw [List.append_assoc, List.append_assoc]
  refine List.Perm.append_left A1 ?_
  rw [← List.append_assoc, ← List.append_assoc]
  exact (List.perm_append_comm).append_right B2
theorem Merged.nil_right {A : List α} (h : A.Pairwise lt) : Merged lt A [] A := ⟨h, by simp⟩
theorem Merged.nil_left {B : List α} (h : B.Pairwise lt) : Merged lt [] B B := ⟨h, by simp⟩
theorem parts_ahead {A1 A2 B1 B2 : List α} (ht : ∀ x y z, lt x y → lt y z → lt x z) (hA : (A1 ++ A2).Pairwise lt) (hB : (B1 ++ B2).Pairwise lt)
    (h1 : ∀ x y, A1.getLast? = some x → B2.head? = some y → lt x y) (h2 : ∀ x y, B1.getLast? = some x → A2.head? = some y → lt x y) : Ahead lt (A1 ++ B1) (A2 ++ B2) := by
  have key : ∀ {P Q : List α}, P.Pairwise lt → Q.Pairwise lt → (∀ x y, P.getLast? = some x → Q.head? = some y → lt x y) → Ahead lt P Q := by
    intro P Q hP hQ h x hx y hy
    obtain ⟨l, hl⟩ : ∃ l, P.getLast? = some l := by
      cases hp : P.getLast? with
      | none => rw [List.getLast?_eq_none_iff] at hp; rw [hp] at hx; cases hx
      | some l => exact ⟨l, rfl⟩
    obtain ⟨f, hf⟩ : ∃ f, Q.head? = some f := by
      cases Q with
      | nil => cases hy
      | cons f Q => exact ⟨f, rfl⟩
    have hm := h l f hl hf
    have hxl : x = l ∨ lt x l := by
      obtain ⟨P', rfl⟩ := List.getLast?_eq_some_iff.1 hl
      rcases List.mem_append.1 hx with hx | hx
      · exact .inr ((List.pairwise_append.1 hP).2.2 x hx l (by simp))
      · simp at hx; exact .inl hx
    have hfy : y = f ∨ lt f y := by
      cases Q with
      | nil => cases hy
      | cons g Q =>
        simp at hf; subst hf
        rcases List.mem_cons.1 hy with hy | hy
        · exact .inl hy
        · exact .inr ((List.pairwise_cons.1 hQ).1 y hy)
    have h3 : lt x f := by rcases hxl with rfl | h; exact hm; exact ht _ _ _ h hm
    rcases hfy with rfl | h
    · exact h3
    · exact ht _ _ _ h3 h
  obtain ⟨a1, a2, a3⟩ := List.pairwise_append.1 hA
  obtain ⟨b1, b2, b3⟩ := List.pairwise_append.1 hB
  exact Ahead.app (fun x hx y hy => a3 x hx y hy) (key a1 b2 h1) (key b1 a2 h2) (fun x hx y hy => b3 x hx y hy)
theorem sorted_one (ha : ∀ x y, lt x y → ¬ lt y x) : ∀ {P Q : List α}, P.Pairwise lt → Q.Pairwise lt → P.Perm Q → P = Q
  | [], Q, _, _, h => (List.nil_perm.1 h).symm
  | x :: P, [], _, _, h => by have := h.length_eq; simp at this
  | x :: P, y :: Q, hP, hQ, h => by
    obtain ⟨p1, p2⟩ := List.pairwise_cons.1 hP
    obtain ⟨q1, q2⟩ := List.pairwise_cons.1 hQ
    have hxy : x = y := by
      rcases List.mem_cons.1 (h.mem_iff.1 (List.mem_cons_self ..)) with e | hx
      · exact e
      · rcases List.mem_cons.1 (h.symm.mem_iff.1 (List.mem_cons_self ..)) with e | hy
        · exact e.symm
        · exact absurd (q1 x hx) (ha x y (p1 y hy))
    subst hxy
    rw [sorted_one ha p2 q2 (List.Perm.cons_inv h)]
end
end Go.Proofs.YtefhfoioeoijlaaGreatDoor
namespace Go.Proofs.YtefhfoioeoijlaaGreatDoor
open Go Go.RowKit Go.Sort
section
variable {d : Option Tmp} {ty : TypeId} {pos : String} {af : Array Edge} {g : Option (Nat × Bool)} {ρ : Operand → Value} {w : World}
theorem r_toU {x : Operand} {m : Int} (hx : ρ x = .int .i64 m) (h0 : 0 ≤ m) (h1 : m ≤ 9223372036854775807) : (execOp ρ ⟨d, .convert 3 204 x, ty, pos, af, g⟩).run Tryz.prog w = .ok (.value (.int .u64 m)) w := by
  have h3 := Tryz.underlying3
  have h145 := Tryz.underlying204
  have hw : IntKind.u64.wrap m = m := by simp [IntKind.wrap, IntKind.bits, IntKind.signed]; omega
  simp [execOp, hx, convert, run_underlying h3, run_underlying h145, Conv.intToInt, hw]
theorem r_toI {x : Operand} {m : Int} (hx : ρ x = .int .u64 m) (h0 : 0 ≤ m) (h1 : m ≤ 9223372036854775807) : (execOp ρ ⟨d, .convert 204 3 x, ty, pos, af, g⟩).run Tryz.prog w = .ok (.value (.int .i64 m)) w := by
  have h3 := Tryz.underlying3
  have h145 := Tryz.underlying204
  have hw : IntKind.i64.wrap m = m := IntWalk.i64_in _ (by omega)
  simp [execOp, hx, convert, run_underlying h3, run_underlying h145, Conv.intToInt, hw]
theorem r_half {t t' : TypeId} {x y : Operand} {m : Int} (hx : ρ x = .int .u64 m) (hy : ρ y = .int .u64 1) : (execOp ρ ⟨d, .binOp .shr t x y t', ty, pos, af, g⟩).run Tryz.prog w = .ok (.value (.int .u64 (m / 2))) w := by
  simp [execOp, hx, hy, eqGuard, binOp, shift_shr_any, IntKind.bits]
end
theorem ORow.elem {T : TypeId} {B base : Nat} {w : World} {g n c : Nat} {L : List OpD} (h : ORow T B base w (.slice (some ⟨g, 0, none⟩) n c) L) {i : Nat} {x : OpD} (hi : L[i]? = some x) :
    ∃ cur dA dn dc, w.heap[g]? = some (.cells cur T (0, 0)) ∧ (cur.toList.drop (i * 10)).take 10 = opC x (.slice dA dn dc) ∧ Dat B w (.slice dA dn dc) x.data := by
  obtain ⟨g', cap, cur, dA, dn, dc, e, _, h1, h2, h3⟩ := h.get hi
  simp only [Value.slice.injEq, Option.some.injEq, Addr.mk.injEq, and_true, true_and] at e
  obtain ⟨rfl, _⟩ := e
  exact ⟨cur, dA, dn, dc, h1, h2, h3⟩
end Go.Proofs.YtefhfoioeoijlaaGreatDoor
namespace Go.Proofs.YtefhfoioeoijlaaGreatDoor
section
variable {f : Nat → OpD}
def lx (f : Nat → OpD) (i j : Nat) : Prop := ltS (f i).at_ (f j).at_ = true ∨ (f i).at_ = (f j).at_ ∧ i < j
theorem lx_trans {i j k : Nat} (h : lx f i j) (h' : lx f j k) : lx f i k := by
  rcases h with h | ⟨h, h1⟩ <;> rcases h' with h' | ⟨h', h2⟩
  · exact .inl (ltS_trans h h')
  · exact .inl (h' ▸ h)
  · exact .inl (by rw [h]; exact h')
  · exact .inr ⟨h.trans h', by omega⟩
theorem lx_not {i j : Nat} (h : ltS (f j).at_ (f i).at_ = false) (hij : i < j) : lx f i j := by
  cases hk : ltS (f i).at_ (f j).at_ with
  | true => exact .inl hk
  | false => exact .inr ⟨ltS_tri hk h, hij⟩
theorem at_mid {p r : List Nat} {x z k : Nat} (hk : p.length = k) (h : (p ++ x :: r)[k]? = some z) : z = x := by
  subst hk; simpa using h.symm
theorem swap_mid (p r : List Nat) (x y k : Nat) (hk : p.length = k) : ((p ++ y :: x :: r).set (k + 1) y).set k x = p ++ x :: y :: r := by
  subst hk; simp [List.set_append]
theorem set_far {l : List Nat} {i j x y : Nat} (h : i ≠ j) : (l.set i x).set j y = (l.set j y).set i x := List.set_comm _ _ h
def InsO (f : Nat → OpD) (pre X post I : List Nat) (i : Nat) : Prop := ∃ Y Z X1, I = pre ++ (Y ++ (Z ++ post)) ∧ X = X1 ++ Z ∧ Y.Perm X1 ∧ Y.Pairwise (lx f) ∧ (pre.length + Y.length = i ∨ Z = [] ∧ pre.length + Y.length < i)
def InsI (f : Nat → OpD) (pre X post I : List Nat) (i j : Nat) : Prop := ∃ Y1 x Y2 Z X1, I = pre ++ (Y1 ++ (x :: (Y2 ++ (Z ++ post)))) ∧ X = X1 ++ x :: Z ∧ (Y1 ++ Y2).Perm X1 ∧ (Y1 ++ Y2).Pairwise (lx f) ∧ (∀ y ∈ Y2, lx f x y) ∧ pre.length + Y1.length = j ∧ j + Y2.length = i
theorem InsO.first (pre X post : List Nat) : InsO f pre X post (pre ++ (X ++ post)) (pre.length + 1) := by
  cases X with
  | nil => exact ⟨[], [], [], rfl, rfl, .refl _, .nil, .inr ⟨rfl, by simp⟩⟩
  | cons x Z => exact ⟨[x], Z, [x], rfl, rfl, .refl _, by simp, .inl (by simp)⟩
theorem InsO.toI {pre X post I : List Nat} {i : Nat} (h : InsO f pre X post I i) (hi : i < pre.length + X.length) : InsI f pre X post I i i := by
  obtain ⟨Y, Z, X1, hI, hX, hp, hs, hl⟩ := h
  have hYX := hp.length_eq
  cases Z with
  | nil => exfalso; rw [hX] at hi; simp at hi; rcases hl with hl | ⟨_, hl⟩ <;> omega
  | cons x Z =>
    rcases hl with hl | ⟨hn, _⟩
    · exact ⟨Y, x, [], Z, X1, by rw [hI]; simp, hX, by simpa using hp, by simpa using hs, by simp, hl, by simp⟩
    · cases hn
theorem InsI.swap {pre X post I : List Nat} {i j x y : Nat} (h : InsI f pre X post I i j) (hj : pre.length < j) (hx : I[j]? = some x) (hy : I[j - 1]? = some y) (hlt : ltS (f x).at_ (f y).at_ = true) :
    InsI f pre X post ((I.set j y).set (j - 1) x) i (j - 1) := by
  obtain ⟨Y1, x', Y2, Z, X1, hI, hX, hp, hs, ha, hl, hi⟩ := h
  rcases List.eq_nil_or_concat Y1 with rfl | ⟨Y0, y', rfl⟩
  · simp at hl; omega
  · rw [List.concat_eq_append] at *
    simp at hl
    have hI' : I = (pre ++ Y0) ++ y' :: x' :: (Y2 ++ (Z ++ post)) := by rw [hI]; simp
    have hk : (pre ++ Y0).length = j - 1 := by simp; omega
    have e1 : y = y' := at_mid hk (by rw [← hI']; exact hy)
    have e2 : x = x' := at_mid (p := pre ++ Y0 ++ [y']) (r := Y2 ++ (Z ++ post)) (k := j) (by simp; omega) (by rw [← hx, hI']; simp)
    subst e1; subst e2
    have e3 := swap_mid (pre ++ Y0) (Y2 ++ (Z ++ post)) x y (j - 1) hk
    rw [show j - 1 + 1 = j by omega, ← hI'] at e3
    have hs' : (Y0 ++ y :: Y2).Pairwise (lx f) := by simpa using hs
    refine ⟨Y0, x, y :: Y2, Z, X1, by rw [e3]; simp, hX, by simpa using hp, hs', fun z hz => ?_, by omega, by simp; omega⟩
    rcases List.mem_cons.1 hz with rfl | hz
    · exact .inl hlt
    · exact ha z hz
theorem InsI.done {pre X post I : List Nat} {i j : Nat} (h : InsI f pre X post I i j) (hX0 : X.Pairwise (· < ·)) (he : j ≤ pre.length ∨ ∃ x y, I[j]? = some x ∧ I[j - 1]? = some y ∧ ltS (f x).at_ (f y).at_ = false) : InsO f pre X post I (i + 1) := by
  obtain ⟨Y1, x, Y2, Z, X1, hI, hX, hp, hs, ha, hl, hi⟩ := h
  refine ⟨Y1 ++ x :: Y2, Z, X1 ++ [x], by rw [hI]; simp, by rw [hX]; simp, ?_, ?_, .inl (by simp; omega)⟩
  · refine List.perm_middle.trans ?_
    refine ((hp.cons x).trans ?_)
    exact (List.perm_append_comm (l₁ := [x]) (l₂ := X1))
  · obtain ⟨s1, s2, s3⟩ := List.pairwise_append.1 hs
    refine List.pairwise_append.2 ⟨s1, List.pairwise_cons.2 ⟨ha, s2⟩, fun a ha' b hb => ?_⟩
    have hax : lx f a x := by
      rcases List.eq_nil_or_concat Y1 with rfl | ⟨Y0, y', rfl⟩
      · cases ha'
      · rw [List.concat_eq_append] at *
        simp at hl
        rcases he with he | ⟨x', y, hx, hy, hf⟩
        · omega
        · have e1 : y = y' := at_mid (p := pre ++ Y0) (r := x :: (Y2 ++ (Z ++ post))) (k := j - 1) (by simp; omega) (by rw [← hy, hI]; simp)
          have e2 : x' = x := at_mid (p := pre ++ Y0 ++ [y']) (r := Y2 ++ (Z ++ post)) (k := j) (by simp; omega) (by rw [← hx, hI]; simp)
          subst e1; subst e2
          have hyx : y < x' := by
            rw [hX] at hX0
            refine (List.pairwise_append.1 hX0).2.2 y (hp.mem_iff.1 (by simp)) x' (by simp)
          have hl : lx f y x' := lx_not hf hyx
          rcases List.mem_append.1 ha' with ha' | ha'
          · exact lx_trans ((List.pairwise_append.1 s1).2.2 a ha' y (by simp)) hl
          · simp at ha'; rw [ha']; exact hl
    rcases List.mem_cons.1 hb with rfl | hb
    · exact hax
    · exact s3 a ha' b hb
theorem InsO.fin {pre X post I : List Nat} {i : Nat} (h : InsO f pre X post I i) (hi : pre.length + X.length ≤ i) : ∃ C, I = pre ++ (C ++ post) ∧ C.Pairwise (lx f) ∧ C.Perm X := by
  obtain ⟨Y, Z, X1, hI, hX, hp, hs, hl⟩ := h
  have hYX := hp.length_eq
  have hZ : Z = [] := by
    rcases hl with hl | ⟨h, _⟩
    · rw [hX] at hi; simp at hi; exact List.eq_nil_of_length_eq_zero (by omega)
    · exact h
  subst hZ
  exact ⟨Y, by rw [hI]; simp, hs, by rw [hX]; simpa using hp⟩
theorem InsI.len {pre X post I : List Nat} {i j : Nat} (h : InsI f pre X post I i j) : I.length = pre.length + X.length + post.length ∧ pre.length ≤ j ∧ j ≤ i := by
  obtain ⟨Y1, x, Y2, Z, X1, hI, hX, hp, hs, ha, hl, hi⟩ := h
  have := hp.length_eq
  rw [hI, hX]; simp at *; omega
def SwI (pre X mid Y post I : List Nat) (k : Nat) : Prop := ∃ X1 X2 Y1 Y2, X = X1 ++ X2 ∧ Y = Y1 ++ Y2 ∧ X1.length = k ∧ Y1.length = k ∧ I = pre ++ (Y1 ++ (X2 ++ (mid ++ (X1 ++ (Y2 ++ post)))))
theorem SwI.first (pre X mid Y post : List Nat) : SwI pre X mid Y post (pre ++ (X ++ (mid ++ (Y ++ post)))) 0 := ⟨[], X, [], Y, rfl, rfl, rfl, rfl, rfl⟩
theorem SwI.step {pre X mid Y post I : List Nat} {k a b x y : Nat} (h : SwI pre X mid Y post I k) (hXY : X.length = Y.length) (hk : k < Y.length) (ha : pre.length = a) (hb : a + X.length + mid.length = b) (hx : I[a + k]? = some x) (hy : I[b + k]? = some y) :
    SwI pre X mid Y post ((I.set (a + k) y).set (b + k) x) (k + 1) := by
  obtain ⟨X1, X2, Y1, Y2, hX, hY, h1, h2, hI⟩ := h
  cases X2 with
  | nil => rw [hX] at hXY; simp at hXY; omega
  | cons x' X2 =>
    cases Y2 with
    | nil => rw [hY] at hk; simp at hk; omega
    | cons y' Y2 =>
      have hXl : X.length = k + X2.length + 1 := by rw [hX]; simp; omega
      have i1 : I = (pre ++ Y1) ++ x' :: (X2 ++ (mid ++ (X1 ++ ((y' :: Y2) ++ post)))) := by rw [hI]; simp
      have i2 : I = (pre ++ (Y1 ++ (x' :: X2 ++ (mid ++ X1)))) ++ y' :: (Y2 ++ post) := by rw [hI]; simp
      have l1 : (pre ++ Y1).length = a + k := by simp; omega
      have l2 : (pre ++ (Y1 ++ (x' :: X2 ++ (mid ++ X1)))).length = b + k := by simp; omega
      have e1 : x = x' := at_mid l1 (by rw [← i1]; exact hx)
      have e2 : y = y' := at_mid l2 (by rw [← i2]; exact hy)
      subst e1; subst e2
      refine ⟨X1 ++ [x], X2, Y1 ++ [y], Y2, by rw [hX]; simp, by rw [hY]; simp, by simp; omega, by simp; omega, ?_⟩
      have s1 : I.set (a + k) y = (pre ++ (Y1 ++ (y :: X2 ++ (mid ++ X1)))) ++ y :: (Y2 ++ post) := by rw [i1, ← l1]; simp [List.set_append]
      rw [s1, ← l2]
      have l3 : (pre ++ (Y1 ++ (x :: X2 ++ (mid ++ X1)))).length = (pre ++ (Y1 ++ (y :: X2 ++ (mid ++ X1)))).length := by simp
      rw [l3]
      simp [List.set_append]
theorem SwI.fin {pre X mid Y post I : List Nat} {k : Nat} (h : SwI pre X mid Y post I k) (hXY : X.length = Y.length) (hk : Y.length ≤ k) : I = pre ++ (Y ++ (mid ++ (X ++ post))) := by
  obtain ⟨X1, X2, Y1, Y2, hX, hY, h1, h2, hI⟩ := h
  rw [hX, hY] at hXY
  rw [hY] at hk
  simp at hXY hk
  have e1 : Y2 = [] := List.eq_nil_of_length_eq_zero (by omega)
  have e2 : X2 = [] := List.eq_nil_of_length_eq_zero (by omega)
  subst e1; subst e2
  rw [hI, hX, hY]; simp
theorem SwI.len {pre X mid Y post I : List Nat} {k : Nat} (h : SwI pre X mid Y post I k) : I.length = pre.length + X.length + mid.length + Y.length + post.length := by
  obtain ⟨X1, X2, Y1, Y2, hX, hY, h1, h2, hI⟩ := h
  rw [hI, hX, hY]; simp; omega
def RotI (pre A B post I : List Nat) (i j : Nat) : Prop := ∃ P A' B' S, I = pre ++ (P ++ (A' ++ (B' ++ (S ++ post)))) ∧ A'.length = i ∧ B'.length = j ∧ pre.length + P.length + i = pre.length + A.length ∧ P ++ (B' ++ (A' ++ S)) = B ++ A
theorem RotI.first (pre A B post : List Nat) : RotI pre A B post (pre ++ (A ++ (B ++ post))) A.length B.length := ⟨[], A, B, [], by simp, rfl, rfl, by simp, by simp⟩
theorem RotI.len {pre A B post I : List Nat} {i j : Nat} (h : RotI pre A B post I i j) : I.length = pre.length + A.length + B.length + post.length ∧ i ≤ A.length ∧ pre.length + A.length + j ≤ I.length := by
  obtain ⟨P, A', B', S, hI, h1, h2, h3, h4⟩ := h
  have := congrArg List.length h4
  rw [hI]; simp at *; omega
theorem RotI.gt {pre A B post I : List Nat} {i j : Nat} (h : RotI pre A B post I i j) (hij : j < i) :
    ∃ p X mid Y q, I = p ++ (X ++ (mid ++ (Y ++ q))) ∧ X.length = Y.length ∧ Y.length = j ∧ p.length = pre.length + A.length - i ∧ p.length + X.length + mid.length = pre.length + A.length ∧ RotI pre A B post (p ++ (Y ++ (mid ++ (X ++ q)))) (i - j) j := by
  obtain ⟨P, A', B', S, hI, h1, h2, h3, h4⟩ := h
  obtain ⟨A1, A2, hA, hl⟩ : ∃ A1 A2, A' = A1 ++ A2 ∧ A1.length = j := ⟨A'.take j, A'.drop j, (List.take_append_drop j A').symm, by simp; omega⟩
  subst hA
  simp at h1
  refine ⟨pre ++ P, A1, A2, B', S ++ post, by rw [hI]; simp, by omega, h2, by simp; omega, by simp; omega, P ++ B', A2, A1, S, by simp, by omega, hl, by simp; omega, by rw [← h4]; simp⟩
theorem RotI.lt {pre A B post I : List Nat} {i j : Nat} (h : RotI pre A B post I i j) (hij : i < j) :
    ∃ p X mid Y q, I = p ++ (X ++ (mid ++ (Y ++ q))) ∧ X.length = Y.length ∧ Y.length = i ∧ p.length = pre.length + A.length - i ∧ p.length + X.length + mid.length = pre.length + A.length + j - i ∧ RotI pre A B post (p ++ (Y ++ (mid ++ (X ++ q)))) i (j - i) := by
  obtain ⟨P, A', B', S, hI, h1, h2, h3, h4⟩ := h
  obtain ⟨B1, B2, hB, hl⟩ : ∃ B1 B2, B' = B1 ++ B2 ∧ B1.length = j - i := ⟨B'.take (j - i), B'.drop (j - i), (List.take_append_drop _ B').symm, by simp; omega⟩
  subst hB
  simp at h2
  refine ⟨pre ++ P, A', B1, B2, S ++ post, by rw [hI]; simp, by omega, by omega, by simp; omega, by simp; omega, P, B2, B1, A' ++ S, by simp, by omega, hl, by omega, by rw [← h4]; simp⟩
theorem RotI.eq {pre A B post I : List Nat} {i : Nat} (h : RotI pre A B post I i i) :
    ∃ p X Y q, I = p ++ (X ++ ([] ++ (Y ++ q))) ∧ X.length = Y.length ∧ Y.length = i ∧ p.length = pre.length + A.length - i ∧ p.length + X.length = pre.length + A.length ∧ p ++ (Y ++ ([] ++ (X ++ q))) = pre ++ (B ++ (A ++ post)) := by
  obtain ⟨P, A', B', S, hI, h1, h2, h3, h4⟩ := h
  refine ⟨pre ++ P, A', B', S ++ post, by rw [hI]; simp, by omega, by omega, by simp; omega, by simp; omega, ?_⟩
  have := congrArg (fun l => pre ++ (l ++ post)) h4
  simpa using this
end
end Go.Proofs.YtefhfoioeoijlaaGreatDoor
namespace Go.Proofs.YtefhfoioeoijlaaGreatDoor
section
variable {f : Nat → OpD}
def Mv (pre D q : List Nat) (x : Nat) (I : List Nat) (k : Nat) : Prop := ∃ C1 C2, D = C1 ++ C2 ∧ I = pre ++ (C1 ++ (x :: (C2 ++ q))) ∧ pre.length + C1.length = k
theorem Mv.left (pre D q : List Nat) (x : Nat) : Mv pre D q x (pre ++ (x :: (D ++ q))) pre.length := ⟨[], D, rfl, rfl, rfl⟩
theorem Mv.right (pre D q : List Nat) (x k : Nat) (hk : pre.length + D.length = k) : Mv pre D q x (pre ++ (D ++ (x :: q))) k := ⟨D, [], by simp, rfl, hk⟩
theorem Mv.len {pre D q I : List Nat} {x k : Nat} (h : Mv pre D q x I k) : I.length = pre.length + D.length + q.length + 1 ∧ pre.length ≤ k ∧ k ≤ pre.length + D.length := by
  obtain ⟨C1, C2, hD, hI, hk⟩ := h
  rw [hI, hD]; simp; omega
theorem Mv.up {pre D q I : List Nat} {x k u v : Nat} (h : Mv pre D q x I k) (hk : k < pre.length + D.length) (hu : I[k]? = some u) (hv : I[k + 1]? = some v) : Mv pre D q x ((I.set k v).set (k + 1) u) (k + 1) := by
  obtain ⟨C1, C2, hD, hI, hl⟩ := h
  cases C2 with
  | nil => rw [hD] at hk; simp at hk; omega
  | cons y C2 =>
    have i1 : I = (pre ++ C1) ++ x :: (y :: (C2 ++ q)) := by rw [hI]; simp
    have i2 : I = (pre ++ C1 ++ [x]) ++ y :: (C2 ++ q) := by rw [hI]; simp
    have l1 : (pre ++ C1).length = k := by simp; omega
    have e1 : u = x := at_mid l1 (by rw [← i1]; exact hu)
    have e2 : v = y := at_mid (p := pre ++ C1 ++ [x]) (r := C2 ++ q) (k := k + 1) (by simp; omega) (by rw [← i2]; exact hv)
    subst e1; subst e2
    have e3 := swap_mid (pre ++ C1) (C2 ++ q) v u k l1
    refine ⟨C1 ++ [v], C2, by rw [hD]; simp, ?_, by simp; omega⟩
    rw [set_far (by omega)]
    rw [i1, e3]; simp
theorem Mv.down {pre D q I : List Nat} {x k u v : Nat} (h : Mv pre D q x I k) (hk : pre.length < k) (hu : I[k]? = some u) (hv : I[k - 1]? = some v) : Mv pre D q x ((I.set k v).set (k - 1) u) (k - 1) := by
  obtain ⟨C1, C2, hD, hI, hl⟩ := h
  rcases List.eq_nil_or_concat C1 with rfl | ⟨C0, y, rfl⟩
  · simp at hl; omega
  · rw [List.concat_eq_append] at *
    simp at hl
    have i1 : I = (pre ++ C0) ++ y :: (x :: (C2 ++ q)) := by rw [hI]; simp
    have i2 : I = (pre ++ C0 ++ [y]) ++ x :: (C2 ++ q) := by rw [hI]; simp
    have l1 : (pre ++ C0).length = k - 1 := by simp; omega
    have e1 : u = x := at_mid (p := pre ++ C0 ++ [y]) (r := C2 ++ q) (k := k) (by simp; omega) (by rw [← i2]; exact hu)
    have e2 : v = y := at_mid l1 (by rw [← i1]; exact hv)
    subst e1; subst e2
    have e3 := swap_mid (pre ++ C0) (C2 ++ q) u v (k - 1) l1
    rw [show k - 1 + 1 = k by omega, ← i1] at e3
    exact ⟨C0, v :: C2, by rw [hD]; simp, by rw [e3]; simp, by omega⟩
theorem Mv.atRight {pre D q I : List Nat} {x k : Nat} (h : Mv pre D q x I k) (hk : pre.length + D.length ≤ k) : I = pre ++ (D ++ (x :: q)) := by
  obtain ⟨C1, C2, hD, hI, hl⟩ := h
  rw [hD] at hk; simp at hk
  have e : C2 = [] := List.eq_nil_of_length_eq_zero (by omega)
  subst e; rw [hI, hD]; simp
theorem Mv.atLeft {pre D q I : List Nat} {x k : Nat} (h : Mv pre D q x I k) (hk : k ≤ pre.length) : I = pre ++ (x :: (D ++ q)) := by
  obtain ⟨C1, C2, hD, hI, hl⟩ := h
  have e : C1 = [] := List.eq_nil_of_length_eq_zero (by omega)
  subst e; rw [hI, hD]; simp
theorem cut (l : List Nat) {k : Nat} (hk : k ≤ l.length) : ∃ l1 l2, l = l1 ++ l2 ∧ l1.length = k := ⟨l.take k, l.drop k, (List.take_append_drop k l).symm, by simp; omega⟩
theorem last_at {p l r : List Nat} {x y : Nat} {k : Nat} (h : l.getLast? = some x) (hk : p.length + l.length = k + 1) (hy : (p ++ (l ++ r))[k]? = some y) : y = x := by
  obtain ⟨l', rfl⟩ := List.getLast?_eq_some_iff.1 h
  simp at hk
  exact at_mid (p := p ++ l') (r := r) (k := k) (by simp; omega) (by simpa using hy)
theorem head_at {p l r : List Nat} {x y : Nat} {k : Nat} (h : l.head? = some x) (hk : p.length = k) (hy : (p ++ (l ++ r))[k]? = some y) : y = x := by
  cases l with
  | nil => cases h
  | cons z l => simp at h; subst h; exact at_mid hk (by simpa using hy)
def F1 (f : Nat → OpD) (I : List Nat) (x m b i j : Nat) : Prop := m ≤ i ∧ i ≤ j ∧ j ≤ b ∧ (i = m ∨ ∃ y, I[i - 1]? = some y ∧ ltS (f y).at_ (f x).at_ = true) ∧ (j = b ∨ ∃ y, I[j]? = some y ∧ ltS (f y).at_ (f x).at_ = false)
theorem F1.first (f : Nat → OpD) (I : List Nat) (x m b : Nat) (h : m ≤ b) : F1 f I x m b m b := ⟨Nat.le_refl _, h, Nat.le_refl _, .inl rfl, .inl rfl⟩
theorem F1.yes {I : List Nat} {x m b i j h y : Nat} (k : F1 f I x m b i j) (h1 : i ≤ h) (h2 : h < j) (hy : I[h]? = some y) (hl : ltS (f y).at_ (f x).at_ = true) : F1 f I x m b (h + 1) j :=
  ⟨by have := k.1; omega, h2, k.2.2.1, .inr ⟨y, by simpa using hy, hl⟩, k.2.2.2.2⟩
theorem F1.no {I : List Nat} {x m b i j h y : Nat} (k : F1 f I x m b i j) (h1 : i ≤ h) (h2 : h < j) (hy : I[h]? = some y) (hl : ltS (f y).at_ (f x).at_ = false) : F1 f I x m b i h :=
  ⟨k.1, h1, by have := k.2.2.1; omega, k.2.2.2.1, .inr ⟨y, hy, hl⟩⟩
theorem F1.fin {pre B post : List Nat} {x m b i : Nat} (k : F1 f (pre ++ (x :: (B ++ post))) x m b i i) (hm : pre.length + 1 = m) (hb : m + B.length = b) (hB : B.Pairwise (lx f)) (ht : Ahead (· < ·) [x] B) :
    ∃ B1 B2, B = B1 ++ B2 ∧ m + B1.length = i ∧ Merged (lx f) [x] B (B1 ++ x :: B2) := by
  obtain ⟨k1, _, k2, k3, k4⟩ := k
  obtain ⟨B1, B2, rfl, hl⟩ := cut B (k := i - m) (by omega)
  have hlen : m + (B1.length + B2.length) = b := by simpa using hb
  have hx2 : ∀ y, B2.head? = some y → lx f x y := by
    intro y hy
    have hy2 : y ∈ B2 := List.mem_of_mem_head? hy
    rcases k4 with e | ⟨z, hz, hf⟩
    · have : B2 = [] := List.eq_nil_of_length_eq_zero (by omega)
      rw [this] at hy; cases hy
    · have e := head_at (p := pre ++ x :: B1) (r := post) hy (k := i) (by simp; omega) (y := z) (by rw [← hz]; simp)
      subst e
      exact lx_not hf (ht x (by simp) z (by simp [hy2]))
  have hx1 : ∀ y, B1.getLast? = some y → lx f y x := by
    intro y hy
    rcases k3 with e | ⟨z, hz, hf⟩
    · have : B1 = [] := List.eq_nil_of_length_eq_zero (by omega)
      rw [this] at hy; cases hy
    · have e := last_at (p := pre ++ [x]) (r := B2 ++ post) hy (k := i - 1) (by simp; omega) (y := z) (by rw [← hz]; simp)
      subst e
      exact .inl hf
  obtain ⟨s1, s2, s3⟩ := List.pairwise_append.1 hB
  have hxB : ∀ y ∈ B2, lx f x y := by
    cases B2 with
    | nil => simp
    | cons z B2 =>
      intro y hy
      rcases List.mem_cons.1 hy with rfl | hy
      · exact hx2 _ rfl
      · exact lx_trans (hx2 _ rfl) ((List.pairwise_cons.1 s2).1 y hy)
  have hA := parts_ahead (lt := lx f) (A1 := []) (A2 := [x]) (B1 := B1) (B2 := B2) (fun _ _ _ => lx_trans) (by simp) hB (by simp) (fun u v hu hv => by simp at hv; subst hv; exact hx1 _ hu)
  refine ⟨B1, B2, rfl, by omega, ?_⟩
  have := Merged.step (lt := lx f) (A1 := []) (A2 := [x]) (B1 := B1) (B2 := B2) (C1 := B1) (C2 := x :: B2) hA (Merged.nil_left s1) ⟨List.pairwise_cons.2 ⟨hxB, s2⟩, by simp⟩
  simpa using this
def F2 (f : Nat → OpD) (I : List Nat) (y a m i j : Nat) : Prop := a ≤ i ∧ i ≤ j ∧ j ≤ m ∧ (i = a ∨ ∃ z, I[i - 1]? = some z ∧ ltS (f y).at_ (f z).at_ = false) ∧ (j = m ∨ ∃ z, I[j]? = some z ∧ ltS (f y).at_ (f z).at_ = true)
theorem F2.first (f : Nat → OpD) (I : List Nat) (y a m : Nat) (h : a ≤ m) : F2 f I y a m a m := ⟨Nat.le_refl _, h, Nat.le_refl _, .inl rfl, .inl rfl⟩
theorem F2.yes {I : List Nat} {y a m i j h z : Nat} (k : F2 f I y a m i j) (h1 : i ≤ h) (h2 : h < j) (hz : I[h]? = some z) (hl : ltS (f y).at_ (f z).at_ = false) : F2 f I y a m (h + 1) j :=
  ⟨by have := k.1; omega, h2, k.2.2.1, .inr ⟨z, by simpa using hz, hl⟩, k.2.2.2.2⟩
theorem F2.no {I : List Nat} {y a m i j h z : Nat} (k : F2 f I y a m i j) (h1 : i ≤ h) (h2 : h < j) (hz : I[h]? = some z) (hl : ltS (f y).at_ (f z).at_ = true) : F2 f I y a m i h :=
  ⟨k.1, h1, by have := k.2.2.1; omega, k.2.2.2.1, .inr ⟨z, hz, hl⟩⟩
theorem F2.fin {pre A post : List Nat} {y a m i : Nat} (k : F2 f (pre ++ (A ++ (y :: post))) y a m i i) (ha : pre.length = a) (hm : a + A.length = m) (hA : A.Pairwise (lx f)) (ht : Ahead (· < ·) A [y]) :
    ∃ A1 A2, A = A1 ++ A2 ∧ a + A1.length = i ∧ Merged (lx f) A [y] (A1 ++ y :: A2) := by
  obtain ⟨k1, _, k2, k3, k4⟩ := k
  obtain ⟨A1, A2, rfl, hl⟩ := cut A (k := i - a) (by omega)
  have hlen : a + (A1.length + A2.length) = m := by simpa using hm
  have hx2 : ∀ z, A2.head? = some z → lx f y z := by
    intro z hz
    rcases k4 with e | ⟨u, hu, hf⟩
    · have : A2 = [] := List.eq_nil_of_length_eq_zero (by omega)
      rw [this] at hz; cases hz
    · have e := head_at (p := pre ++ A1) (r := y :: post) hz (k := i) (by simp; omega) (y := u) (by rw [← hu]; simp)
      subst e
      exact .inl hf
  have hx1 : ∀ z, A1.getLast? = some z → lx f z y := by
    intro z hz
    have hz1 : z ∈ A1 := List.mem_of_getLast? hz
    rcases k3 with e | ⟨u, hu, hf⟩
    · have : A1 = [] := List.eq_nil_of_length_eq_zero (by omega)
      rw [this] at hz; cases hz
    · have hp := List.length_pos_of_mem hz1
      have e := last_at (p := pre) (r := A2 ++ (y :: post)) hz (k := i - 1) (by omega) (y := u) (by rw [← hu]; simp)
      subst e
      exact lx_not hf (ht u (by simp [hz1]) y (by simp))
  obtain ⟨s1, s2, s3⟩ := List.pairwise_append.1 hA
  have hyA : ∀ z ∈ A2, lx f y z := by
    cases A2 with
    | nil => simp
    | cons u A2 =>
      intro z hz
      rcases List.mem_cons.1 hz with rfl | hz
      · exact hx2 _ rfl
      · exact lx_trans (hx2 _ rfl) ((List.pairwise_cons.1 s2).1 z hz)
  have hAh := parts_ahead (lt := lx f) (A1 := A1) (A2 := A2) (B1 := []) (B2 := [y]) (fun _ _ _ => lx_trans) hA (by simp) (fun u v hu hv => by simp at hv; subst hv; exact hx1 _ hu) (by simp)
  refine ⟨A1, A2, rfl, by omega, ?_⟩
  have := Merged.step (lt := lx f) (A1 := A1) (A2 := A2) (B1 := []) (B2 := [y]) (C1 := A1) (C2 := y :: A2) hAh (Merged.nil_right s1) ⟨List.pairwise_cons.2 ⟨hyA, s2⟩, by simpa using (List.perm_append_comm (l₁ := [y]) (l₂ := A2))⟩
  simpa using this
def SymS (f : Nat → OpD) (I : List Nat) (n s0 r0 s r : Nat) : Prop := s0 ≤ s ∧ s ≤ r ∧ r ≤ r0 ∧ (s = s0 ∨ ∃ x y, I[s - 1]? = some x ∧ I[n - s]? = some y ∧ ltS (f y).at_ (f x).at_ = false) ∧ (r = r0 ∨ ∃ x y, I[r]? = some x ∧ I[n - 1 - r]? = some y ∧ ltS (f y).at_ (f x).at_ = true)
theorem SymS.first (f : Nat → OpD) (I : List Nat) (n s0 r0 : Nat) (h : s0 ≤ r0) : SymS f I n s0 r0 s0 r0 := ⟨Nat.le_refl _, h, Nat.le_refl _, .inl rfl, .inl rfl⟩
theorem SymS.yes {I : List Nat} {n s0 r0 s r c x y : Nat} (h : SymS f I n s0 r0 s r) (h1 : s ≤ c) (h2 : c < r) (hx : I[c]? = some x) (hy : I[n - 1 - c]? = some y) (hl : ltS (f y).at_ (f x).at_ = false) : SymS f I n s0 r0 (c + 1) r :=
  ⟨by have := h.1; omega, h2, h.2.2.1, .inr ⟨x, y, by simpa using hx, by rw [show n - (c + 1) = n - 1 - c by omega]; exact hy, hl⟩, h.2.2.2.2⟩
theorem SymS.no {I : List Nat} {n s0 r0 s r c x y : Nat} (h : SymS f I n s0 r0 s r) (h1 : s ≤ c) (h2 : c < r) (hx : I[c]? = some x) (hy : I[n - 1 - c]? = some y) (hl : ltS (f y).at_ (f x).at_ = true) : SymS f I n s0 r0 s c :=
  ⟨h.1, h1, by have := h.2.2.1; omega, h.2.2.2.1, .inr ⟨x, y, hx, hy, hl⟩⟩
def Sym1 (f : Nat → OpD) (pre A B post I : List Nat) (s e : Nat) : Prop := ∃ A1 A2 B1 B2, A = A1 ++ A2 ∧ B = B1 ++ B2 ∧ I = pre ++ (A1 ++ (A2 ++ (B1 ++ (B2 ++ post)))) ∧ pre.length + A1.length = s ∧ pre.length + A.length + B1.length = e ∧ Ahead (lx f) (A1 ++ B1) (A2 ++ B2)
theorem SymS.fin {pre A B post I : List Nat} {a m b mid n s0 r0 s : Nat} (h : SymS f I n s0 r0 s s) (hI : I = pre ++ (A ++ (B ++ post))) (ha : pre.length = a) (hm : a + A.length = m) (hb : m + B.length = b) (hmid : (a + b) / 2 = mid) (hn : mid + m = n)
    (hs : mid < m ∧ s0 = n - b ∧ r0 = mid ∨ m ≤ mid ∧ s0 = a ∧ r0 = m) (hA : A.Pairwise (lx f)) (hB : B.Pairwise (lx f)) (ht : Ahead (· < ·) A B) : Sym1 f pre A B post I s (n - s) := by
  obtain ⟨k1, _, k2, k3, k4⟩ := h
  obtain ⟨A1, A2, rfl, hl⟩ := cut A (k := s - a) (by omega)
  obtain ⟨B1, B2, rfl, hl'⟩ := cut B (k := n - s - m) (by omega)
  have hlA : a + (A1.length + A2.length) = m := by simpa using hm
  have hlB : m + (B1.length + B2.length) = b := by simpa using hb
  refine ⟨A1, A2, B1, B2, rfl, rfl, by rw [hI]; simp, by omega, by simp; omega, ?_⟩
  refine parts_ahead (fun _ _ _ => lx_trans) hA hB (fun x y hx hy => ?_) (fun x y hx hy => ?_)
  · rcases k3 with e | ⟨u, v, hu, hv, hf⟩
    · rcases hs with ⟨q1, q2, q3⟩ | ⟨q1, q2, q3⟩
      · have : B2 = [] := List.eq_nil_of_length_eq_zero (by omega)
        rw [this] at hy; cases hy
      · have : A1 = [] := List.eq_nil_of_length_eq_zero (by omega)
        rw [this] at hx; cases hx
    · have hA1 : 0 < A1.length := List.length_pos_of_mem (List.mem_of_getLast? hx)
      have e1 := last_at (p := pre) (r := A2 ++ (B1 ++ (B2 ++ post))) hx (k := s - 1) (by omega) (y := u) (by rw [← hu, hI]; simp)
      have e2 := head_at (p := pre ++ (A1 ++ (A2 ++ B1))) (r := post) hy (k := n - s) (by simp; omega) (y := v) (by rw [← hv, hI]; simp)
      subst e1; subst e2
      exact lx_not hf (ht u (by simp [List.mem_of_getLast? hx]) v (by simp [List.mem_of_mem_head? hy]))
  · rcases k4 with e | ⟨u, v, hu, hv, hf⟩
    · rcases hs with ⟨q1, q2, q3⟩ | ⟨q1, q2, q3⟩
      · have : B1 = [] := List.eq_nil_of_length_eq_zero (by omega)
        rw [this] at hx; cases hx
      · have : A2 = [] := List.eq_nil_of_length_eq_zero (by omega)
        rw [this] at hy; cases hy
    · have hB1 : 0 < B1.length := List.length_pos_of_mem (List.mem_of_getLast? hx)
      have e1 := last_at (p := pre ++ (A1 ++ A2)) (r := B2 ++ post) hx (k := n - 1 - s) (by simp; omega) (y := v) (by rw [← hv, hI]; simp)
      have e2 := head_at (p := pre ++ A1) (r := B1 ++ (B2 ++ post)) hy (k := s) (by simp; omega) (y := u) (by rw [← hu, hI]; simp)
      subst e1; subst e2
      exact .inl hf
theorem Sym1.len {pre A B post I : List Nat} {s e : Nat} (h : Sym1 f pre A B post I s e) : I.length = pre.length + A.length + B.length + post.length ∧ pre.length ≤ s ∧ s ≤ pre.length + A.length ∧ pre.length + A.length ≤ e ∧ e ≤ pre.length + A.length + B.length := by
  obtain ⟨A1, A2, B1, B2, rfl, rfl, hI, h1, h2, h3⟩ := h
  rw [hI]; simp at *; omega
def Sym2 (f : Nat → OpD) (pre A B post I : List Nat) (s mid e : Nat) : Prop := ∃ A1 A2 B1 B2, A = A1 ++ A2 ∧ B = B1 ++ B2 ∧ I = pre ++ (A1 ++ (B1 ++ (A2 ++ (B2 ++ post)))) ∧ pre.length + A1.length = s ∧ s + B1.length = mid ∧ mid + A2.length = e ∧ Ahead (lx f) (A1 ++ B1) (A2 ++ B2)
theorem Sym1.skip {pre A B post I : List Nat} {s e mid : Nat} (h : Sym1 f pre A B post I s e) (hz : ¬ s < pre.length + A.length ∨ ¬ pre.length + A.length < e) (hmid : s + e = mid + (pre.length + A.length)) : Sym2 f pre A B post I s mid e := by
  obtain ⟨A1, A2, B1, B2, rfl, rfl, hI, h1, h2, h3⟩ := h
  simp at hz hmid h2
  refine ⟨A1, A2, B1, B2, rfl, rfl, ?_, h1, by omega, by omega, h3⟩
  rw [hI]
  rcases hz with hz | hz
  · have : A2 = [] := List.eq_nil_of_length_eq_zero (by omega)
    subst this; simp
  · have : B1 = [] := List.eq_nil_of_length_eq_zero (by omega)
    subst this; simp
theorem Sym1.turn {pre A B post I : List Nat} {s e mid : Nat} (h : Sym1 f pre A B post I s e) (hmid : s + e = mid + (pre.length + A.length)) :
    ∃ p X Y q, I = p ++ (X ++ (Y ++ q)) ∧ p.length = s ∧ s + X.length = pre.length + A.length ∧ pre.length + A.length + Y.length = e ∧ Sym2 f pre A B post (p ++ (Y ++ (X ++ q))) s mid e := by
  obtain ⟨A1, A2, B1, B2, rfl, rfl, hI, h1, h2, h3⟩ := h
  simp at hmid h2
  exact ⟨pre ++ A1, A2, B1, B2 ++ post, by rw [hI]; simp, by simp; omega, by simp; omega, by simp; omega, A1, A2, B1, B2, rfl, rfl, by simp, h1, by omega, by omega, h3⟩
def Sym3 (f : Nat → OpD) (pre A B post I : List Nat) (mid e : Nat) : Prop := ∃ A1 A2 B1 B2 C1, A = A1 ++ A2 ∧ B = B1 ++ B2 ∧ I = pre ++ (C1 ++ (A2 ++ (B2 ++ post))) ∧ pre.length + C1.length = mid ∧ mid + A2.length = e ∧ Ahead (lx f) (A1 ++ B1) (A2 ++ B2) ∧ Merged (lx f) A1 B1 C1
theorem Sym2.skip {pre A B post I : List Nat} {s e mid : Nat} (h : Sym2 f pre A B post I s mid e) (hz : ¬ pre.length < s ∨ ¬ s < mid) (hA : A.Pairwise (lx f)) (hB : B.Pairwise (lx f)) : Sym3 f pre A B post I mid e := by
  obtain ⟨A1, A2, B1, B2, rfl, rfl, hI, h1, h2, h4, h3⟩ := h
  refine ⟨A1, A2, B1, B2, A1 ++ B1, rfl, rfl, by rw [hI]; simp, by simp; omega, h4, h3, ?_⟩
  rcases hz with hz | hz
  · have : A1 = [] := List.eq_nil_of_length_eq_zero (by omega)
    subst this; exact Merged.nil_left (List.pairwise_append.1 hB).1
  · have : B1 = [] := List.eq_nil_of_length_eq_zero (by omega)
    subst this; simpa using Merged.nil_right (List.pairwise_append.1 hA).1
theorem Sym2.half {pre A B post I : List Nat} {s e mid : Nat} (h : Sym2 f pre A B post I s mid e) (hA : A.Pairwise (lx f)) (hB : B.Pairwise (lx f)) (ht : Ahead (· < ·) A B) :
    ∃ X Y q, I = pre ++ (X ++ (Y ++ q)) ∧ pre.length + X.length = s ∧ s + Y.length = mid ∧ X.Pairwise (lx f) ∧ Y.Pairwise (lx f) ∧ Ahead (· < ·) X Y ∧ ∀ C, Merged (lx f) X Y C → Sym3 f pre A B post (pre ++ (C ++ q)) mid e := by
  obtain ⟨A1, A2, B1, B2, rfl, rfl, hI, h1, h2, h4, h3⟩ := h
  refine ⟨A1, B1, A2 ++ (B2 ++ post), hI, h1, h2, (List.pairwise_append.1 hA).1, (List.pairwise_append.1 hB).1, fun x hx y hy => ht x (by simp [hx]) y (by simp [hy]), fun C hC => ⟨A1, A2, B1, B2, C, rfl, rfl, rfl, ?_, h4, h3, hC⟩⟩
  have := hC.2.length_eq; simp at this; omega
theorem Sym3.half {pre A B post I : List Nat} {e mid : Nat} (h : Sym3 f pre A B post I mid e) (hA : A.Pairwise (lx f)) (hB : B.Pairwise (lx f)) (ht : Ahead (· < ·) A B) :
    ∃ p X Y, I = p ++ (X ++ (Y ++ post)) ∧ p.length = mid ∧ mid + X.length = e ∧ e + Y.length = pre.length + A.length + B.length ∧ X.Pairwise (lx f) ∧ Y.Pairwise (lx f) ∧ Ahead (· < ·) X Y ∧ ∀ C, Merged (lx f) X Y C → ∃ D, p ++ (C ++ post) = pre ++ (D ++ post) ∧ Merged (lx f) A B D := by
  obtain ⟨A1, A2, B1, B2, C1, rfl, rfl, hI, h1, h2, h3, hC1⟩ := h
  have hl := hC1.2.length_eq
  simp at hl
  refine ⟨pre ++ C1, A2, B2, by rw [hI]; simp, by simp; omega, h2, by simp; omega, (List.pairwise_append.1 hA).2.1, (List.pairwise_append.1 hB).2.1, fun x hx y hy => ht x (by simp [hx]) y (by simp [hy]), fun C hC => ⟨C1 ++ C, by simp, Merged.step h3 hC1 hC⟩⟩
theorem Sym3.skip {pre A B post I : List Nat} {e mid : Nat} (h : Sym3 f pre A B post I mid e) (hz : ¬ mid < e ∨ ¬ e < pre.length + A.length + B.length) (hA : A.Pairwise (lx f)) (hB : B.Pairwise (lx f)) : ∃ D, I = pre ++ (D ++ post) ∧ Merged (lx f) A B D := by
  obtain ⟨A1, A2, B1, B2, C1, rfl, rfl, hI, h1, h2, h3, hC1⟩ := h
  have hl := hC1.2.length_eq
  simp at hl hz
  refine ⟨C1 ++ (A2 ++ B2), by rw [hI]; simp, Merged.step h3 hC1 ?_⟩
  rcases hz with hz | hz
  · have : A2 = [] := List.eq_nil_of_length_eq_zero (by omega)
    subst this; exact Merged.nil_left (List.pairwise_append.1 hB).2.1
  · have : B2 = [] := List.eq_nil_of_length_eq_zero (by omega)
    subst this; simpa using Merged.nil_right (List.pairwise_append.1 hA).2.1
inductive Runs (f : Nat → OpD) (bs : Nat) : Nat → List Nat → Prop
  | last {p l} : l.length ≤ bs → l.Pairwise (lx f) → l.Perm (List.range' p l.length) → Runs f bs p l
  | cons {p l r} : l.length = bs → l.Pairwise (lx f) → l.Perm (List.range' p bs) → Runs f bs (p + bs) r → Runs f bs p (l ++ r)
inductive Full (f : Nat → OpD) (bs : Nat) : List Nat → Prop
  | nil : Full f bs []
  | snoc {D l} : Full f bs D → l.length = bs → l.Pairwise (lx f) → l.Perm (List.range' D.length bs) → Full f bs (D ++ l)
theorem Full.runs {bs : Nat} {D : List Nat} (h : Full f bs D) : ∀ {T}, Runs f bs D.length T → Runs f bs 0 (D ++ T) := by
  induction h with
  | nil => intro T hT; simpa using hT
  | snoc hD hl hs hp ih =>
    intro T hT
    rw [List.append_assoc]
    refine ih (.cons hl hs hp ?_)
    rw [List.length_append, hl] at hT
    exact hT
theorem Runs.one {bs p : Nat} {l : List Nat} (h : Runs f bs p l) (hb : 0 < bs) (hl : l.length ≤ bs) : l.Pairwise (lx f) ∧ l.Perm (List.range' p l.length) := by
  cases h with
  | last _ h2 h3 => exact ⟨h2, h3⟩
  | cons h1 h2 h3 h4 =>
    rename_i l r
    have : r = [] := by simp at hl; exact List.eq_nil_of_length_eq_zero (by omega)
    subst this
    simp; exact ⟨h2, by rw [h1]; exact h3⟩
theorem Runs.cut {bs p : Nat} {l : List Nat} (h : Runs f bs p l) (hl : bs ≤ l.length) : ∃ l1 l2, l = l1 ++ l2 ∧ l1.length = bs ∧ l1.Pairwise (lx f) ∧ l1.Perm (List.range' p bs) ∧ Runs f bs (p + bs) l2 := by
  cases h with
  | last h1 h2 h3 =>
    have e : l.length = bs := by omega
    exact ⟨l, [], by simp, e, h2, by rw [← e]; exact h3, .last (by simp) .nil (by simp)⟩
  | cons h1 h2 h3 h4 => exact ⟨_, _, rfl, h1, h2, h3, h4⟩
theorem range_ahead {p m n : Nat} {l1 l2 : List Nat} (h1 : l1.Perm (List.range' p m)) (h2 : l2.Perm (List.range' (p + m) n)) : Ahead (· < ·) l1 l2 := fun x hx y hy => by
  have a := h1.mem_iff.1 hx
  have b := h2.mem_iff.1 hy
  rw [List.mem_range'_1] at a b
  omega
theorem range_join {p m n : Nat} {l1 l2 : List Nat} (h1 : l1.Perm (List.range' p m)) (h2 : l2.Perm (List.range' (p + m) n)) : (l1 ++ l2).Perm (List.range' p (m + n)) := by
  rw [← List.range'_append_1]
  exact h1.append h2
def Pass (f : Nat → OpD) (n bs : Nat) (I : List Nat) (a : Nat) : Prop := ∃ D T, I = D ++ T ∧ D.length = a ∧ a + T.length = n ∧ Full f (2 * bs) D ∧ Runs f bs a T
theorem Pass.first {n bs : Nat} {I : List Nat} (h : Runs f bs 0 I) (hn : I.length = n) : Pass f n bs I 0 := ⟨[], I, rfl, rfl, by omega, .nil, h⟩
theorem Pass.pair {n bs a : Nat} {I : List Nat} (h : Pass f n bs I a) (hb : a + 2 * bs ≤ n) :
    ∃ p A B q, I = p ++ (A ++ (B ++ q)) ∧ p.length = a ∧ A.length = bs ∧ B.length = bs ∧ A.Pairwise (lx f) ∧ B.Pairwise (lx f) ∧ Ahead (· < ·) A B ∧ ∀ C, Merged (lx f) A B C → Pass f n bs (p ++ (C ++ q)) (a + 2 * bs) := by
  obtain ⟨D, T, rfl, h1, h2, h3, h4⟩ := h
  obtain ⟨A, T1, rfl, hA, sA, pA, h5⟩ := h4.cut (by omega)
  simp at h2
  obtain ⟨B, T2, rfl, hB, sB, pB, h6⟩ := h5.cut (by omega)
  simp at h2
  refine ⟨D, A, B, T2, rfl, h1, hA, hB, sA, sB, range_ahead pA pB, fun C hC => ⟨D ++ C, T2, by simp, ?_, ?_, .snoc h3 ?_ hC.1 ?_, ?_⟩⟩
  · have := hC.2.length_eq; simp at this ⊢; omega
  · omega
  · have := hC.2.length_eq; simp at this; omega
  · rw [h1, Nat.two_mul]; exact hC.2.trans (range_join pA pB)
  · rw [show a + 2 * bs = a + bs + bs by omega]; exact h6
theorem Pass.tail {n bs a : Nat} {I : List Nat} (h : Pass f n bs I a) (hb : n < a + 2 * bs) (hm : a + bs < n) :
    ∃ p A B, I = p ++ (A ++ (B ++ [])) ∧ p.length = a ∧ A.length = bs ∧ a + bs + B.length = n ∧ A.Pairwise (lx f) ∧ B.Pairwise (lx f) ∧ Ahead (· < ·) A B ∧ ∀ C, Merged (lx f) A B C → Runs f (2 * bs) 0 (p ++ (C ++ [])) ∧ (p ++ (C ++ [])).length = n := by
  obtain ⟨D, T, rfl, h1, h2, h3, h4⟩ := h
  obtain ⟨A, T1, rfl, hA, sA, pA, h5⟩ := h4.cut (by omega)
  simp at h2
  obtain ⟨sB, pB⟩ := h5.one (by omega) (by omega)
  refine ⟨D, A, T1, by simp, h1, hA, by omega, sA, sB, range_ahead pA pB, fun C hC => ?_⟩
  have hl := hC.2.length_eq
  simp at hl
  have hp := hC.2.trans (range_join pA pB)
  refine ⟨by rw [List.append_nil]; exact h3.runs (.last (by omega) hC.1 (by rw [h1, hl, hA]; exact hp)), by simp; omega⟩
theorem Pass.done {n bs a : Nat} {I : List Nat} (h : Pass f n bs I a) (hb : 0 < bs) (hm : n ≤ a + bs) : Runs f (2 * bs) 0 I ∧ I.length = n := by
  obtain ⟨D, T, rfl, h1, h2, h3, h4⟩ := h
  obtain ⟨s, p⟩ := h4.one hb (by omega)
  exact ⟨h3.runs (.last (by omega) s (by rw [h1]; exact p)), by simp; omega⟩
def Blocks (f : Nat → OpD) (n bs : Nat) (I : List Nat) (a : Nat) : Prop := ∃ D, I = D ++ List.range' a (n - a) ∧ D.length = a ∧ a ≤ n ∧ Full f bs D
theorem Blocks.first (f : Nat → OpD) (n bs : Nat) : Blocks f n bs (List.range n) 0 := ⟨[], by simp [List.range_eq_range'], rfl, by omega, .nil⟩
theorem range_lt (p n : Nat) : (List.range' p n).Pairwise (· < ·) := List.pairwise_lt_range'
theorem Blocks.part {n bs a : Nat} {I : List Nat} (h : Blocks f n bs I a) (hb : a + bs ≤ n) :
    ∃ p X q, I = p ++ (X ++ q) ∧ p.length = a ∧ X.length = bs ∧ X.Pairwise (· < ·) ∧ ∀ C, C.Pairwise (lx f) → C.Perm X → Blocks f n bs (p ++ (C ++ q)) (a + bs) := by
  obtain ⟨D, rfl, h1, h2, h3⟩ := h
  refine ⟨D, List.range' a bs, List.range' (a + bs) (n - (a + bs)), ?_, h1, by simp, range_lt _ _, fun C hC hp => ⟨D ++ C, by simp, ?_, by omega, .snoc h3 ?_ hC (by rw [h1]; exact hp)⟩⟩
  · rw [List.range'_append_1]; congr 2; omega
  · have := hp.length_eq; simp at this ⊢; omega
  · have := hp.length_eq; simpa using this
theorem Blocks.last {n bs a : Nat} {I : List Nat} (h : Blocks f n bs I a) (hb : n < a + bs) :
    ∃ p X, I = p ++ (X ++ []) ∧ p.length = a ∧ a + X.length = n ∧ X.Pairwise (· < ·) ∧ ∀ C, C.Pairwise (lx f) → C.Perm X → Runs f bs 0 (p ++ (C ++ [])) ∧ (p ++ (C ++ [])).length = n := by
  obtain ⟨D, rfl, h1, h2, h3⟩ := h
  refine ⟨D, List.range' a (n - a), by simp, h1, by simp; omega, range_lt _ _, fun C hC hp => ?_⟩
  have hl := hp.length_eq
  simp at hl
  exact ⟨by rw [List.append_nil]; exact h3.runs (.last (by omega) hC (by rw [h1, hl]; exact hp)), by simp; omega⟩
def AllSorted (f : Nat → OpD) (n : Nat) (I : List Nat) : Prop := I.Pairwise (lx f) ∧ I.Perm (List.range n)
theorem Runs.all {n bs : Nat} {I : List Nat} (h : Runs f bs 0 I) (hn : I.length = n) (hb : 0 < bs) (hl : n ≤ bs) : AllSorted f n I := by
  obtain ⟨s, p⟩ := h.one hb (by omega)
  exact ⟨s, by rw [hn] at p; rw [List.range_eq_range']; exact p⟩
end
end Go.Proofs.YtefhfoioeoijlaaGreatDoor
namespace Go.Proofs.YtefhfoioeoijlaaGreatDoor
def insO : List OpD → OpD → List OpD
  | [], o => [o]
  | x :: L, o => if ltS x.at_ o.at_ then x :: insO L o else if x.at_ = o.at_ then x :: L else o :: x :: L
def sortO (l : List OpD) : List OpD := l.foldl insO []
section
variable {f : Nat → OpD}
def kx (f : Nat → OpD) (i j : Nat) : Prop := ltS (f i).at_ (f j).at_ = true
def Heads (f : Nat → OpD) (n : Nat) (J : List Nat) : Prop := J.Pairwise (kx f) ∧ ∀ x, x ∈ J ↔ x < n ∧ ∀ j, j < x → (f j).at_ ≠ (f x).at_
theorem kx_nodup {J : List Nat} (h : J.Pairwise (kx f)) : J.Nodup := h.imp fun {a b} h e => by subst e; unfold kx at h; rw [ltS_irrefl] at h; cases h
theorem Heads.one {n : Nat} {J K : List Nat} (h : Heads f n J) (k : Heads f n K) : J = K := by
  refine sorted_one (lt := kx f) (fun x y h k => ?_) h.1 k.1 ?_
  · unfold kx at h k; rw [ltS_asymm h] at k; cases k
  · exact (List.perm_ext_iff_of_nodup (kx_nodup h.1) (kx_nodup k.1)).2 fun x => by rw [h.2, k.2]
inductive Thin (f : Nat → OpD) : List Nat → List Nat → Prop
  | nil : Thin f [] []
  | one (x) : Thin f [x] [x]
  | keep {P y x K} : Thin f (P ++ [y]) K → (f x).at_ ≠ (f y).at_ → Thin f (P ++ [y] ++ [x]) (K ++ [x])
  | drop {P y x K} : Thin f (P ++ [y]) K → (f x).at_ = (f y).at_ → Thin f (P ++ [y] ++ [x]) K
theorem Thin.heads {P K : List Nat} (h : Thin f P K) : P.Pairwise (lx f) → K.Pairwise (kx f) ∧ (∀ x ∈ K, x ∈ P) ∧ (∀ x ∈ P, ∃ y ∈ K, (f y).at_ = (f x).at_ ∧ y ≤ x) ∧ (∀ Q z, P = Q ++ [z] → ∀ x ∈ K, ltS (f x).at_ (f z).at_ = true ∨ (f x).at_ = (f z).at_) := by
  induction h with
  | nil => intro _; simp
  | one x =>
    intro _
    refine ⟨by simp, by simp, by simp, fun Q z e y hy => ?_⟩
    have : z = x := by
      have := congrArg List.getLast? e
      simpa using this.symm
    simp at hy; subst hy; subst this; exact .inr rfl
  | @keep P y x K h hne ih =>
    intro hs
    obtain ⟨s1, _, s3⟩ := List.pairwise_append.1 hs
    obtain ⟨a1, a2, a3, a4⟩ := ih s1
    have hyx : ltS (f y).at_ (f x).at_ = true := by
      rcases s3 y (by simp) x (by simp) with h | ⟨h, _⟩
      · exact h
      · exact absurd h.symm hne
    have hK : ∀ z ∈ K, ltS (f z).at_ (f x).at_ = true := fun z hz => by
      rcases a4 P y rfl z hz with h | h
      · exact ltS_trans h hyx
      · rw [h]; exact hyx
    refine ⟨List.pairwise_append.2 ⟨a1, by simp, fun z hz u hu => by simp at hu; subst hu; exact hK z hz⟩, fun z hz => ?_, fun z hz => ?_, fun Q u e z hz => ?_⟩
    · rcases List.mem_append.1 hz with hz | hz
      · exact List.mem_append_left _ (a2 z hz)
      · exact List.mem_append_right _ hz
    · rcases List.mem_append.1 hz with hz | hz
      · obtain ⟨v, hv, e1, e2⟩ := a3 z hz
        exact ⟨v, List.mem_append_left _ hv, e1, e2⟩
      · simp at hz; subst hz; exact ⟨z, by simp, rfl, Nat.le_refl _⟩
    · have : u = x := by
        have := congrArg List.getLast? e
        simpa using this.symm
      subst this
      rcases List.mem_append.1 hz with hz | hz
      · exact .inl (hK z hz)
      · simp at hz; subst hz; exact .inr rfl
  | @drop P y x K h he ih =>
    intro hs
    obtain ⟨s1, _, s3⟩ := List.pairwise_append.1 hs
    obtain ⟨a1, a2, a3, a4⟩ := ih s1
    have hyx : y < x := by
      rcases s3 y (by simp) x (by simp) with h | ⟨_, h⟩
      · rw [he, ltS_irrefl] at h; cases h
      · exact h
    refine ⟨a1, fun z hz => List.mem_append_left _ (a2 z hz), fun z hz => ?_, fun Q u e z hz => ?_⟩
    · rcases List.mem_append.1 hz with hz | hz
      · exact a3 z hz
      · simp at hz; subst hz
        obtain ⟨v, hv, e1, e2⟩ := a3 y (by simp)
        exact ⟨v, hv, by rw [e1, he], by omega⟩
    · have : u = x := by
        have := congrArg List.getLast? e
        simpa using this.symm
      subst this
      rw [he]; exact a4 P y rfl z hz
theorem Thin.done {n : Nat} {I K : List Nat} (h : Thin f I K) (hI : AllSorted f n I) : Heads f n K := by
  obtain ⟨a1, a2, a3, _⟩ := h.heads hI.1
  have hm : ∀ x, x ∈ I ↔ x < n := fun x => by rw [hI.2.mem_iff]; simp
  have huniq : ∀ u ∈ K, ∀ v ∈ K, (f u).at_ = (f v).at_ → u = v := by
    intro u hu v hv e
    obtain ⟨i, hi, rfl⟩ := List.mem_iff_getElem.1 hu
    obtain ⟨j, hj, rfl⟩ := List.mem_iff_getElem.1 hv
    rw [List.pairwise_iff_getElem] at a1
    rcases Nat.lt_trichotomy i j with h | h | h
    · have := a1 i j hi hj h; unfold kx at this; rw [e, ltS_irrefl] at this; cases this
    · subst h; rfl
    · have := a1 j i hj hi h; unfold kx at this; rw [e, ltS_irrefl] at this; cases this
  refine ⟨a1, fun x => ⟨fun hx => ⟨(hm x).1 (a2 x hx), fun j hj e => ?_⟩, fun ⟨hx, hf⟩ => ?_⟩⟩
  · obtain ⟨y, hy, e1, e2⟩ := a3 j ((hm j).2 (by have := (hm x).1 (a2 x hx); omega))
    have := huniq y hy x hx (by rw [e1, e])
    omega
  · obtain ⟨y, hy, e1, e2⟩ := a3 x ((hm x).2 hx)
    rcases Nat.lt_or_ge y x with h | h
    · exact absurd e1 (hf y h)
    · have : y = x := by omega
      rw [← this]; exact hy
def insJ (f : Nat → OpD) : List Nat → Nat → List Nat
  | [], o => [o]
  | x :: L, o => if ltS (f x).at_ (f o).at_ then x :: insJ f L o else if (f x).at_ = (f o).at_ then x :: L else o :: x :: L
theorem insJ_map (f : Nat → OpD) (o : Nat) : ∀ J, (insJ f J o).map f = insO (J.map f) (f o)
  | [] => rfl
  | x :: J => by
    simp only [insJ, insO, List.map_cons]
    split
    · simp [insJ_map f o J]
    · split <;> rfl
theorem insJ_mem {J : List Nat} {o : Nat} (h : J.Pairwise (kx f)) : ∀ x, x ∈ insJ f J o ↔ x ∈ J ∨ x = o ∧ ∀ y ∈ J, (f y).at_ ≠ (f o).at_ := by
  induction J with
  | nil => intro x; simp [insJ]
  | cons z J ih =>
    obtain ⟨h1, h2⟩ := List.pairwise_cons.1 h
    intro x
    simp only [insJ]
    split
    · rename_i hz
      rw [List.mem_cons, ih h2 x, List.mem_cons, or_assoc]
      have : (f z).at_ ≠ (f o).at_ := ltS_ne hz
      simp [this]
    · split
      · rename_i he
        simp [he]
      · rename_i hz he
        have hoz : ltS (f o).at_ (f z).at_ = true := by
          cases hk : ltS (f o).at_ (f z).at_ with
          | true => rfl
          | false => exact absurd (ltS_tri (Bool.eq_false_iff.2 hz) hk) he
        have hall : ∀ y ∈ z :: J, (f y).at_ ≠ (f o).at_ := fun y hy => by
          rcases List.mem_cons.1 hy with rfl | hy
          · exact he
          · exact (ltS_ne (ltS_trans hoz (h1 y hy))).symm
        rw [List.mem_cons]
        constructor
        · rintro (rfl | hx)
          · exact .inr ⟨rfl, hall⟩
          · exact .inl hx
        · rintro (hx | ⟨rfl, _⟩)
          · exact .inr hx
          · exact .inl rfl
theorem insJ_pw {J : List Nat} {o : Nat} (h : J.Pairwise (kx f)) : (insJ f J o).Pairwise (kx f) := by
  induction J with
  | nil => simp [insJ]
  | cons z J ih =>
    obtain ⟨h1, h2⟩ := List.pairwise_cons.1 h
    simp only [insJ]
    split
    · rename_i hz
      refine List.pairwise_cons.2 ⟨fun y hy => ?_, ih h2⟩
      rcases (insJ_mem h2 y).1 hy with hy | ⟨rfl, _⟩
      · exact h1 y hy
      · exact hz
    · split
      · exact h
      · rename_i hz he
        have hoz : ltS (f o).at_ (f z).at_ = true := by
          cases hk : ltS (f o).at_ (f z).at_ with
          | true => rfl
          | false => exact absurd (ltS_tri (Bool.eq_false_iff.2 hz) hk) he
        refine List.pairwise_cons.2 ⟨fun y hy => ?_, h⟩
        rcases List.mem_cons.1 hy with rfl | hy
        · exact hoz
        · exact ltS_trans hoz (h1 y hy)
theorem Heads.step {n : Nat} {J : List Nat} (h : Heads f n J) : Heads f (n + 1) (insJ f J n) := by
  refine ⟨insJ_pw h.1, fun x => ?_⟩
  rw [insJ_mem h.1, h.2]
  have key : (∀ y ∈ J, (f y).at_ ≠ (f n).at_) ↔ ∀ j, j < n → (f j).at_ ≠ (f n).at_ := by
    constructor
    · intro hh j hj
      induction j using Nat.strongRecOn with
      | _ j ih =>
        by_cases hm : ∀ i, i < j → (f i).at_ ≠ (f j).at_
        · exact hh j ((h.2 j).2 ⟨hj, hm⟩)
        · simp only [Classical.not_forall] at hm
          obtain ⟨i, hi, he⟩ := hm
          have he := Classical.not_not.1 he
          rw [← he]; exact ih i hi (by omega)
    · intro hh y hy
      exact hh y ((h.2 y).1 hy).1
  rw [key]
  constructor
  · rintro (⟨h1, h2⟩ | ⟨rfl, h2⟩)
    · exact ⟨by omega, h2⟩
    · exact ⟨by omega, h2⟩
  · rintro ⟨h1, h2⟩
    rcases Nat.lt_or_ge x n with h | h
    · exact .inl ⟨h, h2⟩
    · have : x = n := by omega
      subst this; exact .inr ⟨rfl, h2⟩
theorem heads_fold (f : Nat → OpD) (n : Nat) : ∃ J, Heads f n J ∧ J.map f = sortO ((List.range n).map f) := by
  induction n with
  | zero => exact ⟨[], ⟨.nil, by simp⟩, rfl⟩
  | succ n ih =>
    obtain ⟨J, h1, h2⟩ := ih
    refine ⟨insJ f J n, h1.step, ?_⟩
    rw [insJ_map, h2, sortO, sortO, List.range_succ, List.map_append, List.foldl_append]
    rfl
theorem Thin.sortO {n : Nat} {I K : List Nat} (h : Thin f I K) (hI : AllSorted f n I) : K.map f = sortO ((List.range n).map f) := by
  obtain ⟨J, h1, h2⟩ := heads_fold f n
  rw [(h.done hI).one h1, h2]
end
def atO (L : List OpD) (i : Nat) : OpD := L.getD i default
theorem range_at (L : List OpD) : (List.range L.length).map (atO L) = L := by
  apply List.ext_getElem
  · simp
  · intro i h1 h2
    simp [atO, List.getD_eq_getElem?_getD, List.getElem?_eq_getElem h2]
theorem insO_mem {o x : OpD} : ∀ {L : List OpD}, x ∈ insO L o → x ∈ L ∨ x = o
  | [], h => by simp [insO] at h; exact .inr h
  | y :: L, h => by
    simp only [insO] at h
    split at h
    · rcases List.mem_cons.1 h with h | h
      · exact .inl (by simp [h])
      · rcases insO_mem h with h | h
        · exact .inl (by simp [h])
        · exact .inr h
    · split at h
      · exact .inl h
      · rcases List.mem_cons.1 h with h | h
        · exact .inr h
        · exact .inl h
theorem insO_len (o : OpD) : ∀ L : List OpD, (insO L o).length ≤ L.length + 1
  | [] => by simp [insO]
  | x :: L => by
    simp only [insO]
    split
    · have := insO_len o L; simp; omega
    · split <;> simp
theorem foldO_len (l : List OpD) : ∀ L : List OpD, (l.foldl insO L).length ≤ L.length + l.length := by
  induction l with
  | nil => intro L; simp
  | cons o l ih => intro L; have := ih (insO L o); have := insO_len o L; simp at *; omega
theorem sortO_len (l : List OpD) : (sortO l).length ≤ l.length := by have := foldO_len l []; simpa [sortO] using this
theorem foldO_mem {x : OpD} (l : List OpD) : ∀ L : List OpD, x ∈ l.foldl insO L → x ∈ L ∨ x ∈ l := by
  induction l with
  | nil => intro L h; exact .inl h
  | cons o l ih =>
    intro L h
    rcases ih _ h with h | h
    · rcases insO_mem h with h | h
      · exact .inl h
      · exact .inr (by simp [h])
    · exact .inr (by simp [h])
theorem sortO_mem {x : OpD} {l : List OpD} (h : x ∈ sortO l) : x ∈ l := by
  rcases foldO_mem l [] h with h | h
  · cases h
  · exact h
end Go.Proofs.YtefhfoioeoijlaaGreatDoor
namespace Go.Proofs.YtefhfoioeoijlaaGreatDoor
open Go Go.RowKit Go.Sort
section
variable {d : Option Tmp} {ty : TypeId} {pos : String} {af : Array Edge} {g : Option (Nat × Bool)} {ρ : Operand → Value} {w : World}
theorem r_toUn {x : Operand} {m : Nat} (hx : ρ x = .int .i64 (m : Int)) (h1 : m ≤ 9223372036854775807) : (execOp ρ ⟨d, .convert 3 204 x, ty, pos, af, g⟩).run Tryz.prog w = .ok (.value (.int .u64 (m : Int))) w := r_toU hx (by omega) (by omega)
theorem r_toIn {x : Operand} {m : Nat} (hx : ρ x = .int .u64 (m : Int)) (h1 : m ≤ 9223372036854775807) : (execOp ρ ⟨d, .convert 204 3 x, ty, pos, af, g⟩).run Tryz.prog w = .ok (.value (.int .i64 (m : Int))) w := r_toI hx (by omega) (by omega)
theorem r_halfn {t t' : TypeId} {x y : Operand} {m : Nat} (hx : ρ x = .int .u64 (m : Int)) (hy : ρ y = .int .u64 1) : (execOp ρ ⟨d, .binOp .shr t x y t', ty, pos, af, g⟩).run Tryz.prog w = .ok (.value (.int .u64 ((m / 2 : Nat) : Int))) w := by
  rw [r_half hx hy]; simp
end
theorem ORow.blk {T : TypeId} {B base : Nat} {w : World} {g n c : Nat} {L : List OpD} (h : ORow T B base w (.slice (some ⟨g, 0, none⟩) n c) L) : n = L.length ∧ n ≤ c ∧ c ≤ maxLen ∧ ∃ cur : Array Value, w.heap[g]? = some (.cells cur T (0, 0)) ∧ cur.size = c * 10 := by
  obtain ⟨ds, hp, h1, ⟨e, _⟩ | ⟨g', cap, cur, e, hb, hg, hc, hm, hcs, htk⟩⟩ := h
  · cases e
  · simp only [Value.slice.injEq, Option.some.injEq, Addr.mk.injEq, and_true, true_and] at e
    obtain ⟨rfl, rfl, rfl⟩ := e
    exact ⟨rfl, hc, hm, cur, hg, hcs⟩
theorem ORow.ge {T : TypeId} {B base : Nat} {w : World} {g n c : Nat} {L : List OpD} (h : ORow T B base w (.slice (some ⟨g, 0, none⟩) n c) L) (hB : B ≤ base) : B ≤ g := by
  have := (h.own g rfl).1; omega
theorem map_set' {f : Nat → OpD} {I : List Nat} {i x : Nat} : (I.map f).set i (f x) = (I.set i x).map f := by simp
theorem map_get' {f : Nat → OpD} {I : List Nat} {i x : Nat} (h : I[i]? = some x) : (I.map f)[i]? = some (f x) := by rw [List.getElem?_map, h]; rfl
theorem ORow.to {T : TypeId} {B base : Nat} {w : World} {v : Value} {L L' : List OpD} (h : ORow T B base w v L) (e : L = L') : ORow T B base w v L' := e ▸ h
theorem cmpS_lt' {a b : Stamp} : cmpS a b < 0 ↔ ltS a b = true := by
  unfold cmpS orI cmpI ltS
  simp only [decide_eq_true_eq]
  repeat' split <;> (try omega)
theorem cmpS_no {a b : Stamp} (h : ¬ cmpS a b < 0) : ltS a b = false := Bool.eq_false_iff.2 fun k => h (cmpS_lt'.2 k)
theorem cmpS_yes {a b : Stamp} (h : cmpS a b < 0) : ltS a b = true := cmpS_lt'.1 h
theorem flatO_take : ∀ {L : List OpD} {ds : List Value} (k : Nat), L.length = ds.length → flatO (L.take k) (ds.take k) = (flatO L ds).take (k * 10)
  | [], [], k, _ => by simp [flatO]
  | _, _, 0, _ => by simp [flatO]
  | x :: L, d :: ds, k + 1, h => by
    have ih := flatO_take (L := L) (ds := ds) k (by simpa using h)
    simp only [List.take_succ_cons, flatO, ih]
    rw [show (k + 1) * 10 = (opC x d).length + k * 10 by simp [opC]; omega, List.take_length_add_append]
theorem Pair.take {α β : Type} {R : α → β → Prop} : ∀ {xs : List α} {ys : List β} (k : Nat), Pair R xs ys → Pair R (xs.take k) (ys.take k)
  | [], [], k, _ => by simp [Pair]
  | [], _ :: _, _, h => h.elim
  | _ :: _, [], _, h => h.elim
  | x :: xs, y :: ys, 0, h => by simp [Pair]
  | x :: xs, y :: ys, k + 1, h => ⟨h.1, Pair.take k h.2⟩
theorem ORow.short {T : TypeId} {B base : Nat} {w : World} {g n c k : Nat} {L : List OpD} (h : ORow T B base w (.slice (some ⟨g, 0, none⟩) n c) L) (hk : k ≤ n) : ORow T B base w (.slice (some ⟨g, 0, none⟩) k c) (L.take k) := by
  obtain ⟨ds, hp, h1, ⟨e, _⟩ | ⟨g', cap, cur, e, hb, hg, hc, hm, hcs, htk⟩⟩ := h
  · cases e
  · simp only [Value.slice.injEq, Option.some.injEq, Addr.mk.injEq, and_true, true_and] at e
    obtain ⟨rfl, rfl, rfl⟩ := e
    have hlk : (L.take k).length = k := by simp; omega
    refine ⟨ds.take k, hp.take k, ?_, .inr ⟨g, c, cur, by rw [hlk], hb, hg, by omega, hm, hcs, ?_⟩⟩
    · rw [flatO_take k hp.length, List.length_take, hlk, h1]; have := Nat.mul_le_mul_right 10 hk; omega
    · rw [flatO_take k hp.length, hlk, ← htk, List.take_take, Nat.min_eq_left (Nat.mul_le_mul_right 10 hk)]
theorem ORow.cleared {T : TypeId} {B base : Nat} {w w' : World} {g n c k : Nat} {L : List OpD} {cur cur' : Array Value} (h : ORow T B base w (.slice (some ⟨g, 0, none⟩) n c) L) (hk : k ≤ n) (hT : T ≠ 5) (hB : B ≤ base) (hg0 : w.heap[g]? = some (.cells cur T (0, 0)))
    (hg' : w'.heap[g]? = some (.cells cur' T (0, 0))) (hs : cur'.size = cur.size) (ht : cur'.toList.take (k * 10) = cur.toList.take (k * 10)) (hC : Chg w w' g) : ORow T B base w' (.slice (some ⟨g, 0, none⟩) k c) (L.take k) := by
  have hlk : (L.take k).length = k := ((h.short hk).blk).1.symm
  obtain ⟨ds, hp, h1, ⟨e, _⟩ | ⟨g', cap, cur0, e, hb, hg, hc, hm, hcs, htk⟩⟩ := h.short hk
  · cases e
  · simp only [Value.slice.injEq, Option.some.injEq, Addr.mk.injEq, and_true, true_and] at e
    obtain ⟨rfl, e2, rfl⟩ := e
    rw [hg0] at hg
    simp only [Option.some.injEq, Obj.cells.injEq, and_true] at hg
    obtain rfl := hg
    refine ⟨ds, hp.mono fun x d hd => hd.chg hC ⟨by omega, NotU8.of hg0 hT⟩, h1, .inr ⟨g, c, cur', by rw [hlk], hb, hg', hc, hm, by rw [hs]; exact hcs, ?_⟩⟩
    rw [hlk] at htk ⊢; rw [ht]; exact htk
end Go.Proofs.YtefhfoioeoijlaaGreatDoor
namespace Go.Proofs.YtefhfoioeoijlaaGreatDoor
open Go Go.RowKit Go.Sort
section
variable {P : Program} {d : Option Tmp} {ty : TypeId} {pos : String} {af : Array Edge} {gd : Option (Nat × Bool)} {ρ : Operand → Value} {w : World}
theorem r_sliceLo {t e : TypeId} {x lo : Operand} {b o n c k sz : Nat} (hx : ρ x = .slice (some ⟨b, o, none⟩) n c) (hlo : ρ lo = .int .i64 (k : Int)) (hu : P.underlying t = some (.slice e)) (hsz : ∀ w, (sizeOf e).run P w = .ok sz w) (hk : k ≤ n) (hkc : k < c) :
    (execOp ρ ⟨d, .slice t x (some lo) none none, ty, pos, af, gd⟩).run P w = .ok (.value (.slice (some ⟨b, o + k * sz, none⟩) (n - k) (c - k))) w := by
  have h1 : (0 : Int) ≤ (k : Int) ∧ (k : Int) ≤ (n : Int) := by omega
  have h2 : ¬ c = k := by omega
  simp [execOp, hx, hlo, Instr.sliceAt, Instr.slice, Instr.sliceBounds, Instr.sliceBound, asIntOf, run_underlying hu, hsz, h1, h2, add_at, hk]
theorem r_sliceHi {t e : TypeId} {x hi : Operand} {b o n c k sz : Nat} (hx : ρ x = .slice (some ⟨b, o, none⟩) n c) (hhi : ρ hi = .int .i64 (k : Int)) (hu : P.underlying t = some (.slice e)) (hsz : ∀ w, (sizeOf e).run P w = .ok sz w) (hk : k ≤ c) :
    (execOp ρ ⟨d, .slice t x none (some hi) none, ty, pos, af, gd⟩).run P w = .ok (.value (.slice (some ⟨b, o, none⟩) k c)) w := by
  have h1 : (0 : Int) ≤ (k : Int) ∧ (k : Int) ≤ (c : Int) := by omega
  simp [execOp, hx, hhi, Instr.sliceAt, Instr.slice, Instr.sliceBounds, Instr.sliceBound, asIntOf, run_underlying hu, hsz, h1, add_at, hk]
end
theorem up_none {w w' : World} (h : w.grownBy w' none) : Up w w' := ⟨h.os, h.tape, h.output, h.size, fun k hk => h.block k hk (by simp)⟩
section
variable {T : TypeId} {ops : Array Oper} {Q : Exit → Act → World → Prop} {a : Act} {w : World} {J : Act → World → Prop} {d : Option Tmp} {ty : TypeId} {pos : String} {af : Array Edge} {gd : Option (Nat × Bool)} {B base : Nat} {L : List OpD} {t : TypeId} {i : TypeInfo} {z : Value}
theorem mkO {l c : Operand} {m : Nat} (hw : Region.wanted (⟨d, .makeSlice t l c, ty, pos, af, gd⟩ : Oper) (yielded ops a.tmps) = true) (hl : a.eval l = .int .i64 0) (hc : a.eval c = .int .i64 (m : Int)) (ht : Tryz.prog.underlying t = some (.slice T)) (hi : Tryz.prog.info? T = some i) (hz : i.zero = some z)
    (hsize : i.size = 10) (hby : i.bytes = 104) (hm : m ≤ 1000000) (hbase : base ≤ w.heap.size)
    (k : ∀ b w', b = w.heap.size → ORow T B base w' (.slice (some ⟨b, 0, none⟩) 0 m) [] → Up w w' → J (a.put d (.slice (some ⟨b, 0, none⟩) 0 m)) w') : St1 Tryz.prog ops Q ⟨d, .makeSlice t l c, ty, pos, af, gd⟩ J a w := by
  obtain ⟨w', h1, h2, h3⟩ := run_make_own (P := Tryz.prog) w base t T i z 10 ht hi hz hsize .i64 .i64 m (by rw [hby]; omega) (by unfold maxLen; omega) hbase
  refine sv hw ?_ (k _ w' rfl ⟨[], trivial, h2⟩ (up_none h3))
  simp [execOp, hl, hc, h1]
theorem fitO {s y : Operand} {g n c b : Nat} {x : OpD} {e : Value} (hw : Region.wanted (⟨d, .call ⟨.builtin .append, #[s, y], #[t, t]⟩, ty, pos, af, gd⟩ : Oper) (yielded ops a.tmps) = true) (hs : a.eval s = .slice (some ⟨g, 0, none⟩) n c) (hy : a.eval y = .slice (some ⟨b, 0, none⟩) 1 1)
    (h : ORow T B base w (.slice (some ⟨g, 0, none⟩) n c) L) (ht : Tryz.prog.underlying t = some (.slice T)) (hi : Tryz.prog.info? T = some i) (hsize : i.size = 10) (hb : w.heap[b]? = some (.cells (opC x e).toArray T (0, 0))) (hD : Dat B w e x.data) (hT : T ≠ 5) (hB : B ≤ base) (hroom : n + 1 ≤ c)
    (k : ∀ w', ORow T B base w' (.slice (some ⟨g, 0, none⟩) (n + 1) c) (L ++ [x]) → Chg w w' g → J (a.put d (.slice (some ⟨g, 0, none⟩) (n + 1) c)) w') : St1 Tryz.prog ops Q ⟨d, .call ⟨.builtin .append, #[s, y], #[t, t]⟩, ty, pos, af, gd⟩ J a w := by
  have hbg := h.ge hB
  obtain ⟨hn, _, _, cur, hg, _⟩ := h.blk
  obtain ⟨ds, hp, ho⟩ := h
  obtain ⟨dA, dn, dc, rfl⟩ := hD.form
  rw [← hn] at ho
  obtain ⟨w', h1, h2, h3⟩ := run_append_fits (P := Tryz.prog) w base t ty T i 10 ht hi hsize g n c (flatO L ds) ho ⟨b, 0, none⟩ 1 1 (opC x (.slice dA dn dc)) (by simp [opC])
    (fun j u hj => by
      rw [add_at, Nat.zero_add]
      have : (opC x (.slice dA dn dc)).toArray[j]? = some u := by simpa using hj
      simp only [World.cell?, hb]; simpa using this) (by intro u hu; simp [opC] at hu; rcases hu with rfl | rfl | rfl | rfl | rfl | rfl | rfl | rfl | rfl | rfl <;> rfl) hroom
  have hk : B ≤ g ∧ NotU8 w g := ⟨hbg, NotU8.of hg hT⟩
  refine sv hw ?_ (k w' ⟨ds ++ [.slice dA dn dc], Pair.snoc (hp.mono fun x d hd => hd.chg h3 hk) (hD.chg h3 hk), ?_⟩ h3)
  · simp [execOp, resolve, invoke, builtin, hs, hy, h1]
  · rw [flatO_snoc x _ hp.length, List.length_append, List.length_singleton, ← hn]
    exact h2
theorem clrO {x : Operand} {g n c k m q cc : Nat} (hw : Region.wanted (⟨d, .call ⟨.builtin .clear, #[x], #[t]⟩, ty, pos, af, gd⟩ : Oper) (yielded ops a.tmps) = true) (hx : a.eval x = .slice (some ⟨g, m, none⟩) q cc) (hm : m = k * 10) (hq : k + q = n) (hq0 : 0 < q)
    (h : ORow T B base w (.slice (some ⟨g, 0, none⟩) n c) L) (ht : Tryz.prog.underlying t = some (.slice T)) (hz : ∀ w, (zeroValue T).run Tryz.prog w = .ok z w) (hzs : z.cells.size = 10) (hz1 : ∀ v ∈ z.cells.toList, v.oneCell' = true) (hT : T ≠ 5) (hB : B ≤ base)
    (kk : ∀ w', ORow T B base w' (.slice (some ⟨g, 0, none⟩) k c) (L.take k) → Chg w w' g → J (a.put d (.tuple #[])) w') : St1 Tryz.prog ops Q ⟨d, .call ⟨.builtin .clear, #[x], #[t]⟩, ty, pos, af, gd⟩ J a w := by
  obtain ⟨hn, hnc, _, cur, hg, hcs⟩ := h.blk
  have hlz : (Builtin.zeroCells z.cells q).toList.length = q * 10 := by simp [Builtin.zeroCells, hzs]
  have h1 : ∀ v ∈ (Builtin.zeroCells z.cells q).toList, v.oneCell' = true := by
    intro v hv
    simp only [Builtin.zeroCells, Array.toList_map, Array.toList_range, List.mem_map, List.mem_range] at hv
    obtain ⟨j, _, rfl⟩ := hv
    have hj : j % z.cells.size < z.cells.size := Nat.mod_lt _ (by omega)
    rw [getElem!_pos z.cells _ hj]
    exact hz1 _ (by simp)
  have hst := run_storeCells_at Tryz.prog g m T (Builtin.zeroCells z.cells q).toList 0 cur w hg (by rw [hlz, hcs, hm]; omega) h1
  rw [Nat.add_zero, hlz] at hst
  have hsz : (cur.toList.take m ++ (Builtin.zeroCells z.cells q).toList ++ cur.toList.drop (m + q * 10)).toArray.size = cur.size := by
    simp only [List.size_toArray, List.length_append, List.length_take, List.length_drop, hlz, Array.length_toList, hcs, hm]; omega
  have hw' := setRow_heap w g cur (cur.toList.take m ++ (Builtin.zeroCells z.cells q).toList ++ cur.toList.drop (m + q * 10)).toArray T (0, 0) hg
  have hC : Chg w (w.setRow g (cur.toList.take m ++ (Builtin.zeroCells z.cells q).toList ++ cur.toList.drop (m + q * 10)).toArray) g := ⟨rfl, rfl, rfl, by simp, fun k _ hk => setRow_other w g k _ (fun e => hk (by rw [e]))⟩
  refine sv hw ?_ (kk _ (h.cleared (k := k) (by omega) hT hB hg hw' hsz ?_ hC) hC)
  · obtain ⟨q', rfl⟩ : ∃ q', q = q' + 1 := ⟨q - 1, by omega⟩
    simp [execOp, resolve, invoke, builtin, hx, Builtin.clear_, run_underlying ht, hz, hst]
  · rw [← hm, List.append_assoc, List.take_append_of_le_length (by simp [hcs]; omega), List.take_take, Nat.min_self]
end
theorem zero_op : ∃ z, (∀ w, (zeroValue 49).run Tryz.prog w = .ok z w) ∧ z.cells.size = 10 ∧ ∀ v ∈ z.cells.toList, v.oneCell' = true := by
  refine ⟨_, Ty.zv49, rfl, ?_⟩
  intro v hv
  simp [Value.cells] at hv
  rcases hv with rfl | rfl | rfl | rfl | rfl | rfl | rfl | rfl | rfl | rfl <;> rfl
section
variable {f : Nat → OpD}
theorem take_two {I : List Nat} {k x y : Nat} (hx : I[k]? = some x) (hy : I[k - 1]? = some y) (hk : 1 ≤ k) : I.take (k + 1) = I.take (k - 1) ++ [y] ++ [x] ∧ I.take k = I.take (k - 1) ++ [y] := by
  have h1 : I.take k = I.take (k - 1) ++ [y] := by
    have := List.take_add_one (l := I) (i := k - 1)
    rw [show k - 1 + 1 = k by omega, hy] at this
    simpa using this
  refine ⟨?_, h1⟩
  rw [List.take_add_one, hx, h1]; rfl
theorem Thin.grow {I K : List Nat} {k x y : Nat} (h : Thin f (I.take k) K) (hx : I[k]? = some x) (hy : I[k - 1]? = some y) (hk : 1 ≤ k) (hne : ¬ (f x).at_ = (f y).at_) : Thin f (I.take (k + 1)) (K ++ [x]) := by
  obtain ⟨e1, e2⟩ := take_two hx hy hk
  rw [e1]; rw [e2] at h; exact .keep h hne
theorem Thin.hold {I K : List Nat} {k x y : Nat} (h : Thin f (I.take k) K) (hx : I[k]? = some x) (hy : I[k - 1]? = some y) (hk : 1 ≤ k) (he : (f x).at_ = (f y).at_) : Thin f (I.take (k + 1)) K := by
  obtain ⟨e1, e2⟩ := take_two hx hy hk
  rw [e1]; rw [e2] at h; exact .drop h he
theorem Thin.small {I : List Nat} (h : I.length < 2) : Thin f I I := by
  match I, h with
  | [], _ => exact .nil
  | [x], _ => exact .one x
theorem Thin.first {I : List Nat} (h : 1 ≤ I.length) : Thin f (I.take 1) (I.take 1) := by
  match I, h with
  | x :: I, _ => exact .one x
theorem Thin.next {I : List Nat} {k x y : Nat} (h : Thin f (I.take k) (I.take k)) (hx : I[k]? = some x) (hy : I[k - 1]? = some y) (hk : 1 ≤ k) (hne : ¬ (f x).at_ = (f y).at_) : Thin f (I.take (k + 1)) (I.take (k + 1)) := by
  have := h.grow hx hy hk hne
  rwa [← show I.take (k + 1) = I.take k ++ [x] by rw [List.take_add_one, hx]; rfl] at this
def Comp (f : Nat → OpD) (I J : List Nat) (k0 k2 kk : Nat) : Prop := 1 ≤ k0 ∧ 1 ≤ k2 ∧ kk + 1 ≤ k0 + k2 ∧ k0 + k2 ≤ I.length ∧ J.length = I.length ∧ Thin f (I.take (k0 + k2)) (J.take kk) ∧ ∀ j, k0 + k2 ≤ j + 1 → J[j]? = I[j]?
theorem Comp.first {I : List Nat} {k x y : Nat} (h : Thin f (I.take k) (I.take k)) (hx : I[k]? = some x) (hy : I[k - 1]? = some y) (hk : 1 ≤ k) (he : (f x).at_ = (f y).at_) : Comp f I I k 1 k :=
  ⟨hk, Nat.le_refl _, Nat.le_refl _, (List.getElem?_eq_some_iff.1 hx).1, rfl, h.hold hx hy hk he, fun _ _ => rfl⟩
theorem Comp.len {I J : List Nat} {k0 k2 kk : Nat} (h : Comp f I J k0 k2 kk) : 1 ≤ k0 ∧ 1 ≤ k2 ∧ kk + 1 ≤ k0 + k2 ∧ k0 + k2 ≤ I.length ∧ J.length = I.length := ⟨h.1, h.2.1, h.2.2.1, h.2.2.2.1, h.2.2.2.2.1⟩
theorem Comp.hold {I J : List Nat} {k0 k2 kk x y : Nat} (h : Comp f I J k0 k2 kk) (hx : J[k0 + k2]? = some x) (hy : J[k0 + (k2 - 1)]? = some y) (he : (f x).at_ = (f y).at_) : Comp f I J k0 (k2 + 1) kk := by
  obtain ⟨h1, h2, h3, h4, h5, h6, h7⟩ := h
  have hlt := (List.getElem?_eq_some_iff.1 hx).1
  rw [h7 _ (by omega)] at hx hy
  rw [show k0 + (k2 - 1) = k0 + k2 - 1 by omega] at hy
  exact ⟨h1, by omega, by omega, by omega, h5, h6.hold hx hy (by omega) he, fun j hj => h7 j (by omega)⟩
theorem Comp.grow {I J : List Nat} {k0 k2 kk x y u : Nat} (h : Comp f I J k0 k2 kk) (hx : J[k0 + k2]? = some x) (hy : J[k0 + (k2 - 1)]? = some y) (hne : ¬ (f x).at_ = (f y).at_) (hu : J[k0 + k2]? = some u) : Comp f I (J.set kk u) k0 (k2 + 1) (kk + 1) := by
  obtain ⟨h1, h2, h3, h4, h5, h6, h7⟩ := h
  have hlt := (List.getElem?_eq_some_iff.1 hx).1
  have hux : u = x := Option.some.inj (hu.symm.trans hx)
  subst hux
  have hx' := hx
  rw [h7 _ (by omega)] at hx hy
  rw [show k0 + (k2 - 1) = k0 + k2 - 1 by omega] at hy
  refine ⟨h1, by omega, by omega, by omega, by simpa using h5, ?_, fun j hj => ?_⟩
  · have e : (J.set kk u).take (kk + 1) = J.take kk ++ [u] := by
      rw [List.take_add_one, List.getElem?_set_self (by omega), List.take_set_of_le (Nat.le_refl _)]; rfl
    rw [e]; exact h6.grow hx hy (by omega) hne
  · rw [List.getElem?_set_ne (by omega)]; exact h7 j (by omega)
theorem Comp.fin {I J : List Nat} {k0 k2 kk : Nat} (h : Comp f I J k0 k2 kk) (hk : I.length ≤ k0 + k2) : Thin f I (J.take kk) := by
  have := h.2.2.2.2.2.1
  rwa [List.take_of_length_le hk] at this
end
end Go.Proofs.YtefhfoioeoijlaaGreatDoor

/- Rws -/
import Derived.LoopIn
import Derived.LoopNIn
import Derived.Maps.AppendAt
import Derived.OwnWalkIn
import Derived.RangeFuncBound
import Derived.RangeFuncCalls
import Derived.RangeFuncGives
import Derived.RangeFuncLeaves
import Derived.RangeFuncNested
import Derived.Shelf.Abstract
import Derived.Shelf.RegionOpen
import Derived.Shelf.SlSortCmp.NoneTotal
import Derived.TacticsInMore
import Derived.Test.YtefhfoioeoijlaaGreatDoorUaa
import Derived.Test.YtefhfoioeoijlaaGreatDoorUab
import Derived.Test.YtefhfoioeoijlaaGreatDoorUac
import Derived.Test.YtefhfoioeoijlaaGreatDoorUad
import Derived.Test.YtefhfoioeoijlaaGreatDoorUae
set_option linter.unusedVariables false
set_option linter.unusedSimpArgs false
namespace Go.Proofs.YtefhfoioeoijlaaGreatDoor
open Go.RowKit Go.Sort
theorem does_at {B : Nat} {w : World} {tb r : Nat} {L : List Item} (h : TreeIs B w tb r L) (hB : B ≤ w.heap.size) (o : OpD) (oA : Option Addr) (on oc : Nat) (hDo : Dat B w (.slice oA on oc) o.data)
    (x : Item) (xA : Option Addr) (xn xc : Nat) (hDx : Dat B w (.slice xA xn xc) x.data) (F : Nat) (hF : F = if o.kind = 1 then 68 else if o.kind = 2 then 69 else if o.kind = 3 then 70 else 67) :
    Calls Tryz.prog F #[trP tb, itV x (.slice xA xn xc), opV o (.slice oA on oc)] w fun e w' =>
      ∃ dA dn dc, e = .returned (.tuple #[itV (nowI L x o).1 (.slice dA dn dc), .bool (nowI L x o).2]) ∧ Dat B w' (.slice dA dn dc) (nowI L x o).1.data ∧ Below w.heap.size w w' := by
  unfold nowI
  by_cases h1 : o.kind = 1
  · rw [if_pos h1] at hF
    subst hF
    simp only [h1, if_true]
    refine (make_at h x o xA xn xc oA on oc).mono ?_
    rintro e w' ⟨rfl, hb⟩
    exact ⟨none, 0, 0, rfl, Dat.nil B w', hb⟩
  · rw [if_neg h1] at hF
    by_cases h2 : o.kind = 2
    · rw [if_pos h2] at hF
      subst hF
      simp only [h1, h2, if_true, if_false]
      refine (move_at h x o xA xn xc oA on oc).mono ?_
      rintro e w' ⟨rfl, hb⟩
      exact ⟨xA, xn, xc, by simp [h2], by simpa [h2] using hDx.up hb, hb⟩
    · rw [if_neg h2] at hF
      by_cases h3 : o.kind = 3
      · rw [if_pos h3] at hF
        subst hF
        refine (remove_at tb x o xA xn xc oA on oc).mono ?_
        rintro e w' ⟨rfl, hb⟩
        exact ⟨xA, xn, xc, by simp [h3], by simpa [h3] using hDx.up hb, hb⟩
      · rw [if_neg h3] at hF
        subst hF
        refine (write_at hB tb x o xA xn xc oA on oc hDo).mono ?_
        rintro e w' ⟨d', rfl, hD, hb⟩
        obtain ⟨dA, dn, dc, rfl⟩ := hD.form
        exact ⟨dA, dn, dc, by simp [h1, h2, h3], by simpa [h1, h2, h3] using hD, hb⟩
def doI (L : List Item) (o : OpD) : (Item × Bool × Int) × List Item :=
  if rightB o = false then ((nilI, false, 1), L)
  else if (nowI L (gotI L o.node) o).2 = true ∧ hasI L o.node = false ∧ 300 ≤ L.length then ((nilI, false, 3), L)
  else ((gotI L o.node, hasI L o.node, 0), if (nowI L (gotI L o.node) o).2 = true then putI (nowI L (gotI L o.node) o).1 L else L)
theorem nowI_node {L : List Item} {x : Item} {o : OpD} (h : (nowI L x o).2 = true) : (nowI L x o).1.node = o.node := by
  unfold nowI at h ⊢
  split at h
  · rename_i h1; simp [h1]
  · rename_i h1
    split at h
    · rename_i h2; simp [h2] at h ⊢; exact h.1
    · rename_i h2
      split at h
      · rename_i h3; simp [h3] at h ⊢; exact h
      · rename_i h3; simp [h1, h2, h3] at h ⊢; exact h.1
theorem item_cells {W : World} {b : Nat} {e : TypeId} {v0 v1 v2 v3 v4 v5 v6 v7 v8 v9 : Value} (h : W.heap[b]? = some (.cells #[v0, v1, v2, v3, v4, v5, v6, v7, v8, v9] e (0, 0))) :
    (W.cell? ⟨b, 0, none⟩ = some v0 ∧ W.cell? ⟨b, 1, none⟩ = some v1 ∧ W.cell? ⟨b, 2, none⟩ = some v2 ∧ W.cell? ⟨b, 3, none⟩ = some v3 ∧ W.cell? ⟨b, 4, none⟩ = some v4 ∧ W.cell? ⟨b, 5, none⟩ = some v5 ∧
     W.cell? ⟨b, 6, none⟩ = some v6 ∧ W.cell? ⟨b, 7, none⟩ = some v7 ∧ W.cell? ⟨b, 8, none⟩ = some v8 ∧ W.cell? ⟨b, 9, none⟩ = some v9) ∧ (∀ k, W.frozen? ⟨b, k, none⟩ = false) := by
  refine ⟨⟨?_, ?_, ?_, ?_, ?_, ?_, ?_, ?_, ?_, ?_⟩, fun k => ?_⟩ <;> simp [World.cell?, World.frozen?, h]
end Go.Proofs.YtefhfoioeoijlaaGreatDoor
namespace Go.Proofs.YtefhfoioeoijlaaGreatDoor
open Go.RowKit Go.Sort
def flatI : List Item → List Value → List Value
  | x :: L, d :: ds => itC x d ++ flatI L ds
  | _, _ => []
theorem flatI_snoc : ∀ {L : List Item} {ds : List Value} (x : Item) (d : Value), L.length = ds.length → flatI (L ++ [x]) (ds ++ [d]) = flatI L ds ++ itC x d
  | [], [], x, d, _ => by simp [flatI]
  | y :: L, e :: ds, x, d, h => by simp [flatI, flatI_snoc x d (by simpa using h : L.length = ds.length)]
theorem flatI_length : ∀ {L : List Item} {ds : List Value}, L.length = ds.length → (flatI L ds).length = L.length * 10
  | [], [], _ => rfl
  | y :: L, e :: ds, h => by
    have := flatI_length (by simpa using h : L.length = ds.length)
    simp [flatI, itC, this]; omega
theorem flatI_get : ∀ {L : List Item} {ds : List Value} {i k : Nat} {x : Item} {d : Value}, L[i]? = some x → ds[i]? = some d → k < 10 → (flatI L ds)[i * 10 + k]? = (itC x d)[k]?
  | y :: L, e :: ds, 0, k, x, d, h1, h2, hk => by
    simp at h1 h2
    subst h1; subst h2
    simp only [flatI, Nat.zero_mul, Nat.zero_add]
    rw [List.getElem?_append_left (by simpa [itC] using hk)]
  | y :: L, e :: ds, i + 1, k, x, d, h1, h2, hk => by
    simp only [flatI]
    rw [List.getElem?_append_right (by simp [itC]; omega)]
    rw [show (i + 1) * 10 + k - (itC y e).length = i * 10 + k by simp [itC]; omega]
    exact flatI_get (by simpa using h1) (by simpa using h2) hk
def RowI (B base : Nat) (w : World) (v : Value) (L : List Item) : Prop :=
  ∃ ds, Pair (fun x d => Dat B w d x.data) L ds ∧ w.ownsRow base 127 10 v L.length (flatI L ds)
theorem RowI.nil (B base : Nat) (w : World) : RowI B base w (.slice none 0 0) [] := ⟨[], trivial, World.ownsRow_nil w base _ 10⟩
def RIs (B : Nat) (w : World) (ub : Nat) (L : List Item) : Prop :=
  B ≤ ub ∧ ∃ v, w.heap[ub]? = some (.cells #[v] 126 (0, 0)) ∧ RowI B B w v L ∧ v.ownBlock ≠ some ub ∧ L.length ≤ 300
theorem Pair.ex : ∀ {α β : Type} {R : α → β → Prop} {ps : List α} {qs : List β} {k : Nat} {a : α}, Pair R ps qs → ps[k]? = some a → ∃ b, qs[k]? = some b ∧ R a b
  | _, _, R, a :: ps, b :: qs, 0, x, h, h1 => by simp at h1; subst h1; exact ⟨b, by simp, h.1⟩
  | _, _, R, a :: ps, b :: qs, k + 1, x, h, h1 => by
    obtain ⟨c, h2, h3⟩ := Pair.ex (k := k) h.2 (by simpa using h1)
    exact ⟨c, by simpa using h2, h3⟩
theorem RowI.keep {B base : Nat} {w w' : World} {v : Value} {L : List Item} (h : RowI B base w v L) {q : Option Nat} (hg : w.grownBy w' q) (hv : v.ownBlock = none ∨ v.ownBlock ≠ q)
    (hq : ∀ k, q = some k → B ≤ k ∧ NotU8 w k) : RowI B base w' v L := by
  obtain ⟨ds, hp, ho⟩ := h
  refine ⟨ds, hp.mono fun x d hd => ?_, ho.kept hg hv⟩
  cases q with
  | none => exact hd.keep hg.size fun b hb _ => hg.block b hb (by simp)
  | some k => exact hd.grown hg (hq k rfl).1 (hq k rfl).2
theorem RowI.up {B base : Nat} {w w' : World} {v : Value} {L : List Item} (h : RowI B base w v L) (hb : Below w.heap.size w w') : RowI B base w' v L :=
  h.keep (q := none) ⟨hb.os, hb.tape, hb.output, hb.size, fun k hk _ => hb.block k hk⟩ (by cases hv : v.ownBlock <;> simp) (by simp)
theorem RowI.form {B base : Nat} {w : World} {v : Value} {L : List Item} (h : RowI B base w v L) : ∃ A c, v = .slice A L.length c := by
  obtain ⟨ds, _, _, ⟨rfl, h0⟩ | ⟨g, cap, cur, rfl, _⟩⟩ := h
  · exact ⟨none, 0, by rw [h0]⟩
  · exact ⟨_, cap, rfl⟩
theorem RowI.get {B base : Nat} {w : World} {v : Value} {L : List Item} (h : RowI B base w v L) {i : Nat} {x : Item} (hi : L[i]? = some x) :
    ∃ g cap dA dn dc, v = .slice (some ⟨g, 0, none⟩) L.length cap ∧ L.length ≤ cap ∧ base ≤ g ∧ g < w.heap.size ∧ Dat B w (.slice dA dn dc) x.data ∧ ∀ k u, (itC x (.slice dA dn dc))[k]? = some u → w.cell? ⟨g, i * 10 + k, none⟩ = some u := by
  obtain ⟨ds, hp, ho⟩ := h
  obtain ⟨d, hd, hD⟩ := hp.ex hi
  obtain ⟨dA, dn, dc, rfl⟩ := hD.form
  have hil := (List.getElem?_eq_some_iff.1 hi).1
  rcases ho.2 with ⟨rfl, h0⟩ | ⟨g, cap, cur, rfl, hb, hg, hc, hm, hcs, htk⟩
  · omega
  · refine ⟨g, cap, dA, dn, dc, rfl, hc, hb, (Array.getElem?_eq_some_iff.1 hg).1, hD, fun k u hk => ?_⟩
    have hk10 : k < 10 := by have := (List.getElem?_eq_some_iff.1 hk).1; simpa [itC] using this
    have := ho.cells (g := g) rfl (i * 10 + k) u (by rw [flatI_get hi hd hk10]; exact hk)
    rwa [show (⟨g, 0, none⟩ : Addr).add (i * 10 + k) = ⟨g, i * 10 + k, none⟩ by unfold Addr.add; split <;> simp_all] at this
theorem RIs.up {B : Nat} {w w' : World} {ub : Nat} {L : List Item} (h : RIs B w ub L) (hb : Below w.heap.size w w') : RIs B w' ub L := by
  obtain ⟨h0, v, h1, h2, h3⟩ := h
  exact ⟨h0, v, (hb.block ub (Array.getElem?_eq_some_iff.1 h1).1).trans h1, h2.up hb, h3⟩
def idxI (L : List Item) (n : Stamp) : Nat := L.findIdx fun x => decide (x.node = n)
def placeI (L : List Item) (n : Stamp) : Int := if idxI L n < L.length then (idxI L n : Int) else -1
theorem placeI_at {L : List Item} {n : Stamp} {k : Nat} {x : Item} (hx : L[k]? = some x) (e : x.node = n) (h : ∀ (j : Nat) (y : Item), j < k → L[j]? = some y → y.node ≠ n) : placeI L n = k := by
  have hk := (List.getElem?_eq_some_iff.1 hx).1
  have : idxI L n = k := by
    unfold idxI
    rw [List.findIdx_eq hk]
    refine ⟨by have := (List.getElem?_eq_some_iff.1 hx).2; simp [this, e], fun j hj => ?_⟩
    have := h j L[j] hj (List.getElem?_eq_getElem (by omega))
    simp [this]
  unfold placeI
  rw [this, if_pos hk]
theorem placeI_none {L : List Item} {n : Stamp} (h : ∀ (j : Nat) (y : Item), L[j]? = some y → y.node ≠ n) : placeI L n = -1 := by
  unfold placeI
  rw [if_neg]
  intro hl
  have h1 := List.findIdx_getElem (w := hl)
  have := h _ _ (List.getElem?_eq_getElem hl)
  simp at h1
  exact this h1
end Go.Proofs.YtefhfoioeoijlaaGreatDoor
namespace Go.Proofs.YtefhfoioeoijlaaGreatDoor
open Go Go.RowKit Go.Sort
theorem stamp_noguard : Tryz.prog.eqGuardType Tryz.prog.depth 24 = false := by kernel_rfl
theorem stamp_eq' (a b c e : Int) (w : World) : (Op.equal 24 (.agg #[.int .i64 a, .int .i64 b]) (.agg #[.int .i64 c, .int .i64 e])).run Tryz.prog w = .ok (decide ((⟨a, b⟩ : Stamp) = ⟨c, e⟩)) w := stamp_equal ⟨a, b⟩ ⟨c, e⟩ w
section
variable {d : Option Tmp} {ty : TypeId} {pos : String} {af : Array Edge} {g : Option (Nat × Bool)} {ρ : Operand → Value} {w : World}
theorem r_eqS {x y : Operand} {yt : TypeId} {a b c e : Int} (hx : ρ x = .agg #[.int .i64 a, .int .i64 b]) (hy : ρ y = .agg #[.int .i64 c, .int .i64 e]) :
    (execOp ρ ⟨d, .binOp .eql 24 x y yt, ty, pos, af, g⟩).run Tryz.prog w = .ok (.value (.bool (decide ((⟨a, b⟩ : Stamp) = ⟨c, e⟩)))) w := by
  have h := stamp_eq' a b c e w
  simp [execOp, hx, hy, eqGuard, stamp_noguard, binOp, h]
theorem r_neS {x y : Operand} {yt : TypeId} {a b c e : Int} (hx : ρ x = .agg #[.int .i64 a, .int .i64 b]) (hy : ρ y = .agg #[.int .i64 c, .int .i64 e]) :
    (execOp ρ ⟨d, .binOp .neq 24 x y yt, ty, pos, af, g⟩).run Tryz.prog w = .ok (.value (.bool (decide ((⟨a, b⟩ : Stamp) ≠ ⟨c, e⟩)))) w := by
  have h := stamp_eq' a b c e w
  simp [execOp, hx, hy, eqGuard, stamp_noguard, binOp, h]
theorem r_look {x k : Operand} {ok : Bool} {mv kv v : Value} (hx : ρ x = mv) (hk : ρ k = kv) (h : (Instr.lookup 106 mv kv ok).run Tryz.prog w = .ok v w) :
    (execOp ρ ⟨d, .lookup 106 x k ok, ty, pos, af, g⟩).run Tryz.prog w = .ok (.value v) w := by
  simp [execOp, hx, hk, h]
end
theorem up_up {a b c : World} (h : Up a b) (k : Up b c) : Up a c := ⟨k.os.trans h.os, k.tape.trans h.tape, k.output.trans h.output, Nat.le_trans h.size k.size, fun i hi => (k.block i (Nat.lt_of_lt_of_le hi h.size)).trans (h.block i hi)⟩
theorem up_chgn {a b c : World} {q : Nat} (h : Up a b) (k : Chg b c q) (hq : a.heap.size ≤ q) : Up a c :=
  ⟨k.os.trans h.os, k.tape.trans h.tape, k.output.trans h.output, Nat.le_trans h.size k.size, fun i hi => (k.block i (Nat.lt_of_lt_of_le hi h.size) (by intro e; injection e with e; omega)).trans (h.block i hi)⟩
def tget : List Value → Nat → Value
  | [], _ => undef
  | v :: _, 0 => v
  | _ :: l, n + 1 => tget l n
end Go.Proofs.YtefhfoioeoijlaaGreatDoor
namespace Go.Proofs.YtefhfoioeoijlaaGreatDoor
open Go Go.RowKit Go.Sort
def IRow (T : TypeId) (B base : Nat) (w : World) (v : Value) (L : List Item) : Prop :=
  ∃ ds, Pair (fun x d => Dat B w d x.data) L ds ∧ w.ownsRow base T 10 v L.length (flatI L ds)
theorem rowI_is (B base : Nat) (w : World) (v : Value) (L : List Item) : RowI B base w v L = IRow 127 B base w v L := rfl
theorem IRow.nil (T : TypeId) (B base : Nat) (w : World) : IRow T B base w (.slice none 0 0) [] := ⟨[], trivial, World.ownsRow_nil w base _ 10⟩
theorem IRow.keep {T : TypeId} {B base : Nat} {w w' : World} {v : Value} {L : List Item} (h : IRow T B base w v L) {q : Option Nat} (hg : w.grownBy w' q) (hv : v.ownBlock = none ∨ v.ownBlock ≠ q)
    (hq : ∀ k, q = some k → B ≤ k ∧ NotU8 w k) : IRow T B base w' v L := by
  obtain ⟨ds, hp, ho⟩ := h
  refine ⟨ds, hp.mono fun x d hd => ?_, ho.kept hg hv⟩
  cases q with
  | none => exact hd.keep hg.size fun b hb _ => hg.block b hb (by simp)
  | some k => exact hd.grown hg (hq k rfl).1 (hq k rfl).2
theorem IRow.up {T : TypeId} {B base : Nat} {w w' : World} {v : Value} {L : List Item} (h : IRow T B base w v L) (hb : Up w w') : IRow T B base w' v L :=
  h.keep (q := none) ⟨hb.os, hb.tape, hb.output, hb.size, fun k hk _ => hb.block k hk⟩ (by cases hv : v.ownBlock <;> simp) (by simp)
theorem IRow.chg {T : TypeId} {B base : Nat} {w w' : World} {v : Value} {L : List Item} {b : Nat} (h : IRow T B base w v L) (c : Chg w w' b) (hb : B ≤ b) (hn : NotU8 w b) (hne : v.ownBlock ≠ some b) : IRow T B base w' v L :=
  h.keep c (.inr hne) (fun k e => by injection e with e; subst e; exact ⟨hb, hn⟩)
theorem IRow.form {T : TypeId} {B base : Nat} {w : World} {v : Value} {L : List Item} (h : IRow T B base w v L) : ∃ A c, v = .slice A L.length c := by
  obtain ⟨ds, _, _, ⟨rfl, h0⟩ | ⟨g, cap, cur, rfl, _⟩⟩ := h
  · exact ⟨none, 0, by rw [h0]⟩
  · exact ⟨_, cap, rfl⟩
theorem IRow.base {T : TypeId} {B base base' : Nat} {w : World} {v : Value} {L : List Item} (h : IRow T B base w v L) (hb : base' ≤ base) : IRow T B base' w v L := by
  obtain ⟨ds, hp, h1, h2⟩ := h
  refine ⟨ds, hp, h1, ?_⟩
  rcases h2 with hn | ⟨g, cap, cur, hv, hbg, rest⟩
  · exact .inl hn
  · exact .inr ⟨g, cap, cur, hv, Nat.le_trans hb hbg, rest⟩
theorem IRow.own {T : TypeId} {B base : Nat} {w : World} {v : Value} {L : List Item} (h : IRow T B base w v L) : ∀ k, v.ownBlock = some k → base ≤ k ∧ k < w.heap.size := by
  obtain ⟨ds, _, ho⟩ := h; exact ho.lt
theorem IRow.ne_old {T : TypeId} {B base b : Nat} {w : World} {v : Value} {L : List Item} (h : IRow T B base w v L) (e : b < base) : v.ownBlock ≠ some b := fun hh => by have := (h.own _ hh).1; omega
theorem IRow.get {T : TypeId} {B base : Nat} {w : World} {v : Value} {L : List Item} (h : IRow T B base w v L) {i : Nat} {x : Item} (hi : L[i]? = some x) :
    ∃ g cap cur dA dn dc, v = .slice (some ⟨g, 0, none⟩) L.length cap ∧ base ≤ g ∧ w.heap[g]? = some (.cells cur T (0, 0)) ∧ (cur.toList.drop (i * 10)).take 10 = itC x (.slice dA dn dc) ∧ Dat B w (.slice dA dn dc) x.data := by
  obtain ⟨ds, hp, ho⟩ := h
  obtain ⟨d, hd, hD⟩ := hp.ex hi
  obtain ⟨dA, dn, dc, rfl⟩ := hD.form
  have hil := (List.getElem?_eq_some_iff.1 hi).1
  rcases ho.2 with ⟨rfl, h0⟩ | ⟨g, cap, cur, rfl, hb, hg, hc, hm, hcs, htk⟩
  · omega
  · refine ⟨g, cap, cur, dA, dn, dc, rfl, hb, hg, ?_, hD⟩
    have hl := flatI_length hp.length
    apply List.ext_getElem?
    intro j
    by_cases hj : j < 10
    · rw [List.getElem?_take, if_pos hj, List.getElem?_drop, ← flatI_get hi hd hj, ← htk, List.getElem?_take, if_pos (by omega)]
    · rw [List.getElem?_eq_none (by simp; omega), List.getElem?_eq_none (by simp [itC]; omega)]
theorem el_get {l vs : List Value} {k m : Nat} (h : (l.drop k).take m = vs) (j : Nat) {u : Value} (hu : vs[j]? = some u) : l[k + j]? = some u := by
  rw [← h, List.getElem?_take] at hu
  split at hu
  · rw [List.getElem?_drop] at hu; exact hu
  · cases hu
theorem el_sub0 {l vs us : List Value} {k m : Nat} (h : (l.drop k).take m = vs) (hu : (vs.drop 0).take us.length = us) : (l.drop k).take us.length = us := by
  rw [← h, List.drop_zero, List.take_take] at hu
  have hm : us.length ≤ m := by
    have := congrArg List.length hu
    simp only [List.length_take, List.length_drop] at this
    omega
  rwa [Nat.min_eq_left hm] at hu
theorem el_sub {l vs us : List Value} {k m : Nat} (h : (l.drop k).take m = vs) (j : Nat) (hu : (vs.drop j).take us.length = us) : (l.drop (k + j)).take us.length = us := by
  rw [← h, List.drop_take, List.drop_drop, List.take_take] at hu
  have hm : us.length ≤ m - j := by
    have := congrArg List.length hu
    simp only [List.length_take, List.length_drop] at this
    omega
  rwa [Nat.min_eq_left hm] at hu
theorem r_ixaddr' {P : Program} {d : Option Tmp} {ty : TypeId} {pos : String} {af : Array Edge} {gd : Option (Nat × Bool)} {ρ : Operand → Value} {w : World} {t e : TypeId} {x i : Operand} {A : Option Addr} {b o n c m sz : Nat} {j : Int} (hx : ρ x = .slice A n c) (hA : A = some ⟨b, o, none⟩) (hi : ρ i = .int .i64 j) (hu : P.underlying t = some (.slice e)) (hsz : ∀ w, (sizeOf e).run P w = .ok sz w)
    (h0 : 0 ≤ j) (h1 : j < n) (hm : o + j.toNat * sz = m) : (execOp ρ ⟨d, .indexAddr t x i, ty, pos, af, gd⟩).run P w = .ok (.value (.pointer (some ⟨b, m, none⟩))) w := by
  subst hA; exact r_ixaddr hx hi hu hsz h0 h1 hm
theorem Dat.len {B : Nat} {w : World} {A : Option Addr} {n c : Nat} {xs : List Int} (h : Dat B w (.slice A n c) xs) : xs.length = n ∧ n ≤ 140737488351232 := by
  obtain ⟨A', n', c', e, h1, h2, h3, h4, h5⟩ := h
  injection e with e1 e2 e3
  subst e2; exact ⟨h1, h3⟩
theorem Dat.chg {B : Nat} {w w' : World} {d : Value} {xs : List Int} {b : Nat} (h : Dat B w d xs) (c : Chg w w' b) (hc : B ≤ b ∧ NotU8 w b) : Dat B w' d xs := h.grown c hc.1 hc.2
theorem IRow.snoc {T : TypeId} {B base : Nat} {w : World} {v : Value} {L : List Item} (h : IRow T B base w v L) {t ty : TypeId} {i : TypeInfo} {z : Value} (ht : Tryz.prog.underlying t = some (.slice T)) (hi : Tryz.prog.info? T = some i) (hz : i.zero = some z)
    (hsize : i.size = 10) (hby : i.bytes = 96) (hzs : z.cells.size = 10) {b : Nat} {x : Item} {d : Value} (hb : w.heap[b]? = some (.cells (itC x d).toArray T (0, 0))) (hD : Dat B w d x.data) (hT : T ≠ 5) (hB : B ≤ base) (hbase : base ≤ w.heap.size) (hlen : L.length ≤ 100000) :
    ∃ v' w', (Builtin.append_ #[t, t] ty #[v, .slice (some ⟨b, 0, none⟩) 1 1]).run Tryz.prog w = .ok v' w' ∧ IRow T B base w' v' (L ++ [x]) ∧ w.grownBy w' v.ownBlock ∧ v' ≠ .slice none 0 0 := by
  obtain ⟨ds, hp, ho⟩ := h
  obtain ⟨dA, dn, dc, rfl⟩ := hD.form
  obtain ⟨v', w', h1, h2, h3, h4⟩ := run_append_own (P := Tryz.prog) w base t ty T i z 10 96 ht hi hz hsize hby hzs (by decide) v L.length (flatI L ds) ho ⟨b, 0, none⟩ 1 1 (itC x (.slice dA dn dc)) (by simp [itC])
    (fun j u hj => by
      rw [add_at, Nat.zero_add]
      have : (itC x (.slice dA dn dc)).toArray[j]? = some u := by simpa using hj
      simp only [World.cell?, hb]; simpa using this) (by intro u hu; simp [itC] at hu; rcases hu with rfl | rfl | rfl | rfl | rfl | rfl | rfl | rfl | rfl | rfl <;> rfl) (by unfold maxLen; omega) (by omega) hbase
  refine ⟨v', w', h1, ⟨ds ++ [.slice dA dn dc], ?_, ?_⟩, h3, fun e => by have := (h4.1 e).2; omega⟩
  · have hk : ∀ k, v.ownBlock = some k → base ≤ k ∧ NotU8 w k := by
      intro k hk
      rcases ho.2 with ⟨rfl, _⟩ | ⟨g, cap, cur, rfl, hbg, hg, _⟩
      · simp [Value.ownBlock] at hk
      · simp [Value.ownBlock] at hk; subst hk; exact ⟨hbg, NotU8.of hg hT⟩
    have hdat : ∀ d xs, Dat B w d xs → Dat B w' d xs := fun d xs hd => by
      cases hv : v.ownBlock with
      | none => rw [hv] at h3; exact hd.keep h3.size fun b hb _ => h3.block b hb (by simp)
      | some k => rw [hv] at h3; exact hd.grown h3 (by have := (hk k hv).1; omega) (hk k hv).2
    exact Pair.snoc (hp.mono fun x d hd => hdat _ _ hd) (hdat _ _ hD)
  · rw [flatI_snoc x _ hp.length]
    simpa using h2
theorem snI {T : TypeId} {ops : Array Oper} {Q : Exit → Act → World → Prop} {a : Act} {w : World} {J : Act → World → Prop} {d : Option Tmp} {ty : TypeId} {pos : String} {af : Array Edge} {g : Option (Nat × Bool)}
    {B base : Nat} {v : Value} {L : List Item} {t : TypeId} {s y : Operand} {i : TypeInfo} {z : Value} {b : Nat} {x : Item} {e : Value}
    (hw : Region.wanted (⟨d, .call ⟨.builtin .append, #[s, y], #[t, t]⟩, ty, pos, af, g⟩ : Oper) (yielded ops a.tmps) = true) (hs : a.eval s = v) (hy : a.eval y = .slice (some ⟨b, 0, none⟩) 1 1)
    (h : IRow T B base w v L) (ht : Tryz.prog.underlying t = some (.slice T)) (hi : Tryz.prog.info? T = some i) (hz : i.zero = some z)
    (hsize : i.size = 10) (hby : i.bytes = 96) (hzs : z.cells.size = 10) (hb : w.heap[b]? = some (.cells (itC x e).toArray T (0, 0))) (hD : Dat B w e x.data) (hT : T ≠ 5) (hB : B ≤ base) (hbase : base ≤ w.heap.size) (hlen : L.length ≤ 100000)
    (k : ∀ A n c w', n = (L ++ [x]).length → IRow T B base w' (.slice A n c) (L ++ [x]) → w.grownBy w' v.ownBlock → J (a.put d (.slice A n c)) w') : St1 Tryz.prog ops Q ⟨d, .call ⟨.builtin .append, #[s, y], #[t, t]⟩, ty, pos, af, g⟩ J a w := by
  obtain ⟨v', w', h1, h2, h3, h4⟩ := h.snoc (ty := ty) ht hi hz hsize hby hzs hb hD hT hB hbase hlen
  obtain ⟨A, c, rfl⟩ := h2.form
  refine sv hw ?_ (k A _ c w' rfl h2 h3)
  simp [execOp, resolve, invoke, builtin, hs, hy, h1]
theorem info_item : ∃ i z, Tryz.prog.info? 42 = some i ∧ i.zero = some z ∧ i.size = 10 ∧ i.bytes = 96 ∧ z.cells.size = 10 := by
  have h : (Tryz.prog.info? 42).map (fun i => (i.zero.map (·.cells.size), i.size, i.bytes)) = some (some 10, 10, 96) := by kernel_rfl
  cases hi : Tryz.prog.info? 42 with
  | none => rw [hi] at h; cases h
  | some i =>
    rw [hi] at h; simp at h
    obtain ⟨⟨z, hz, h1⟩, h2, h3⟩ := h
    exact ⟨i, z, rfl, hz, h2, h3, h1⟩
theorem info_ritem : ∃ i z, Tryz.prog.info? 127 = some i ∧ i.zero = some z ∧ i.size = 10 ∧ i.bytes = 96 ∧ z.cells.size = 10 := by
  have h : (Tryz.prog.info? 127).map (fun i => (i.zero.map (·.cells.size), i.size, i.bytes)) = some (some 10, 10, 96) := by kernel_rfl
  cases hi : Tryz.prog.info? 127 with
  | none => rw [hi] at h; cases h
  | some i =>
    rw [hi] at h; simp at h
    obtain ⟨⟨z, hz, h1⟩, h2, h3⟩ := h
    exact ⟨i, z, rfl, hz, h2, h3, h1⟩
theorem tk {L : List Item} {k : Nat} {x : Item} (h : L[k]? = some x) : L.take (k + 1) = L.take k ++ [x] := by rw [List.take_add_one, h]; rfl
end Go.Proofs.YtefhfoioeoijlaaGreatDoor
namespace Go.Proofs.YtefhfoioeoijlaaGreatDoor
open Go.RowKit
def stepI (it : Item) (p : List Item × Bool) (x : Item) : List Item × Bool :=
  if (!p.2 && lessS it.node x.node) = true then (if x.node = it.node then (p.1 ++ [it], true) else (p.1 ++ [it] ++ [x], true))
  else (if x.node = it.node then p else (p.1 ++ [x], p.2))
def foldI (it : Item) (there : Bool) (L : List Item) : List Item × Bool := L.foldl (stepI it) ([], !there)
def setI (it : Item) (there : Bool) (L : List Item) : List Item := if (foldI it there L).2 then (foldI it there L).1 else (foldI it there L).1 ++ [it]
theorem fold1 {it : Item} {there : Bool} {L : List Item} {k : Nat} {x : Item} (h : L[k]? = some x) : foldI it there (L.take (k + 1)) = stepI it (foldI it there (L.take k)) x := by
  unfold foldI; rw [tk h, List.foldl_append]; rfl
section
variable {it x : Item} {p : List Item × Bool}
theorem step_in (hi : p.2 = true) (hn : x.node ≠ it.node) : stepI it p x = (p.1 ++ [x], true) := by simp [stepI, hi, hn]
theorem step_in' (hi : p.2 = true) (hn : x.node = it.node) : stepI it p x = (p.1, true) := by cases p; simp at hi; simp [stepI, hi, hn]
theorem step_lt (hi : p.2 = false) (hl : lessS it.node x.node = true) (hn : x.node ≠ it.node) : stepI it p x = (p.1 ++ [it] ++ [x], true) := by simp [stepI, hi, hl, hn]
theorem step_lt' (hi : p.2 = false) (hl : lessS it.node x.node = true) (hn : x.node = it.node) : stepI it p x = (p.1 ++ [it], true) := by unfold stepI; rw [hi, hl, if_pos (by rfl), if_pos hn]
theorem step_ge (hi : p.2 = false) (hl : lessS it.node x.node = false) (hn : x.node ≠ it.node) : stepI it p x = (p.1 ++ [x], false) := by simp [stepI, hi, hl, hn]
theorem step_ge' (hi : p.2 = false) (hl : lessS it.node x.node = false) (hn : x.node = it.node) : stepI it p x = (p.1, false) := by unfold stepI; rw [if_neg (by rw [hi, hl]; simp), if_pos hn]; cases p; simp at hi; rw [hi]
end
theorem lessS_eq (a b : Stamp) : lessS a b = ltS a b := rfl
theorem fold_in (it : Item) : ∀ (L acc : List Item), L.foldl (stepI it) (acc, true) = (acc ++ L.filter (fun x => !decide (x.node = it.node)), true)
  | [], acc => by simp
  | x :: L, acc => by
    rw [List.foldl_cons]
    by_cases h : x.node = it.node
    · rw [step_in' rfl h, fold_in it L]; simp [h]
    · rw [step_in rfl h, fold_in it L]; simp [h]
theorem filter_none {it : Item} {L : List Item} (h : ∀ x ∈ L, x.node ≠ it.node) : L.filter (fun x => !decide (x.node = it.node)) = L := by
  rw [List.filter_eq_self]; intro x hx; simpa using h x hx
theorem fold_out (it : Item) : ∀ (L acc : List Item), Srt L → (let p := L.foldl (stepI it) (acc, false); if p.2 then p.1 else p.1 ++ [it]) = acc ++ putI it L
  | [], acc, _ => by simp [putI]
  | x :: L, acc, h => by
    obtain ⟨h1, h2⟩ := List.pairwise_cons.1 h
    rw [List.foldl_cons]
    by_cases hl : lessS it.node x.node = true
    · have hn : x.node ≠ it.node := fun e => by rw [e, lessS_eq, ltS_irrefl] at hl; cases hl
      rw [step_lt rfl hl hn, fold_in]
      have hno : ∀ y ∈ L, y.node ≠ it.node := fun y hy e => by
        have a := h1 y hy
        rw [e] at a
        rw [lessS_eq] at hl
        rw [ltS_asymm a] at hl; cases hl
      simp only [if_true]
      rw [filter_none hno]
      simp only [putI]
      rw [if_pos (by rw [← lessS_eq]; exact hl)]
      simp
    · have hl' : lessS it.node x.node = false := by simpa using hl
      by_cases hn : x.node = it.node
      · rw [step_ge' rfl hl' hn]
        have hall : ∀ y ∈ L, lessS it.node y.node = true := fun y hy => by rw [← hn]; exact h1 y hy
        have hput : putI it (x :: L) = it :: L := by simp only [putI]; rw [if_neg (by rw [← lessS_eq, hl']; simp), if_pos hn]
        rw [hput]
        cases L with
        | nil => simp
        | cons y M =>
          have hy := hall y (by simp)
          have hyn : y.node ≠ it.node := fun e => by rw [e, lessS_eq, ltS_irrefl] at hy; cases hy
          rw [List.foldl_cons, step_lt rfl hy hyn, fold_in]
          have hno : ∀ z ∈ M, z.node ≠ it.node := fun z hz e => by
            have := hall z (by simp [hz]); rw [e, lessS_eq, ltS_irrefl] at this; cases this
          simp only [if_true]
          rw [filter_none hno]; simp
      · rw [step_ge rfl hl' hn]
        have := fold_out it L (acc ++ [x]) h2
        have hput : putI it (x :: L) = x :: putI it L := by simp only [putI]; rw [if_neg (by rw [← lessS_eq, hl']; simp), if_neg hn]
        simp only at this ⊢
        rw [this, hput]
        simp
theorem setI_true {it : Item} {L : List Item} (h : Srt L) : setI it true L = putI it L := by
  have := fold_out it L [] h
  simpa [setI, foldI] using this
theorem setI_in {it : Item} {there : Bool} {L : List Item} (h : (foldI it there L).2 = true) : setI it there L = (foldI it there L).1 := by unfold setI; rw [h]; rfl
theorem setI_out {it : Item} {there : Bool} {L : List Item} (h : (foldI it there L).2 = false) : setI it there L = (foldI it there L).1 ++ [it] := by unfold setI; rw [h]; rfl
theorem fold_len (it : Item) : ∀ (L : List Item) (p : List Item × Bool), (L.foldl (stepI it) p).1.length ≤ p.1.length + 2 * L.length
  | [], p => by simp
  | x :: L, p => by
    rw [List.foldl_cons]
    refine Nat.le_trans (fold_len it L _) ?_
    have : (stepI it p x).1.length ≤ p.1.length + 2 := by unfold stepI; split <;> split <;> simp
    simp only [List.length_cons]; omega
theorem foldI_len (it : Item) (there : Bool) (L : List Item) : (foldI it there L).1.length ≤ 2 * L.length := by
  have := fold_len it L ([], !there); simpa [foldI] using this
theorem kids_next {L : List Item} {n : Stamp} {k : Nat} {x : Item} (h : L[k]? = some x) : (L.take (k + 1)).filter (fun x => decide (x.parent = n) && !x.gone) = (L.take k).filter (fun x => decide (x.parent = n) && !x.gone) ++ (if (decide (x.parent = n) && !x.gone) = true then [x] else []) := by
  rw [tk h, List.filter_append]; congr 1
  by_cases hb : (decide (x.parent = n) && !x.gone) = true
  · rw [if_pos hb]; simp at hb; simp [hb]
  · rw [if_neg hb]; simp at hb; simp; exact hb
def kidsI (n : Stamp) (L : List Item) : List Item := L.filter fun x => decide (x.parent = n) && !x.gone
theorem kids_yes {L : List Item} {n : Stamp} {k : Nat} {x : Item} (h : L[k]? = some x) (h1 : x.parent = n) (h2 : x.gone = false) : kidsI n (L.take (k + 1)) = kidsI n (L.take k) ++ [x] := by
  unfold kidsI; rw [kids_next h, if_pos (by simp [h1, h2])]
theorem kids_no {L : List Item} {n : Stamp} {k : Nat} {x : Item} (h : L[k]? = some x) (h1 : x.parent ≠ n ∨ x.gone = true) : kidsI n (L.take (k + 1)) = kidsI n (L.take k) := by
  unfold kidsI; rw [kids_next h, if_neg (by rcases h1 with h1 | h1 <;> simp [h1])]; simp
theorem kids_len (n : Stamp) (L : List Item) : (kidsI n L).length ≤ L.length := List.length_filter_le _ _
theorem IRow.chg' {T : TypeId} {B base : Nat} {w w' : World} {v : Value} {L : List Item} {b : Nat} (h : IRow T B base w v L) (c : Chg w w' b) (hb : B ≤ b ∧ NotU8 w b) (hne : b < base) : IRow T B base w' v L :=
  h.chg c hb.1 hb.2 (h.ne_old hne)
def RIb (B base : Nat) (w : World) (ub : Nat) (L : List Item) : Prop :=
  B ≤ ub ∧ ∃ v, w.heap[ub]? = some (.cells #[v] 126 (0, 0)) ∧ IRow 127 B base w v L ∧ v.ownBlock ≠ some ub ∧ L.length ≤ 300
theorem RIb.ris {B base : Nat} {w : World} {ub : Nat} {L : List Item} (h : RIb B base w ub L) (hB : B ≤ base) : RIs B w ub L := by
  obtain ⟨h0, v, h1, h2, h3, h4⟩ := h; exact ⟨h0, v, h1, by rw [rowI_is]; exact h2.base hB, h3, h4⟩
theorem RIb.chg {B base : Nat} {w w' : World} {ub b : Nat} {L : List Item} (h : RIb B base w ub L) (c : Chg w w' b) (hb : B ≤ b ∧ NotU8 w b) (hne : ub ≠ b) (hlt : b < base) : RIb B base w' ub L := by
  obtain ⟨h0, v, h1, h2, h3, h4⟩ := h; exact ⟨h0, v, chg_ob c hne h1, h2.chg' c hb hlt, h3, h4⟩
end Go.Proofs.YtefhfoioeoijlaaGreatDoor
namespace Go.Proofs.YtefhfoioeoijlaaGreatDoor
open Go Go.RowKit Go.Sort Go.Shelf
theorem run_next_at {P : Program} (W : World) (ty : TypeId) (r bm since c0 : Nat) (seen : Array Nat) (es : Array MapEntry) (clock : Nat) (hr : W.heap[r]? = some (.mapIter (some bm) since seen c0)) (hb : W.heap[bm]? = some (.map es clock)) (hold : ∀ x ∈ es.toList, x.born < since) (hsc : since ≤ c0) :
    ((leftOf es seen).size = 0 ∧ (Instr.next (.pointer (some ⟨r, 0, none⟩)) false ty).run P W = .ok (.tuple #[.bool false]) W) ∨
    ∃ e ∈ (leftOf es seen).toList, ∃ W1 : World, (Instr.next (.pointer (some ⟨r, 0, none⟩)) false ty).run P W = .ok (.tuple #[.bool true, e.key, e.val]) W1 ∧ W1.heap[r]? = some (.mapIter (some bm) since (seen.push e.born) clock) ∧ W.grownBy W1 (some r) ∧ W1.heap.size = W.heap.size := by
  simp only [Instr.next, getObj, Sem.run_bind, Sem.run, hr, hb, Result.andThen, next_test_false seen es since c0 hold hsc, Bool.false_eq_true, if_false]
  unfold leftOf
  have hmem : ∀ x ∈ (Array.filter (fun e => !seen.contains e.born) es).toList, x.born < since := fun x hx => hold x (by simp at hx ⊢; exact hx.1)
  generalize Array.filter (fun e => !seen.contains e.born) es = L at hmem ⊢
  have e1 : L.filter (fun x => decide (x.born < since)) = L := Array.filter_eq_self.2 (fun x hx => by simpa using hmem x (by simpa using hx))
  have e2 : L.filter (fun x => decide (x.born ≥ since)) = #[] := by
    rw [Array.filter_eq_empty_iff]
    intro x hx
    have := hmem x (by simpa using hx)
    simp
    omega
  simp only [e1, e2, Array.append_empty]
  by_cases h0 : L.size = 0
  · left
    have : L = #[] := Array.eq_empty_of_size_eq_zero h0
    subst this
    refine ⟨rfl, ?_⟩
    simp [choose, Sem.run, Question.forced]
  · right
    have hne : L.isEmpty = false := by simp [Array.isEmpty, h0]
    simp only [hne, Bool.false_eq_true, if_false, Array.empty_append, Array.size_map]
    have hch : ∃ (j : Nat) (w1 : World), j < L.size ∧ w1.heap = W.heap ∧ w1.os = W.os ∧ w1.tape = W.tape ∧ w1.output = W.output ∧ (choose (Question.mapNext L.size)).run P W = .ok j w1 := by
      by_cases hf : L.size ≤ 1
      · exact ⟨0, W, by omega, rfl, rfl, rfl, rfl, by simp [choose, Sem.run, Question.forced, hf]⟩
      · exact ⟨_, W.drew, Nat.mod_lt _ (by omega), rfl, rfl, rfl, rfl, by
          simp only [choose, Sem.run, Question.forced, decide_eq_true_eq, hf, if_false, Question.cut]
          rfl⟩
    obtain ⟨j, w1, hj, hh, ho, ht, hou, hrun⟩ := hch
    have hlt := (Array.getElem?_eq_some_iff.1 hr).1
    refine ⟨L[j], by simp, { w1 with heap := w1.heap.setIfInBounds r (.mapIter (some bm) since (seen.push L[j].born) clock) }, ?_, ?_, ⟨ho, ht, hou, by show _ ≤ (w1.heap.setIfInBounds r _).size; rw [hh]; simp, fun k hk hne => ?_⟩, by show (w1.heap.setIfInBounds r _).size = _; rw [hh]; simp⟩
    · simp only [hrun, Array.getElem?_map, Array.getElem?_eq_getElem hj, Option.map_some, Sem.run_bind, Result.andThen, setObj, Sem.run, hh, hr, Sem.run_pure]
    · show (w1.heap.setIfInBounds r _)[r]? = _
      rw [hh, Array.getElem?_setIfInBounds_self, if_pos hlt]
    · show (w1.heap.setIfInBounds r _)[k]? = _
      rw [hh, Array.getElem?_setIfInBounds_ne (fun e => hne (by rw [e]))]
theorem run_entry_at {P : Program} (W : World) (r bm since : Nat) (seen : Array Nat) (es : Array MapEntry) (clock : Nat) (e : MapEntry) (hr : W.heap[r]? = some (.mapIter (some bm) since (seen.push e.born) clock)) (hb : W.heap[bm]? = some (.map es clock)) (he : e ∈ es.toList) (hn : (es.toList.map (·.born)).Nodup) :
    (Instr.entry (.pointer (some ⟨r, 0, none⟩))).run P W = .ok (.tuple #[e.key, e.val]) W := by
  have hf : es.find? (·.born == e.born) = some e := by rw [← Array.find?_toList]; exact find_born e es.toList hn he
  simp only [Instr.entry, getObj, Sem.run_bind, Sem.run, hr, hb, Result.andThen, Array.back?_push, bne_self_eq_false, Bool.false_eq_true, if_false, hf]
  rfl
theorem left_step {es : Array MapEntry} {seen : Array Nat} {e : MapEntry} (hn : (es.toList.map (·.born)).Nodup) (he : e ∈ (leftOf es seen).toList) :
    (leftOf es seen).toList.Perm (e :: (leftOf es (seen.push e.born)).toList) := by
  unfold leftOf at *
  simp only [Array.toList_filter] at *
  have h2 : es.toList.filter (fun x => !(seen.push e.born).contains x.born) = (es.toList.filter fun x => !seen.contains x.born).filter (fun x => !(x.born == e.born)) := by
    rw [List.filter_filter]
    congr 1
    funext x
    by_cases h : x.born = e.born <;> simp [Array.contains_push, h]
  rw [h2]
  have he' := List.mem_filter.1 he
  have key : ∀ (l : List MapEntry), (l.map (·.born)).Nodup → e ∈ l → l.Perm (e :: l.filter fun x => !(x.born == e.born)) := by
    intro l
    induction l with
    | nil => intro _ h; cases h
    | cons y l ih =>
      intro hnd hm
      simp only [List.map_cons, List.nodup_cons] at hnd
      rcases List.mem_cons.1 hm with rfl | hm
      · have : l.filter (fun x => !(x.born == e.born)) = l := by
          rw [List.filter_eq_self]
          intro x hx
          have : x.born ≠ e.born := fun h => hnd.1 (by rw [← h]; exact List.mem_map.2 ⟨x, hx, rfl⟩)
          simpa using this
        simp [this]
      · have hne : y.born ≠ e.born := fun h => hnd.1 (by rw [h]; exact List.mem_map.2 ⟨e, hm, rfl⟩)
        rw [List.filter_cons_of_pos (by simpa using hne)]
        exact ((ih hnd.2 hm).cons y).trans (List.Perm.swap e y _)
  refine key _ ?_ he
  exact List.Nodup.sublist (List.Sublist.map _ List.filter_sublist) hn
end Go.Proofs.YtefhfoioeoijlaaGreatDoor
namespace Go.Proofs.YtefhfoioeoijlaaGreatDoor
open Go Go.RowKit Go.Sort Go.Shelf
def MapRaw (w : World) (r : Nat) (es : Array MapEntry) (clock : Nat) (ks : List Stamp) : Prop :=
  w.heap[r]? = some (.map es clock) ∧ Pair (fun e k => e.key = stV k) es.toList ks ∧ (es.toList.map (·.born)).Nodup ∧ ∀ e ∈ es.toList, e.born < clock
def KeysOf (es : List MapEntry) (ks : List Stamp) : Prop := Pair (fun e k => e.key = stV k) es ks
theorem KeysOf.mem {es : List MapEntry} {ks : List Stamp} (h : KeysOf es ks) {e : MapEntry} (he : e ∈ es) : ∃ k, e.key = stV k := by
  obtain ⟨k, _, hk⟩ := Pair.mem h he; exact ⟨k, hk⟩
theorem stV_inj {a b : Stamp} (h : stV a = stV b) : a = b := by
  unfold stV at h; injection h with h; cases a; cases b; simp at h; simp [h]
theorem KeysOf.perm {es es' : List MapEntry} {ks ks' : List Stamp} (h : KeysOf es ks) (h' : KeysOf es' ks') (hp : es.Perm es') : ks.Perm ks' := by
  induction hp generalizing ks ks' with
  | nil =>
    cases ks with
    | nil => cases ks' with
      | nil => exact List.Perm.refl _
      | cons _ _ => cases h'
    | cons _ _ => cases h
  | cons x _ ih =>
    cases ks with
    | nil => cases h
    | cons a ks => cases ks' with
      | nil => cases h'
      | cons b ks' =>
        have : a = b := stV_inj (h.1.symm.trans h'.1)
        subst this
        exact (ih h.2 h'.2).cons a
  | swap x y l =>
    cases ks with
    | nil => cases h
    | cons a ks => cases ks with
      | nil => exact h.2.elim
      | cons b ks => cases ks' with
        | nil => cases h'
        | cons c ks' => cases ks' with
          | nil => exact h'.2.elim
          | cons d ks' =>
            have e1 : a = d := stV_inj (h.1.symm.trans h'.2.1)
            have e2 : b = c := stV_inj (h.2.1.symm.trans h'.1)
            subst e1; subst e2
            have e3 : ks = ks' := by
              have key : ∀ {l : List MapEntry} {p q : List Stamp}, Pair (fun e k => e.key = stV k) l p → Pair (fun e k => e.key = stV k) l q → p = q := by
                intro l
                induction l with
                | nil => intro p q hp hq; cases p <;> cases q <;> first | rfl | exact hp.elim | exact hq.elim
                | cons e l ih =>
                  intro p q hp hq
                  cases p with
                  | nil => cases hp
                  | cons u p => cases q with
                    | nil => cases hq
                    | cons v q => rw [stV_inj (hp.1.symm.trans hq.1), ih hp.2 hq.2]
              exact key h.2.2 h'.2.2
            subst e3
            exact List.Perm.swap b a ks
  | trans p1 p2 ih1 ih2 =>
    rename_i l1 l2 l3
    have : ∃ km, KeysOf l2 km := by
      have hall : ∀ e ∈ l2, ∃ k, e.key = stV k := fun e he => h.mem (p1.mem_iff.2 he)
      clear ih1 ih2 p1 p2 h h'
      induction l2 with
      | nil => exact ⟨[], trivial⟩
      | cons e l ih =>
        obtain ⟨k, hk⟩ := hall e (by simp)
        obtain ⟨km, hm⟩ := ih (fun e he => hall e (by simp [he]))
        exact ⟨k :: km, hk, hm⟩
    obtain ⟨km, hkm⟩ := this
    exact (ih1 h hkm).trans (ih2 hkm h')
theorem KeysOf.ex {l : List MapEntry} (hall : ∀ e ∈ l, ∃ k, e.key = stV k) : ∃ km, KeysOf l km := by
  induction l with
  | nil => exact ⟨[], trivial⟩
  | cons e l ih =>
    obtain ⟨k, hk⟩ := hall e (by simp)
    obtain ⟨km, hm⟩ := ih (fun e he => hall e (by simp [he]))
    exact ⟨k :: km, hk, hm⟩
def Come (es : Array MapEntry) (ks : List Stamp) (seen : Array Nat) (ss : List Stamp) : Prop := ∃ rest, KeysOf (leftOf es seen).toList rest ∧ (ss ++ rest).Perm ks
theorem Come.start {es : Array MapEntry} {ks : List Stamp} (h : KeysOf es.toList ks) : Come es ks #[] [] := by
  refine ⟨ks, ?_, by simp⟩
  have : leftOf es #[] = es := by unfold leftOf; simp
  rw [this]; exact h
theorem Come.step {es : Array MapEntry} {ks : List Stamp} {seen : Array Nat} {ss : List Stamp} {e : MapEntry} {k : Stamp} (h : Come es ks seen ss) (hn : (es.toList.map (·.born)).Nodup) (he : e ∈ (leftOf es seen).toList) (hk : e.key = stV k) :
    Come es ks (seen.push e.born) (ss ++ [k]) := by
  obtain ⟨rest, hr, hp⟩ := h
  have hl := left_step hn he
  obtain ⟨rest', hr'⟩ : ∃ r, KeysOf (leftOf es (seen.push e.born)).toList r := KeysOf.ex fun x hx => hr.mem (hl.mem_iff.2 (by simp [hx]))
  refine ⟨rest', hr', ?_⟩
  have h1 : rest.Perm (k :: rest') := hr.perm (es' := e :: (leftOf es (seen.push e.born)).toList) ⟨hk, hr'⟩ hl
  have : (ss ++ [k] ++ rest').Perm (ss ++ rest) := by
    rw [List.append_assoc]; exact List.Perm.append_left ss h1.symm
  exact this.trans hp
theorem Come.done {es : Array MapEntry} {ks : List Stamp} {seen : Array Nat} {ss : List Stamp} (h : Come es ks seen ss) (h0 : (leftOf es seen).size = 0) : ss.Perm ks := by
  obtain ⟨rest, hr, hp⟩ := h
  have : (leftOf es seen).toList = [] := List.eq_nil_of_length_eq_zero (by simpa using h0)
  rw [this] at hr
  cases rest with
  | nil => simpa using hp
  | cons _ _ => cases hr
theorem Come.len {es : Array MapEntry} {ks : List Stamp} {seen : Array Nat} {ss : List Stamp} (h : Come es ks seen ss) (h0 : (leftOf es seen).size ≠ 0) : ss.length < ks.length := by
  obtain ⟨rest, hr, hp⟩ := h
  have h1 := hp.length_eq
  have h2 := Pair.length hr
  simp at h1 h2
  omega
def leftN (es : Array MapEntry) (w : World) (r : Nat) : Nat := match w.heap[r]? with | some (.mapIter _ _ s _) => (leftOf es s).size | _ => 0
theorem leftN_at {es : Array MapEntry} {w : World} {r : Nat} {m : Option Nat} {since c0 : Nat} {seen : Array Nat} (h : w.heap[r]? = some (.mapIter m since seen c0)) : leftN es w r = (leftOf es seen).size := by unfold leftN; rw [h]
set_option maxRecDepth 100000 in
set_option maxHeartbeats 4000000 in
theorem keys1_in {F : Fence} {n : Nat} (h110 : F.fn 180) (hro : F.round = none) (hn : 1 ≤ n) {l Bm r : Nat} {es : Array MapEntry} {clock : Nat} {ks : List Stamp} {W : World} (hm : MapRaw W r es clock ks) (hB : W.cell? ⟨Bm, 0, none⟩ = some (.map (some r)))
    {J Jx : List Stamp → World → Prop} (hJ : AbidesFrom W.heap.size J)
    (hY : ∀ pre x W1, J pre W1 → pre.length < ks.length → YieldAt F (n - 1) Tryz.prog l #[stV x] W1 fun e W' => (e = .returned (.bool true) ∧ J (pre ++ [x]) W' ∧ KeepsWalks W1 W') ∨ (e = .returned (.bool false) ∧ Jx (pre ++ [x]) W')) (h0 : J [] W) :
    CallsIn F n Tryz.prog 180 #[.func (.yield l) #[] #[], .pointer (some ⟨Bm, 0, none⟩)] W fun e W' => (∃ v, e = .returned v) ∧ ((∃ ss, ss.Perm ks ∧ J ss W') ∨ (∃ pre, True ∧ Jx pre W')) := by
  obtain ⟨hr, hp, hnd, hcl⟩ := hm
  have hu := Tryz.underlying106
  have hrg := run_range_map (P := Tryz.prog) W 106 24 42 r es clock hu hr
  have hrlt := (Array.getElem?_eq_some_iff.1 hr).1
  refine callsIn_of_wp Tryz.func180 rfl h110 ?_ hro
  simp only [Tryz.ntmps180, List.size_toArray, List.length_cons, List.length_nil, Nat.reduceAdd, Nat.reduceSub, Array.replicate_succ, Array.replicate_zero, List.push_toArray, List.append_toArray, List.nil_append, List.cons_append]
  gi_wp2
  gi_loopw [3] (fun _ wr => ∃ (seen : Array Nat) (c0 : Nat) (ss : List Stamp), wr.heap[W.heap.size]? = some (.mapIter (some r) clock seen c0) ∧ wr.heap[r]? = some (.map es clock) ∧ clock ≤ c0 ∧ Hid (Come es ks seen ss) ∧ Hid (J ss wr))
    (fun _ wr => leftN es wr W.heap.size)
  case atStart =>
    refine ⟨#[], clock, [], heap_alloc_new W _, (heap_alloc_old W _ hrlt).trans hr, Nat.le_refl _, Come.start hp, hJ [] W _ none h0 (World.grownBy_alloc W _ none) (fun r e => by cases e)⟩
  case round =>
    obtain ⟨seen, c0, ss, hit, hrm, hc0, hC, hJs⟩ := hrel
    have hitlt := (Array.getElem?_eq_some_iff.1 hit).1
    have hHit := Lib.hid hit
    have hHrm := Lib.hid hrm
    rcases run_next_at (P := Tryz.prog) wr 0 W.heap.size r clock c0 seen es clock hit hrm hcl hc0 with ⟨hl0, hrun⟩ | ⟨e, he, w1, hrun, hit1, hg1, hs1⟩
    · have hfin := hC.out.done hl0
      clear hit hrm
      gi_wp2
      go_end0
      exact ⟨⟨_, rfl⟩, .inl ⟨ss, hfin, hJs.out⟩⟩
    · have heL : e ∈ es.toList := by unfold leftOf at he; simp at he; simpa using he.1
      obtain ⟨k, _, hk⟩ := Pair.mem hp heL
      have hlen := hC.out.len (fun h0 => by
        have : (leftOf es seen).toList = [] := List.eq_nil_of_length_eq_zero (by simpa using h0)
        rw [this] at he; cases he)
      have hC' := Lib.hid (hC.out.step hnd he hk)
      have hdec := Lib.hid (left_step hnd he).length_eq
      have hrm1 : w1.heap[r]? = some (.map es clock) := (hg1.block r (Array.getElem?_eq_some_iff.1 hrm).1 (by intro e; injection e with e; rw [e] at hrm; rw [hit] at hrm; cases hrm)).trans hrm
      have hent := run_entry_at (P := Tryz.prog) w1 W.heap.size r clock seen es clock e hit1 hrm1 heL hnd
      rw [hk] at hrun hent
      unfold stV at hrun hent
      have hJ2 : J ss (w1.alloc (.cells #[.int .i64 k.t, .int .i64 k.w] 24)) := hJ ss w1 _ none (hJ ss wr w1 (some W.heap.size) hJs.out hg1 (fun q e => by injection e with e; subst e; exact ⟨Nat.le_refl _, _, hit, rfl⟩)) (World.grownBy_alloc w1 _ none) (fun r e => by cases e)
      obtain ⟨fn, tmps, assign, body, hy, hR⟩ := hY ss k _ hJ2 hlen
      unfold stV at hy
      have hit2 := Lib.hid ((Below.heap_alloc w1 (.cells #[.int .i64 k.t, .int .i64 k.w] 24) W.heap.size (Array.getElem?_eq_some_iff.1 hit1).1).trans hit1)
      have hrm2 := Lib.hid ((Below.heap_alloc w1 (.cells #[.int .i64 k.t, .int .i64 k.w] 24) r (Array.getElem?_eq_some_iff.1 hrm1).1).trans hrm1)
      have hJh := Lib.hid hJ2
      clear hJ2 hrm1 hit1 hg1 hs1 hit hrm hlen hk hJs
      gi_wp2
      refine hR.mono ?_
      rintro e' W3 (⟨rfl, hJ3, hk3⟩ | ⟨rfl, hJx3⟩)
      case inr =>
        gi_wp2
        refine bodyPost_ret (results_none rfl _ _ _) rfl ?_
        exact ⟨⟨_, rfl⟩, .inr ⟨ss ++ [k], trivial, hJx3⟩⟩
      gi_wp2
      have hit3 := hk3.same _ _ hit2.out rfl
      have hrm3 := hk3.same _ _ hrm2.out rfl
      go_roundw
      case rel => exact ⟨_, clock, ss ++ [k], hit3, hrm3, Nat.le_refl _, hC', hJ3⟩
      case measure =>
        rw [leftN_at hit3, leftN_at hHit.out]
        have := hdec.out
        simp at this
        omega
theorem keys_stops {F : Fence} {n : Nat} (h110 : F.fn 180) (hro : F.round = none) (hn : 1 ≤ n) {Bm r : Nat} {es : Array MapEntry} {clock : Nat} {ks : List Stamp} {w : World} (hm : MapRaw w r es clock ks) (hBm : Bm < w.heap.size) (hB : w.cell? ⟨Bm, 0, none⟩ = some (.map (some r))) :
    SeqStopsK F n Tryz.prog 180 #[.pointer (some ⟨Bm, 0, none⟩)] (fun x : Stamp => #[.agg #[.int .i64 x.t, .int .i64 x.w]]) KeepsWalks (fun ss => ss.Perm ks) (fun _ => True) ks.length w := fun l J Jx W hW hJ hJx hY h0 => by
  refine keys1_in h110 hro hn (r := r) (es := es) (clock := clock) ⟨(hW.block r (Array.getElem?_eq_some_iff.1 hm.1).1).trans hm.1, hm.2⟩ ((hW.cell (p := ⟨Bm, 0, none⟩) hBm).trans hB) hJ hY h0
def flatS (ss : List Stamp) : List Value := ss.flatMap stC
theorem flatS_snoc (ss : List Stamp) (x : Stamp) : flatS (ss ++ [x]) = flatS ss ++ stC x := by simp [flatS]
theorem news2 (w : World) (a b : Value) (T : TypeId) : ∀ (j : Nat) (u : Value), [a, b][j]? = some u → (w.alloc (.cells #[a, b] T)).cell? ((⟨w.heap.size, 0, none⟩ : Addr).add j) = some u := by
  intro j u hj
  rw [add_at, Nat.zero_add]
  simp only [World.cell?, heap_alloc_new]
  have : (#[a, b] : Array Value)[j]? = some u := by simpa using hj
  simpa using this
theorem stamps_type : Tryz.prog.underlying 95 = some (.slice 24) := by kernel_rfl
theorem info_stamp : (Tryz.prog.info? 24).map (fun i => (i.zero, i.size, i.bytes)) = some (some (stV ⟨0, 0⟩), 2, 16) := by kernel_rfl
attribute [local go_sem] Oper.semAt_some
set_option maxRecDepth 100000 in
set_option maxHeartbeats 4000000 in
theorem appendSeq_in {F : Fence} {n : Nat} (h119 : F.fn 204) (h110 : F.fn 180) (hro : F.round = none) (hn : 4 ≤ n) {Bm r : Nat} {es : Array MapEntry} {clock : Nat} {ks : List Stamp} {w : World} (hm : MapRaw w r es clock ks) (hB : w.cell? ⟨Bm, 0, none⟩ = some (.map (some r))) (hlen : ks.length ≤ 1000) :
    CallsIn F n Tryz.prog 204 #[.slice none 0 0, .func (.func 180) #[] #[.pointer (some ⟨Bm, 0, none⟩)]] w fun e w' => ∃ v ss, e = .returned v ∧ ss.Perm ks ∧ w'.ownsRow w.heap.size 24 2 v ss.length (flatS ss) ∧ Below w.heap.size w w' := by
  have h1 : 1 ≤ n := by omega
  obtain ⟨i0, hi, hz0, hz1, hz2⟩ := info_parts info_stamp
  have hBm := World.block_lt_of_cell? w _ hB
  have hus := stamps_type
  refine callsIn_of_wp_marks Tryz.func204 rfl h119 ?_ hro
  simp only [Tryz.ntmps204, List.size_toArray, List.length_cons, List.length_nil, Nat.reduceAdd, Nat.reduceSub, Array.replicate_succ, Array.replicate_zero, List.push_toArray, List.append_toArray, List.nil_append, List.cons_append]
  gi_wp2
  have hs0 : (w.alloc (.cells #[.slice none 0 0] 95)).heap.size = w.heap.size + 1 := by simp
  have bS := Boxed.new w 95 (.slice none 0 0)
  have hB0 : Below w.heap.size w (w.alloc (.cells #[.slice none 0 0] 95)) := (Below.refl _ w).alloc (Nat.le_refl _) _
  have hm0 : MapRaw (w.alloc (.cells #[.slice none 0 0] 95)) r es clock ks := ⟨(hB0.block r (Array.getElem?_eq_some_iff.1 hm.1).1).trans hm.1, hm.2⟩
  have hc0 := (hB0.cell (p := ⟨Bm, 0, none⟩) hBm).trans hB
  obtain ⟨W0, hW0⟩ : ∃ W0, w.alloc (.cells #[.slice none 0 0] 95) = W0 := ⟨_, rfl⟩
  rw [hW0] at bS hB0 hs0 hm0 hc0 ⊢
  clear hW0
  refine wpIn_rangeFunc_ownH (α := Stamp) hro h1 (gf := 180) (lb := #[.pointer (some ⟨Bm, 0, none⟩)]) rfl h110 (enters_of Tryz.func180 (by kernel_rfl) rfl)
    (keys_stops (n := n - 1) h110 hro (by omega) hm0 (by omega) hc0) walksK_t walksK_b (Below.refl _ _) (fun _ => rfl)
    (fun pre W => (∃ v, Boxed W w.heap.size 95 v ∧ W.ownsRow w.heap.size 24 2 v pre.length (flatS pre) ∧ True) ∧ Below w.heap.size w W)
    (fun _ _ _ => False)
    (OwnFrom.and (Own.from (holdsRow_own w.heap.size w.heap.size 95 24 2 (fun pre => pre.length) (fun pre => flatS pre) (fun pre v => True)) _) (ownFrom_below (Nat.le_refl _) (by omega)))
    (fun _ _ _ _ _ hs _ _ => hs)
    ⟨⟨_, bS, World.ownsRow_nil _ _ _ _, trivial⟩, hB0⟩
    (fun x a' W => ∃ Bx, w.heap.size < Bx ∧ W.heap[Bx]? = some (.cells #[.int .i64 x.t, .int .i64 x.w] 24 (0, 0)) ∧ a' = { tmps := #[.slice none 0 0, .func (.func 180) #[] #[.pointer (some ⟨Bm, 0, none⟩)], .pointer (some ⟨w.heap.size, 0, none⟩), undef, .slice none 0 0, .pointer (some ⟨Bx, 0, none⟩), .func (.func 180) #[] #[.pointer (some ⟨Bm, 0, none⟩)], .agg #[.int .i64 x.t, .int .i64 x.w], undef, undef, undef, undef, undef], defers := [] })
    (fun x a' _ X Y row hs hg hr => by
      obtain ⟨Bx, h1, h2, h3⟩ := hs
      refine ⟨Bx, h1, (hg.block Bx (Array.getElem?_eq_some_iff.1 h2).1 (fun e => ?_)).trans h2, h3⟩
      obtain ⟨_, o, ho, hc⟩ := hr Bx e.symm
      rw [h2] at ho; cases ho; cases hc)
    ?assign ?body ?done ?stop
  case assign =>
    rintro l pre x W K ⟨⟨v, hv, hrow, _⟩, hBW⟩ hK
    gi_wp2
    refine hK _ _ ((KeepsOthers.alloc _ _).from _) (KeepsWalks.alloc _ _) ⟨⟨v, hv.alloc _, hrow.alloc _, trivial⟩, hBW.alloc hBW.size _⟩ ⟨W.heap.size, hv.lt, heap_alloc_new W _, rfl⟩
  case body =>
    rintro l pre x a' W hl ⟨rr, hrr⟩ ⟨⟨v, hv, hrow, _⟩, hBW⟩ ⟨Bx, hBx, bX, rfl⟩ hlt
    have hcv := hv.cell
    have hcx : W.cell? ⟨Bx, 0, none⟩ = some (.int .i64 x.t) := by simp [World.cell?, bX]
    have hcy : W.cell? ⟨Bx, 1, none⟩ = some (.int .i64 x.w) := by simp [World.cell?, bX]
    have hmax : ks.length ≤ maxLen := by unfold maxLen; omega
    gi_wp2_with (gi_at_builtin; refine wpListIn_append_own _ rfl _ _ 95 rfl w.heap.size 24 i0 (stV ⟨0, 0⟩) 2 16 hus hi hz0 hz1 hz2 rfl (by decide) _ _ _ rfl (hrow.alloc _) ⟨W.heap.size, 0, none⟩ 1 1 [.int .i64 x.t, .int .i64 x.w] rfl rfl (news2 _ _ _ _) (by intro u hu; simp at hu; rcases hu with rfl | rfl <;> rfl) (by omega) (by omega) (by have := hBW.size; simp; omega) ?_; intro v' w1 hown' hgrow _; obtain ⟨g', cap', rfl⟩ := ownsRow_succ hown'; obtain ⟨hv1, hv2, hr2, hk2, hb2⟩ := hv.appended (by decide) hrow hBW.size (Nat.le_refl _) hown' hgrow; have hc1 := hv1.cell; have hf1 := hv1.frozen)
    refine ⟨hk2.from _, hk2.walks, ⟨_, hv2, ?_, trivial⟩, hBW.trans hb2⟩
    rw [flatS_snoc]
    simpa [stC] using hr2
  case done =>
    rintro D ss W hD hS ⟨⟨v, hv, hrow, _⟩, hBW⟩ hK
    have hcv := hv.cell
    gi_wp2
    refine ⟨by simp, .inl ⟨_, _, rfl, run_takeDeferred hK, ?_⟩⟩
    exact ⟨_, results_tmp rfl _ _ _, v, ss, rfl, hS, ownsRow_putObj hrow _ hK rfl, hBW.trans (belowK_b (w := w) (Nat.le_refl _) W D _ _ (by omega) hK rfl rfl)⟩
  case stop =>
    rintro D c pre W _ _ h _
    exact h.elim
end Go.Proofs.YtefhfoioeoijlaaGreatDoor
namespace Go.Proofs.YtefhfoioeoijlaaGreatDoor
open Go Go.RowKit Go.Sort Go.Shelf
theorem cmpS_lt {a b : Stamp} : cmpS a b < 0 ↔ ltS a b = true := by
  unfold cmpS orI cmpI ltS
  simp only [decide_eq_true_eq]
  repeat' split <;> (try omega)
theorem ltOf_cmpS (a b : Stamp) : ltOf cmpS a b = ltS a b := by
  unfold ltOf
  rw [Bool.eq_iff_iff, decide_eq_true_eq]; exact cmpS_lt
theorem swo_stamps : SWO (ltOf cmpS) := by
  refine ⟨fun x => by rw [ltOf_cmpS, ltS_irrefl], fun x y z h k => ?_, fun x y z h k => ?_⟩
  · rw [ltOf_cmpS] at *; exact ltS_trans h k
  · rw [ltOf_cmpS] at *
    simp [ltS] at *
    omega
theorem flatS_get : ∀ {ss : List Stamp} {i k : Nat} {x : Stamp}, ss[i]? = some x → k < 2 → (flatS ss)[i * 2 + k]? = (stC x)[k]?
  | y :: L, 0, k, x, h1, hk => by
    simp at h1; subst h1
    simp only [flatS, List.flatMap_cons, Nat.zero_mul, Nat.zero_add]
    rw [List.getElem?_append_left (by simpa [stC] using hk)]
  | y :: L, i + 1, k, x, h1, hk => by
    simp only [flatS, List.flatMap_cons]
    rw [List.getElem?_append_right (by simp [stC]; omega)]
    rw [show (i + 1) * 2 + k - (stC y).length = i * 2 + k by simp [stC]; omega]
    exact flatS_get (by simpa using h1) hk
def SRow (w : World) (v : Value) (ss : List Stamp) : Prop :=
  ∃ A c, v = .slice A ss.length c ∧ ∀ (i : Nat) (x : Stamp), ss[i]? = some x → ∃ g, A = some ⟨g, 0, none⟩ ∧ g < w.heap.size ∧ w.cell? ⟨g, i * 2, none⟩ = some (.int .i64 x.t) ∧ w.cell? ⟨g, i * 2 + 1, none⟩ = some (.int .i64 x.w)
theorem SRow.up {w w' : World} {v : Value} {ss : List Stamp} (h : SRow w v ss) (u : Up w w') : SRow w' v ss := by
  obtain ⟨A, c, rfl, h⟩ := h
  refine ⟨A, c, rfl, fun i x hx => ?_⟩
  obtain ⟨g, hA, hg, h0, h1⟩ := h i x hx
  exact ⟨g, hA, Nat.lt_of_lt_of_le hg u.size, (u.cell (p := ⟨g, i * 2, none⟩) hg).trans h0, (u.cell (p := ⟨g, i * 2 + 1, none⟩) hg).trans h1⟩
def StSorted (ss : List Stamp) : Prop := ss.Pairwise fun a b => ltS b a = false
theorem sortWorld_grown (enc : Stamp → List Value) (k : Nat) (w : World) (blk off n : Nat) (d : Array Stamp) (os : Array Obj) : w.grownBy (sortWorldK enc k w blk off n d os) (some blk) := by
  unfold sortWorldK
  refine ⟨rfl, rfl, rfl, ?_, fun j hj hne => ?_⟩
  · rw [size_grow, size_putRowK]; exact Nat.le_add_right _ _
  · have hlt : j < (putRowK enc k (Sort.ahead w n) blk off d).heap.size := by rw [size_putRowK]; exact hj
    show ((putRowK enc k (Sort.ahead w n) blk off d).heap ++ os)[j]? = _
    rw [Array.getElem?_append_left hlt]
    unfold putRowK putRow mapBlock
    simp only [Array.getElem?_modify]
    rw [if_neg (by intro e; exact hne (by rw [e]))]
    rfl
theorem cmp_lays (blk off size : Nat) (w : World) : CmpLays Tryz.prog 137 #[] stC 2 cmpS blk off size w := fun m os dk _ x y => by
  refine (scompare_ups x y _).mono ?_
  rintro e w' ⟨rfl, q, os', rfl⟩
  exact ⟨rfl, q, os', rfl⟩
theorem sortNil (c : Nat) (w : World) : Calls Tryz.prog 168 #[.slice none 0 c, .func (.func 137) #[] #[]] w fun e w' => e = .returned (.tuple #[]) ∧ w' = w :=
  AnyF.slices_SortFunc_none (P := Tryz.prog) { Tryz.sortStamps with } none c (.func (.func 137) #[] #[]) w
theorem sortFunc_at {w : World} {base : Nat} {v : Value} {ss : List Stamp} (h : w.ownsRow base 24 2 v ss.length (flatS ss)) (hl : ss.length ≤ 1000) :
    Calls Tryz.prog 168 #[v, .func (.func 137) #[] #[]] w fun e w' => e = .returned (.tuple #[]) ∧ ∃ ss', ss'.Perm ss ∧ StSorted ss' ∧ SRow w' v ss' ∧ w.grownBy w' v.ownBlock := by
  rcases h.2 with ⟨rfl, h0⟩ | ⟨g, cap, cur, rfl, hb, hg, hc, hm, hcs, htk⟩
  · obtain rfl : ss = [] := List.eq_nil_of_length_eq_zero h0
    refine (sortNil 0 w).mono ?_
    rintro e w' ⟨rfl, rfl⟩
    exact ⟨rfl, [], List.Perm.refl _, List.Pairwise.nil, ⟨none, 0, rfl, fun i x hx => by simp at hx⟩, rfl, rfl, rfl, Nat.le_refl _, fun k hk _ => rfl⟩
  · have hcell : ∀ j u, (flatS ss)[j]? = some u → w.cell? ⟨g, j, none⟩ = some u := fun j u hj => by
      have := h.cells (g := g) rfl j u hj
      rwa [add_at, Nat.zero_add] at this
    have hH : HoldsK stC 2 w g 0 ss.toArray := by
      intro j hj
      rw [size_flatK] at hj
      simp only [List.size_toArray] at hj
      have hi : j / 2 < ss.length := by omega
      obtain ⟨x, hx⟩ : ∃ x, ss[j / 2]? = some x := ⟨_, List.getElem?_eq_getElem hi⟩
      have hget : (flatK stC 2 ss.toArray)[j]! = (stC x)[j % 2]! := by
        rw [get_flatK _ _ _ _ (by simpa using hj)]
        congr 2
        rw [Array.getElem!_eq_getD, Array.getD_eq_getD_getElem?]
        simp [hx]
      refine ⟨?_, by simp [World.frozen?, hg]⟩
      rw [Nat.zero_add, hget]
      refine hcell j _ ?_
      have := flatS_get (k := j % 2) hx (Nat.mod_lt _ (by omega))
      rw [show j / 2 * 2 + j % 2 = j by omega] at this
      rw [this]
      have h2 : j % 2 = 0 ∨ j % 2 = 1 := by omega
      rcases h2 with h2 | h2 <;> rw [h2] <;> rfl
    have key := AnyQ.slices_SortFunc (P := Tryz.prog) Tryz.sortStamps 2 Ty.ag24 Ty.sz24 stC (fun _ => rfl) (fun x v hv => by simp [stC] at hv; rcases hv with rfl | rfl <;> rfl) cmpS swo_stamps 137 #[] g 0 cap ss.toArray w (enters_of Tryz.func137 (by kernel_rfl) rfl) (cmp_lays g 0 _ w) hH (Array.getElem?_eq_some_iff.1 hg).1 (by simp; omega)
    refine Calls.mono (show Calls Tryz.prog 168 #[.slice (some ⟨g, 0, none⟩) ss.length cap, .func (.func 137) #[] #[]] w _ from key) ?_
    rintro e w' ⟨rfl, d', n, os, hperm, hsort, rfl⟩
    have hsz : d'.size = ss.length := by simpa using hperm.1
    have hH' := holdsK_sortWorldK_c stC 2 w g 0 ss.toArray d' n os hH (Array.getElem?_eq_some_iff.1 hg).1 (by simpa using hsz)
    have hgr := sortWorld_grown stC 2 w g 0 n d' os
    refine ⟨rfl, d'.toList, ?_, ?_, ⟨_, cap, by rw [show d'.toList.length = ss.length from by simpa using hsz], fun i x hx => ⟨g, rfl, Nat.lt_of_lt_of_le (Array.getElem?_eq_some_iff.1 hg).1 hgr.size, ?_, ?_⟩⟩, hgr⟩
    · have := hperm.2.2
      rw [show (ss.toArray).size = d'.size by simpa using hsz.symm] at this
      rw [show d'.size = ss.length from hsz] at this
      simpa [← hsz] using this.trans (by simp)
    · unfold StSorted
      rw [List.pairwise_iff_getElem]
      intro i j hi hj hij
      have := hsort i j (Nat.zero_le _) hij (by simp at hj ⊢; omega)
      rw [ltOf_cmpS] at this
      simp at hi hj
      simpa [getElem!_pos, hi, hj] using this
    · have hi := (List.getElem?_eq_some_iff.1 hx).1
      simp at hi
      have := (hH' (i * 2) (by rw [size_flatK]; omega)).1
      rw [Nat.zero_add, get_flatK _ _ _ _ (by omega)] at this
      rw [this]
      have hx' : d'[i]! = x := by rw [getElem!_pos d' i hi]; simpa [List.getElem?_eq_getElem] using (List.getElem?_eq_some_iff.1 hx).2
      rw [show i * 2 / 2 = i by omega, show i * 2 % 2 = 0 by omega, hx']
      rfl
    · have hi := (List.getElem?_eq_some_iff.1 hx).1
      simp at hi
      have := (hH' (i * 2 + 1) (by rw [size_flatK]; omega)).1
      rw [Nat.zero_add, get_flatK _ _ _ _ (by omega)] at this
      rw [this]
      have hx' : d'[i]! = x := by rw [getElem!_pos d' i hi]; simpa [List.getElem?_eq_getElem] using (List.getElem?_eq_some_iff.1 hx).2
      rw [show (i * 2 + 1) / 2 = i by omega, show (i * 2 + 1) % 2 = 1 by omega, hx']
      rfl
end Go.Proofs.YtefhfoioeoijlaaGreatDoor
namespace Go.Proofs.YtefhfoioeoijlaaGreatDoor
open Go Go.RowKit Go.Sort Go.Shelf
theorem appendSeq_at {Bm r : Nat} {es : Array MapEntry} {clock : Nat} {ks : List Stamp} {w : World} (hm : MapRaw w r es clock ks) (hB : w.cell? ⟨Bm, 0, none⟩ = some (.map (some r))) (hlen : ks.length ≤ 1000) :
    Calls Tryz.prog 204 #[.slice none 0 0, .func (.func 180) #[] #[.pointer (some ⟨Bm, 0, none⟩)]] w fun e w' => ∃ v ss, e = .returned v ∧ ss.Perm ks ∧ w'.ownsRow w.heap.size 24 2 v ss.length (flatS ss) ∧ Below w.heap.size w w' :=
  (callsIn_wide (n := 6)).1 (appendSeq_in trivial trivial rfl (by omega) hm hB hlen)
theorem collect_at {Bm r : Nat} {es : Array MapEntry} {clock : Nat} {ks : List Stamp} {w : World} (hm : MapRaw w r es clock ks) (hB : w.cell? ⟨Bm, 0, none⟩ = some (.map (some r))) (hlen : ks.length ≤ 1000) :
    Calls Tryz.prog 167 #[.func (.func 180) #[] #[.pointer (some ⟨Bm, 0, none⟩)]] w fun e w' => ∃ v ss, e = .returned v ∧ ss.Perm ks ∧ w'.ownsRow w.heap.size 24 2 v ss.length (flatS ss) ∧ Below w.heap.size w w' := by
  have key := Lib.hid (appendSeq_at hm hB hlen)
  clear hm hB
  go_enter Tryz.func167, Tryz.ntmps167
  go_wp2_with fail
  refine key.out.mono ?_
  rintro e w' ⟨v, ss, rfl, h1, h2, h3⟩
  go_wp2_with fail
  go_ret
  exact ⟨v, ss, rfl, h1, h2, h3⟩
theorem mkeys_at {w : World} (r : Nat) : Calls Tryz.prog 149 #[.map (some r)] w fun e w' => ∃ b, e = .returned (.func (.func 180) #[] #[.pointer (some ⟨b, 0, none⟩)]) ∧ w'.cell? ⟨b, 0, none⟩ = some (.map (some r)) ∧ Up w w' := by
  go_enter Tryz.func149, Tryz.ntmps149
  go_wp2_with fail
  go_ret
  exact ⟨_, rfl, by unfold World.cell?; rw [heap_alloc_new]; rfl, up_alloc _ _⟩
theorem perm_sorted {ss ts : List Stamp} (hp : ss.Perm ts) (h1 : StSorted ss) (h2 : ts.Pairwise fun a b => ltS a b = true) : ss = ts := by
  have hn : ss.Nodup := (hp.nodup_iff).2 (h2.imp fun {a b} h => ltS_ne h)
  have h1' : ss.Pairwise fun a b => ltS a b = true := (List.Pairwise.and h1 hn).imp fun {a b} ⟨h, k⟩ => by
    rcases hx : ltS a b with _ | _
    · exact absurd (ltS_tri hx h) k
    · rfl
  have key := Srt.perm_eq (L := ss.map fun s => { nilI with node := s }) (L' := ts.map fun s => { nilI with node := s }) (List.pairwise_map.2 h1') (List.pairwise_map.2 h2) (hp.map _)
  have := congrArg (List.map (·.node)) key
  simpa [List.map_map, Function.comp_def] using this
theorem pair_ents {B : Nat} {w : World} : ∀ {es : List MapEntry} {xs : List Item}, Pair (Ent B w) es xs → Pair (fun e k => e.key = stV k) es (xs.map (·.node))
  | [], [], _ => trivial
  | [], _ :: _, h => h.elim
  | _ :: _, [], h => h.elim
  | e :: es, x :: xs, h => ⟨h.1.1, pair_ents h.2⟩
theorem sorted_at {B : Nat} {w : World} {Bm r : Nat} {L : List Item} (h : MapIs B w r L) (hL : L.length ≤ 1000) (hB : w.cell? ⟨Bm, 0, none⟩ = some (.map (some r))) :
    Calls Tryz.prog 135 #[.func (.func 180) #[] #[.pointer (some ⟨Bm, 0, none⟩)], .func (.func 137) #[] #[]] w fun e w' => ∃ v, e = .returned v ∧ SRow w' v (L.map (·.node)) ∧ Up w w' := by
  obtain ⟨es, clock, xs, h1, h2, h3, h4, h5, h6⟩ := h
  have hm : MapRaw w r es clock (xs.map (·.node)) := ⟨h1, pair_ents h2, h5, h6⟩
  have hl : (xs.map (·.node)).length ≤ 1000 := by rw [List.length_map, h3.length_eq]; exact hL
  have key := Lib.hid (collect_at hm hB hl)
  have hpm : (xs.map (·.node)).Perm (L.map (·.node)) := h3.map _
  have hso : (L.map (·.node)).Pairwise fun a b => ltS a b = true := List.pairwise_map.2 h4
  clear hm hB h1 h2 h3 h5 h6
  go_enter Tryz.func135, Tryz.ntmps135
  go_wp2_with fail
  refine key.out.mono ?_
  rintro e w1 ⟨v, ss, rfl, hp, ho, hb⟩
  have hlen : ss.length ≤ 1000 := by rw [hp.length_eq]; exact hl
  go_wp2_with fail
  refine (sortFunc_at (ss := ss) ho hlen).mono ?_
  rintro e w2 ⟨rfl, ss', hp', hs', hrow, hg⟩
  go_wp2_with fail
  go_ret
  obtain rfl := perm_sorted ((hp'.trans hp).trans hpm) hs' hso
  refine ⟨v, rfl, hrow, ⟨hg.os.trans hb.os, hg.tape.trans hb.tape, hg.output.trans hb.output, Nat.le_trans hb.size hg.size, fun k hk => ?_⟩⟩
  refine (hg.block k (Nat.lt_of_lt_of_le hk hb.size) fun e => ?_).trans (hb.block k hk)
  rcases ho.2 with ⟨rfl, _⟩ | ⟨g, cap, cur, rfl, hb', _⟩
  · cases e
  · injection e with e
    have e : k = g := e
    omega
end Go.Proofs.YtefhfoioeoijlaaGreatDoor
namespace Go.Proofs.YtefhfoioeoijlaaGreatDoor
open Go Go.RowKit Go.Sort Go.Shelf
theorem sorted_sl {B : Nat} {w : World} {Bm tb r : Nat} {L : List Item} (h : TreeIs B w tb r L) (hB : w.cell? ⟨Bm, 0, none⟩ = some (.map (some r))) :
    Calls Tryz.prog 135 #[.func (.func 180) #[] #[.pointer (some ⟨Bm, 0, none⟩)], .func (.func 137) #[] #[]] w fun e w' => ∃ A c, e = .returned (.slice A L.length c) ∧ SRow w' (.slice A L.length c) (L.map (·.node)) ∧ Up w w' := by
  refine (sorted_at h.2.2.2.1 (by have := h.2.2.2.2; omega) hB).mono ?_
  rintro e w' ⟨v, rfl, hr, u⟩
  obtain ⟨A, c, rfl, h2⟩ := hr
  rw [List.length_map] at *
  exact ⟨A, c, rfl, ⟨A, c, by rw [List.length_map], h2⟩, u⟩
theorem SRow.item {w : World} {A : Option Addr} {n c i : Nat} {L : List Item} {x : Item} (h : SRow w (.slice A n c) (L.map (·.node))) (hx : L[i]? = some x) :
    ∃ g, A = some ⟨g, 0, none⟩ ∧ g < w.heap.size ∧ w.cell? ⟨g, i * 2, none⟩ = some (.int .i64 x.node.t) ∧ w.cell? ⟨g, i * 2 + 1, none⟩ = some (.int .i64 x.node.w) := by
  obtain ⟨A', c', e, h⟩ := h
  injection e with e1 _ _
  subst e1
  exact h i x.node (by rw [List.getElem?_map, hx]; rfl)
section
variable {P : Program} {d : Option Tmp} {ty : TypeId} {pos : String} {af : Array Edge} {g : Option (Nat × Bool)} {ρ : Operand → Value} {w : World}
theorem r_loadc2 {t : TypeId} {x : Operand} {b k : Nat} {u v : Value} (hx : ρ x = .pointer (some ⟨b, k, none⟩)) (ht : ∀ w, (isAgg t).run P w = .ok true w) (hs : ∀ w, (sizeOf t).run P w = .ok 2 w)
    (h0 : w.cell? ⟨b, k, none⟩ = some u) (h1 : w.cell? ⟨b, k + 1, none⟩ = some v) : (execOp ρ ⟨d, .load t x, ty, pos, af, g⟩).run P w = .ok (.value (.agg #[u, v])) w := by
  have := run_loadCells_list (P := P) w ⟨b, k, none⟩ [u, v] (fun j y hj => by
    rw [add_at]
    match j, hj with
    | 0, hj => simp at hj; subst hj; exact h0
    | 1, hj => simp at hj; subst hj; exact h1
    | j + 2, hj => simp at hj)
  simp at this
  simp [execOp, hx, Instr.loadAt, Instr.sureAddr, loadVar, ht, hs, this]
end
theorem gotI_idx {L : List Item} (hs : Srt L) {k : Nat} {x : Item} (hx : L[k]? = some x) : gotI L x.node = x := by
  unfold gotI
  cases hg : getI L x.node with
  | none =>
    have hm : x ∈ L := List.mem_of_getElem? hx
    unfold getI at hg
    have := List.find?_eq_none.1 hg x hm
    simp at this
  | some y =>
    obtain ⟨h1, h2⟩ := getI_some hg
    exact hs.unique h1 (List.mem_of_getElem? hx) h2
theorem IRow.ne_fresh {T : TypeId} {B base b : Nat} {w : World} {v : Value} {L : List Item} (h : IRow T B base w v L) (e : b = w.heap.size) : v.ownBlock ≠ some b := by
  obtain ⟨ds, _, _, ho⟩ := h
  rcases ho with ⟨rfl, _⟩ | ⟨g, cap, cur, rfl, _, hg, _⟩
  · intro e; cases e
  · intro e'
    injection e' with e'
    have e' : g = b := e'
    have := (Array.getElem?_eq_some_iff.1 hg).1
    omega
theorem IRow.chgn {T : TypeId} {B base b : Nat} {w w' : World} {v : Value} {L : List Item} (h : IRow T B base w v L) (c : Chg w w' b) (hd : B ≤ b ∧ NotU8 w b) (hn : v.ownBlock ≠ some b) : IRow T B base w' v L :=
  h.keep c (.inr hn) (fun k e => by injection e with e; subst e; exact hd)
theorem own_sl {B : Nat} {w : World} {x : Item} {d : Value} (hB : B ≤ w.heap.size) (h : Dat B w d x.data) :
    Calls Tryz.prog 65 #[itV x d] w fun e w' => ∃ A n c, e = .returned (itV x (.slice A n c)) ∧ Dat B w' (.slice A n c) x.data ∧ Up w w' := by
  refine (own_any hB h).mono ?_
  rintro e w' ⟨d', rfl, hD, u⟩
  obtain ⟨A, n, c, rfl⟩ := hD.form
  exact ⟨A, n, c, rfl, hD, u⟩
theorem kid_yes {L : List Item} {n : Stamp} {k : Nat} {x : Item} (h : L[k]? = some x) (e : (decide (x.parent = n) && !x.gone) = true) : kidsI n (L.take (k + 1)) = kidsI n (L.take k) ++ [x] := by
  simp at e; exact kids_yes h e.1 e.2
theorem kid_no {L : List Item} {n : Stamp} {k : Nat} {x : Item} (h : L[k]? = some x) (e : (decide (x.parent = n) && !x.gone) = false) : kidsI n (L.take (k + 1)) = kidsI n (L.take k) := by
  refine kids_no h ?_
  rw [Bool.and_eq_false_iff] at e
  rcases e with e | e
  · exact .inl (of_decide_eq_false e)
  · simp at e; exact .inr e
end Go.Proofs.YtefhfoioeoijlaaGreatDoor

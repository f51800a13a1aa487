/- Plain words: stamps, items, operations, their values in memory, and worlds that grow. No program. -/
import Derived.WalkKit
import Derived.Sort.Grow
import Derived.Deep.Draws
import Derived.Lib.Hide
set_option linter.unusedVariables false
set_option linter.unusedSimpArgs false
namespace Go.Proofs.Ytefhfoioeoijlaa
open Go.RowKit Go.Sort

structure Stamp where
  t : Int
  w : Int
  deriving DecidableEq, Inhabited

structure Item where
  node : Stamp
  parent : Stamp
  name : ByteArray
  dir : Bool
  gone : Bool
  data : List Int
  by_ : Stamp
  deriving DecidableEq, Inhabited

structure OpD where
  kind : Int
  at_ : Stamp
  node : Stamp
  parent : Stamp
  dir : Bool
  name : ByteArray
  data : List Int
  deriving DecidableEq, Inhabited

/-- The cells of a stamp. -/
def stC (s : Stamp) : List Value := [.int .i64 s.t, .int .i64 s.w]
/-- A stamp's value. -/
def stV (s : Stamp) : Value := .agg #[.int .i64 s.t, .int .i64 s.w]
def itC (x : Item) (d : Value) : List Value := [.int .i64 x.node.t, .int .i64 x.node.w, .int .i64 x.parent.t, .int .i64 x.parent.w, .string x.name, .bool x.dir, .bool x.gone, d, .int .i64 x.by_.t, .int .i64 x.by_.w]
def itV (x : Item) (d : Value) : Value := .agg #[.int .i64 x.node.t, .int .i64 x.node.w, .int .i64 x.parent.t, .int .i64 x.parent.w, .string x.name, .bool x.dir, .bool x.gone, d, .int .i64 x.by_.t, .int .i64 x.by_.w]
def opC (o : OpD) (d : Value) : List Value := [.int .i64 o.kind, .int .i64 o.at_.t, .int .i64 o.at_.w, .int .i64 o.node.t, .int .i64 o.node.w, .int .i64 o.parent.t, .int .i64 o.parent.w, .bool o.dir, .string o.name, d]
def opV (o : OpD) (d : Value) : Value := .agg #[.int .i64 o.kind, .int .i64 o.at_.t, .int .i64 o.at_.w, .int .i64 o.node.t, .int .i64 o.node.w, .int .i64 o.parent.t, .int .i64 o.parent.w, .bool o.dir, .string o.name, d]

def cmpI (a b : Int) : Int := if a < b then -1 else if b < a then 1 else 0
def orI (a b : Int) : Int := if a = 0 then b else a
def cmpS (a b : Stamp) : Int := orI (cmpI a.t b.t) (cmpI a.w b.w)

theorem cmpI_lt {a b : Int} : cmpI a b < 0 ↔ a < b := by unfold cmpI; split <;> (try split) <;> omega
theorem cmpI_zero {a b : Int} : cmpI a b = 0 ↔ a = b := by unfold cmpI; split <;> (try split) <;> omega

theorem ret_int {k : IntKind} {a b : Int} (h : a = b) : Ending.returned (.int k a) = .returned (.int k b) := by rw [h]
theorem ret_bool {a b : Bool} (h : a = b) : Ending.returned (.bool a) = .returned (.bool b) := by rw [h]

/-- The world has new blocks and draws, nothing else. -/
def Ups (w w' : World) : Prop := ∃ q os, w' = grow (w.drewN q) os

theorem grow_drewN (w : World) (os : Array Obj) (q : Nat) : (grow w os).drewN q = grow (w.drewN q) os := by
  induction q generalizing w with
  | zero => rfl
  | succ n ih => rw [← World.drew_drewN, ← World.drew_drewN, ih]; rfl
theorem Ups.refl (w : World) : Ups w w := ⟨0, #[], by rw [grow_empty]; rfl⟩
theorem Ups.trans {a b c : World} (h : Ups a b) (k : Ups b c) : Ups a c := by
  obtain ⟨q, os, rfl⟩ := h
  obtain ⟨q', os', rfl⟩ := k
  exact ⟨q + q', os ++ os', by rw [grow_drewN, grow_grow, World.drewN_drewN]⟩
theorem Ups.alloc (w : World) (o : Obj) : Ups w (w.alloc o) := ⟨0, #[o], by show _ = grow w #[o]; unfold grow World.alloc; simp⟩
theorem Ups.drewN (w : World) (n : Nat) : Ups w (w.drewN n) := ⟨n, #[], by rw [grow_empty]⟩
theorem Ups.drew (w : World) : Ups w w.drew := Ups.drewN w 1
theorem Ups.size {w w' : World} (h : Ups w w') : w.heap.size ≤ w'.heap.size := by
  obtain ⟨q, os, rfl⟩ := h
  show w.heap.size ≤ (w.heap ++ os).size
  simp
theorem Ups.below {w w' : World} (h : Ups w w') : Below w.heap.size w w' := by
  obtain ⟨q, os, rfl⟩ := h
  refine ⟨rfl, rfl, rfl, Ups.size ⟨q, os, rfl⟩, fun k hk => ?_⟩
  show (w.heap ++ os)[k]? = w.heap[k]?
  rw [Array.getElem?_append_left hk]
/-- A store into a block that the world has made since. -/
theorem Ups.setCell {w w' : World} (h : Ups w w') {p : Addr} (hp : w.heap.size ≤ p.block) (u : Value) : Ups w (w'.setCell p u) := by
  obtain ⟨q, os, rfl⟩ := h
  refine ⟨q, os.modify (p.block - w.heap.size) (fun | .cells c elem frozen => .cells (if p.spot.isSome then c else c.setIfInBounds p.off u) elem frozen | o => o), ?_⟩
  unfold World.setCell grow
  congr 1
  apply Array.ext_getElem?
  intro i
  show ((w.heap ++ os).modify p.block _)[i]? = (w.heap ++ os.modify _ _)[i]?
  rw [Array.getElem?_modify, Array.getElem?_append, Array.getElem?_append, Array.getElem?_modify]
  by_cases hi : i < w.heap.size
  · rw [if_neg (by omega), if_pos hi, if_pos hi]
  · rw [if_neg hi, if_neg hi]
    by_cases e : p.block = i
    · rw [if_pos e, if_pos (by omega)]; rfl
    · rw [if_neg e, if_neg (by omega)]

/-! ### nothing that was there turns -/
theorem up_refl (w : World) : Below w.heap.size w w := Below.refl _ _
theorem up_trans {a b c : World} (h : Below a.heap.size a b) (k : Below b.heap.size b c) : Below a.heap.size a c :=
  ⟨k.os.trans h.os, k.tape.trans h.tape, k.output.trans h.output, Nat.le_trans h.size k.size, fun i hi => (k.block i (Nat.lt_of_lt_of_le hi h.size)).trans (h.block i hi)⟩
theorem up_alloc (w : World) (o : Obj) : Below w.heap.size w (w.alloc o) := (Below.refl _ _).alloc (Nat.le_refl _) _
theorem up_drewN (w : World) (n : Nat) : Below w.heap.size w (w.drewN n) := (Ups.drewN w n).below
theorem up_drew (w : World) : Below w.heap.size w w.drew := (Ups.drew w).below
theorem up_set {a b : World} (h : Below a.heap.size a b) {p : Addr} (hp : a.heap.size ≤ p.block) (u : Value) : Below a.heap.size a (b.setCell p u) := h.setCell hp u
/-- What the walk reads of an old block, in the new world. -/
theorem bcell {W w1 : World} (hb : Below W.heap.size W w1) : (∀ b o, b < W.heap.size → w1.cell? ⟨b, o, none⟩ = W.cell? ⟨b, o, none⟩) ∧ (∀ b o, b < W.heap.size → w1.frozen? ⟨b, o, none⟩ = W.frozen? ⟨b, o, none⟩) :=
  ⟨fun b o h => hb.cell (p := ⟨b, o, none⟩) h, fun b o h => hb.frozen (p := ⟨b, o, none⟩) h⟩
end Go.Proofs.Ytefhfoioeoijlaa

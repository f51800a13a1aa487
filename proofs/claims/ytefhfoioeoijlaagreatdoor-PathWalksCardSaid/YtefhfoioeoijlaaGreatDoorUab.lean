/- Bas -/
import Derived.BigQuiet
import Derived.Deep.Draws
import Derived.Deep.LoopGhost
import Derived.Deep.Quiet
import Derived.Deep.QuietTactic
import Derived.Deep.RegionWith
import Derived.Handy
import Derived.KernelRfl
import Derived.Lib.Hide
import Derived.Lib.IndexBytes
import Derived.Shelf.GgClosure.StringsIndexFunc
import Derived.Shelf.SlSortCmp.QuietGrown
import Derived.Sort.Grow
import Derived.StillTail
import Derived.StillTailTactics
import Derived.Test.YtefhfoioeoijlaaGreatDoorProg
import Derived.WalkKit
import Derived.WalkLawsBesides
import Derived.WalkSpells
set_option linter.unusedVariables false
set_option linter.unusedSimpArgs false
namespace Go.Proofs.YtefhfoioeoijlaaGreatDoor
open Go.RowKit Go.Sort
structure Stamp where
  t : Int
  w : Int
  deriving DecidableEq, Inhabited
structure Item where
  node : Stamp
  parent : Stamp
  name : ByteArray
  dir : Bool
  gone : Bool
  data : List Int
  by_ : Stamp
  deriving DecidableEq, Inhabited
structure OpD where
  kind : Int
  at_ : Stamp
  node : Stamp
  parent : Stamp
  dir : Bool
  name : ByteArray
  data : List Int
  deriving DecidableEq, Inhabited
def stC (s : Stamp) : List Value := [.int .i64 s.t, .int .i64 s.w]
def stV (s : Stamp) : Value := .agg #[.int .i64 s.t, .int .i64 s.w]
def itC (x : Item) (d : Value) : List Value := [.int .i64 x.node.t, .int .i64 x.node.w, .int .i64 x.parent.t, .int .i64 x.parent.w, .string x.name, .bool x.dir, .bool x.gone, d, .int .i64 x.by_.t, .int .i64 x.by_.w]
def itV (x : Item) (d : Value) : Value := .agg #[.int .i64 x.node.t, .int .i64 x.node.w, .int .i64 x.parent.t, .int .i64 x.parent.w, .string x.name, .bool x.dir, .bool x.gone, d, .int .i64 x.by_.t, .int .i64 x.by_.w]
def opC (o : OpD) (d : Value) : List Value := [.int .i64 o.kind, .int .i64 o.at_.t, .int .i64 o.at_.w, .int .i64 o.node.t, .int .i64 o.node.w, .int .i64 o.parent.t, .int .i64 o.parent.w, .bool o.dir, .string o.name, d]
def opV (o : OpD) (d : Value) : Value := .agg #[.int .i64 o.kind, .int .i64 o.at_.t, .int .i64 o.at_.w, .int .i64 o.node.t, .int .i64 o.node.w, .int .i64 o.parent.t, .int .i64 o.parent.w, .bool o.dir, .string o.name, d]
def cmpI (a b : Int) : Int := if a < b then -1 else if b < a then 1 else 0
def orI (a b : Int) : Int := if a = 0 then b else a
def cmpS (a b : Stamp) : Int := orI (cmpI a.t b.t) (cmpI a.w b.w)
theorem ret_int {k : IntKind} {a b : Int} (h : a = b) : Ending.returned (.int k a) = .returned (.int k b) := by rw [h]
theorem ret_bool {a b : Bool} (h : a = b) : Ending.returned (.bool a) = .returned (.bool b) := by rw [h]
def Ups (w w' : World) : Prop := ∃ q os, w' = grow (w.drewN q) os
theorem grow_drewN (w : World) (os : Array Obj) (q : Nat) : (grow w os).drewN q = grow (w.drewN q) os := by
  induction q generalizing w with
  | zero => rfl
  | succ n ih => rw [← World.drew_drewN, ← World.drew_drewN, ih]; rfl
theorem Ups.trans {a b c : World} (h : Ups a b) (k : Ups b c) : Ups a c := by
  obtain ⟨q, os, rfl⟩ := h
  obtain ⟨q', os', rfl⟩ := k
  exact ⟨q + q', os ++ os', by rw [grow_drewN, grow_grow, World.drewN_drewN]⟩
theorem Ups.alloc (w : World) (o : Obj) : Ups w (w.alloc o) := ⟨0, #[o], by show _ = grow w #[o]; unfold grow World.alloc; simp⟩
theorem Ups.drewN (w : World) (n : Nat) : Ups w (w.drewN n) := ⟨n, #[], by rw [grow_empty]⟩
theorem Ups.drew (w : World) : Ups w w.drew := Ups.drewN w 1
theorem Ups.size {w w' : World} (h : Ups w w') : w.heap.size ≤ w'.heap.size := by
  obtain ⟨q, os, rfl⟩ := h
  show w.heap.size ≤ (w.heap ++ os).size
  simp
theorem Ups.below {w w' : World} (h : Ups w w') : Below w.heap.size w w' := by
  obtain ⟨q, os, rfl⟩ := h
  refine ⟨rfl, rfl, rfl, Ups.size ⟨q, os, rfl⟩, fun k hk => ?_⟩
  show (w.heap ++ os)[k]? = w.heap[k]?
  rw [Array.getElem?_append_left hk]
theorem up_trans {a b c : World} (h : Below a.heap.size a b) (k : Below b.heap.size b c) : Below a.heap.size a c :=
  ⟨k.os.trans h.os, k.tape.trans h.tape, k.output.trans h.output, Nat.le_trans h.size k.size, fun i hi => (k.block i (Nat.lt_of_lt_of_le hi h.size)).trans (h.block i hi)⟩
theorem up_alloc (w : World) (o : Obj) : Below w.heap.size w (w.alloc o) := (Below.refl _ _).alloc (Nat.le_refl _) _
theorem up_drewN (w : World) (n : Nat) : Below w.heap.size w (w.drewN n) := (Ups.drewN w n).below
theorem up_drew (w : World) : Below w.heap.size w w.drew := (Ups.drew w).below
theorem up_set {a b : World} (h : Below a.heap.size a b) {p : Addr} (hp : a.heap.size ≤ p.block) (u : Value) : Below a.heap.size a (b.setCell p u) := h.setCell hp u
theorem bcell {W w1 : World} (hb : Below W.heap.size W w1) : (∀ b o, b < W.heap.size → w1.cell? ⟨b, o, none⟩ = W.cell? ⟨b, o, none⟩) ∧ (∀ b o, b < W.heap.size → w1.frozen? ⟨b, o, none⟩ = W.frozen? ⟨b, o, none⟩) :=
  ⟨fun b o h => hb.cell (p := ⟨b, o, none⟩) h, fun b o h => hb.frozen (p := ⟨b, o, none⟩) h⟩
end Go.Proofs.YtefhfoioeoijlaaGreatDoor
namespace Go.Proofs.YtefhfoioeoijlaaGreatDoor
open Go Go.RowKit Go.Sort
section
variable {P : Program} {ops : Array Oper} {md : Region.Mode} {C : World → Prop}
def headQ (P : Program) (md : Region.Mode) (ops : Array Oper) (C : World → Prop) (n : Nat) (L : Array Bool → Act → Prop) : Nat → Array Bool → Act → Prop
  | 0, listed, a => L listed a
  | f + 1, listed, a => Region.ready md ops listed ≠ [] ∧ ∀ i ∈ Region.ready md ops listed, i < n ∧ qOp P ops C i (headQ P md ops C n L f (listed.setIfInBounds i true)) a
theorem wpAny_of_headQ {n g : Nat} {L : Array Bool → Act → Prop} {Q' : Exit → Act → World → Prop} (hL : ∀ listed a w, C w → L listed a → wpAny P md ops Q' g listed a w) :
    ∀ (f : Nat) (listed : Array Bool) (a : Act) (w : World), C w → headQ P md ops C n L f listed a → wpAny P md ops Q' (f + g) listed a w
  | 0, listed, a, w, hw, h => by rw [Nat.zero_add]; exact hL _ _ _ hw h
  | f + 1, listed, a, w, hw, h => by
    rw [show f + 1 + g = (f + g) + 1 by omega]
    exact ⟨fun h0 => absurd h0 h.1, fun i hi => wpOp_of_qOp hw (fun a' w' hw' h' => wpAny_of_headQ hL f _ a' w' hw' h') (h.2 i hi).2⟩
theorem headQ_first {n i : Nat} {oi : Oper} {v : Value} {L : Array Bool → Act → Prop} (hi : ops[i]? = some oi) (hsel : ∀ (j : Nat) (o : Oper) cs b, ops[j]? = some o → o.op ≠ .select cs b)
    (hs : Region.sinkB md ops n = true) (hc : Region.chainB md ops n = true) (hn : n < ops.size) (hin : i < n)
    (hdone : ∀ listed a, L listed a → ∀ j ∈ Region.ready md ops listed, n ≤ j) :
    ∀ (f : Nat) (listed : Array Bool) (a : Act), HeadInv md ops n listed →
      (∀ j oj, ops[j]? = some oj → j ≠ i → listed.getD j true = false → (∀ e ∈ oj.after, Region.binds md e = true → e.on ≠ i) → oi.apart ops oj = true) →
      i ∈ Region.ready md ops listed → YieldsIn P ops C oi v a →
      headQ P md ops C n L f (listed.setIfInBounds i true) (a.put oi.dst v) → headQ P md ops C n L (f + 1) listed a := by
  intro f
  induction f with
  | zero =>
    intro listed a inv _ hr hy H
    have hun := (mem_ready.1 hr).1
    refine ⟨fun h => (by rw [h] at hr; cases hr), fun j hj => ?_⟩
    have hjn : j < n := by
      rcases Nat.lt_or_ge j n with h | h
      · exact h
      · exact absurd hj (tail_waits hs hc hn inv _ i rfl hin hun j h)
    refine ⟨hjn, ?_⟩
    by_cases hji : j = i
    · subst hji; exact hy.qOp hi H
    · have := hdone _ _ H j (ready_mono hj hji)
      omega
  | succ f ih =>
    intro listed a inv hfree hr hy H
    have hun := (mem_ready.1 hr).1
    refine ⟨fun h => (by rw [h] at hr; cases hr), fun j hj => ?_⟩
    have hjn : j < n := by
      rcases Nat.lt_or_ge j n with h | h
      · exact h
      · exact absurd hj (tail_waits hs hc hn inv _ i rfl hin hun j h)
    refine ⟨hjn, ?_⟩
    by_cases hji : j = i
    · subst hji; exact hy.qOp hi H
    · have h1 := (H.2 j (ready_mono hj hji)).2
      obtain ⟨hjun, oj, hoj, hall⟩ := mem_ready.1 hj
      have hnot : ∀ e ∈ oj.after, Region.binds md e = true → e.on ≠ i := fun e he hb heq => by
        have h1 := hall e he hb
        rw [heq, getD_both hun] at h1
        cases h1
      have h2 := qOp_put hoj (hfree j oj hoj hji hjun hnot) (fun cs b => hsel i oi cs b hi) (fun cs b => hsel j oj cs b hoj) hy h1
      have hfree' : ∀ k ok, ops[k]? = some ok → k ≠ i → (listed.setIfInBounds j true).getD k true = false →
          (∀ e ∈ ok.after, Region.binds md e = true → e.on ≠ i) → oi.apart ops ok = true := fun k ok hk hki hun hno => by
        refine hfree k ok hk hki ?_ hno
        by_cases hjk : j = k
        · subst hjk; exact hjun
        · rw [getD_set_ne true hjk] at hun; exact hun
      refine qOp_mono (fun a' h3 => ih (listed.setIfInBounds j true) a' (inv.set hj hjn) hfree' (ready_mono hr (Ne.symm hji)) h3.1 ?_) h2
      rw [Array.setIfInBounds_comm _ _ hji]
      exact h3.2
theorem headQ_lex {n g : Nat} {Lq : Act → Prop} (hsel : Region.noSelect ops = true) (hs : Region.sinkB md ops n = true) (hc : Region.chainB md ops n = true) (hn : n < ops.size) :
    ∀ (l : List Oper) (k : Nat) (listed : Array Bool) (a : Act), (∀ j, j < l.length → l[j]? = ops[k + j]?) → k + l.length = n → HeadInv md ops n listed →
    Region.lexHead md ops g l.length k listed = true → wpQuiet P ops C Lq l a →
    headQ P md ops C n (fun listed' a' => Region.seqB md ops g n listed' = true ∧ Lq a') l.length listed a
  | [], k, listed, a, _, hk, _, hB, h => by
    have : k = n := by simpa using hk
    subst this
    exact ⟨by simpa [Region.lexHead] using hB, h⟩
  | o :: l, k, listed, a, hl, hk, inv, hB, h => by
    have h0 : ops[k]? = some o := by simpa using (hl 0 (by simp)).symm
    simp only [List.length_cons, Region.lexHead, Bool.and_eq_true] at hB
    obtain ⟨⟨hr, hf⟩, hB'⟩ := hB
    have hkn : k < n := by simp only [List.length_cons] at hk; omega
    have hr' : k ∈ Region.ready md ops listed := by simpa using hr
    have hst : qOp P ops C k (wpQuiet P ops C Lq l) a := by unfold qOp; simp only [h0]; exact h
    obtain ⟨v, hy, hK⟩ := yieldsIn_of_qOp h0 hst
    exact headQ_first h0 (Region.noSelect_spec hsel) hs hc hn hkn (fun listed' a' hL => seqB_ready hL.1) l.length listed a inv (Region.free_spec h0 hf) hr' hy
      (headQ_lex hsel hs hc hn l (k + 1) _ _ (fun j hj => by have := hl (j + 1) (by simp; omega); simpa [Nat.add_assoc, Nat.add_comm 1 j] using this) (by simp only [List.length_cons] at hk; omega) (inv.set hr' hkn) hB' hK)
theorem wp_region_quiet_tail (C : World → Prop) {id : Nat} {Q : Exit → Act → World → Prop} {a : Act} {w : World} {l : List Oper} (n : Nat) (hm : P.follows .mixedOrders = true) (hB : Region.lexTailB .any l.toArray n = true)
    (hC : C w.drew) (h : wpQuiet P l.toArray C (fun a' => ∀ w', C w' → wpList P l.toArray Q (l.drop n) a' w') (l.take n) a) : (Code.region id l.toArray true).wp P Q a w := by
  simp only [Region.lexTailB, Bool.and_eq_true, decide_eq_true_eq] at hB
  obtain ⟨⟨⟨⟨hsel, hn⟩, hs⟩, hc⟩, hlex⟩ := hB
  have hn' : n < l.length := by simpa using hn
  have htl : (l.take n).length = n := by simp; omega
  have hdl : (l.drop n).length = l.toArray.size - n := by simp
  have inv0 : HeadInv .any l.toArray n (Array.replicate l.toArray.size false) :=
    ⟨by simp, fun j oj _ hl => (by rw [getD_replicate_false] at hl; cases hl), fun t _ ht => getD_in (by simpa using ht) (getD_replicate_false _ _)⟩
  have H := headQ_lex (md := .any) (g := l.toArray.size - n) hsel hs hc hn (l.take n) 0 _ a (fun j hj => by
    have hj' : j < n := by rw [htl] at hj; exact hj
    simp [hj']) (by simpa using htl) inv0 (by rw [htl]; exact hlex) h
  refine wp_region_any hm ?_
  have := wpAny_of_headQ (Q' := Q) (g := l.toArray.size - n) (fun listed a' w' hw' hL => by
    have := wpAny_of_seq (md := .any) (Q' := Q) (l.drop n) n listed a' w' (fun j => by simp [List.getElem?_drop]) (by rw [hdl]; exact hL.1) (hL.2 w' hw')
    rwa [hdl] at this) _ _ _ w.drew hC H
  rw [htl, show n + (l.toArray.size - n) = l.toArray.size by omega] at this
  exact this
theorem wp_region_grown_tail {id : Nat} {Q : Exit → Act → World → Prop} {a : Act} {w : World} {l : List Oper} (n : Nat) (hm : P.follows .mixedOrders = true) (hB : Region.lexTailB .any l.toArray n = true)
    (h : wpQuiet P l.toArray (fun w' => ∃ p : GrownBy, w' = grow (w.drewN p.n) p.os) (fun a' => ∀ w', (∃ p : GrownBy, w' = grow (w.drewN p.n) p.os) → wpList P l.toArray Q (l.drop n) a' w') (l.take n) a) : (Code.region id l.toArray true).wp P Q a w :=
  wp_region_quiet_tail (fun w' => ∃ p : GrownBy, w' = grow (w.drewN p.n) p.os) n hm hB ⟨⟨1, #[]⟩, by rw [grow_empty]; rfl⟩ h
theorem wp_region_grown_all {id : Nat} {Q : Exit → Act → World → Prop} {a : Act} {w : World} {l : List Oper} (hm : P.follows .mixedOrders = true) (hB : Region.lexB .any l.toArray = true)
    (h : wpQuiet P l.toArray (fun w' => ∃ p : GrownBy, w' = grow (w.drewN p.n) p.os) (fun a' => ∀ w', (∃ p : GrownBy, w' = grow (w.drewN p.n) p.os) → Q .normal a' w') l a) : (Code.region id l.toArray true).wp P Q a w :=
  wp_region_quiet_grown hm hB h
theorem grown_same {f : FuncId} {args : Array Value} {w : World} {n : Nat} {os : Array Obj} {v : Value}
    (h : ∀ W, Calls P f args W fun e w' => e = .returned v ∧ w' = W) : Calls P f args (grow (w.drewN n) os) fun e w'' => e = .returned v ∧ ∃ p : GrownBy, w'' = grow (w.drewN p.n) p.os :=
  (h _).mono fun _ _ ⟨he, hq⟩ => ⟨he, ⟨n, os⟩, hq⟩
theorem grown_ups {f : FuncId} {args : Array Value} {w : World} {n : Nat} {os : Array Obj} {v : Value}
    (h : Calls P f args (grow (w.drewN n) os) fun e w' => e = .returned v ∧ Ups (grow (w.drewN n) os) w') : Calls P f args (grow (w.drewN n) os) fun e w'' => e = .returned v ∧ ∃ p : GrownBy, w'' = grow (w.drewN p.n) p.os :=
  Calls.grown_of h
theorem grown_cell {w : World} {a : Addr} {v : Value} (h : w.cell? a = some v) (n : Nat) (os : Array Obj) : (grow (w.drewN n) os).cell? a = some v :=
  cell_grown (World.block_lt_of_cell? w a h) h n os
theorem ups_grow (w : World) (n : Nat) (os : Array Obj) : Ups w (grow (w.drewN n) os) := ⟨n, os, rfl⟩
end
end Go.Proofs.YtefhfoioeoijlaaGreatDoor
namespace Go.Proofs.YtefhfoioeoijlaaGreatDoor
def oddR (c : Nat) : Bool := decide (c < 32) || (decide (c = 127) || (decide (c = 47) || decide (c = 126)))
theorem oddR_big {c : Nat} (h : 128 ≤ c) : oddR c = false := by
  unfold oddR
  simp
  omega
theorem decode_big (s : ByteArray) (i : Nat) (h : 128 ≤ (s.get! i).toNat) :
    128 ≤ (Utf8.decode s i).1 ∧ 1 ≤ (Utf8.decode s i).2 ∧ ∀ k, k < (Utf8.decode s i).2 → 128 ≤ (s.get! (i + k)).toNat := by
  unfold Utf8.decode
  simp only [Nat.add_zero]
  rw [if_neg (by omega)]
  have key : ∀ k, (s.get! (i + k)).toNat / 64 = 2 → 128 ≤ (s.get! (i + k)).toNat := fun k hk => by omega
  have one : ∀ k, k < 1 → 128 ≤ (s.get! (i + k)).toNat := fun k hk => by
    obtain rfl : k = 0 := by omega
    exact h
  split
  · rename_i h1
    simp only [Bool.and_eq_true, beq_iff_eq, decide_eq_true_eq] at h1
    split
    · refine ⟨by assumption, by simp, fun k hk => ?_⟩
      simp only at hk
      rcases (show k = 0 ∨ k = 1 by omega) with rfl | rfl
      · exact h
      · exact key 1 h1.2.2
    · exact ⟨by decide, Nat.le_refl _, one⟩
  · split
    · rename_i h1
      simp only [Bool.and_eq_true, beq_iff_eq, decide_eq_true_eq] at h1
      split
      · rename_i h2
        simp only [Bool.and_eq_true, decide_eq_true_eq, ge_iff_le] at h2
        refine ⟨by simp only; omega, by simp, fun k hk => ?_⟩
        simp only at hk
        rcases (show k = 0 ∨ k = 1 ∨ k = 2 by omega) with rfl | rfl | rfl
        · exact h
        · exact key 1 h1.1.2.2
        · exact key 2 h1.2.2
      · exact ⟨by decide, Nat.le_refl _, one⟩
    · split
      · rename_i h1
        simp only [Bool.and_eq_true, beq_iff_eq, decide_eq_true_eq] at h1
        split
        · rename_i h2
          simp only [Bool.and_eq_true, decide_eq_true_eq, ge_iff_le] at h2
          refine ⟨by simp only; omega, by simp, fun k hk => ?_⟩
          simp only at hk
          rcases (show k = 0 ∨ k = 1 ∨ k = 2 ∨ k = 3 by omega) with rfl | rfl | rfl | rfl
          · exact h
          · exact key 1 h1.1.1.2.2
          · exact key 2 h1.1.2.2
          · exact key 3 h1.2.2
        · exact ⟨by decide, Nat.le_refl _, one⟩
      · exact ⟨by decide, Nat.le_refl _, one⟩
theorem decode_small (s : ByteArray) (i : Nat) (h : (s.get! i).toNat < 128) : Utf8.decode s i = ((s.get! i).toNat, 1) := by
  unfold Utf8.decode
  simp only [Nat.add_zero]
  rw [if_pos h]
def idxOK (i : Int) : Prop := 0 ≤ i
theorem idx_odd (s : ByteArray) : ∀ (f pos : Nat), s.size ≤ pos + f → (idxOK (Lib.idxFuncFrom oddR true s f pos) ↔ ∃ i, pos ≤ i ∧ i < s.size ∧ oddR (s.get! i).toNat = true) := by
  intro f
  induction f with
  | zero =>
    intro pos h
    simp only [Lib.idxFuncFrom, idxOK]
    constructor
    · intro h; omega
    · rintro ⟨i, h1, h2, _⟩; omega
  | succ f ih =>
    intro pos h
    by_cases hp : pos < s.size
    · simp only [Lib.idxFuncFrom, hp, if_true]
      by_cases hb : (s.get! pos).toNat < 128
      · rw [decode_small s pos hb]
        by_cases ho : oddR (s.get! pos).toNat = true
        · rw [if_pos ho]
          exact ⟨fun _ => ⟨pos, Nat.le_refl _, hp, ho⟩, fun _ => by unfold idxOK; omega⟩
        · rw [if_neg ho, ih _ (by simp only; omega)]
          constructor
          · rintro ⟨i, h1, h2, h3⟩
            exact ⟨i, by simp only at h1; omega, h2, h3⟩
          · rintro ⟨i, h1, h2, h3⟩
            refine ⟨i, ?_, h2, h3⟩
            by_cases e : i = pos
            · rw [e] at h3; exact absurd h3 ho
            · simp only; omega
      · obtain ⟨d1, d2, d3⟩ := decode_big s pos (by omega)
        rw [if_neg (by rw [oddR_big d1]; simp), ih _ (by omega)]
        constructor
        · rintro ⟨i, h1, h2, h3⟩
          exact ⟨i, by omega, h2, h3⟩
        · rintro ⟨i, h1, h2, h3⟩
          refine ⟨i, ?_, h2, h3⟩
          rcases Nat.lt_or_ge i (pos + (Utf8.decode s pos).2) with hlt | hge
          · have := d3 (i - pos) (by omega)
            rw [show pos + (i - pos) = i by omega] at this
            rw [oddR_big this] at h3
            cases h3
          · exact hge
    · rw [Lib.idxFuncFrom_end _ _ _ _ _ hp]
      unfold idxOK
      constructor
      · intro h; omega
      · rintro ⟨i, h1, h2, _⟩; omega
def byteOK (c : UInt8) : Bool := !oddR c.toNat
def nameCh (s : ByteArray) : Bool := s.data.toList.all byteOK
def nameB (s : ByteArray) : Bool := decide (1 ≤ s.size ∧ s.size ≤ 24) && (!(s.toList == [46]) && (!(s.toList == [46, 46]) && nameCh s))
theorem get_eq (s : ByteArray) (i : Nat) (h : i < s.size) : s.get! i = s[i] := by
  simp [ByteArray.get!, ByteArray.getElem_eq_getElem_data, getElem!_pos, h]
theorem odd_all (s : ByteArray) : decide (0 ≤ Lib.idxFunc oddR true s) = !nameCh s := by
  unfold nameCh
  have h := idx_odd s s.size 0 (by omega)
  rw [Bool.eq_iff_iff, decide_eq_true_eq]
  have e : (0 ≤ Lib.idxFunc oddR true s) ↔ idxOK (Lib.idxFuncFrom oddR true s s.size 0) := Iff.rfl
  rw [e, h]
  simp only [Bool.not_eq_true', List.all_eq_false, byteOK, Bool.not_eq_true, Bool.not_eq_false']
  constructor
  · rintro ⟨i, _, h2, h3⟩
    exact ⟨s[i], by rw [List.mem_iff_getElem?]; exact ⟨i, Lib.data_getElem? s i h2⟩, by rw [← get_eq s i h2]; simp [h3]⟩
  · rintro ⟨c, hc, h3⟩
    obtain ⟨i, hi⟩ := List.mem_iff_getElem?.1 hc
    have h2 : i < s.size := by
      have := (List.getElem?_eq_some_iff.1 hi).1
      simpa using this
    rw [Lib.data_getElem? s i h2] at hi
    injection hi with hi
    exact ⟨i, Nat.zero_le _, h2, by rw [get_eq s i h2, hi]; simpa using h3⟩
end Go.Proofs.YtefhfoioeoijlaaGreatDoor
namespace Go.Proofs.YtefhfoioeoijlaaGreatDoor
def ltS (a b : Stamp) : Bool := decide (a.t < b.t ∨ a.t = b.t ∧ a.w < b.w)
theorem ltS_irrefl (a : Stamp) : ltS a a = false := by simp [ltS]
theorem ltS_trans {a b c : Stamp} (h : ltS a b = true) (k : ltS b c = true) : ltS a c = true := by simp [ltS] at *; omega
theorem ltS_asymm {a b : Stamp} (h : ltS a b = true) : ltS b a = false := by simp [ltS] at *; omega
theorem ltS_tri {a b : Stamp} (h : ltS a b = false) (k : ltS b a = false) : a = b := by
  cases a; cases b; simp [ltS] at *; omega
theorem ltS_ne {a b : Stamp} (h : ltS a b = true) : a ≠ b := by
  rintro rfl; rw [ltS_irrefl] at h; cases h
def nilS : Stamp := ⟨0, 0⟩
def nilI : Item := ⟨nilS, nilS, ⟨#[]⟩, false, false, [], nilS⟩
def Srt (L : List Item) : Prop := L.Pairwise fun x y => ltS x.node y.node = true
def getI (L : List Item) (n : Stamp) : Option Item := L.find? fun x => decide (x.node = n)
def gotI (L : List Item) (n : Stamp) : Item := (getI L n).getD nilI
def hasI (L : List Item) (n : Stamp) : Bool := (getI L n).isSome
def putI (it : Item) : List Item → List Item
  | [] => [it]
  | x :: L => if ltS it.node x.node then it :: x :: L else if x.node = it.node then it :: L else x :: putI it L
theorem getI_some {L : List Item} {n : Stamp} {x : Item} (h : getI L n = some x) : x ∈ L ∧ x.node = n := by
  unfold getI at h
  exact ⟨List.mem_of_find?_eq_some h, by simpa using List.find?_some h⟩
theorem getI_none {L : List Item} {n : Stamp} : getI L n = none ↔ ∀ x ∈ L, x.node ≠ n := by
  unfold getI
  simp [List.find?_eq_none]
theorem Srt.unique {L : List Item} (h : Srt L) {x y : Item} (hx : x ∈ L) (hy : y ∈ L) (e : x.node = y.node) : x = y := by
  induction L with
  | nil => cases hx
  | cons z L ih =>
    obtain ⟨h1, h2⟩ := List.pairwise_cons.1 h
    rcases List.mem_cons.1 hx with ex | hx'
    · rcases List.mem_cons.1 hy with ey | hy'
      · rw [ex, ey]
      · rw [ex] at e
        exact absurd e (ltS_ne (h1 _ hy'))
    · rcases List.mem_cons.1 hy with ey | hy'
      · rw [ey] at e
        exact absurd e.symm (ltS_ne (h1 _ hx'))
      · exact ih h2 hx' hy'
theorem getI_mem {L : List Item} (h : Srt L) {x : Item} (hx : x ∈ L) : getI L x.node = some x := by
  cases hg : getI L x.node with
  | none => exact absurd rfl (getI_none.1 hg x hx)
  | some y =>
    obtain ⟨h1, h2⟩ := getI_some hg
    rw [h.unique h1 hx h2]
theorem mem_putI {it x : Item} : ∀ {L : List Item}, x ∈ putI it L → x = it ∨ x ∈ L
  | [], h => by simp [putI] at h; exact .inl h
  | y :: L, h => by
    simp only [putI] at h
    split at h
    · rcases List.mem_cons.1 h with h | h
      · exact .inl h
      · exact .inr h
    · split at h
      · rcases List.mem_cons.1 h with h | h
        · exact .inl h
        · exact .inr (by simp [h])
      · rcases List.mem_cons.1 h with h | h
        · exact .inr (by simp [h])
        · rcases mem_putI h with h | h
          · exact .inl h
          · exact .inr (by simp [h])
theorem Srt.putI {it : Item} : ∀ {L : List Item}, Srt L → Srt (putI it L)
  | [], _ => by simp [Go.Proofs.YtefhfoioeoijlaaGreatDoor.putI, Srt]
  | y :: L, h => by
    obtain ⟨h1, h2⟩ := List.pairwise_cons.1 h
    simp only [Go.Proofs.YtefhfoioeoijlaaGreatDoor.putI]
    split
    · rename_i hl
      refine List.pairwise_cons.2 ⟨fun z hz => ?_, h⟩
      rcases List.mem_cons.1 hz with rfl | hz
      · exact hl
      · exact ltS_trans hl (h1 z hz)
    · split
      · rename_i he
        refine List.pairwise_cons.2 ⟨fun z hz => ?_, h2⟩
        rw [← he]
        exact h1 z hz
      · rename_i hl he
        refine List.pairwise_cons.2 ⟨fun z hz => ?_, Srt.putI h2⟩
        rcases mem_putI hz with rfl | hz
        · cases hg : ltS y.node z.node with
          | true => rfl
          | false => exact absurd (ltS_tri hg (Bool.eq_false_iff.2 hl)) he
        · exact h1 z hz
theorem putI_new {it : Item} : ∀ {L : List Item}, (∀ x ∈ L, x.node ≠ it.node) → (putI it L).Perm (it :: L)
  | [], _ => List.Perm.refl _
  | y :: L, h => by
    simp only [putI]
    split
    · exact List.Perm.refl _
    · rw [if_neg (h y (by simp))]
      exact ((putI_new (fun x hx => h x (by simp [hx]))).cons y).trans (List.Perm.swap it y L)
theorem putI_old {it : Item} : ∀ {L : List Item} {k : Nat} {x : Item}, Srt L → L[k]? = some x → x.node = it.node → putI it L = L.set k it
  | y :: L, 0, x, h, hk, e => by
    simp at hk
    subst hk
    simp only [putI]
    rw [if_neg (by rw [← e, ltS_irrefl]; simp), if_pos e]
    rfl
  | y :: L, k + 1, x, h, hk, e => by
    obtain ⟨h1, h2⟩ := List.pairwise_cons.1 h
    have hx : x ∈ L := List.mem_of_getElem? (by simpa using hk)
    have hl := h1 x hx
    simp only [putI]
    rw [if_neg (by rw [← e, ltS_asymm hl]; simp), if_neg (by rw [← e]; exact ltS_ne hl), putI_old h2 (by simpa using hk) e]
    rfl
theorem Srt.perm_eq : ∀ {L L' : List Item}, Srt L → Srt L' → L.Perm L' → L = L'
  | [], L', _, _, h => (List.nil_perm.1 h).symm
  | x :: L, [], _, _, h => by have := h.length_eq; simp at this
  | x :: L, y :: L', h, h', hp => by
    obtain ⟨h1, h2⟩ := List.pairwise_cons.1 h
    obtain ⟨h1', h2'⟩ := List.pairwise_cons.1 h'
    have hx : x ∈ y :: L' := hp.mem_iff.1 (by simp)
    have hy : y ∈ x :: L := hp.mem_iff.2 (by simp)
    have e : x = y := by
      rcases List.mem_cons.1 hx with e | hx
      · exact e
      · rcases List.mem_cons.1 hy with e | hy
        · exact e.symm
        · have a := h1' x hx
          have b := h1 y hy
          rw [ltS_asymm a] at b
          cases b
    subst e
    rw [Srt.perm_eq h2 h2' (List.Perm.cons_inv hp)]
def withinI (L : List Item) (n : Stamp) : Nat → Stamp → Bool
  | 0, _ => false
  | f + 1, m => if m = n then true else match getI L m with
    | none => false
    | some x => withinI L n f x.parent
def hangsI (L : List Item) : Nat → Stamp → Bool
  | 0, _ => false
  | f + 1, n => if n = nilS then true else match getI L n with
    | none => false
    | some x => if x.gone then false else hangsI L f x.parent
def dirI (L : List Item) (n : Stamp) : Bool := decide (n = nilS) || (gotI L n).dir
def nowI (L : List Item) (x : Item) (o : OpD) : Item × Bool :=
  if o.kind = 1 then (⟨o.node, o.parent, o.name, o.dir, false, [], nilS⟩, !decide (x.node = o.node) && dirI L o.parent)
  else if o.kind = 2 then ({ x with parent := o.parent, name := o.name, gone := false }, decide (x.node = o.node) && (dirI L o.parent && !withinI L o.node 301 o.parent))
  else if o.kind = 3 then ({ x with gone := true }, decide (x.node = o.node))
  else ({ x with data := o.data, by_ := o.at_ }, decide (x.node = o.node) && !x.dir)
end Go.Proofs.YtefhfoioeoijlaaGreatDoor
namespace Go.Proofs.YtefhfoioeoijlaaGreatDoor
open Go.RowKit Go.Sort
theorem int64_equal (d : Nat) (a b : Int) (w : World) : (Op.equalIn (d + 1) 2 (.int .i64 a) (.int .i64 b)).run Tryz.prog w = .ok (a == b) w := by
  simp [Op.equalIn, run_underlying Tryz.underlying2]
theorem int_equal (d : Nat) (a b : Int) (w : World) : (Op.equalIn (d + 1) 3 (.int .i64 a) (.int .i64 b)).run Tryz.prog w = .ok (a == b) w := by
  simp [Op.equalIn, run_underlying Tryz.underlying3]
theorem part_t (a b : Value) (w : World) : (part 2 #[a, b] 0).run Tryz.prog w = .ok a w := by kernel_rfl
theorem part_w (a b : Value) (w : World) : (part 3 #[a, b] 1).run Tryz.prog w = .ok b w := by kernel_rfl
theorem stamp_equal (s t : Stamp) (w : World) : (Op.equal 24 (stV s) (stV t)).run Tryz.prog w = .ok (decide (s = t)) w := by
  unfold Op.equal Op.maxDepth stV
  rw [show (10000 : Nat) = 9999 + 1 from rfl]
  unfold Op.equalIn
  simp only [run_underlying Tryz.underlying24, Sem.run_bind, program, Sem.run, Result.andThen_ok]
  have e1 := int64_equal 9998 s.t t.t w
  have e2 := int_equal 9998 s.w t.w w
  simp [part_t, part_w, e1, e2]
  by_cases h1 : s.t = t.t
  · by_cases h2 : s.w = t.w
    · have : s = t := by cases s; cases t; simp_all
      simp [h1, h2, this]
    · have : ¬ s = t := fun e => h2 (by rw [e])
      simp [h1, h2, this]
  · have : ¬ s = t := fun e => h1 (by rw [e])
    simp [h1, this]
theorem stamp_check (b : Bool) (s : Stamp) (w : World) : (Instr.checkKey b 10000 24 (stV s)).run Tryz.prog w = .ok () w := by kernel_rfl
theorem map_under (w : World) : (underlying 106).run Tryz.prog w = .ok (.map 24 42) w := run_underlying Tryz.underlying106 w
def Pair {α β : Type} (R : α → β → Prop) : List α → List β → Prop
  | [], [] => True
  | a :: ps, b :: qs => R a b ∧ Pair R ps qs
  | _, _ => False
section
variable {α β : Type} {R R' : α → β → Prop}
theorem Pair.length : ∀ {ps : List α} {qs : List β}, Pair R ps qs → ps.length = qs.length
  | [], [], _ => rfl
  | a :: ps, b :: qs, h => by simp [Pair.length h.2]
theorem Pair.mono (hR : ∀ a b, R a b → R' a b) : ∀ {ps : List α} {qs : List β}, Pair R ps qs → Pair R' ps qs
  | [], [], _ => trivial
  | a :: ps, b :: qs, h => ⟨hR _ _ h.1, Pair.mono hR h.2⟩
theorem Pair.get : ∀ {ps : List α} {qs : List β} {k : Nat} {a : α} {b : β}, Pair R ps qs → ps[k]? = some a → qs[k]? = some b → R a b
  | a :: ps, b :: qs, 0, _, _, h, h1, h2 => by simp at h1 h2; rw [← h1, ← h2]; exact h.1
  | a :: ps, b :: qs, k + 1, _, _, h, h1, h2 => Pair.get h.2 (by simpa using h1) (by simpa using h2)
theorem Pair.snoc : ∀ {ps : List α} {qs : List β} {a : α} {b : β}, Pair R ps qs → R a b → Pair R (ps ++ [a]) (qs ++ [b])
  | [], [], _, _, _, h => ⟨h, trivial⟩
  | a :: ps, b :: qs, _, _, h, h' => ⟨h.1, Pair.snoc h.2 h'⟩
theorem Pair.set : ∀ {ps : List α} {qs : List β} {k : Nat} {a : α} {b : β}, Pair R ps qs → R a b → Pair R (ps.set k a) (qs.set k b)
  | [], [], _, _, _, _, _ => trivial
  | a :: ps, b :: qs, 0, _, _, h, h' => ⟨h', h.2⟩
  | a :: ps, b :: qs, k + 1, _, _, h, h' => ⟨h.1, Pair.set h.2 h'⟩
theorem Pair.mem : ∀ {ps : List α} {qs : List β} {a : α}, Pair R ps qs → a ∈ ps → ∃ b ∈ qs, R a b
  | a :: ps, b :: qs, _, h, hm => by
    rcases List.mem_cons.1 hm with rfl | hm
    · exact ⟨b, by simp, h.1⟩
    · obtain ⟨b', hb, hr⟩ := Pair.mem h.2 hm
      exact ⟨b', by simp [hb], hr⟩
end
def Dat (B : Nat) (w : World) (d : Value) (xs : List Int) : Prop :=
  ∃ A n c, d = .slice A n c ∧ xs.length = n ∧ n ≤ c ∧ n ≤ 140737488351232 ∧ (∀ x ∈ xs, 0 ≤ x ∧ x < 256) ∧
    (0 < n → ∃ b o, A = some ⟨b, o, none⟩ ∧ b < w.heap.size ∧ (b < B ∨ ∃ cs fr, w.heap[b]? = some (.cells cs 5 fr)) ∧ ∀ i, i < n → w.cell? ⟨b, o + i, none⟩ = some (.int .u8 (xs.getD i 0)))
theorem Dat.nil (B : Nat) (w : World) : Dat B w (.slice none 0 0) [] := ⟨none, 0, 0, rfl, rfl, Nat.le_refl _, by omega, by simp, fun h => by omega⟩
theorem Dat.form {B : Nat} {w : World} {d : Value} {xs : List Int} (h : Dat B w d xs) : ∃ A n c, d = .slice A n c := by obtain ⟨A, n, c, h, _⟩ := h; exact ⟨A, n, c, h⟩
theorem Dat.keep {B : Nat} {w w' : World} {d : Value} {xs : List Int} (h : Dat B w d xs) (hz : w.heap.size ≤ w'.heap.size)
    (hk : ∀ b, b < w.heap.size → (b < B ∨ ∃ cs fr, w.heap[b]? = some (.cells cs 5 fr)) → w'.heap[b]? = w.heap[b]?) : Dat B w' d xs := by
  obtain ⟨A, n, c, rfl, h1, h2, h3, h4, h5⟩ := h
  refine ⟨A, n, c, rfl, h1, h2, h3, h4, fun hn => ?_⟩
  obtain ⟨b, o, rfl, hb, hB, hc⟩ := h5 hn
  have e := hk b hb hB
  refine ⟨b, o, rfl, by omega, by rw [e]; exact hB, fun i hi => ?_⟩
  rw [← hc i hi]
  exact World.cell?_of_block e
theorem Dat.up {B : Nat} {w w' : World} {d : Value} {xs : List Int} (h : Dat B w d xs) (hb : Below w.heap.size w w') : Dat B w' d xs :=
  h.keep hb.size fun b h1 _ => hb.block b h1
theorem Dat.grown {B : Nat} {w w' : World} {d : Value} {xs : List Int} (h : Dat B w d xs) {r : Nat} (hg : w.grownBy w' (some r)) (hr : B ≤ r) (hn : ∀ cs fr, w.heap[r]? ≠ some (.cells cs 5 fr)) : Dat B w' d xs :=
  h.keep hg.size fun b h1 h2 => hg.block b h1 (by
    intro e
    injection e with e
    subst e
    rcases h2 with h2 | ⟨cs, fr, h2⟩
    · omega
    · exact hn cs fr h2)
def NotU8 (w : World) (b : Nat) : Prop := ∀ cs fr, w.heap[b]? ≠ some (.cells cs 5 fr)
theorem NotU8.up {w w' : World} {b : Nat} (h : NotU8 w b) (hb : Below w.heap.size w w') (hlt : b < w.heap.size) : NotU8 w' b := fun cs fr => by rw [hb.block b hlt]; exact h cs fr
theorem NotU8.set {w : World} {b : Nat} (h : NotU8 w b) (p : Addr) (u : Value) : NotU8 (w.setCell p u) b := by
  intro cs fr hh
  simp only [World.setCell, Array.getElem?_modify] at hh
  by_cases e : p.block = b
  · rw [if_pos e] at hh
    cases hw : w.heap[b]? with
    | none => rw [hw] at hh; cases hh
    | some o =>
      rw [hw] at hh
      cases o <;> simp at hh
      exact h _ _ (by rw [hw, hh.2.1])
  · rw [if_neg e] at hh
    exact h cs fr hh
theorem NotU8.of {w : World} {b : Nat} {cs : Array Value} {e : TypeId} {fr : Nat × Nat} (h : w.heap[b]? = some (.cells cs e fr)) (hne : e ≠ 5) : NotU8 w b := by
  intro cs' fr' hh
  rw [h] at hh
  injection hh with hh
  injection hh with _ h2
  exact hne h2
theorem NotU8.new {w : World} {cs : Array Value} {e : TypeId} (hne : e ≠ 5) : NotU8 (w.alloc (.cells cs e)) w.heap.size := NotU8.of (heap_alloc_new w _) hne
theorem Dat.set {B : Nat} {w : World} {d : Value} {xs : List Int} (h : Dat B w d xs) {p : Addr} (hp : B ≤ p.block) (hn : NotU8 w p.block) (u : Value) : Dat B (w.setCell p u) d xs := by
  refine h.keep (by simp [World.setCell]) fun b h1 h2 => Below.heap_setCell _ _ _ _ ?_
  rintro rfl
  rcases h2 with h2 | ⟨cs, fr, h2⟩
  · omega
  · exact hn cs fr h2
def Ent (B : Nat) (w : World) (e : MapEntry) (x : Item) : Prop := e.key = stV x.node ∧ ∃ d, e.val = itV x d ∧ Dat B w d x.data
def locate (n : Stamp) : List MapEntry → List Item → Nat → Option (Nat × Value)
  | e :: es, x :: xs, i => if n = x.node then some (i, e.val) else locate n es xs (i + 1)
  | _, _, _ => none
theorem run_findAsking (n : Stamp) (w : World) : ∀ (es : List MapEntry) (xs : List Item) (i : Nat), Pair (fun e x => e.key = stV x.node) es xs →
    (Instr.findAsking 24 (stV n) es i).run Tryz.prog w = .ok (locate n es xs i) w
  | [], [], _, _ => by simp [Instr.findAsking, locate]
  | e :: es, x :: xs, i, ⟨h, hr⟩ => by
    have ih := run_findAsking n w es xs (i + 1) hr
    simp only [Instr.findAsking, Sem.run_bind, h, stamp_equal, Result.andThen_ok, locate]
    by_cases hx : n = x.node
    · simp [hx]
    · simp [hx, ih]
theorem run_findKey (n : Stamp) (w : World) (es : List MapEntry) (xs : List Item) (h : Pair (fun e x => e.key = stV x.node) es xs) :
    (Instr.findKey 24 (stV n) es).run Tryz.prog w = .ok (locate n es xs 0) w := by
  rw [← run_findAsking n w es xs 0 h]
  unfold Instr.findKey
  simp only [run_underlying Tryz.underlying24, Sem.run_bind, Result.andThen_ok]
  cases es with
  | nil => simp [Instr.findNow, Instr.findAsking]
  | cons e es => simp [Instr.findNow, Instr.sameNow]
theorem locate_none {n : Stamp} : ∀ {es : List MapEntry} {xs : List Item} {i : Nat}, es.length = xs.length → (locate n es xs i = none ↔ ∀ x ∈ xs, x.node ≠ n)
  | [], [], _, _ => by simp [locate]
  | e :: es, x :: xs, i, h => by
    simp only [locate]
    by_cases hx : n = x.node
    · simp [hx]
    · have := locate_none (n := n) (es := es) (xs := xs) (i := i + 1) (by simpa using h)
      simp only [hx, if_false, this, List.mem_cons, forall_eq_or_imp]
      exact ⟨fun h => ⟨fun e => hx e.symm, h⟩, fun h => h.2⟩
theorem locate_some {n : Stamp} : ∀ {es : List MapEntry} {xs : List Item} {i j : Nat} {v : Value}, locate n es xs i = some (j, v) → ∃ k e x, j = i + k ∧ es[k]? = some e ∧ xs[k]? = some x ∧ x.node = n ∧ e.val = v
  | [], _, _, _, _, h => by simp [locate] at h
  | _ :: _, [], _, _, _, h => by simp [locate] at h
  | e :: es, x :: xs, i, j, v, h => by
    simp only [locate] at h
    by_cases hx : n = x.node
    · simp only [hx, if_true, Option.some.injEq, Prod.mk.injEq] at h
      exact ⟨0, e, x, by omega, rfl, rfl, hx.symm, h.2⟩
    · simp only [hx, if_false] at h
      obtain ⟨k, e', x', h1, h2, h3, h4, h5⟩ := locate_some h
      exact ⟨k + 1, e', x', by omega, by simpa using h2, by simpa using h3, h4, h5⟩
end Go.Proofs.YtefhfoioeoijlaaGreatDoor
namespace Go.Proofs.YtefhfoioeoijlaaGreatDoor
open Go.RowKit Go.Sort
def MapIs (B : Nat) (w : World) (r : Nat) (L : List Item) : Prop :=
  ∃ es clock xs, w.heap[r]? = some (.map es clock) ∧ Pair (Ent B w) es.toList xs ∧ xs.Perm L ∧ Srt L ∧ (es.toList.map (·.born)).Nodup ∧ ∀ e ∈ es.toList, e.born < clock
theorem MapIs.srt {B : Nat} {w : World} {r : Nat} {L : List Item} (h : MapIs B w r L) : Srt L := by obtain ⟨_, _, _, _, _, _, h, _⟩ := h; exact h
theorem MapIs.lt {B : Nat} {w : World} {r : Nat} {L : List Item} (h : MapIs B w r L) : r < w.heap.size := by
  obtain ⟨es, clock, xs, hr, _⟩ := h
  exact (Array.getElem?_eq_some_iff.1 hr).1
theorem MapIs.noCells {B : Nat} {w : World} {r : Nat} {L : List Item} (h : MapIs B w r L) : ∀ cs e fr, w.heap[r]? ≠ some (.cells cs e fr) := by
  obtain ⟨es, clock, xs, hr, _⟩ := h
  intro cs e fr h; rw [hr] at h; cases h
theorem MapIs.keep {B : Nat} {w w' : World} {r : Nat} {L : List Item} (h : MapIs B w r L) (hz : w.heap.size ≤ w'.heap.size) (hr : w'.heap[r]? = w.heap[r]?)
    (hk : ∀ b, b < w.heap.size → (b < B ∨ ∃ cs fr, w.heap[b]? = some (.cells cs 5 fr)) → w'.heap[b]? = w.heap[b]?) : MapIs B w' r L := by
  obtain ⟨es, clock, xs, h1, h2, h3⟩ := h
  exact ⟨es, clock, xs, hr.trans h1, h2.mono fun e x ⟨k, d, hd, hD⟩ => ⟨k, d, hd, hD.keep hz hk⟩, h3⟩
theorem MapIs.up {B : Nat} {w w' : World} {r : Nat} {L : List Item} (h : MapIs B w r L) (hb : Below w.heap.size w w') : MapIs B w' r L :=
  h.keep hb.size (hb.block r h.lt) fun b h1 _ => hb.block b h1
theorem MapIs.grown {B : Nat} {w w' : World} {r : Nat} {L : List Item} (h : MapIs B w r L) {q : Nat} (hg : w.grownBy w' (some q)) (hq : B ≤ q) (hne : r ≠ q) (hn : ∀ cs fr, w.heap[q]? ≠ some (.cells cs 5 fr)) : MapIs B w' r L :=
  h.keep hg.size (hg.block r h.lt (fun e => hne (by injection e))) fun b h1 h2 => hg.block b h1 (by
    intro e
    injection e with e
    subst e
    rcases h2 with h2 | ⟨cs, fr, h2⟩
    · omega
    · exact hn cs fr h2)
theorem item_zero (w : World) : (zeroValue 42).run Tryz.prog w = .ok (itV nilI (.slice none 0 0)) w := by kernel_rfl
theorem keys_of {B : Nat} {w : World} {es : List MapEntry} {xs : List Item} (h : Pair (Ent B w) es xs) : Pair (fun e x => e.key = stV x.node) es xs := h.mono fun _ _ h => h.1
theorem getI_perm {L xs : List Item} {n : Stamp} (hs : Srt L) (hp : xs.Perm L) {x : Item} (hx : x ∈ xs) (e : x.node = n) : getI L n = some x := by
  rw [← e]; exact getI_mem hs (hp.mem_iff.1 hx)
theorem MapIs.look {B : Nat} {w : World} {r : Nat} {L : List Item} (h : MapIs B w r L) (n : Stamp) : ∃ d, Dat B w d (gotI L n).data ∧ ∀ W : World, W.heap[r]? = w.heap[r]? →
    (Instr.lookup 106 (.map (some r)) (stV n) true).run Tryz.prog W = .ok (.tuple #[itV (gotI L n) d, .bool (hasI L n)]) W ∧
    (Instr.lookup 106 (.map (some r)) (stV n) false).run Tryz.prog W = .ok (itV (gotI L n) d) W := by
  obtain ⟨es, clock, xs, hr, hp, hperm, hs, _, _⟩ := h
  cases hl : locate n es.toList xs 0 with
  | none =>
    have hno := (locate_none hp.length).1 hl
    have hg : getI L n = none := getI_none.2 fun x hx => hno x (hperm.mem_iff.2 hx)
    refine ⟨.slice none 0 0, by unfold gotI; rw [hg]; exact Dat.nil B w, fun W hW => ?_⟩
    have hW' : W.heap[r]? = some (.map es clock) := hW.trans hr
    unfold gotI hasI
    rw [hg]
    constructor <;> (simp [Instr.lookup, map_under, getObj, Sem.run, hW', stamp_check, run_findKey n W es.toList xs (keys_of hp), hl, item_zero]; rfl)
  | some jv =>
    obtain ⟨j, v⟩ := jv
    obtain ⟨k, e, x, hk, he, hx, hn, hv⟩ := locate_some hl
    have hE := hp.get he hx
    obtain ⟨_, d, hd, hD⟩ := hE
    have hg : getI L n = some x := getI_perm hs hperm (List.mem_of_getElem? hx) hn
    refine ⟨d, by unfold gotI; rw [hg]; exact hD, fun W hW => ?_⟩
    have hW' : W.heap[r]? = some (.map es clock) := hW.trans hr
    unfold gotI hasI
    rw [hg]
    have hvv : v = itV x d := by rw [← hv]; exact hd
    constructor <;> simp [Instr.lookup, map_under, getObj, Sem.run, hW', stamp_check, run_findKey n W es.toList xs (keys_of hp), hl, hvv]
theorem MapIs.len {B : Nat} {w : World} {r : Nat} {L : List Item} (h : MapIs B w r L) : ∃ es clock, w.heap[r]? = some (.map es clock) ∧ es.size = L.length := by
  obtain ⟨es, clock, xs, hr, hp, hperm, _⟩ := h
  refine ⟨es, clock, hr, ?_⟩
  rw [← Array.length_toList, hp.length, hperm.length_eq]
theorem perm_erase {α : Type} : ∀ {xs : List α} {j : Nat} {x : α}, xs[j]? = some x → xs.Perm (x :: xs.eraseIdx j)
  | y :: xs, 0, x, h => by simp at h; rw [h]; exact List.Perm.refl _
  | y :: xs, j + 1, x, h => ((perm_erase (xs := xs) (j := j) (by simpa using h)).cons y).trans (List.Perm.swap x y _)
theorem perm_set {α : Type} : ∀ {xs : List α} {j : Nat} {x : α} (y : α), xs[j]? = some x → (xs.set j y).Perm (y :: xs.eraseIdx j)
  | z :: xs, 0, x, y, h => List.Perm.refl _
  | z :: xs, j + 1, x, y, h => ((perm_set (xs := xs) (j := j) y (by simpa using h)).cons z).trans (List.Perm.swap y z _)
theorem set_perm_set {α : Type} {xs L : List α} {j k : Nat} {x : α} (y : α) (hp : xs.Perm L) (hx : xs[j]? = some x) (hL : L[k]? = some x) : (xs.set j y).Perm (L.set k y) := by
  have h1 := (perm_erase hx).symm.trans (hp.trans (perm_erase hL))
  exact (perm_set y hx).trans (((List.Perm.cons_inv h1).cons y).trans (perm_set y hL).symm)
theorem sameBits_stamp (n : Stamp) : Instr.sameBits 10000 (stV n) (stV n) = true := by
  unfold stV
  rw [show (10000 : Nat) = 9998 + 1 + 1 from rfl]
  simp [Instr.sameBits]
def putMap (w : World) (r : Nat) (es : Array MapEntry) (clock : Nat) : World := { w with heap := w.heap.setIfInBounds r (.map es clock) }
theorem putMap_grown (w : World) (r : Nat) (es : Array MapEntry) (clock : Nat) : w.grownBy (putMap w r es clock) (some r) := by
  refine ⟨rfl, rfl, rfl, by show w.heap.size ≤ (w.heap.setIfInBounds r _).size; simp, fun k hk hne => ?_⟩
  show (w.heap.setIfInBounds r _)[k]? = w.heap[k]?
  rw [Array.getElem?_setIfInBounds_ne (fun e => hne (by rw [e]))]
theorem Ent.grown {B : Nat} {w w' : World} {e : MapEntry} {x : Item} (h : Ent B w e x) {r : Nat} (hg : w.grownBy w' (some r)) (hr : B ≤ r) (hn : ∀ cs fr, w.heap[r]? ≠ some (.cells cs 5 fr)) : Ent B w' e x := by
  obtain ⟨k, d, hd, hD⟩ := h
  exact ⟨k, d, hd, hD.grown hg hr hn⟩
theorem MapIs.store {B : Nat} {w : World} {r : Nat} {L : List Item} (h : MapIs B w r L) (hB : B ≤ r) (it : Item) (d : Value) (hd : Dat B w d it.data) :
    ∃ w', (Instr.mapUpdate 106 (.map (some r)) (stV it.node) (itV it d)).run Tryz.prog w = .ok () w' ∧ w.grownBy w' (some r) ∧ MapIs B w' r (putI it L) := by
  have hlt := h.lt
  have hno := h.noCells
  obtain ⟨es, clock, xs, hr, hp, hperm, hs, hnd, hcl⟩ := h
  cases hl : locate it.node es.toList xs 0 with
  | none =>
    have hnone := (locate_none hp.length).1 hl
    have hg := putMap_grown w r (es.push { key := stV it.node, val := itV it d, born := clock }) (clock + 1)
    refine ⟨putMap w r (es.push { key := stV it.node, val := itV it d, born := clock }) (clock + 1), ?_, hg, ?_⟩
    · simp [Instr.mapUpdate, map_under, getObj, setObj, Sem.run, hr, stamp_check, run_findKey it.node w es.toList xs (keys_of hp), hl, putMap]
    · refine ⟨_, _, xs ++ [it], by show (w.heap.setIfInBounds r _)[r]? = _; rw [Array.getElem?_setIfInBounds_self, if_pos hlt], ?_, ?_, hs.putI, ?_, ?_⟩
      · rw [Array.toList_push]
        exact Pair.snoc (hp.mono fun e x he => he.grown hg hB (fun cs fr => hno cs _ fr)) ⟨rfl, d, rfl, hd.grown hg hB (fun cs fr => hno cs _ fr)⟩
      · refine List.Perm.trans ?_ (putI_new (fun x hx => hnone x (hperm.mem_iff.2 hx))).symm
        exact List.perm_append_comm.trans (hperm.cons it)
      · rw [Array.toList_push, List.map_append, List.nodup_append]
        refine ⟨hnd, by simp, fun a ha b hb e => ?_⟩
        obtain ⟨e0, he0, rfl⟩ := List.mem_map.1 ha
        simp at hb
        have := hcl e0 he0
        omega
      · intro e he
        rw [Array.toList_push] at he
        rcases List.mem_append.1 he with he | he
        · have := hcl e he; omega
        · simp at he; rw [he]; simp
  | some jv =>
    obtain ⟨j, v⟩ := jv
    obtain ⟨k, e, x, hk, he, hx, hn, hv⟩ := locate_some hl
    obtain rfl : j = k := by omega
    have hkey : e.key = stV it.node := by rw [← hn]; exact (hp.get he hx).1
    have hj : j < es.size := by have := (List.getElem?_eq_some_iff.1 he).1; simpa using this
    have hej : es[j]? = some e := by rw [← Array.getElem?_toList]; exact he
    have hgj : es[j] = e := (Array.getElem?_eq_some_iff.1 hej).2
    have hmod : (es.modify j fun e => { e with key := stV it.node, val := itV it d }).toList = es.toList.set j { e with key := stV it.node, val := itV it d } := by
      apply List.ext_getElem?
      intro i
      rw [Array.getElem?_toList, Array.getElem?_modify, List.getElem?_set]
      by_cases hi : j = i
      · subst hi
        simp [hej, hj, hgj]
      · simp [hi]
    have hg := putMap_grown w r (es.modify j fun e => { e with key := stV it.node, val := itV it d }) clock
    obtain ⟨k, hk'⟩ := List.mem_iff_getElem?.1 (hperm.mem_iff.1 (List.mem_of_getElem? hx))
    refine ⟨putMap w r (es.modify j fun e => { e with key := stV it.node, val := itV it d }) clock, ?_, hg, ?_⟩
    · simp [Instr.mapUpdate, map_under, getObj, setObj, Sem.run, hr, stamp_check, run_findKey it.node w es.toList xs (keys_of hp), hl, putMap, hej, hkey, Instr.keyThatStays, sameBits_stamp]
    · refine ⟨_, _, xs.set j it, by show (w.heap.setIfInBounds r _)[r]? = _; rw [Array.getElem?_setIfInBounds_self, if_pos hlt], ?_, ?_, hs.putI, ?_, ?_⟩
      · rw [hmod]
        exact Pair.set (hp.mono fun e x he => he.grown hg hB (fun cs fr => hno cs _ fr)) ⟨rfl, d, rfl, hd.grown hg hB (fun cs fr => hno cs _ fr)⟩
      · rw [putI_old hs hk' hn]
        exact set_perm_set it hperm hx hk'
      · rw [hmod, List.map_set]
        have : (es.toList.map (·.born)).set j e.born = es.toList.map (·.born) := by
          apply List.ext_getElem?
          intro i
          rw [List.getElem?_set]
          by_cases hi : j = i
          · subst hi
            simp [hej, hj, hgj]
          · simp [hi]
        show ((es.toList.map (·.born)).set j e.born).Nodup
        rw [this]
        exact hnd
      · intro e' he'
        rw [hmod] at he'
        rcases List.mem_or_eq_of_mem_set he' with h | h
        · exact hcl e' h
        · rw [h]; exact hcl e (List.mem_of_getElem? he)
end Go.Proofs.YtefhfoioeoijlaaGreatDoor
namespace Go.Proofs.YtefhfoioeoijlaaGreatDoor
open Go.RowKit Go.Sort
theorem isNaN64_any (x : Int) (w : World) : Calls Tryz.prog 206 #[.int .i64 x] w fun e w' => e = .returned (.bool false) ∧ w' = w := by
  go_enter Tryz.func206, Tryz.ntmps206
  go_wp2
  go_ret
  exact ⟨by simp, rfl⟩
theorem isNaN_any (x : Int) (w : World) : Calls Tryz.prog 207 #[.int .i64 x] w fun e w' => e = .returned (.bool false) ∧ w' = w := by
  go_enter Tryz.func207, Tryz.ntmps207
  go_wp2
  go_ret
  exact ⟨by simp, rfl⟩
theorem compare64_any (x y : Int) (w : World) : Calls Tryz.prog 171 #[.int .i64 x, .int .i64 y] w fun e w' => e = .returned (.int .i64 (cmpI x y)) ∧ w' = w := by
  by_cases h1 : x < y
  · have H := Lib.hid (show cmpI x y = -1 by unfold cmpI; rw [if_pos h1])
    go_enter Tryz.func171, Tryz.ntmps171
    go_wp2_with (go_at_call 206; refine (isNaN64_any _ _).mono ?_; rintro e w' ⟨rfl, rfl⟩)
    go_ret
    exact ⟨by rw [H.out]; rfl, rfl⟩
  · by_cases h2 : y < x
    · have H := Lib.hid (show cmpI x y = 1 by unfold cmpI; rw [if_neg h1, if_pos h2])
      go_enter Tryz.func171, Tryz.ntmps171
      go_wp2_with (go_at_call 206; refine (isNaN64_any _ _).mono ?_; rintro e w' ⟨rfl, rfl⟩)
      go_ret
      exact ⟨by rw [H.out]; rfl, rfl⟩
    · have H := Lib.hid (show cmpI x y = 0 by unfold cmpI; rw [if_neg h1, if_neg h2])
      go_enter Tryz.func171, Tryz.ntmps171
      go_wp2_with (go_at_call 206; refine (isNaN64_any _ _).mono ?_; rintro e w' ⟨rfl, rfl⟩)
      go_ret
      exact ⟨by rw [H.out]; rfl, rfl⟩
theorem compareI_any (x y : Int) (w : World) : Calls Tryz.prog 172 #[.int .i64 x, .int .i64 y] w fun e w' => e = .returned (.int .i64 (cmpI x y)) ∧ w' = w := by
  by_cases h1 : x < y
  · have H := Lib.hid (show cmpI x y = -1 by unfold cmpI; rw [if_pos h1])
    go_enter Tryz.func172, Tryz.ntmps172
    go_wp2_with (go_at_call 207; refine (isNaN_any _ _).mono ?_; rintro e w' ⟨rfl, rfl⟩)
    go_ret
    exact ⟨by rw [H.out]; rfl, rfl⟩
  · by_cases h2 : y < x
    · have H := Lib.hid (show cmpI x y = 1 by unfold cmpI; rw [if_neg h1, if_pos h2])
      go_enter Tryz.func172, Tryz.ntmps172
      go_wp2_with (go_at_call 207; refine (isNaN_any _ _).mono ?_; rintro e w' ⟨rfl, rfl⟩)
      go_ret
      exact ⟨by rw [H.out]; rfl, rfl⟩
    · have H := Lib.hid (show cmpI x y = 0 by unfold cmpI; rw [if_neg h1, if_neg h2])
      go_enter Tryz.func172, Tryz.ntmps172
      go_wp2_with (go_at_call 207; refine (isNaN_any _ _).mono ?_; rintro e w' ⟨rfl, rfl⟩)
      go_ret
      exact ⟨by rw [H.out]; rfl, rfl⟩
theorem or_any (a b : Int) (g : Nat) (w : World) (h0 : w.cell? ⟨g, 0, none⟩ = some (.int .i64 a)) (h1 : w.cell? ⟨g, 1, none⟩ = some (.int .i64 b)) :
    Calls Tryz.prog 170 #[.slice (some ⟨g, 0, none⟩) 2 2] w fun e w' => e = .returned (.int .i64 (orI a b)) ∧ w' = w := by
  by_cases ha : a = 0
  · by_cases hb : b = 0
    · subst ha; subst hb
      go_enter Tryz.func170, Tryz.ntmps170
      go_wp2
      go_rounds 3
      go_ret
      exact ⟨ret_int (by simp [orI]), rfl⟩
    · subst ha
      have hb' : (b == 0) = false := beq_eq_false_iff_ne.2 hb
      go_enter Tryz.func170, Tryz.ntmps170
      go_wp2
      go_rounds 3
      go_ret
      exact ⟨ret_int (by simp [orI]), rfl⟩
  · have ha' : (a == 0) = false := beq_eq_false_iff_ne.2 ha
    go_enter Tryz.func170, Tryz.ntmps170
    go_wp2
    go_rounds 3
    go_ret
    exact ⟨ret_int (by simp [orI, ha]), rfl⟩
set_option maxHeartbeats 1000000 in
theorem scompare_ups (x y : Stamp) (w : World) :
    Calls Tryz.prog 137 #[stV x, stV y] w fun e w' => e = .returned (.int .i64 (cmpS x y)) ∧ Ups w w' := by
  unfold stV
  go_enter Tryz.func137, Tryz.ntmps137
  go_wp2_with fail
  have U0 : Ups w ((w.alloc (.cells #[.int .i64 x.t, .int .i64 x.w] 24)).alloc (.cells #[.int .i64 y.t, .int .i64 y.w] 24)) := (Ups.alloc _ _).trans (Ups.alloc _ _)
  have c0 : ((w.alloc (.cells #[.int .i64 x.t, .int .i64 x.w] 24)).alloc (.cells #[.int .i64 y.t, .int .i64 y.w] 24)).cell? ⟨w.heap.size, 0, none⟩ = some (.int .i64 x.t) := by go_simp
  have c1 : ((w.alloc (.cells #[.int .i64 x.t, .int .i64 x.w] 24)).alloc (.cells #[.int .i64 y.t, .int .i64 y.w] 24)).cell? ⟨w.heap.size, 1, none⟩ = some (.int .i64 x.w) := by go_simp
  have c2 : ((w.alloc (.cells #[.int .i64 x.t, .int .i64 x.w] 24)).alloc (.cells #[.int .i64 y.t, .int .i64 y.w] 24)).cell? ⟨w.heap.size + 1, 0, none⟩ = some (.int .i64 y.t) := by go_simp
  have c3 : ((w.alloc (.cells #[.int .i64 x.t, .int .i64 x.w] 24)).alloc (.cells #[.int .i64 y.t, .int .i64 y.w] 24)).cell? ⟨w.heap.size + 1, 1, none⟩ = some (.int .i64 y.w) := by go_simp
  generalize ((w.alloc (.cells #[.int .i64 x.t, .int .i64 x.w] 24)).alloc (.cells #[.int .i64 y.t, .int .i64 y.w] 24)) = W at U0 c0 c1 c2 c3 ⊢
  have d0 := grown_cell c0
  have d1 := grown_cell c1
  have d2 := grown_cell c2
  have d3 := grown_cell c3
  clear c0 c1 c2 c3
  refine wp_region_grown_tail 10 (by kernel_rfl) (by kernel_rfl) ?_
  simp only [List.take_succ_cons, List.take_zero, List.drop_succ_cons, List.drop_zero]
  repeat (quiet_step ((first | exact grown_same (compare64_any _ _) | exact grown_same (compareI_any _ _))))
  refine wpQuiet_nil ?_
  rintro _ ⟨⟨nq, osq⟩, rfl⟩
  have U1 := U0.trans (ups_grow W nq osq)
  generalize grow (W.drewN nq) osq = W1 at U1 ⊢
  clear d0 d1 d2 d3 U0
  go_wp2_with fail
  refine (or_any (cmpI x.t y.t) (cmpI x.w y.w) W1.heap.size _ (by go_simp) (by go_simp)).mono ?_
  rintro e w' ⟨rfl, rfl⟩
  go_wp2_with fail
  go_ret
  exact ⟨rfl, U1.trans (Ups.alloc _ _)⟩
end Go.Proofs.YtefhfoioeoijlaaGreatDoor
namespace Go.Proofs.YtefhfoioeoijlaaGreatDoor
open Go.RowKit Go.Sort
def stR (s : Stamp) : Bool := decide (1 ≤ s.t ∧ s.t ≤ 1099511627776 ∧ 0 ≤ s.w ∧ s.w < 8)
def mbB (x : Int) : Bool := decide (0 ≤ x ∧ x < 8)
def lessS (a b : Stamp) : Bool := decide (a.t < b.t ∨ a.t = b.t ∧ a.w < b.w)
def zeroS : Stamp := ⟨0, 0⟩
def placeB (s : Stamp) : Bool := decide (s = zeroS) || stR s
theorem member_any (x : Int) (w : World) : Calls Tryz.prog 165 #[.int .i64 x] w fun e w' => e = .returned (.bool (mbB x)) ∧ w' = w := by
  go_enter Tryz.func165, Tryz.ntmps165
  go_wp2
  all_goals (go_ret; exact ⟨ret_bool (by rw [Bool.eq_iff_iff]; simp [mbB]; try omega), rfl⟩)
theorem sright_any (s : Stamp) (w : World) : Calls Tryz.prog 123 #[stV s] w fun e w' => e = .returned (.bool (stR s)) ∧ Ups w w' := by
  unfold stV
  go_enter Tryz.func123, Tryz.ntmps123
  go_wp2_with (go_at_call 165; refine (member_any _ _).mono ?_; rintro e w' ⟨rfl, rfl⟩)
  all_goals (go_ret; exact ⟨ret_bool (by rw [Bool.eq_iff_iff]; simp [stR, mbB]; try omega), Ups.alloc _ _⟩)
theorem r04right_any (s : Stamp) (w : World) : Calls Tryz.prog 173 #[stV s] w fun e w' => e = .returned (.bool (stR s)) ∧ Ups w w' := by
  unfold stV
  go_enter Tryz.func173, Tryz.ntmps173
  go_wp2
  all_goals (go_ret; exact ⟨ret_bool (by rw [Bool.eq_iff_iff]; simp [stR, mbB]; try omega), Ups.alloc _ _⟩)
theorem r04less_any (a b : Stamp) (w : World) : Calls Tryz.prog 139 #[stV a, stV b] w fun e w' => e = .returned (.bool (lessS a b)) ∧ Ups w w' := by
  unfold stV
  go_enter Tryz.func139, Tryz.ntmps139
  go_wp2
  all_goals (go_ret; exact ⟨ret_bool (by rw [Bool.eq_iff_iff]; simp [lessS]; try omega), (Ups.alloc _ _).trans (Ups.alloc _ _)⟩)
theorem root_any (w : World) : Calls Tryz.prog 99 #[] w fun e w' => e = .returned (stV zeroS) ∧ Ups w w' := by
  unfold stV zeroS
  go_enter Tryz.func99, Tryz.ntmps99
  go_wp2
  exact bodyPost_ret (v := .agg #[.int .i64 0, .int .i64 0]) (by simp [results, Tryz.results64, go_sem]) rfl ⟨rfl, Ups.alloc _ _⟩
theorem sright_at (t u : Int) (w : World) : Calls Tryz.prog 123 #[.agg #[.int .i64 t, .int .i64 u]] w fun e w' => e = .returned (.bool (stR ⟨t, u⟩)) ∧ Ups w w' := sright_any ⟨t, u⟩ w
theorem r04right_at (t u : Int) (w : World) : Calls Tryz.prog 173 #[.agg #[.int .i64 t, .int .i64 u]] w fun e w' => e = .returned (.bool (stR ⟨t, u⟩)) ∧ Ups w w' := r04right_any ⟨t, u⟩ w
theorem root_at (w : World) : Calls Tryz.prog 99 #[] w fun e w' => e = .returned (.agg #[.int .i64 0, .int .i64 0]) ∧ Ups w w' := root_any w
theorem placeB_zero : placeB ⟨0, 0⟩ = true := by decide
theorem placeB_t {t u : Int} (h : ¬ t = 0) : placeB ⟨t, u⟩ = stR ⟨t, u⟩ := by simp [placeB, zeroS, h]
theorem placeB_w {t u : Int} (h : ¬ u = 0) : placeB ⟨t, u⟩ = stR ⟨t, u⟩ := by simp [placeB, zeroS, h]
theorem r15place_at (t u : Int) (w : World) : Calls Tryz.prog 174 #[.agg #[.int .i64 t, .int .i64 u]] w fun e w' => e = .returned (.bool (placeB ⟨t, u⟩)) ∧ Ups w w' := by
  by_cases ht : t = 0
  · by_cases hu : u = 0
    · subst ht; subst hu
      have HP := Lib.hid placeB_zero
      go_enter Tryz.func174, Tryz.ntmps174
      go_wp2_with fail
      go_ret
      exact ⟨ret_bool HP.out.symm, Ups.alloc _ _⟩
    · have HP := Lib.hid (placeB_w (t := t) hu)
      subst ht
      have hu' : (u == 0) = false := beq_eq_false_iff_ne.2 hu
      go_enter Tryz.func174, Tryz.ntmps174
      go_wp2_with fail
      refine (r04right_at _ _ _).mono ?_
      rintro e w' ⟨rfl, hu⟩
      go_wp2_with fail
      go_ret
      exact ⟨ret_bool HP.out.symm, (Ups.alloc _ _).trans hu⟩
  · have HP := Lib.hid (placeB_t (u := u) ht)
    have ht' : (t == 0) = false := beq_eq_false_iff_ne.2 ht
    go_enter Tryz.func174, Tryz.ntmps174
    go_wp2_with fail
    refine (r04right_at _ _ _).mono ?_
    rintro e w' ⟨rfl, hu⟩
    go_wp2_with fail
    go_ret
    exact ⟨ret_bool HP.out.symm, (Ups.alloc _ _).trans hu⟩
theorem place_at (t u : Int) (w : World) : Calls Tryz.prog 124 #[.agg #[.int .i64 t, .int .i64 u]] w fun e w' => e = .returned (.bool (placeB ⟨t, u⟩)) ∧ Ups w w' := by
  have hr := fun (W : World) n os => grown_ups (root_at (grow (W.drewN n) os))
  have hs := fun (W : World) n os => grown_ups (sright_at t u (grow (W.drewN n) os))
  have HR := Lib.hid hr
  have HS := Lib.hid hs
  clear hr hs
  have U0 := Ups.alloc w (.cells #[.int .i64 t, .int .i64 u] 24)
  have c0 : (w.alloc (.cells #[.int .i64 t, .int .i64 u] 24)).cell? ⟨w.heap.size, 0, none⟩ = some (.int .i64 t) := by go_simp
  have c1 : (w.alloc (.cells #[.int .i64 t, .int .i64 u] 24)).cell? ⟨w.heap.size, 1, none⟩ = some (.int .i64 u) := by go_simp
  by_cases ht : t = 0
  · by_cases hu : u = 0
    · subst ht; subst hu
      have HP := Lib.hid placeB_zero
      go_enter Tryz.func124, Tryz.ntmps124
      go_wp2_with fail
      generalize (w.alloc (.cells #[.int .i64 0, .int .i64 0] 24)) = W at U0 c0 c1 ⊢
      have d0 := grown_cell c0
      have d1 := grown_cell c1
      refine wp_region_grown_all (by kernel_rfl) (by kernel_rfl) ?_
      repeat (quiet_step ((exact HR.out _ _ _)))
      refine wpQuiet_nil ?_
      rintro _ ⟨⟨nq, osq⟩, rfl⟩
      go_wp2_with fail
      go_ret
      exact ⟨ret_bool HP.out.symm, U0.trans (ups_grow _ _ _)⟩
    · have HP := Lib.hid (placeB_w (t := t) hu)
      subst ht
      have hu' : (u == 0) = false := beq_eq_false_iff_ne.2 hu
      go_enter Tryz.func124, Tryz.ntmps124
      go_wp2_with fail
      generalize (w.alloc (.cells #[.int .i64 0, .int .i64 u] 24)) = W at U0 c0 c1 ⊢
      have d0 := grown_cell c0
      have d1 := grown_cell c1
      refine wp_region_grown_all (by kernel_rfl) (by kernel_rfl) ?_
      repeat (quiet_step ((first | exact HR.out _ _ _ | exact HS.out _ _ _)))
      refine wpQuiet_nil ?_
      rintro _ ⟨⟨nq, osq⟩, rfl⟩
      go_wp2_with fail
      go_ret
      exact ⟨ret_bool HP.out.symm, U0.trans (ups_grow _ _ _)⟩
  · have HP := Lib.hid (placeB_t (u := u) ht)
    have ht' : (t == 0) = false := beq_eq_false_iff_ne.2 ht
    go_enter Tryz.func124, Tryz.ntmps124
    go_wp2_with fail
    generalize (w.alloc (.cells #[.int .i64 t, .int .i64 u] 24)) = W at U0 c0 c1 ⊢
    have d0 := grown_cell c0
    have d1 := grown_cell c1
    refine wp_region_grown_all (by kernel_rfl) (by kernel_rfl) ?_
    repeat (quiet_step ((first | exact HR.out _ _ _ | exact HS.out _ _ _)))
    refine wpQuiet_nil ?_
    rintro _ ⟨⟨nq, osq⟩, rfl⟩
    go_wp2_with fail
    go_ret
    exact ⟨ret_bool HP.out.symm, U0.trans (ups_grow _ _ _)⟩
end Go.Proofs.YtefhfoioeoijlaaGreatDoor

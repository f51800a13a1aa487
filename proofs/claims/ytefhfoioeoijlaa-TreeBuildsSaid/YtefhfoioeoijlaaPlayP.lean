/- The pieces of law TreePlays' walk. -/
import Derived.Test.YtefhfoioeoijlaaRow
import Derived.Test.YtefhfoioeoijlaaTreeJ
set_option linter.unusedVariables false
set_option linter.unusedSimpArgs false
namespace Go.Proofs.Ytefhfoioeoijlaa
open Go Go.RowKit Go.Sort Go.Shelf

theorem right_kinds {o : OpD} (h : rightB o = true) : o.kind = 1 ∨ o.kind = 2 ∨ o.kind = 3 ∨ o.kind = 4 := by
  have hb : bodyB o = true := by unfold rightB at h; simp only [Bool.and_eq_true] at h; exact h.2.2.2.2
  unfold bodyB at hb
  by_cases h1 : o.kind = 1
  · exact .inl h1
  · by_cases h2 : o.kind = 2
    · exact .inr (.inl h2)
    · by_cases h3 : o.kind = 3
      · exact .inr (.inr (.inl h3))
      · by_cases h4 : o.kind = 4
        · exact .inr (.inr (.inr h4))
        · simp [h1, h2, h3, h4] at hb
theorem gotI_node {L : List Item} {n : Stamp} (h : hasI L n = true) : (gotI L n).node = n := by
  unfold hasI at h; unfold gotI
  cases hg : getI L n with
  | none => rw [hg] at h; cases h
  | some x => exact (getI_some hg).2
theorem got_not {L : List Item} {o : OpD} (h : hasI L o.node = false) (hr : rightB o = true) : ¬ (gotI L o.node).node = o.node := by
  have hn : stR o.node = true := by unfold rightB at hr; simp only [Bool.and_eq_true] at hr; exact hr.2.1
  unfold hasI at h; unfold gotI
  cases hg : getI L o.node with
  | some x => rw [hg] at h; cases h
  | none =>
    intro e
    have : o.node.t = 0 := by rw [← e]; rfl
    unfold stR at hn; simp at hn; omega
theorem putI_len_has {it : Item} {L : List Item} (hs : Srt L) (h : hasI L it.node = true) (hL : L.length ≤ 300) : (putI it L).length ≤ 300 := by rw [putI_length_old hs h]; exact hL
theorem putI_len_new {it : Item} {L : List Item} (hL : L.length < 300) : (putI it L).length ≤ 300 := by have := putI_length (it := it) (L := L); omega
/-- The operations that an argument holds. -/
def OpRow (B : Nat) (w : World) (A : Option Addr) (os : List OpD) : Prop :=
  ∀ (i : Nat) (o : OpD), os[i]? = some o → ∃ g f oA on oc, A = some ⟨g, f, none⟩ ∧ g < w.heap.size ∧ (∀ (j : Nat) (v : Value), (opC o (.slice oA on oc))[j]? = some v → w.cell? ⟨g, f + i * 10 + j, none⟩ = some v) ∧ Dat B w (.slice oA on oc) o.data ∧ o.name.size ≤ 9223372036854775807
theorem OpRow.up {B : Nat} {w w' : World} {A : Option Addr} {os : List OpD} (h : OpRow B w A os) (u : Up w w') : OpRow B w' A os := fun i o ho => by
  obtain ⟨g, f, oA, on, oc, hA, hg, hc, hD, hs⟩ := h i o ho
  exact ⟨g, f, oA, on, oc, hA, Nat.lt_of_lt_of_le hg u.size, fun j v hj => (u.cell (p := ⟨g, f + i * 10 + j, none⟩) hg).trans (hc j v hj), hD.up u, hs⟩
section
variable {P : Program} {d : Option Tmp} {ty : TypeId} {pos : String} {af : Array Edge} {g : Option (Nat × Bool)} {ρ : Operand → Value} {w : World}
theorem r_loadcN {t : TypeId} {x : Operand} {b k : Nat} {vs : List Value} (hx : ρ x = .pointer (some ⟨b, k, none⟩)) (ht : ∀ w, (isAgg t).run P w = .ok true w) (hs : ∀ w, (sizeOf t).run P w = .ok vs.length w)
    (h : ∀ j v, vs[j]? = some v → w.cell? ⟨b, k + j, none⟩ = some v) : (execOp ρ ⟨d, .load t x, ty, pos, af, g⟩).run P w = .ok (.value (.agg vs.toArray)) w := by
  have := run_loadCells_list (P := P) w ⟨b, k, none⟩ vs (fun j v hj => by rw [add_at]; exact h j v hj)
  simp [execOp, hx, Instr.loadAt, Instr.sureAddr, loadVar, ht, hs, this]
theorem r_neb_same {t : TypeId} {x y : Operand} {b : Bool} (hx : ρ x = .bool b) (hy : ρ y = .bool b) (hu : P.underlying t = some .bool) : (execOp ρ ⟨d, .binOp .neq t x y t, ty, pos, af, g⟩).run P w = .ok (.value (.bool false)) w := by
  cases b
  · exact r_neb hu hx hy
  · exact r_neb hu hx hy
theorem dec_true {o : Oper} {p : Prop} [Decidable p] (hp : p) (h : (execOp ρ o).run P w = .ok (.value (.bool (decide p))) w) : (execOp ρ o).run P w = .ok (.value (.bool true)) w := by rw [h, decide_eq_true hp]
end
theorem row_sl {P : Program} {f : FuncId} {args : Array Value} {w : World} {T : TypeId} {B base : Nat} {L : List Item} (h : Calls P f args w fun e w' => ∃ v, e = .returned v ∧ IRow T B base w' v L ∧ Up w w') :
    Calls P f args w fun e w' => ∃ A c, e = .returned (.slice A L.length c) ∧ IRow T B base w' (.slice A L.length c) L ∧ Up w w' := by
  refine h.mono ?_
  rintro e w' ⟨v, rfl, hr, u⟩
  obtain ⟨A, c, rfl⟩ := hr.form
  exact ⟨A, c, rfl, hr, u⟩
theorem bool_true {P : Program} {f : FuncId} {args : Array Value} {w : World} {p : Prop} [Decidable p] (hp : p) (h : Calls P f args w fun e w' => e = .returned (.bool (decide p)) ∧ Up w w') : Calls P f args w fun e w' => e = .returned (.bool true) ∧ Up w w' := by
  rw [decide_eq_true hp] at h; exact h
/-! ### what keeps the trees -/
theorem NotU8.map {w : World} {r : Nat} {es : Array MapEntry} {cl : Nat} (h : w.heap[r]? = some (.map es cl)) : NotU8 w r := fun cs fr e => by rw [h] at e; cases e
theorem RIs.chgm {B : Nat} {w w' : World} {ub r : Nat} {L : List Item} {es : Array MapEntry} {cl : Nat} (h : RIs B w ub L) (hr : w.heap[r]? = some (.map es cl)) (hb : B ≤ r) (c : Chg w w' r) : RIs B w' ub L := by
  obtain ⟨h0, v, h1, h2, h3, h4⟩ := h
  have hne : ub ≠ r := fun e => by rw [e, hr] at h1; cases h1
  refine ⟨h0, v, chg_ob c hne h1, ?_, h3, h4⟩
  rw [rowI_is] at h2 ⊢
  refine IRow.chgn h2 c ⟨hb, NotU8.map hr⟩ fun e => ?_
  obtain ⟨ds, _, _, ho⟩ := h2
  rcases ho with ⟨rfl, _⟩ | ⟨g, cap, cur, rfl, _, hg, _⟩
  · cases e
  · injection e with e
    have e : g = r := e
    rw [e, hr] at hg; cases hg
theorem TreeIs.chgu {B : Nat} {w w' : World} {tb r ub : Nat} {L M : List Item} (h : TreeIs B w tb r L) (hu : RIs B w ub M) (c : Chg w w' ub) : TreeIs B w' tb r L := by
  obtain ⟨h0, v, h1, h2, h3, h4⟩ := hu
  have hne : tb ≠ ub := fun e => by have := h.1; rw [e, h1] at this; injection this with this; injection this with _ this; exact absurd this (by decide)
  obtain ⟨k1, k2, k3, k4, k5⟩ := h
  have hnr : r ≠ ub := fun e => k4.noCells _ _ _ (by rw [e]; exact h1)
  exact ⟨chg_ob c hne k1, k2, k3, k4.grown c h0 hnr (NotU8.of h1 (by decide)), k5⟩
/-! ### alive -/
def ao1 : OpD := ⟨1, ⟨1, 1⟩, ⟨1, 1⟩, ⟨0, 0⟩, true, ⟨#[97]⟩, []⟩
def ao2 : OpD := ⟨1, ⟨2, 1⟩, ⟨2, 1⟩, ⟨0, 0⟩, true, ⟨#[98]⟩, []⟩
def ao3 : OpD := ⟨2, ⟨3, 1⟩, ⟨1, 1⟩, ⟨2, 1⟩, false, ⟨#[97]⟩, []⟩
def ao4 : OpD := ⟨2, ⟨4, 1⟩, ⟨2, 1⟩, ⟨1, 1⟩, false, ⟨#[98]⟩, []⟩
def aL1 : List Item := (doI [] ao1).2
def aL2 : List Item := (doI aL1 ao2).2
def aL3 : List Item := (doI aL2 ao3).2
def aL4 : List Item := (doI aL3 ao4).2
def ax1 : Item := ⟨⟨1, 1⟩, ⟨2, 1⟩, ⟨#[97]⟩, true, false, [], ⟨0, 0⟩⟩
def ax2 : Item := ⟨⟨2, 1⟩, ⟨0, 0⟩, ⟨#[98]⟩, true, false, [], ⟨0, 0⟩⟩
theorem a_g1 : gotI aL4 ⟨1, 1⟩ = ax1 := by kernel_rfl
theorem a_g2 : gotI aL4 ⟨2, 1⟩ = ax2 := by kernel_rfl
theorem a_h1 : hasI aL4 ⟨1, 1⟩ = true := by kernel_rfl
theorem a_h2 : hasI aL4 ⟨2, 1⟩ = true := by kernel_rfl
theorem a_len : aL4.length = 2 := by kernel_rfl
/-- Do, with what a walk needs by name. -/
theorem do_x {B : Nat} {w : World} {tb r : Nat} {L L' : List Item} (h : TreeIs B w tb r L) (hB : B ≤ w.heap.size) (o : OpD) (oA : Option Addr) (on oc : Nat) (hDo : Dat B w (.slice oA on oc) o.data) (hs : o.name.size ≤ 9223372036854775807) (hL : (doI L o).2 = L') :
    Calls Try.prog 15 #[trP tb, opV o (.slice oA on oc)] w fun e w' => ∃ A n c, e = .returned (.tuple #[itV (doI L o).1.1 (.slice A n c), .bool (doI L o).1.2.1, .int .i64 (doI L o).1.2.2]) ∧ Dat B w' (.slice A n c) (doI L o).1.1.data ∧ TreeIs B w' tb r L' ∧ Chg w w' r := by
  refine (do_at h hB o oA on oc hDo hs).mono ?_
  rintro e w' ⟨d, rfl, hD, hT, hC⟩
  obtain ⟨A, n, c, rfl⟩ := hD.form
  rw [hL] at hT
  exact ⟨A, n, c, rfl, hD, hT, hC⟩
theorem rdo_x {B : Nat} {w : World} {ub : Nat} {L : List Item} (h : RIs B w ub L) (hB : B ≤ w.heap.size) (hsrt : Srt L) (o : OpD) (oA : Option Addr) (on oc : Nat) (hDo : Dat B w (.slice oA on oc) o.data) (hs : o.name.size ≤ 9223372036854775807)
    (hr : Calls Try.prog 16 #[trP ub, opV o (.slice oA on oc)] w fun e w' => ∃ d, e = .returned (.tuple #[itV (doI L o).1.1 d, .bool (doI L o).1.2.1, .int .i64 (doI L o).1.2.2]) ∧ Dat B w' d (doI L o).1.1.data ∧ RIs B w' ub (doI L o).2 ∧ Chg w w' ub) :
    Calls Try.prog 16 #[trP ub, opV o (.slice oA on oc)] w fun e w' => ∃ A n c, e = .returned (.tuple #[itV (doI L o).1.1 (.slice A n c), .bool (doI L o).1.2.1, .int .i64 (doI L o).1.2.2]) ∧ Dat B w' (.slice A n c) (doI L o).1.1.data ∧ RIs B w' ub (doI L o).2 ∧ Chg w w' ub := by
  refine hr.mono ?_
  rintro e w' ⟨d, rfl, hD, hT, hC⟩
  obtain ⟨A, n, c, rfl⟩ := hD.form
  exact ⟨A, n, c, rfl, hD, hT, hC⟩
theorem get_x {B : Nat} {w : World} {tb r : Nat} {L : List Item} (h : TreeIs B w tb r L) (n : Stamp) {x : Item} {b : Bool} (hx : gotI L n = x) (hb : hasI L n = b) : Calls Try.prog 23 #[trP tb, stV n] w fun e w' =>
    ∃ A k c, e = .returned (.tuple #[itV x (.slice A k c), .bool b]) ∧ Dat B w' (.slice A k c) x.data ∧ Up w w' := by
  refine (tget_any h n).mono ?_
  rintro e w' ⟨d, rfl, hD, u⟩
  obtain ⟨A, k, c, rfl⟩ := hD.form
  rw [hx] at hD
  rw [hx, hb]
  exact ⟨A, k, c, rfl, hD, u⟩
end Go.Proofs.Ytefhfoioeoijlaa

/- Arg, GN, StpR -/
import Derived.Below
import Derived.ChangeOld
import Derived.ChangeSame
import Derived.Deep.Fields
import Derived.Deep.Slices
import Derived.Laws.Externs
import Derived.Lib.AppendZerosOnto
import Derived.Lib.Overlaps
import Derived.OpenShut
import Derived.ProofKit
import Derived.ShutString
import Derived.WalkKit
import Derived.WideShapes
import Derived.Test.YtefhfoioeoijlaaGreatDoorUae
import Derived.Test.YtefhfoioeoijlaaGreatDoorUaf
import Derived.Test.YtefhfoioeoijlaaGreatDoorUag
import Derived.Test.YtefhfoioeoijlaaGreatDoorUah
import Derived.Test.YtefhfoioeoijlaaGreatDoorUak
import Derived.Test.YtefhfoioeoijlaaGreatDoorUam
import Derived.Test.YtefhfoioeoijlaaGreatDoorUan
set_option linter.unusedVariables false
set_option linter.unusedSimpArgs false
namespace Go.Proofs.YtefhfoioeoijlaaGreatDoor
open Go Go.RowKit Go.Sort Go.Shelf
theorem right_kinds {o : OpD} (h : rightB o = true) : o.kind = 1 ∨ o.kind = 2 ∨ o.kind = 3 ∨ o.kind = 4 := by
  have hb : bodyB o = true := by unfold rightB at h; simp only [Bool.and_eq_true] at h; exact h.2.2.2.2
  unfold bodyB at hb
  by_cases h1 : o.kind = 1
  · exact .inl h1
  · by_cases h2 : o.kind = 2
    · exact .inr (.inl h2)
    · by_cases h3 : o.kind = 3
      · exact .inr (.inr (.inl h3))
      · by_cases h4 : o.kind = 4
        · exact .inr (.inr (.inr h4))
        · simp [h1, h2, h3, h4] at hb
theorem gotI_node {L : List Item} {n : Stamp} (h : hasI L n = true) : (gotI L n).node = n := by
  unfold hasI at h; unfold gotI
  cases hg : getI L n with
  | none => rw [hg] at h; cases h
  | some x => exact (getI_some hg).2
theorem got_not {L : List Item} {o : OpD} (h : hasI L o.node = false) (hr : rightB o = true) : ¬ (gotI L o.node).node = o.node := by
  have hn : stR o.node = true := by unfold rightB at hr; simp only [Bool.and_eq_true] at hr; exact hr.2.1
  unfold hasI at h; unfold gotI
  cases hg : getI L o.node with
  | some x => rw [hg] at h; cases h
  | none =>
    intro e
    have : o.node.t = 0 := by rw [← e]; rfl
    unfold stR at hn; simp at hn; omega
theorem putI_len_has {it : Item} {L : List Item} (hs : Srt L) (h : hasI L it.node = true) (hL : L.length ≤ 300) : (putI it L).length ≤ 300 := by rw [putI_length_old hs h]; exact hL
theorem putI_len_new {it : Item} {L : List Item} (hL : L.length < 300) : (putI it L).length ≤ 300 := by have := putI_length (it := it) (L := L); omega
def OpRow (B : Nat) (w : World) (A : Option Addr) (os : List OpD) : Prop :=
  ∀ (i : Nat) (o : OpD), os[i]? = some o → ∃ g f oA on oc, A = some ⟨g, f, none⟩ ∧ g < w.heap.size ∧ (∀ (j : Nat) (v : Value), (opC o (.slice oA on oc))[j]? = some v → w.cell? ⟨g, f + i * 10 + j, none⟩ = some v) ∧ Dat B w (.slice oA on oc) o.data ∧ o.name.size ≤ 9223372036854775807
theorem OpRow.up {B : Nat} {w w' : World} {A : Option Addr} {os : List OpD} (h : OpRow B w A os) (u : Up w w') : OpRow B w' A os := fun i o ho => by
  obtain ⟨g, f, oA, on, oc, hA, hg, hc, hD, hs⟩ := h i o ho
  exact ⟨g, f, oA, on, oc, hA, Nat.lt_of_lt_of_le hg u.size, fun j v hj => (u.cell (p := ⟨g, f + i * 10 + j, none⟩) hg).trans (hc j v hj), hD.up u, hs⟩
section
variable {P : Program} {d : Option Tmp} {ty : TypeId} {pos : String} {af : Array Edge} {g : Option (Nat × Bool)} {ρ : Operand → Value} {w : World}
theorem r_loadcN {t : TypeId} {x : Operand} {b k : Nat} {vs : List Value} (hx : ρ x = .pointer (some ⟨b, k, none⟩)) (ht : ∀ w, (isAgg t).run P w = .ok true w) (hs : ∀ w, (sizeOf t).run P w = .ok vs.length w)
    (h : ∀ j v, vs[j]? = some v → w.cell? ⟨b, k + j, none⟩ = some v) : (execOp ρ ⟨d, .load t x, ty, pos, af, g⟩).run P w = .ok (.value (.agg vs.toArray)) w := by
  have := run_loadCells_list (P := P) w ⟨b, k, none⟩ vs (fun j v hj => by rw [add_at]; exact h j v hj)
  simp [execOp, hx, Instr.loadAt, Instr.sureAddr, loadVar, ht, hs, this]
theorem dec_true {o : Oper} {p : Prop} [Decidable p] (hp : p) (h : (execOp ρ o).run P w = .ok (.value (.bool (decide p))) w) : (execOp ρ o).run P w = .ok (.value (.bool true)) w := by rw [h, decide_eq_true hp]
end
theorem row_sl {P : Program} {f : FuncId} {args : Array Value} {w : World} {T : TypeId} {B base : Nat} {L : List Item} (h : Calls P f args w fun e w' => ∃ v, e = .returned v ∧ IRow T B base w' v L ∧ Up w w') :
    Calls P f args w fun e w' => ∃ A c, e = .returned (.slice A L.length c) ∧ IRow T B base w' (.slice A L.length c) L ∧ Up w w' := by
  refine h.mono ?_
  rintro e w' ⟨v, rfl, hr, u⟩
  obtain ⟨A, c, rfl⟩ := hr.form
  exact ⟨A, c, rfl, hr, u⟩
theorem NotU8.map {w : World} {r : Nat} {es : Array MapEntry} {cl : Nat} (h : w.heap[r]? = some (.map es cl)) : NotU8 w r := fun cs fr e => by rw [h] at e; cases e
theorem do_x {B : Nat} {w : World} {tb r : Nat} {L L' : List Item} (h : TreeIs B w tb r L) (hB : B ≤ w.heap.size) (o : OpD) (oA : Option Addr) (on oc : Nat) (hDo : Dat B w (.slice oA on oc) o.data) (hs : o.name.size ≤ 9223372036854775807) (hL : (doI L o).2 = L') :
    Calls Tryz.prog 22 #[trP tb, opV o (.slice oA on oc)] w fun e w' => ∃ A n c, e = .returned (.tuple #[itV (doI L o).1.1 (.slice A n c), .bool (doI L o).1.2.1, .int .i64 (doI L o).1.2.2]) ∧ Dat B w' (.slice A n c) (doI L o).1.1.data ∧ TreeIs B w' tb r L' ∧ Chg w w' r := by
  refine (do_at h hB o oA on oc hDo hs).mono ?_
  rintro e w' ⟨d, rfl, hD, hT, hC⟩
  obtain ⟨A, n, c, rfl⟩ := hD.form
  rw [hL] at hT
  exact ⟨A, n, c, rfl, hD, hT, hC⟩
theorem rdo_x {B : Nat} {w : World} {ub : Nat} {L : List Item} (h : RIs B w ub L) (hB : B ≤ w.heap.size) (hsrt : Srt L) (o : OpD) (oA : Option Addr) (on oc : Nat) (hDo : Dat B w (.slice oA on oc) o.data) (hs : o.name.size ≤ 9223372036854775807)
    (hr : Calls Tryz.prog 82 #[trP ub, opV o (.slice oA on oc)] w fun e w' => ∃ d, e = .returned (.tuple #[itV (doI L o).1.1 d, .bool (doI L o).1.2.1, .int .i64 (doI L o).1.2.2]) ∧ Dat B w' d (doI L o).1.1.data ∧ RIs B w' ub (doI L o).2 ∧ Chg w w' ub) :
    Calls Tryz.prog 82 #[trP ub, opV o (.slice oA on oc)] w fun e w' => ∃ A n c, e = .returned (.tuple #[itV (doI L o).1.1 (.slice A n c), .bool (doI L o).1.2.1, .int .i64 (doI L o).1.2.2]) ∧ Dat B w' (.slice A n c) (doI L o).1.1.data ∧ RIs B w' ub (doI L o).2 ∧ Chg w w' ub := by
  refine hr.mono ?_
  rintro e w' ⟨d, rfl, hD, hT, hC⟩
  obtain ⟨A, n, c, rfl⟩ := hD.form
  exact ⟨A, n, c, rfl, hD, hT, hC⟩
theorem get_x {B : Nat} {w : World} {tb r : Nat} {L : List Item} (h : TreeIs B w tb r L) (n : Stamp) {x : Item} {b : Bool} (hx : gotI L n = x) (hb : hasI L n = b) : Calls Tryz.prog 20 #[trP tb, stV n] w fun e w' =>
    ∃ A k c, e = .returned (.tuple #[itV x (.slice A k c), .bool b]) ∧ Dat B w' (.slice A k c) x.data ∧ Up w w' := by
  refine (tget_any h n).mono ?_
  rintro e w' ⟨d, rfl, hD, u⟩
  obtain ⟨A, k, c, rfl⟩ := hD.form
  rw [hx] at hD
  rw [hx, hb]
  exact ⟨A, k, c, rfl, hD, u⟩
end Go.Proofs.YtefhfoioeoijlaaGreatDoor
namespace Go.Proofs.YtefhfoioeoijlaaGreatDoor
open Go Go.RowKit Go.ChangeShapes Go.WideShapes Go.ChangeAt Go.Deep
def OpRow0 (w : World) (A : Option Addr) (os : List OpD) : Prop :=
  ∀ (i : Nat) (o : OpD), os[i]? = some o → ∃ g f oA on oc, A = some ⟨g, f, none⟩ ∧ g < w.heap.size ∧ (∀ (j : Nat) (v : Value), (opC o (.slice oA on oc))[j]? = some v → w.cell? ⟨g, f + i * 10 + j, none⟩ = some v) ∧ o.data.length = on ∧ o.name.size ≤ 9223372036854775807
theorem OpRow0.up {w w' : World} {A : Option Addr} {os : List OpD} (h : OpRow0 w A os) (u : Up w w') : OpRow0 w' A os := fun i o ho => by
  obtain ⟨g, f, oA, on, oc, hA, hg, hc, hD, hs⟩ := h i o ho
  exact ⟨g, f, oA, on, oc, hA, Nat.lt_of_lt_of_le hg u.size, fun j v hj => (u.cell (p := ⟨g, f + i * 10 + j, none⟩) hg).trans (hc j v hj), hD, hs⟩
def Small (os : List OpD) : Prop := ∀ (i : Nat) (o : OpD), os[i]? = some o → o.data.length ≤ 500
theorem light_next {os : List OpD} {k on : Nat} {o : OpD} (h : Hid (∀ (i : Nat) (o : OpD), i < k → os[i]? = some o → o.data.length ≤ 500)) (ho : os[k]? = some o) (hD : o.data.length = on) (p : ¬ ((on : Int) > 500)) : Hid (∀ (i : Nat) (o : OpD), i < k + 1 → os[i]? = some o → o.data.length ≤ 500) := fun i x hi hx => by
  rcases Nat.lt_or_ge i k with h1 | h1
  · exact h.out i x h1 hx
  · obtain rfl : i = k := by omega
    rw [ho] at hx; injection hx with hx; subst hx
    omega
theorem light_end {os : List OpD} {k : Nat} (h : Hid (∀ (i : Nat) (o : OpD), i < k → os[i]? = some o → o.data.length ≤ 500)) (hk : os.length ≤ k) : Small os := fun i o ho => h.out i o (by have := (List.getElem?_eq_some_iff.1 ho).1; omega) ho
section
variable {H : Type} {enc : TypeId × Value → H}
theorem spot_none {w : World} {a : Addr} {v : Value} (h : w.cell? a = some v) : a = ⟨a.block, a.off, none⟩ ∧ a.block < w.heap.size := by
  obtain ⟨b, o, s⟩ := a
  refine ⟨?_, World.block_lt_of_cell? w _ h⟩
  cases s with
  | none => rfl
  | some s => unfold World.cell? at h; simp at h; split at h <;> simp at h
theorem open_data {W : World} {sp : Nat → Bool} {held : Bool} {n : Nat} {v : Value} {y : DataW H × List MemPlace} (h : DataW.trod enc Tryz.prog W 0 sp held n 40 [v] = some y) :
    ∃ oA on oc xs, v = .slice oA on oc ∧ xs.length = on ∧ (on ≤ 500 → Dat W.heap.size W (.slice oA on oc) xs) := by
  rcases open_ints Tryz.underlying40 Tryz.underlying5 (by kernel_rfl) h with ⟨hc, _⟩ | ⟨a, len, cap, zs, hc, _, hl, hm, hz, _, hcell, hwf⟩
  · injection hc with hc _
    exact ⟨none, 0, 0, [], hc, rfl, fun _ => Dat.nil _ _⟩
  · injection hc with hc _
    have hlz : len ≤ zs.length := by rw [hz]; split <;> omega
    have htl : (zs.take len).length = len := by rw [List.length_take]; omega
    refine ⟨some a, len, cap, zs.take len, hc, htl, fun h5 => ?_⟩
    refine ⟨some a, len, cap, rfl, htl, hl, by omega, fun x hx => ?_, fun h0 => ?_⟩
    · have := hwf x (List.mem_of_mem_take hx)
      have := bounds_u8 this
      omega
    · have h1 := hcell 0 (by omega)
      rw [show a.add 0 = a from rfl] at h1
      obtain ⟨ha, hb⟩ := spot_none h1
      refine ⟨a.block, a.off, by rw [← ha], hb, .inl hb, fun i hi => ?_⟩
      have := hcell i (by omega)
      rw [ha, add_at] at this
      rw [this]
      congr 2
      simp [List.getD_eq_getElem?_getD, List.getElem?_take, hi]
set_option maxRecDepth 20000 in
theorem open_op {W : World} {sp : Nat → Bool} {held : Bool} {n : Nat} {cs : List Value} {x : DataW H × List MemPlace} (h : DataW.trod enc Tryz.prog W 0 sp held n 49 cs = some x) :
    ∃ (o : OpD) (oA : Option Addr) (on oc : Nat), cs = opC o (.slice oA on oc) ∧ o.data.length = on ∧ o.name.size ≤ 9223372036854775807 ∧ (on ≤ 500 → Dat W.heap.size W (.slice oA on oc) o.data) := by
  obtain ⟨xs, k, _, _, hlen, hxs, hf⟩ := DataW.trod_struct Tryz.underlying49 h
  rw [show Tryz.prog.cellsOf 49 = 10 from by kernel_rfl] at hlen
  match cs, hlen with
  | [v0, v1, v2, v3, v4, v5, v6, v7, v8, v9], _ =>
    simp only [List.size_toArray, List.length_cons, List.length_nil, Nat.reduceAdd] at hxs
    match xs, hxs with
    | [y0, y1, y2, y3, y4, y5, y6], _ =>
      have c2 : Tryz.prog.cellsOf 2 = 1 := by kernel_rfl
      have c3 : Tryz.prog.cellsOf 3 = 1 := by kernel_rfl
      have c4 : Tryz.prog.cellsOf 4 = 1 := by kernel_rfl
      have c9 : Tryz.prog.cellsOf 9 = 1 := by kernel_rfl
      have c24 : Tryz.prog.cellsOf 24 = 2 := by kernel_rfl
      have c33 : Tryz.prog.cellsOf 40 = 1 := by kernel_rfl
      have t0 : DataW.trod enc Tryz.prog W 0 sp held k 3 [v0] = some y0 := by
        have q : DataW.trod enc Tryz.prog W 0 sp held k 3 (([v0, v1, v2, v3, v4, v5, v6, v7, v8, v9].drop 0).take (Tryz.prog.cellsOf 3)) = some y0 := hf 0 _ rfl
        rw [c3] at q; exact q
      have t1 : DataW.trod enc Tryz.prog W 0 sp held k 24 [v1, v2] = some y1 := by
        have q : DataW.trod enc Tryz.prog W 0 sp held k 24 (([v0, v1, v2, v3, v4, v5, v6, v7, v8, v9].drop 1).take (Tryz.prog.cellsOf 24)) = some y1 := hf 1 _ rfl
        rw [c24] at q; exact q
      have t2 : DataW.trod enc Tryz.prog W 0 sp held k 24 [v3, v4] = some y2 := by
        have q : DataW.trod enc Tryz.prog W 0 sp held k 24 (([v0, v1, v2, v3, v4, v5, v6, v7, v8, v9].drop 3).take (Tryz.prog.cellsOf 24)) = some y2 := hf 2 _ rfl
        rw [c24] at q; exact q
      have t3 : DataW.trod enc Tryz.prog W 0 sp held k 24 [v5, v6] = some y3 := by
        have q : DataW.trod enc Tryz.prog W 0 sp held k 24 (([v0, v1, v2, v3, v4, v5, v6, v7, v8, v9].drop 5).take (Tryz.prog.cellsOf 24)) = some y3 := hf 3 _ rfl
        rw [c24] at q; exact q
      have t4 : DataW.trod enc Tryz.prog W 0 sp held k 4 [v7] = some y4 := by
        have q : DataW.trod enc Tryz.prog W 0 sp held k 4 (([v0, v1, v2, v3, v4, v5, v6, v7, v8, v9].drop 7).take (Tryz.prog.cellsOf 4)) = some y4 := hf 4 _ rfl
        rw [c4] at q; exact q
      have t5 : DataW.trod enc Tryz.prog W 0 sp held k 9 [v8] = some y5 := by
        have q : DataW.trod enc Tryz.prog W 0 sp held k 9 (([v0, v1, v2, v3, v4, v5, v6, v7, v8, v9].drop 8).take (Tryz.prog.cellsOf 9)) = some y5 := hf 5 _ rfl
        rw [c9] at q; exact q
      have t6 : DataW.trod enc Tryz.prog W 0 sp held k 40 [v9] = some y6 := by
        have q : DataW.trod enc Tryz.prog W 0 sp held k 40 (([v0, v1, v2, v3, v4, v5, v6, v7, v8, v9].drop 9).take (Tryz.prog.cellsOf 40)) = some y6 := hf 6 _ rfl
        rw [c33] at q; exact q
      have st : ∀ {u v : Value} {y : DataW H × List MemPlace}, DataW.trod enc Tryz.prog W 0 sp held k 24 [u, v] = some y → ∃ a b, u = .int .i64 a ∧ v = .int .i64 b := fun {u v y} hy => by
        obtain ⟨z0, z1, m, _, _, q0, q1⟩ := trod_struct2 Tryz.underlying24 hy
        simp only [c2, c3, List.drop, List.take] at q0 q1
        obtain ⟨a, ha, _⟩ := DataW.trod_int Tryz.underlying2 q0
        obtain ⟨b, hb, _⟩ := DataW.trod_int Tryz.underlying3 q1
        injection ha with ha _
        injection hb with hb _
        exact ⟨a, b, ha, hb⟩
      obtain ⟨kd, e0, _⟩ := DataW.trod_int Tryz.underlying3 t0
      obtain ⟨a1, b1, rfl, rfl⟩ := st t1
      obtain ⟨a2, b2, rfl, rfl⟩ := st t2
      obtain ⟨a3, b3, rfl, rfl⟩ := st t3
      obtain ⟨dr, e4, _⟩ := DataW.trod_bool Tryz.underlying4 t4
      obtain ⟨nm, e5, _, hnm⟩ := DataW.trod_string Tryz.underlying9 t5
      obtain ⟨oA, on, oc, zs, e6, hz, hD⟩ := open_data t6
      injection e0 with e0 _
      injection e4 with e4 _
      injection e5 with e5 _
      subst e0 e4 e5 e6
      exact ⟨⟨kd, ⟨a1, b1⟩, ⟨a2, b2⟩, ⟨a3, b3⟩, dr, nm, zs⟩, oA, on, oc, rfl, hz, by unfold maxLen at hnm; simpa using hnm, hD⟩
theorem open_ops {W : World} {sp : Nat → Bool} {held : Bool} {n : Nat} {cs : List Value} {x : DataW H × List MemPlace} (h : DataW.trod enc Tryz.prog W 0 sp held n 22 cs = some x) :
    ∃ (A : Option Addr) (os : List OpD) (c : Nat), cs = [.slice A os.length c] ∧ os.length ≤ 9223372036854775807 ∧ OpRow0 W A os ∧ (Small os → OpRow W.heap.size W A os) := by
  rcases open_slice Tryz.underlying22 h with ⟨hc, _⟩ | ⟨a, len, cap, m, k, D, Pl, hc, _, hl, hm, hmm, _, hx⟩
  · exact ⟨none, [], 0, hc, by simp, fun i o ho => by simp at ho, fun _ i o ho => by simp at ho⟩
  · have hlm : len ≤ m := by rw [hmm]; split <;> omega
    have c40 : Tryz.prog.cellsOf 49 = 10 := by kernel_rfl
    have each : ∀ i, ∃ o : OpD, i < len → ∃ oA on oc, a = ⟨a.block, a.off, none⟩ ∧ a.block < W.heap.size ∧ (∀ (j : Nat) (v : Value), (opC o (.slice oA on oc))[j]? = some v → W.cell? ⟨a.block, a.off + i * 10 + j, none⟩ = some v) ∧ o.data.length = on ∧ o.name.size ≤ 9223372036854775807 ∧ (on ≤ 500 → Dat W.heap.size W (.slice oA on oc) o.data) := by
      intro i
      by_cases hi : i < len
      · obtain ⟨cs', h1, h2⟩ := hx i (by omega)
        rw [c40] at h1
        obtain ⟨o, oA, on, oc, rfl, hd, hs, hD⟩ := open_op h2
        obtain ⟨_, _, hcell⟩ := World.cells?_some h1
        have ha : a = ⟨a.block, a.off, none⟩ ∧ a.block < W.heap.size := by
          obtain ⟨cs0, g1, g2⟩ := hx 0 (by omega)
          obtain ⟨_, g3, g4⟩ := World.cells?_some g1
          have hp : 0 < Tryz.prog.cellsOf 49 := by rw [c40]; decide
          have := g4 0 hp
          rw [Nat.zero_mul, List.getElem?_eq_getElem (by omega)] at this
          exact spot_none (show W.cell? a = _ from this)
        refine ⟨o, fun _ => ⟨oA, on, oc, ha.1, ha.2, fun j v hj => ?_, hd, hs, hD⟩⟩
        have hj10 : j < 10 := (List.getElem?_eq_some_iff.1 hj).1
        have := hcell j hj10
        rw [hj, ha.1, add_at, add_at] at this
        exact this
      · exact ⟨default, fun h => absurd h hi⟩
    refine ⟨some a, (List.range len).map fun i => (each i).choose, cap, by rw [List.length_map, List.length_range]; exact hc, by rw [List.length_map, List.length_range]; exact Nat.le_trans hl (Nat.le_trans hm (Nat.le_of_ble_eq_true rfl)), fun i o ho => ?_, fun hsm i o ho => ?_⟩
    · have hi : i < len := by have := (List.getElem?_eq_some_iff.1 ho).1; simpa using this
      have he : (each i).choose = o := by simpa [List.getElem?_map, List.getElem?_range hi] using ho
      obtain ⟨oA, on, oc, ha, hb, hc', hd, hs, hD⟩ := (each i).choose_spec hi
      rw [he] at hc' hd hs
      exact ⟨a.block, a.off, oA, on, oc, by rw [← ha], hb, hc', hd, hs⟩
    · have hi : i < len := by have := (List.getElem?_eq_some_iff.1 ho).1; simpa using this
      have he : (each i).choose = o := by simpa [List.getElem?_map, List.getElem?_range hi] using ho
      obtain ⟨oA, on, oc, ha, hb, hc', hd, hs, hD⟩ := (each i).choose_spec hi
      rw [he] at hc' hd hs hD
      exact ⟨a.block, a.off, oA, on, oc, by rw [← ha], hb, hc', hD (by have := hsm i o ho; omega), hs⟩
end
end Go.Proofs.YtefhfoioeoijlaaGreatDoor
set_option linter.unusedVariables false
set_option linter.unusedSimpArgs false
namespace Go.Proofs.YtefhfoioeoijlaaGreatDoor
open Go Go.RowKit Go.Sort
theorem tkO {L : List OpD} {k : Nat} {x : OpD} (h : L[k]? = some x) : L.take (k + 1) = L.take k ++ [x] := by rw [List.take_add_one, h]; rfl
set_option maxHeartbeats 2000000 in
theorem opsort_at {B : Nat} {w : World} {lA : Option Addr} {lc : Nat} {os : List OpD} (h : OpRow B w lA os) (hB : B ≤ w.heap.size) (hn : os.length ≤ 1000000) :
    Calls Tryz.prog 56 #[.slice lA os.length lc] w fun e w' => ∃ v, e = .returned v ∧ ORow 49 B w.heap.size w' v (sortO os) ∧ Up w w' := by
  have hBb := hB
  obtain ⟨iO, zO, hiO, hzO, hsO, hbO, hcO⟩ := info_op
  go_enter Tryz.func56, Tryz.ntmps56
  refine wp_seq (rg_lit (was (v := .slice none 0 0) (wnil (then_n (wp_seq (rg_lit (wmv (v := .slice lA os.length lc) (wlv (v := I_ os.length) (ln lA os.length lc Ty.un22) (wl (mkO rfl (B := B) (base := w.heap.size) (m := os.length) (by kernel_rfl) (by kernel_rfl) Ty.un22 hiO hzO hsO hbO (by omega) (Mod.refl [] w).size fun g w1 e2 h3 u4 => ?_))))))))))
  obtain ⟨_, _, _, _, _, _⟩ := ORow.blk h3
  have g6 := gsz e2 (Mod.refl [] w)
  have hBg : B ≤ g := Nat.le_trans hB g6
  refine was (v := sl g 0 0 os.length) (wnil (then_n (wp_seq (wp_seq (rg_lit (wmv (v := .slice lA os.length lc) (wlv (v := I_ os.length) (ln lA os.length lc Ty.un22) (wmv (v := I_ 0) (wnil (then_n (wp_block ?_)))))))))))
  refine lp (fun n a r1 => ∃ (kk : Nat), (n = os.length - kk) ∧ (HasFr a 25 [(0, .slice lA os.length lc), (2, .slice none 0 0), (3, sl g 0 kk os.length), (9, .slice lA os.length lc), (10, I_ os.length), (11, I_ kk)] []) ∧ (Mod [g] w1 r1) ∧ (kk ≤ os.length) ∧ (ORow 49 B w.heap.size r1 (sl g 0 kk os.length) (os.take kk))) ⟨_, 0, rfl, hmk, Mod.refl _ _, (Nat.zero_le _), h3⟩ ?_
  rintro _ _ r1 ⟨kk, rfl, h9, hM1, _, hF1_1⟩
  obtain ⟨_, rfl⟩ := h9
  have M10 := Mod.thin (mtu (Mod.refl [] w) u4) hM1 (fun y hy => by simp only [List.mem_cons, List.not_mem_nil, or_false] at hy; subst hy; exact .inr g6)
  obtain ⟨_, _, _, _, _, _⟩ := ORow.blk hF1_1
  refine wp_seq (rg_lit (wl (sb rfl (ltI kk os.length) fun _ k13 => wnil (then_n (wp_seq ?_)))))
  refine bcd k13 (fun v14 p15 => ?_) (fun v14 p15 => ?_)
  ·
   refine wp_cond_false (ebk v14) (wp_exit (then_x (by nofun) (then_x (by nofun) (inb_hit (then_n (wp_seq (rg_lit (wmv (v := sl g 0 kk os.length) ?_))))))))
   have ho := ORow.to hF1_1 (show os.take kk = (List.range kk).map (atO os) by rw [List.take_of_length_le (by omega), show kk = os.length by omega]; exact (range_at os).symm)
   refine wl (sca [sl g 0 kk os.length, .func (.func 115) #[] #[]] En.f114 (sortStable_at ho hBb (by omega)) ?_)
   rintro e _ ⟨_, rfl, h18, m19, c20⟩
   refine ⟨_, rfl, ?_⟩
   obtain ⟨_, _, _, _, _, _⟩ := ORow.blk h18
   refine wnil (then_n (wp_seq (rg_lit (wmv (v := sl g 0 kk os.length) (wl (sca [sl g 0 kk os.length, .func (.func 117) #[] #[]] En.f116 (compact_at h18 hBb (by omega)) ?_))))))
   rintro e _ ⟨m25, _, rfl, h27, h28, c29⟩
   refine ⟨_, rfl, ?_⟩
   obtain ⟨_, _, _, _, _, _⟩ := ORow.blk h27
   refine was (v := sl g 0 m25 os.length) (wnil (then_n (wp_ret ?_)))
   refine br1 (v := sl g 0 m25 os.length) rfl ?_
   exact ⟨_, rfl, ORow.to h27 ((Thin.sortO h28 m19).trans (by rw [show kk = os.length by omega, range_at])), (Mod.up (mtn (mtn M10 c20 g6) c29 g6))⟩
  have q17 : kk < os.length := by omega
  refine wp_cond_true (ebk v14) (wp_skip (then_n (wp_seq (wp_block (wp_seq (rg_lit ?_))))))
  have h18 := (OpRow.up h (Mod.up M10))
  obtain ⟨o19, ho19⟩ : ∃ x, os[kk]? = some x := ⟨_, List.getElem?_eq_getElem q17⟩
  obtain ⟨g19, f19, oA19, on19, oc19, hA19, _, hc19, hD19, _⟩ := h18 kk o19 ho19
  refine wlv (v := pt g19 (f19 + kk * 10)) (ixa os.length lc 10 kk hA19 Ty.un22 Ty.sz49) (wlv (v := opV o19 (.slice oA19 on19 oc19)) (r_loadcN (vs := (opC o19 (.slice oA19 on19 oc19))) (by kernel_rfl) Ty.ag49 Ty.sz49 hc19) (wl (sn rfl (cs := #[I_ 0, I_ 0, I_ 0, I_ 0, I_ 0, I_ 0, I_ 0, B_ false, S_ (⟨#[]⟩), .slice none 0 0]) (T := 49) (V := fun b => pt b 0) (r_alloc Ty.zv49 rfl) fun _ _ e22 h23 u24 => ?_)))
  have g26 := gsz e22 M10
  have g27 := gsz e22 hM1
  refine wl (ss rfl (k := 0) (v := opV o19 (.slice oA19 on19 oc19)) (vs := (opC o19 (.slice oA19 on19 oc19))) (cs' := (opC o19 (.slice oA19 on19 oc19))) (by kernel_rfl) (by kernel_rfl) rfl Ty.sz49 h23 rfl (Nat.le_of_ble_eq_true rfl) rfl fun _ h31 c32 => wnil (then_n (rg_lit (wmv (v := sl g 0 kk os.length) (wlv (v := opV o19 (.slice oA19 on19 oc19)) (lds 0 Ty.ag49 Ty.sz49 h31) ?_)))))
  have h35 := (Dat.up hD19 (up_chgn u24 c32 (by rw [e22]; exact Nat.le_refl _)))
  refine wl (sca [opV o19 (.slice oA19 on19 oc19)] En.f113 (opown_at o19 oA19 on19 oc19 (Nat.le_trans hB (mtn (mtu M10 u24) c32 g26).size) h35) ?_)
  rintro e _ ⟨A37, n38, c39, rfl, h40, u41⟩
  refine ⟨_, rfl, ?_⟩
  refine wl (sn rfl (cs := (opC o19 (.slice A37 n38 c39)).toArray) (T := 49) (V := fun b => sl b 0 1 1) (r_buildSlice (n := 1) (ps := [(0, opV o19 (.slice A37 n38 c39))]) Ty.un22 Ty.sz49 Ty.zv49 (by decide) (by decide) (by kernel_rfl) (by kernel_rfl)) fun _ _ _ h47 u48 => ?_)
  have h57 := (ORow.up hF1_1 (up_up (up_up (up_chgn u24 c32 (by rw [e22]; exact Nat.le_refl _)) u41) u48))
  refine wl (fitO rfl (x := o19) (e := .slice A37 n38 c39) (by kernel_rfl) (by kernel_rfl) h57 Ty.un22 hiO hsO h47 (Dat.up h40 u48) (by decide) hBb (by omega) fun _ h60 c61 => ?_)
  obtain ⟨_, _, _, _, _, _⟩ := ORow.blk h60
  refine was (v := sl g 0 (kk + 1) os.length) (wnil (inb_n (then_n (rg_lit (wlv (v := N_ (kk + 1)) (adN kk 1) (wmv (v := N_ (kk + 1)) (wnil (then_n ?_))))))))
  refine ⟨os.length - (kk + 1), ?_, (kk + 1), rfl, hmk, (mtx (mtu (mtu (mtn (mtu hM1 u24) c32 g27) u41) u48) c61), (by omega), (ORow.to h60 (tkO ho19).symm)⟩
  · omega
def playI (L : List Item) (o : OpD) : List Item := (doI L o).2
def buildI (os : List OpD) : List Item := (sortO os).foldl playI []
theorem orow_sl {P : Program} {f : FuncId} {args : Array Value} {w : World} {T : TypeId} {B base : Nat} {L : List OpD} (h : Calls P f args w fun e w' => ∃ v, e = .returned v ∧ ORow T B base w' v L ∧ Up w w') :
    Calls P f args w fun e w' => ∃ A c, e = .returned (.slice A L.length c) ∧ ORow T B base w' (.slice A L.length c) L ∧ Up w w' := by
  refine h.mono ?_
  rintro e w' ⟨v, rfl, hr, u⟩
  obtain ⟨A, c, rfl⟩ := hr.form
  exact ⟨A, c, rfl, hr, u⟩
theorem OpRow.names {B : Nat} {w : World} {A : Option Addr} {os : List OpD} (h : OpRow B w A os) : ∀ o ∈ sortO os, o.name.size ≤ 9223372036854775807 := fun o ho => by
  obtain ⟨i, hi⟩ := List.mem_iff_getElem?.1 (sortO_mem ho)
  obtain ⟨_, _, _, _, _, _, _, _, _, hs⟩ := h i o hi
  exact hs
set_option maxHeartbeats 2000000 in
theorem build_at {B : Nat} {w : World} {lA : Option Addr} {lc : Nat} {os : List OpD} (h : OpRow B w lA os) (hB : B ≤ w.heap.size) (hn : os.length ≤ 1000000) :
    Calls Tryz.prog 15 #[.slice lA os.length lc] w fun e w' => ∃ tb r, e = .returned (trP tb) ∧ TreeIs B w' tb r (buildI os) ∧ Up w w' ∧ w.heap.size ≤ tb ∧ w.heap.size ≤ r := by
  have hnm := h.names
  have hsl := sortO_len os
  go_enter Tryz.func15, Tryz.ntmps15
  refine wp_seq (rg_lit (was (v := .pointer none) (wnil (then_n (wp_seq (rg_lit (wl (sca [] En.f30 (tnew_any (Nat.le_trans hB (Mod.refl [] w).size)) ?_))))))))
  rintro e _ ⟨tb, r, rfl, h4, u5, z6, z7⟩
  refine ⟨_, rfl, ?_⟩
  have M8 := mtu (Mod.refl [] w) u5
  obtain ⟨_, _, _, hr9, _⟩ := h4.2.2.2.1
  refine was (v := pt tb 0) (wnil (then_n (wp_seq (wp_seq (rg_lit (wmv (v := .slice lA os.length lc) ?_))))))
  have h10 := (OpRow.up h (Mod.up M8))
  refine wl (sca [.slice lA os.length lc] En.f56 (orow_sl (opsort_at h10 (Nat.le_trans hB M8.size) hn)) ?_)
  rintro e w11 ⟨A12, c13, rfl, h14, u15⟩
  refine ⟨_, rfl, ?_⟩
  refine wlv (v := I_ (((sortO os).length) : Int)) (ln A12 ((sortO os).length) c13 Ty.un22) (wmv (v := I_ 0) (wnil (then_n (wp_block ?_))))
  have h20 := (TreeIs.up h4 u15)
  refine lp (fun n a r1 => ∃ (kk : Nat) (Lc : List Item), (n = (sortO os).length - kk) ∧ (HasFr a 19 [(0, .slice lA os.length lc), (2, .pointer none), (3, pt tb 0), (8, .slice A12 ((sortO os).length) c13), (9, I_ (((sortO os).length) : Int)), (10, I_ kk)] []) ∧ (Mod [r] w11 r1) ∧ (kk ≤ (sortO os).length) ∧ (Lc = ((sortO os).take kk).foldl playI []) ∧ (TreeIs B r1 tb r Lc)) ⟨_, 0, [], rfl, hmk, Mod.refl _ _, (Nat.zero_le _), rfl, h20⟩ ?_
  rintro _ _ r1 ⟨kk, Lc, rfl, h21, hM1, _, hF1_1, hF1_2⟩
  obtain ⟨_, rfl⟩ := h21
  have M22 := Mod.thin (mtu M8 u15) hM1 (fun y hy => by simp only [List.mem_cons, List.not_mem_nil, or_false] at hy; subst hy; exact .inr (Nat.le_trans (Mod.refl [] w).size z7))
  obtain ⟨_, _, _, _, _⟩ := hF1_2.2.2.2.1
  refine wp_seq (rg_lit (wl (sb rfl (ltI kk (((sortO os).length) : Int)) fun _ k25 => wnil (then_n (wp_seq ?_)))))
  refine bcd k25 (fun v26 p27 => ?_) (fun v26 p27 => ?_)
  ·
   refine wp_cond_false (ebk v26) (wp_exit (then_x (by nofun) (then_x (by nofun) (inb_hit (then_n (wp_seq (rg_lit (wmv (v := pt tb 0) (was (v := pt tb 0) (wnil (then_n (wp_ret ?_))))))))))))
   refine br1 (v := pt tb 0) rfl ?_
   refine ⟨tb, r, rfl, ?_, (Mod.up M22), (Nat.le_trans (Mod.refl [] w).size z6), (Nat.le_trans (Mod.refl [] w).size z7)⟩
   have h0 := hF1_2
   rw [hF1_1, List.take_of_length_le (by omega)] at h0
   exact h0
  refine wp_cond_true (ebk v26) (wp_skip (then_n (wp_seq (wp_block (wp_seq (rg_lit ?_))))))
  have h28 := (ORow.chgn h14 (Mod.chg hM1) ⟨h20.2.2.1, NotU8.map (up_ob u15 hr9)⟩ (ORow.ne_old h14 (lt_ob hr9)))
  obtain ⟨o29, ho29⟩ : ∃ x, (sortO os)[kk]? = some x := ⟨_, List.getElem?_eq_getElem (by omega)⟩
  obtain ⟨g29, _, cu29, dA29, dn29, dc29, hA29, _, hb29, he29, hD29⟩ := ORow.get h28 ho29
  injection hA29 with hA29 _ _
  replace he29 : (cu29.toList.drop (0 + kk * 10)).take 10 = opC o29 (.slice dA29 dn29 dc29) := by rw [Nat.zero_add]; exact he29
  refine wlv (v := pt g29 (0 + kk * 10)) (ixa ((sortO os).length) c13 10 kk hA29 Ty.un22 Ty.sz49) (wlv (v := opV o29 (.slice dA29 dn29 dc29)) (r_loads (k := 0 + kk * 10) (by kernel_rfl) Ty.ag49 Ty.sz49 hb29 (el_sub0 he29 rfl)) (wl (sn rfl (cs := #[I_ 0, I_ 0, I_ 0, I_ 0, I_ 0, I_ 0, I_ 0, B_ false, S_ (⟨#[]⟩), .slice none 0 0]) (T := 49) (V := fun b => pt b 0) (r_alloc Ty.zv49 rfl) fun _ _ e32 h33 u34 => ?_)))
  have g38 := gsz e32 M22
  have g39 := gsz e32 hM1
  refine wl (ss rfl (k := 0) (v := opV o29 (.slice dA29 dn29 dc29)) (vs := (opC o29 (.slice dA29 dn29 dc29))) (cs' := (opC o29 (.slice dA29 dn29 dc29))) (by kernel_rfl) (by kernel_rfl) rfl Ty.sz49 h33 rfl (Nat.le_of_ble_eq_true rfl) rfl fun _ h43 c44 => wnil (then_n (rg_lit (wmv (v := pt tb 0) (wlv (v := opV o29 (.slice dA29 dn29 dc29)) (lds 0 Ty.ag49 Ty.sz49 h43) ?_)))))
  have h47 := (TreeIs.up hF1_2 (up_chgn u34 c44 (by rw [e32]; exact Nat.le_refl _)))
  have h48 := (Dat.up hD29 (up_chgn u34 c44 (by rw [e32]; exact Nat.le_refl _)))
  refine wl (sca [pt tb 0, opV o29 (.slice dA29 dn29 dc29)] En.f22 (do_x (L' := (playI Lc o29)) h47 (Nat.le_trans hB (mtn (mtu M22 u34) c44 g38).size) o29 dA29 dn29 dc29 h48 (hnm _ (List.mem_of_getElem? ho29)) rfl) ?_)
  rintro e _ ⟨_, _, _, rfl, _, h54, u55⟩
  refine ⟨_, rfl, ?_⟩
  obtain ⟨_, _, _, _, _⟩ := h54.2.2.2.1
  refine wnil (inb_n (then_n (rg_lit (wlv (v := N_ (kk + 1)) (adN kk 1) (wmv (v := N_ (kk + 1)) (wnil (then_n ?_)))))))
  refine ⟨(sortO os).length - (kk + 1), ?_, (kk + 1), (playI Lc o29), rfl, hmk, (mtx (mtn (mtu hM1 u34) c44 g39) u55), (by omega), (by rw [tkO ho29, List.foldl_append, ← hF1_1]; rfl), h54⟩
  · omega
end Go.Proofs.YtefhfoioeoijlaaGreatDoor
set_option linter.unusedVariables false
set_option linter.unusedSimpArgs false
namespace Go.Proofs.YtefhfoioeoijlaaGreatDoor
open Go Go.RowKit Go.Sort
structure StepD where
  o : OpD
  was : Item
  there : Bool
  did : Bool
  deriving DecidableEq, Inhabited
end Go.Proofs.YtefhfoioeoijlaaGreatDoor
namespace Go.Proofs.YtefhfoioeoijlaaGreatDoor
open Go Go.RowKit
abbrev wideAt (ro : Option Nat) : Fence := { Fence.wide with round := ro }
@[irreducible] def XL (ro : Option Nat) (n : Nat) (P : Program) (ops : Array Oper) (Q : Exit → Act → World → Prop) : List Oper → Act → World → Prop := wpListIn (wideAt ro) n P ops Q
variable {ro : Option Nat} {n : Nat} {P : Program} {ops : Array Oper} {Q : Exit → Act → World → Prop} {o : Oper} {rest : List Oper} {a : Act} {w : World}
theorem xl (hw : Region.wanted o (yielded ops a.tmps) = true) (hd : o.semAt ro a.eval = execOp a.eval o) (h : o.uponIn (wideAt ro) n P a (XL ro n P ops Q rest) Q ((execOp a.eval o).run P w)) : XL ro n P ops Q (o :: rest) a w := by
  unfold XL at h ⊢
  unfold wpListIn
  rw [if_pos hw]
  refine ⟨fun _ _ => trivial, ?_⟩
  rw [hd]
  exact h
theorem xv {v : Value} {w' : World} (hw : Region.wanted o (yielded ops a.tmps) = true) (hd : o.semAt ro a.eval = execOp a.eval o) (h : (execOp a.eval o).run P w = .ok (.value v) w') (k : XL ro n P ops Q rest (a.put o.dst v) w') : XL ro n P ops Q (o :: rest) a w :=
  xl hw hd (by rw [h]; exact k)
theorem xn {cs : Array Value} {T : TypeId} {V : Nat → Value} (hw : Region.wanted o (yielded ops a.tmps) = true) (hd : o.semAt ro a.eval = execOp a.eval o) (h : (execOp a.eval o).run P w = .ok (.value (V w.heap.size)) (w.alloc (.cells cs T)))
    (k : ∀ b w', b = w.heap.size → w'.heap[b]? = some (.cells cs T (0, 0)) → Up w w' → XL ro n P ops Q rest (a.put o.dst (V b)) w') : XL ro n P ops Q (o :: rest) a w :=
  xv hw hd h (k _ _ rfl (heap_alloc_new w _) (up_new _))
theorem callsAt {f : FuncId} {args : Array Value} {R : Ending → World → Prop} (h : Calls P f args w R) : CallsIn (wideAt ro) n P f args w R := by
  have := (callsIn_wide (n := n)).2 h
  cases ro with
  | none => exact this
  | some l => exact CallsIn.inRound l this
theorem xc {f : FuncId} {args : Array Value} {R : Ending → World → Prop} (hw : Region.wanted o (yielded ops a.tmps) = true) (hd : o.semAt ro a.eval = execOp a.eval o) (h : (execOp a.eval o).run P w = .ok (.enter f args) w) (hc : Calls P f args w R)
    (k : ∀ e w', R e w' → ∃ v, e = .returned v ∧ XL ro n P ops Q rest (a.put o.dst v) w') : XL ro n P ops Q (o :: rest) a w :=
  xl hw hd (by
    rw [h]
    refine ⟨fun hn => (by cases hn), (callsAt hc).mono fun e w' hR => ?_⟩
    obtain ⟨v, rfl, h⟩ := k e w' hR
    exact h)
end Go.Proofs.YtefhfoioeoijlaaGreatDoor
namespace Go.Proofs.YtefhfoioeoijlaaGreatDoor
open Go Go.RowKit Go.Sort
structure DD where
  oA : Option Addr
  on : Nat
  oc : Nat
  iA : Option Addr
  in_ : Nat
  ic : Nat
end Go.Proofs.YtefhfoioeoijlaaGreatDoor

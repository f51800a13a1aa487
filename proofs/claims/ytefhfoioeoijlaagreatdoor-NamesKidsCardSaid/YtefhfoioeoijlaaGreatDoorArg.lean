/- Operations as arguments (one text of several) -/
import Derived.Test.YtefhfoioeoijlaaGreatDoorRws
import Derived.Test.YtefhfoioeoijlaaGreatDoorTreeJ
import Derived.WalkKit
import Derived.ProofKit
import Derived.OpenShut
import Derived.ShutString
import Derived.ChangeOld
import Derived.Below
import Derived.Deep.Slices
import Derived.Deep.Fields
import Derived.ChangeSame
import Derived.WideShapes
set_option linter.unusedVariables false
set_option linter.unusedSimpArgs false
namespace Go.Proofs.YtefhfoioeoijlaaGreatDoor
open Go Go.RowKit Go.Sort Go.Shelf

theorem putI_len_has {it : Item} {L : List Item} (hs : Srt L) (h : hasI L it.node = true) (hL : L.length ≤ 300) : (putI it L).length ≤ 300 := by rw [putI_length_old hs h]; exact hL
theorem putI_len_new {it : Item} {L : List Item} (hL : L.length < 300) : (putI it L).length ≤ 300 := by have := putI_length (it := it) (L := L); omega
/-- The operations that an argument holds. -/
def OpRow (B : Nat) (w : World) (A : Option Addr) (os : List OpD) : Prop :=
  ∀ (i : Nat) (o : OpD), os[i]? = some o → ∃ g f oA on oc, A = some ⟨g, f, none⟩ ∧ g < w.heap.size ∧ (∀ (j : Nat) (v : Value), (opC o (.slice oA on oc))[j]? = some v → w.cell? ⟨g, f + i * 10 + j, none⟩ = some v) ∧ Dat B w (.slice oA on oc) o.data ∧ o.name.size ≤ 9223372036854775807
theorem OpRow.up {B : Nat} {w w' : World} {A : Option Addr} {os : List OpD} (h : OpRow B w A os) (u : Up w w') : OpRow B w' A os := fun i o ho => by
  obtain ⟨g, f, oA, on, oc, hA, hg, hc, hD, hs⟩ := h i o ho
  exact ⟨g, f, oA, on, oc, hA, Nat.lt_of_lt_of_le hg u.size, fun j v hj => (u.cell (p := ⟨g, f + i * 10 + j, none⟩) hg).trans (hc j v hj), hD.up u, hs⟩
section
variable {P : Program} {d : Option Tmp} {ty : TypeId} {pos : String} {af : Array Edge} {g : Option (Nat × Bool)} {ρ : Operand → Value} {w : World}
theorem r_loadcN {t : TypeId} {x : Operand} {b k : Nat} {vs : List Value} (hx : ρ x = .pointer (some ⟨b, k, none⟩)) (ht : ∀ w, (isAgg t).run P w = .ok true w) (hs : ∀ w, (sizeOf t).run P w = .ok vs.length w)
    (h : ∀ j v, vs[j]? = some v → w.cell? ⟨b, k + j, none⟩ = some v) : (execOp ρ ⟨d, .load t x, ty, pos, af, g⟩).run P w = .ok (.value (.agg vs.toArray)) w := by
  have := run_loadCells_list (P := P) w ⟨b, k, none⟩ vs (fun j v hj => by rw [add_at]; exact h j v hj)
  simp [execOp, hx, Instr.loadAt, Instr.sureAddr, loadVar, ht, hs, this]
end
theorem row_sl {P : Program} {f : FuncId} {args : Array Value} {w : World} {T : TypeId} {B base : Nat} {L : List Item} (h : Calls P f args w fun e w' => ∃ v, e = .returned v ∧ IRow T B base w' v L ∧ Up w w') :
    Calls P f args w fun e w' => ∃ A c, e = .returned (.slice A L.length c) ∧ IRow T B base w' (.slice A L.length c) L ∧ Up w w' := by
  refine h.mono ?_
  rintro e w' ⟨v, rfl, hr, u⟩
  obtain ⟨A, c, rfl⟩ := hr.form
  exact ⟨A, c, rfl, hr, u⟩
/-! ### what keeps the trees -/
theorem NotU8.map {w : World} {r : Nat} {es : Array MapEntry} {cl : Nat} (h : w.heap[r]? = some (.map es cl)) : NotU8 w r := fun cs fr e => by rw [h] at e; cases e
/-! ### alive -/
/-- Do, with what a walk needs by name. -/
theorem do_x {B : Nat} {w : World} {tb r : Nat} {L L' : List Item} (h : TreeIs B w tb r L) (hB : B ≤ w.heap.size) (o : OpD) (oA : Option Addr) (on oc : Nat) (hDo : Dat B w (.slice oA on oc) o.data) (hs : o.name.size ≤ 9223372036854775807) (hL : (doI L o).2 = L') :
    Calls Tryz.prog 22 #[trP tb, opV o (.slice oA on oc)] w fun e w' => ∃ A n c, e = .returned (.tuple #[itV (doI L o).1.1 (.slice A n c), .bool (doI L o).1.2.1, .int .i64 (doI L o).1.2.2]) ∧ Dat B w' (.slice A n c) (doI L o).1.1.data ∧ TreeIs B w' tb r L' ∧ Chg w w' r := by
  refine (do_at h hB o oA on oc hDo hs).mono ?_
  rintro e w' ⟨d, rfl, hD, hT, hC⟩
  obtain ⟨A, n, c, rfl⟩ := hD.form
  rw [hL] at hT
  exact ⟨A, n, c, rfl, hD, hT, hC⟩
theorem get_x {B : Nat} {w : World} {tb r : Nat} {L : List Item} (h : TreeIs B w tb r L) (n : Stamp) {x : Item} {b : Bool} (hx : gotI L n = x) (hb : hasI L n = b) : Calls Tryz.prog 20 #[trP tb, stV n] w fun e w' =>
    ∃ A k c, e = .returned (.tuple #[itV x (.slice A k c), .bool b]) ∧ Dat B w' (.slice A k c) x.data ∧ Up w w' := by
  refine (tget_any h n).mono ?_
  rintro e w' ⟨d, rfl, hD, u⟩
  obtain ⟨A, k, c, rfl⟩ := hD.form
  rw [hx] at hD
  rw [hx, hb]
  exact ⟨A, k, c, rfl, hD, u⟩
end Go.Proofs.YtefhfoioeoijlaaGreatDoor

namespace Go.Proofs.YtefhfoioeoijlaaGreatDoor
open Go Go.RowKit Go.ChangeShapes Go.WideShapes Go.ChangeAt Go.Deep

/-- The operations of an argument: their cells; of their data the number of its bytes. -/
def OpRow0 (w : World) (A : Option Addr) (os : List OpD) : Prop :=
  ∀ (i : Nat) (o : OpD), os[i]? = some o → ∃ g f oA on oc, A = some ⟨g, f, none⟩ ∧ g < w.heap.size ∧ (∀ (j : Nat) (v : Value), (opC o (.slice oA on oc))[j]? = some v → w.cell? ⟨g, f + i * 10 + j, none⟩ = some v) ∧ o.data.length = on ∧ o.name.size ≤ 9223372036854775807
theorem OpRow0.up {w w' : World} {A : Option Addr} {os : List OpD} (h : OpRow0 w A os) (u : Up w w') : OpRow0 w' A os := fun i o ho => by
  obtain ⟨g, f, oA, on, oc, hA, hg, hc, hD, hs⟩ := h i o ho
  exact ⟨g, f, oA, on, oc, hA, Nat.lt_of_lt_of_le hg u.size, fun j v hj => (u.cell (p := ⟨g, f + i * 10 + j, none⟩) hg).trans (hc j v hj), hD, hs⟩
/-- No data of more than 500 bytes. -/
def Small (os : List OpD) : Prop := ∀ (i : Nat) (o : OpD), os[i]? = some o → o.data.length ≤ 500
theorem light_next {os : List OpD} {k on : Nat} {o : OpD} (h : Hid (∀ (i : Nat) (o : OpD), i < k → os[i]? = some o → o.data.length ≤ 500)) (ho : os[k]? = some o) (hD : o.data.length = on) (p : ¬ ((on : Int) > 500)) : Hid (∀ (i : Nat) (o : OpD), i < k + 1 → os[i]? = some o → o.data.length ≤ 500) := fun i x hi hx => by
  rcases Nat.lt_or_ge i k with h1 | h1
  · exact h.out i x h1 hx
  · obtain rfl : i = k := by omega
    rw [ho] at hx; injection hx with hx; subst hx
    omega
theorem light_end {os : List OpD} {k : Nat} (h : Hid (∀ (i : Nat) (o : OpD), i < k → os[i]? = some o → o.data.length ≤ 500)) (hk : os.length ≤ k) : Small os := fun i o ho => h.out i o (by have := (List.getElem?_eq_some_iff.1 ho).1; omega) ho

section
variable {H : Type} {enc : TypeId × Value → H}
theorem spot_none {w : World} {a : Addr} {v : Value} (h : w.cell? a = some v) : a = ⟨a.block, a.off, none⟩ ∧ a.block < w.heap.size := by
  obtain ⟨b, o, s⟩ := a
  refine ⟨?_, World.block_lt_of_cell? w _ h⟩
  cases s with
  | none => rfl
  | some s => unfold World.cell? at h; simp at h; split at h <;> simp at h
/-- Bytes that came in. -/
theorem open_data {W : World} {sp : Nat → Bool} {held : Bool} {n : Nat} {v : Value} {y : DataW H × List MemPlace} (h : DataW.trod enc Tryz.prog W 0 sp held n 40 [v] = some y) :
    ∃ oA on oc xs, v = .slice oA on oc ∧ xs.length = on ∧ (on ≤ 500 → Dat W.heap.size W (.slice oA on oc) xs) := by
  rcases open_ints Tryz.underlying40 Tryz.underlying5 (by kernel_rfl) h with ⟨hc, _⟩ | ⟨a, len, cap, zs, hc, _, hl, hm, hz, _, hcell, hwf⟩
  · injection hc with hc _
    exact ⟨none, 0, 0, [], hc, rfl, fun _ => Dat.nil _ _⟩
  · injection hc with hc _
    have hlz : len ≤ zs.length := by rw [hz]; split <;> omega
    have htl : (zs.take len).length = len := by rw [List.length_take]; omega
    refine ⟨some a, len, cap, zs.take len, hc, htl, fun h5 => ?_⟩
    refine ⟨some a, len, cap, rfl, htl, hl, by omega, fun x hx => ?_, fun h0 => ?_⟩
    · have := hwf x (List.mem_of_mem_take hx)
      have := bounds_u8 this
      omega
    · have h1 := hcell 0 (by omega)
      rw [show a.add 0 = a from rfl] at h1
      obtain ⟨ha, hb⟩ := spot_none h1
      refine ⟨a.block, a.off, by rw [← ha], hb, .inl hb, fun i hi => ?_⟩
      have := hcell i (by omega)
      rw [ha, add_at] at this
      rw [this]
      congr 2
      simp [List.getD_eq_getElem?_getD, List.getElem?_take, hi]
set_option maxRecDepth 20000 in
theorem open_op {W : World} {sp : Nat → Bool} {held : Bool} {n : Nat} {cs : List Value} {x : DataW H × List MemPlace} (h : DataW.trod enc Tryz.prog W 0 sp held n 49 cs = some x) :
    ∃ (o : OpD) (oA : Option Addr) (on oc : Nat), cs = opC o (.slice oA on oc) ∧ o.data.length = on ∧ o.name.size ≤ 9223372036854775807 ∧ (on ≤ 500 → Dat W.heap.size W (.slice oA on oc) o.data) := by
  obtain ⟨xs, k, _, _, hlen, hxs, hf⟩ := DataW.trod_struct Tryz.underlying49 h
  rw [show Tryz.prog.cellsOf 49 = 10 from by kernel_rfl] at hlen
  match cs, hlen with
  | [v0, v1, v2, v3, v4, v5, v6, v7, v8, v9], _ =>
    simp only [List.size_toArray, List.length_cons, List.length_nil, Nat.reduceAdd] at hxs
    match xs, hxs with
    | [y0, y1, y2, y3, y4, y5, y6], _ =>
      have c2 : Tryz.prog.cellsOf 2 = 1 := by kernel_rfl
      have c3 : Tryz.prog.cellsOf 3 = 1 := by kernel_rfl
      have c4 : Tryz.prog.cellsOf 4 = 1 := by kernel_rfl
      have c9 : Tryz.prog.cellsOf 9 = 1 := by kernel_rfl
      have c24 : Tryz.prog.cellsOf 24 = 2 := by kernel_rfl
      have c33 : Tryz.prog.cellsOf 40 = 1 := by kernel_rfl
      have t0 : DataW.trod enc Tryz.prog W 0 sp held k 3 [v0] = some y0 := by
        have q : DataW.trod enc Tryz.prog W 0 sp held k 3 (([v0, v1, v2, v3, v4, v5, v6, v7, v8, v9].drop 0).take (Tryz.prog.cellsOf 3)) = some y0 := hf 0 _ rfl
        rw [c3] at q; exact q
      have t1 : DataW.trod enc Tryz.prog W 0 sp held k 24 [v1, v2] = some y1 := by
        have q : DataW.trod enc Tryz.prog W 0 sp held k 24 (([v0, v1, v2, v3, v4, v5, v6, v7, v8, v9].drop 1).take (Tryz.prog.cellsOf 24)) = some y1 := hf 1 _ rfl
        rw [c24] at q; exact q
      have t2 : DataW.trod enc Tryz.prog W 0 sp held k 24 [v3, v4] = some y2 := by
        have q : DataW.trod enc Tryz.prog W 0 sp held k 24 (([v0, v1, v2, v3, v4, v5, v6, v7, v8, v9].drop 3).take (Tryz.prog.cellsOf 24)) = some y2 := hf 2 _ rfl
        rw [c24] at q; exact q
      have t3 : DataW.trod enc Tryz.prog W 0 sp held k 24 [v5, v6] = some y3 := by
        have q : DataW.trod enc Tryz.prog W 0 sp held k 24 (([v0, v1, v2, v3, v4, v5, v6, v7, v8, v9].drop 5).take (Tryz.prog.cellsOf 24)) = some y3 := hf 3 _ rfl
        rw [c24] at q; exact q
      have t4 : DataW.trod enc Tryz.prog W 0 sp held k 4 [v7] = some y4 := by
        have q : DataW.trod enc Tryz.prog W 0 sp held k 4 (([v0, v1, v2, v3, v4, v5, v6, v7, v8, v9].drop 7).take (Tryz.prog.cellsOf 4)) = some y4 := hf 4 _ rfl
        rw [c4] at q; exact q
      have t5 : DataW.trod enc Tryz.prog W 0 sp held k 9 [v8] = some y5 := by
        have q : DataW.trod enc Tryz.prog W 0 sp held k 9 (([v0, v1, v2, v3, v4, v5, v6, v7, v8, v9].drop 8).take (Tryz.prog.cellsOf 9)) = some y5 := hf 5 _ rfl
        rw [c9] at q; exact q
      have t6 : DataW.trod enc Tryz.prog W 0 sp held k 40 [v9] = some y6 := by
        have q : DataW.trod enc Tryz.prog W 0 sp held k 40 (([v0, v1, v2, v3, v4, v5, v6, v7, v8, v9].drop 9).take (Tryz.prog.cellsOf 40)) = some y6 := hf 6 _ rfl
        rw [c33] at q; exact q
      have st : ∀ {u v : Value} {y : DataW H × List MemPlace}, DataW.trod enc Tryz.prog W 0 sp held k 24 [u, v] = some y → ∃ a b, u = .int .i64 a ∧ v = .int .i64 b := fun {u v y} hy => by
        obtain ⟨z0, z1, m, _, _, q0, q1⟩ := trod_struct2 Tryz.underlying24 hy
        simp only [c2, c3, List.drop, List.take] at q0 q1
        obtain ⟨a, ha, _⟩ := DataW.trod_int Tryz.underlying2 q0
        obtain ⟨b, hb, _⟩ := DataW.trod_int Tryz.underlying3 q1
        injection ha with ha _
        injection hb with hb _
        exact ⟨a, b, ha, hb⟩
      obtain ⟨kd, e0, _⟩ := DataW.trod_int Tryz.underlying3 t0
      obtain ⟨a1, b1, rfl, rfl⟩ := st t1
      obtain ⟨a2, b2, rfl, rfl⟩ := st t2
      obtain ⟨a3, b3, rfl, rfl⟩ := st t3
      obtain ⟨dr, e4, _⟩ := DataW.trod_bool Tryz.underlying4 t4
      obtain ⟨nm, e5, _, hnm⟩ := DataW.trod_string Tryz.underlying9 t5
      obtain ⟨oA, on, oc, zs, e6, hz, hD⟩ := open_data t6
      injection e0 with e0 _
      injection e4 with e4 _
      injection e5 with e5 _
      subst e0 e4 e5 e6
      exact ⟨⟨kd, ⟨a1, b1⟩, ⟨a2, b2⟩, ⟨a3, b3⟩, dr, nm, zs⟩, oA, on, oc, rfl, hz, by unfold maxLen at hnm; simpa using hnm, hD⟩
theorem open_ops {W : World} {sp : Nat → Bool} {held : Bool} {n : Nat} {cs : List Value} {x : DataW H × List MemPlace} (h : DataW.trod enc Tryz.prog W 0 sp held n 22 cs = some x) :
    ∃ (A : Option Addr) (os : List OpD) (c : Nat), cs = [.slice A os.length c] ∧ os.length ≤ 9223372036854775807 ∧ OpRow0 W A os ∧ (Small os → OpRow W.heap.size W A os) := by
  rcases open_slice Tryz.underlying22 h with ⟨hc, _⟩ | ⟨a, len, cap, m, k, D, Pl, hc, _, hl, hm, hmm, _, hx⟩
  · exact ⟨none, [], 0, hc, by simp, fun i o ho => by simp at ho, fun _ i o ho => by simp at ho⟩
  · have hlm : len ≤ m := by rw [hmm]; split <;> omega
    have c40 : Tryz.prog.cellsOf 49 = 10 := by kernel_rfl
    have each : ∀ i, ∃ o : OpD, i < len → ∃ oA on oc, a = ⟨a.block, a.off, none⟩ ∧ a.block < W.heap.size ∧ (∀ (j : Nat) (v : Value), (opC o (.slice oA on oc))[j]? = some v → W.cell? ⟨a.block, a.off + i * 10 + j, none⟩ = some v) ∧ o.data.length = on ∧ o.name.size ≤ 9223372036854775807 ∧ (on ≤ 500 → Dat W.heap.size W (.slice oA on oc) o.data) := by
      intro i
      by_cases hi : i < len
      · obtain ⟨cs', h1, h2⟩ := hx i (by omega)
        rw [c40] at h1
        obtain ⟨o, oA, on, oc, rfl, hd, hs, hD⟩ := open_op h2
        obtain ⟨_, _, hcell⟩ := World.cells?_some h1
        have ha : a = ⟨a.block, a.off, none⟩ ∧ a.block < W.heap.size := by
          obtain ⟨cs0, g1, g2⟩ := hx 0 (by omega)
          obtain ⟨_, g3, g4⟩ := World.cells?_some g1
          have hp : 0 < Tryz.prog.cellsOf 49 := by rw [c40]; decide
          have := g4 0 hp
          rw [Nat.zero_mul, List.getElem?_eq_getElem (by omega)] at this
          exact spot_none (show W.cell? a = _ from this)
        refine ⟨o, fun _ => ⟨oA, on, oc, ha.1, ha.2, fun j v hj => ?_, hd, hs, hD⟩⟩
        have hj10 : j < 10 := (List.getElem?_eq_some_iff.1 hj).1
        have := hcell j hj10
        rw [hj, ha.1, add_at, add_at] at this
        exact this
      · exact ⟨default, fun h => absurd h hi⟩
    refine ⟨some a, (List.range len).map fun i => (each i).choose, cap, by rw [List.length_map, List.length_range]; exact hc, by rw [List.length_map, List.length_range]; exact Nat.le_trans hl (Nat.le_trans hm (Nat.le_of_ble_eq_true rfl)), fun i o ho => ?_, fun hsm i o ho => ?_⟩
    · have hi : i < len := by have := (List.getElem?_eq_some_iff.1 ho).1; simpa using this
      have he : (each i).choose = o := by simpa [List.getElem?_map, List.getElem?_range hi] using ho
      obtain ⟨oA, on, oc, ha, hb, hc', hd, hs, hD⟩ := (each i).choose_spec hi
      rw [he] at hc' hd hs
      exact ⟨a.block, a.off, oA, on, oc, by rw [← ha], hb, hc', hd, hs⟩
    · have hi : i < len := by have := (List.getElem?_eq_some_iff.1 ho).1; simpa using this
      have he : (each i).choose = o := by simpa [List.getElem?_map, List.getElem?_range hi] using ho
      obtain ⟨oA, on, oc, ha, hb, hc', hd, hs, hD⟩ := (each i).choose_spec hi
      rw [he] at hc' hd hs hD
      exact ⟨a.block, a.off, oA, on, oc, by rw [← ha], hb, hc', hD (by have := hsm i o ho; omega), hs⟩
end
end Go.Proofs.YtefhfoioeoijlaaGreatDoor

namespace Go.Proofs.YtefhfoioeoijlaaGreatDoor
open Go Go.RowKit Go.ChangeShapes Go.WideShapes Go.ChangeAt Go.Deep
section
variable {H : Type} {enc : TypeId × Value → H}
end
end Go.Proofs.YtefhfoioeoijlaaGreatDoor

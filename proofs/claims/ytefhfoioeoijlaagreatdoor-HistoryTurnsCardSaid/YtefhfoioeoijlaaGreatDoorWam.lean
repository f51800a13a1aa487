/- Arg, GN, StpR, Plain -/
import Derived.Below
import Derived.ChangeOld
import Derived.ChangeSame
import Derived.Deep.Fields
import Derived.Deep.Slices
import Derived.Laws.Externs
import Derived.Lib.AppendZerosOnto
import Derived.Lib.Overlaps
import Derived.OpenShut
import Derived.ProofKit
import Derived.ShutString
import Derived.WalkKit
import Derived.WideShapes
import Derived.Test.YtefhfoioeoijlaaGreatDoorWab
import Derived.Test.YtefhfoioeoijlaaGreatDoorWae
import Derived.Test.YtefhfoioeoijlaaGreatDoorWaf
import Derived.Test.YtefhfoioeoijlaaGreatDoorWag
import Derived.Test.YtefhfoioeoijlaaGreatDoorWah
import Derived.Test.YtefhfoioeoijlaaGreatDoorWak
import Derived.Test.YtefhfoioeoijlaaGreatDoorWal
set_option linter.unusedVariables false
set_option linter.unusedSimpArgs false
namespace Go.Proofs.YtefhfoioeoijlaaGreatDoor
open Go Go.RowKit Go.Sort Go.Shelf
theorem putI_len_has {it : Item} {L : List Item} (hs : Srt L) (h : hasI L it.node = true) (hL : L.length ≤ 300) : (putI it L).length ≤ 300 := by rw [putI_length_old hs h]; exact hL
theorem putI_len_new {it : Item} {L : List Item} (hL : L.length < 300) : (putI it L).length ≤ 300 := by have := putI_length (it := it) (L := L); omega
def OpRow (B : Nat) (w : World) (A : Option Addr) (os : List OpD) : Prop :=
  ∀ (i : Nat) (o : OpD), os[i]? = some o → ∃ g f oA on oc, A = some ⟨g, f, none⟩ ∧ g < w.heap.size ∧ (∀ (j : Nat) (v : Value), (opC o (.slice oA on oc))[j]? = some v → w.cell? ⟨g, f + i * 10 + j, none⟩ = some v) ∧ Dat B w (.slice oA on oc) o.data ∧ o.name.size ≤ 9223372036854775807
theorem OpRow.up {B : Nat} {w w' : World} {A : Option Addr} {os : List OpD} (h : OpRow B w A os) (u : Up w w') : OpRow B w' A os := fun i o ho => by
  obtain ⟨g, f, oA, on, oc, hA, hg, hc, hD, hs⟩ := h i o ho
  exact ⟨g, f, oA, on, oc, hA, Nat.lt_of_lt_of_le hg u.size, fun j v hj => (u.cell (p := ⟨g, f + i * 10 + j, none⟩) hg).trans (hc j v hj), hD.up u, hs⟩
section
variable {P : Program} {d : Option Tmp} {ty : TypeId} {pos : String} {af : Array Edge} {g : Option (Nat × Bool)} {ρ : Operand → Value} {w : World}
theorem r_loadcN {t : TypeId} {x : Operand} {b k : Nat} {vs : List Value} (hx : ρ x = .pointer (some ⟨b, k, none⟩)) (ht : ∀ w, (isAgg t).run P w = .ok true w) (hs : ∀ w, (sizeOf t).run P w = .ok vs.length w)
    (h : ∀ j v, vs[j]? = some v → w.cell? ⟨b, k + j, none⟩ = some v) : (execOp ρ ⟨d, .load t x, ty, pos, af, g⟩).run P w = .ok (.value (.agg vs.toArray)) w := by
  have := run_loadCells_list (P := P) w ⟨b, k, none⟩ vs (fun j v hj => by rw [add_at]; exact h j v hj)
  simp [execOp, hx, Instr.loadAt, Instr.sureAddr, loadVar, ht, hs, this]
theorem dec_true {o : Oper} {p : Prop} [Decidable p] (hp : p) (h : (execOp ρ o).run P w = .ok (.value (.bool (decide p))) w) : (execOp ρ o).run P w = .ok (.value (.bool true)) w := by rw [h, decide_eq_true hp]
end
theorem row_sl {P : Program} {f : FuncId} {args : Array Value} {w : World} {T : TypeId} {B base : Nat} {L : List Item} (h : Calls P f args w fun e w' => ∃ v, e = .returned v ∧ IRow T B base w' v L ∧ Up w w') :
    Calls P f args w fun e w' => ∃ A c, e = .returned (.slice A L.length c) ∧ IRow T B base w' (.slice A L.length c) L ∧ Up w w' := by
  refine h.mono ?_
  rintro e w' ⟨v, rfl, hr, u⟩
  obtain ⟨A, c, rfl⟩ := hr.form
  exact ⟨A, c, rfl, hr, u⟩
theorem NotU8.map {w : World} {r : Nat} {es : Array MapEntry} {cl : Nat} (h : w.heap[r]? = some (.map es cl)) : NotU8 w r := fun cs fr e => by rw [h] at e; cases e
theorem do_x {B : Nat} {w : World} {tb r : Nat} {L L' : List Item} (h : TreeIs B w tb r L) (hB : B ≤ w.heap.size) (o : OpD) (oA : Option Addr) (on oc : Nat) (hDo : Dat B w (.slice oA on oc) o.data) (hs : o.name.size ≤ 9223372036854775807) (hL : (doI L o).2 = L') :
    Calls Tryz.prog 22 #[trP tb, opV o (.slice oA on oc)] w fun e w' => ∃ A n c, e = .returned (.tuple #[itV (doI L o).1.1 (.slice A n c), .bool (doI L o).1.2.1, .int .i64 (doI L o).1.2.2]) ∧ Dat B w' (.slice A n c) (doI L o).1.1.data ∧ TreeIs B w' tb r L' ∧ Chg w w' r := by
  refine (do_at h hB o oA on oc hDo hs).mono ?_
  rintro e w' ⟨d, rfl, hD, hT, hC⟩
  obtain ⟨A, n, c, rfl⟩ := hD.form
  rw [hL] at hT
  exact ⟨A, n, c, rfl, hD, hT, hC⟩
theorem get_x {B : Nat} {w : World} {tb r : Nat} {L : List Item} (h : TreeIs B w tb r L) (n : Stamp) {x : Item} {b : Bool} (hx : gotI L n = x) (hb : hasI L n = b) : Calls Tryz.prog 20 #[trP tb, stV n] w fun e w' =>
    ∃ A k c, e = .returned (.tuple #[itV x (.slice A k c), .bool b]) ∧ Dat B w' (.slice A k c) x.data ∧ Up w w' := by
  refine (tget_any h n).mono ?_
  rintro e w' ⟨d, rfl, hD, u⟩
  obtain ⟨A, k, c, rfl⟩ := hD.form
  rw [hx] at hD
  rw [hx, hb]
  exact ⟨A, k, c, rfl, hD, u⟩
end Go.Proofs.YtefhfoioeoijlaaGreatDoor
namespace Go.Proofs.YtefhfoioeoijlaaGreatDoor
open Go Go.RowKit Go.ChangeShapes Go.WideShapes Go.ChangeAt Go.Deep
def OpRow0 (w : World) (A : Option Addr) (os : List OpD) : Prop :=
  ∀ (i : Nat) (o : OpD), os[i]? = some o → ∃ g f oA on oc, A = some ⟨g, f, none⟩ ∧ g < w.heap.size ∧ (∀ (j : Nat) (v : Value), (opC o (.slice oA on oc))[j]? = some v → w.cell? ⟨g, f + i * 10 + j, none⟩ = some v) ∧ o.data.length = on ∧ o.name.size ≤ 9223372036854775807
theorem OpRow0.up {w w' : World} {A : Option Addr} {os : List OpD} (h : OpRow0 w A os) (u : Up w w') : OpRow0 w' A os := fun i o ho => by
  obtain ⟨g, f, oA, on, oc, hA, hg, hc, hD, hs⟩ := h i o ho
  exact ⟨g, f, oA, on, oc, hA, Nat.lt_of_lt_of_le hg u.size, fun j v hj => (u.cell (p := ⟨g, f + i * 10 + j, none⟩) hg).trans (hc j v hj), hD, hs⟩
def Small (os : List OpD) : Prop := ∀ (i : Nat) (o : OpD), os[i]? = some o → o.data.length ≤ 500
theorem light_next {os : List OpD} {k on : Nat} {o : OpD} (h : Hid (∀ (i : Nat) (o : OpD), i < k → os[i]? = some o → o.data.length ≤ 500)) (ho : os[k]? = some o) (hD : o.data.length = on) (p : ¬ ((on : Int) > 500)) : Hid (∀ (i : Nat) (o : OpD), i < k + 1 → os[i]? = some o → o.data.length ≤ 500) := fun i x hi hx => by
  rcases Nat.lt_or_ge i k with h1 | h1
  · exact h.out i x h1 hx
  · obtain rfl : i = k := by omega
    rw [ho] at hx; injection hx with hx; subst hx
    omega
theorem light_end {os : List OpD} {k : Nat} (h : Hid (∀ (i : Nat) (o : OpD), i < k → os[i]? = some o → o.data.length ≤ 500)) (hk : os.length ≤ k) : Small os := fun i o ho => h.out i o (by have := (List.getElem?_eq_some_iff.1 ho).1; omega) ho
section
variable {H : Type} {enc : TypeId × Value → H}
theorem spot_none {w : World} {a : Addr} {v : Value} (h : w.cell? a = some v) : a = ⟨a.block, a.off, none⟩ ∧ a.block < w.heap.size := by
  obtain ⟨b, o, s⟩ := a
  refine ⟨?_, World.block_lt_of_cell? w _ h⟩
  cases s with
  | none => rfl
  | some s => unfold World.cell? at h; simp at h; split at h <;> simp at h
theorem open_data {W : World} {sp : Nat → Bool} {held : Bool} {n : Nat} {v : Value} {y : DataW H × List MemPlace} (h : DataW.trod enc Tryz.prog W 0 sp held n 40 [v] = some y) :
    ∃ oA on oc xs, v = .slice oA on oc ∧ xs.length = on ∧ (on ≤ 500 → Dat W.heap.size W (.slice oA on oc) xs) := by
  rcases open_ints Tryz.underlying40 Tryz.underlying5 (by kernel_rfl) h with ⟨hc, _⟩ | ⟨a, len, cap, zs, hc, _, hl, hm, hz, _, hcell, hwf⟩
  · injection hc with hc _
    exact ⟨none, 0, 0, [], hc, rfl, fun _ => Dat.nil _ _⟩
  · injection hc with hc _
    have hlz : len ≤ zs.length := by rw [hz]; split <;> omega
    have htl : (zs.take len).length = len := by rw [List.length_take]; omega
    refine ⟨some a, len, cap, zs.take len, hc, htl, fun h5 => ?_⟩
    refine ⟨some a, len, cap, rfl, htl, hl, by omega, fun x hx => ?_, fun h0 => ?_⟩
    · have := hwf x (List.mem_of_mem_take hx)
      have := bounds_u8 this
      omega
    · have h1 := hcell 0 (by omega)
      rw [show a.add 0 = a from rfl] at h1
      obtain ⟨ha, hb⟩ := spot_none h1
      refine ⟨a.block, a.off, by rw [← ha], hb, .inl hb, fun i hi => ?_⟩
      have := hcell i (by omega)
      rw [ha, add_at] at this
      rw [this]
      congr 2
      simp [List.getD_eq_getElem?_getD, List.getElem?_take, hi]
set_option maxRecDepth 20000 in
theorem open_op {W : World} {sp : Nat → Bool} {held : Bool} {n : Nat} {cs : List Value} {x : DataW H × List MemPlace} (h : DataW.trod enc Tryz.prog W 0 sp held n 49 cs = some x) :
    ∃ (o : OpD) (oA : Option Addr) (on oc : Nat), cs = opC o (.slice oA on oc) ∧ o.data.length = on ∧ o.name.size ≤ 9223372036854775807 ∧ (on ≤ 500 → Dat W.heap.size W (.slice oA on oc) o.data) := by
  obtain ⟨xs, k, _, _, hlen, hxs, hf⟩ := DataW.trod_struct Tryz.underlying49 h
  rw [show Tryz.prog.cellsOf 49 = 10 from by kernel_rfl] at hlen
  match cs, hlen with
  | [v0, v1, v2, v3, v4, v5, v6, v7, v8, v9], _ =>
    simp only [List.size_toArray, List.length_cons, List.length_nil, Nat.reduceAdd] at hxs
    match xs, hxs with
    | [y0, y1, y2, y3, y4, y5, y6], _ =>
      have c2 : Tryz.prog.cellsOf 2 = 1 := by kernel_rfl
      have c3 : Tryz.prog.cellsOf 3 = 1 := by kernel_rfl
      have c4 : Tryz.prog.cellsOf 4 = 1 := by kernel_rfl
      have c9 : Tryz.prog.cellsOf 9 = 1 := by kernel_rfl
      have c24 : Tryz.prog.cellsOf 24 = 2 := by kernel_rfl
      have c33 : Tryz.prog.cellsOf 40 = 1 := by kernel_rfl
      have t0 : DataW.trod enc Tryz.prog W 0 sp held k 3 [v0] = some y0 := by
        have q : DataW.trod enc Tryz.prog W 0 sp held k 3 (([v0, v1, v2, v3, v4, v5, v6, v7, v8, v9].drop 0).take (Tryz.prog.cellsOf 3)) = some y0 := hf 0 _ rfl
        rw [c3] at q; exact q
      have t1 : DataW.trod enc Tryz.prog W 0 sp held k 24 [v1, v2] = some y1 := by
        have q : DataW.trod enc Tryz.prog W 0 sp held k 24 (([v0, v1, v2, v3, v4, v5, v6, v7, v8, v9].drop 1).take (Tryz.prog.cellsOf 24)) = some y1 := hf 1 _ rfl
        rw [c24] at q; exact q
      have t2 : DataW.trod enc Tryz.prog W 0 sp held k 24 [v3, v4] = some y2 := by
        have q : DataW.trod enc Tryz.prog W 0 sp held k 24 (([v0, v1, v2, v3, v4, v5, v6, v7, v8, v9].drop 3).take (Tryz.prog.cellsOf 24)) = some y2 := hf 2 _ rfl
        rw [c24] at q; exact q
      have t3 : DataW.trod enc Tryz.prog W 0 sp held k 24 [v5, v6] = some y3 := by
        have q : DataW.trod enc Tryz.prog W 0 sp held k 24 (([v0, v1, v2, v3, v4, v5, v6, v7, v8, v9].drop 5).take (Tryz.prog.cellsOf 24)) = some y3 := hf 3 _ rfl
        rw [c24] at q; exact q
      have t4 : DataW.trod enc Tryz.prog W 0 sp held k 4 [v7] = some y4 := by
        have q : DataW.trod enc Tryz.prog W 0 sp held k 4 (([v0, v1, v2, v3, v4, v5, v6, v7, v8, v9].drop 7).take (Tryz.prog.cellsOf 4)) = some y4 := hf 4 _ rfl
        rw [c4] at q; exact q
      have t5 : DataW.trod enc Tryz.prog W 0 sp held k 9 [v8] = some y5 := by
        have q : DataW.trod enc Tryz.prog W 0 sp held k 9 (([v0, v1, v2, v3, v4, v5, v6, v7, v8, v9].drop 8).take (Tryz.prog.cellsOf 9)) = some y5 := hf 5 _ rfl
        rw [c9] at q; exact q
      have t6 : DataW.trod enc Tryz.prog W 0 sp held k 40 [v9] = some y6 := by
        have q : DataW.trod enc Tryz.prog W 0 sp held k 40 (([v0, v1, v2, v3, v4, v5, v6, v7, v8, v9].drop 9).take (Tryz.prog.cellsOf 40)) = some y6 := hf 6 _ rfl
        rw [c33] at q; exact q
      have st : ∀ {u v : Value} {y : DataW H × List MemPlace}, DataW.trod enc Tryz.prog W 0 sp held k 24 [u, v] = some y → ∃ a b, u = .int .i64 a ∧ v = .int .i64 b := fun {u v y} hy => by
        obtain ⟨z0, z1, m, _, _, q0, q1⟩ := trod_struct2 Tryz.underlying24 hy
        simp only [c2, c3, List.drop, List.take] at q0 q1
        obtain ⟨a, ha, _⟩ := DataW.trod_int Tryz.underlying2 q0
        obtain ⟨b, hb, _⟩ := DataW.trod_int Tryz.underlying3 q1
        injection ha with ha _
        injection hb with hb _
        exact ⟨a, b, ha, hb⟩
      obtain ⟨kd, e0, _⟩ := DataW.trod_int Tryz.underlying3 t0
      obtain ⟨a1, b1, rfl, rfl⟩ := st t1
      obtain ⟨a2, b2, rfl, rfl⟩ := st t2
      obtain ⟨a3, b3, rfl, rfl⟩ := st t3
      obtain ⟨dr, e4, _⟩ := DataW.trod_bool Tryz.underlying4 t4
      obtain ⟨nm, e5, _, hnm⟩ := DataW.trod_string Tryz.underlying9 t5
      obtain ⟨oA, on, oc, zs, e6, hz, hD⟩ := open_data t6
      injection e0 with e0 _
      injection e4 with e4 _
      injection e5 with e5 _
      subst e0 e4 e5 e6
      exact ⟨⟨kd, ⟨a1, b1⟩, ⟨a2, b2⟩, ⟨a3, b3⟩, dr, nm, zs⟩, oA, on, oc, rfl, hz, by unfold maxLen at hnm; simpa using hnm, hD⟩
theorem open_ops {W : World} {sp : Nat → Bool} {held : Bool} {n : Nat} {cs : List Value} {x : DataW H × List MemPlace} (h : DataW.trod enc Tryz.prog W 0 sp held n 22 cs = some x) :
    ∃ (A : Option Addr) (os : List OpD) (c : Nat), cs = [.slice A os.length c] ∧ os.length ≤ 9223372036854775807 ∧ OpRow0 W A os ∧ (Small os → OpRow W.heap.size W A os) := by
  rcases open_slice Tryz.underlying22 h with ⟨hc, _⟩ | ⟨a, len, cap, m, k, D, Pl, hc, _, hl, hm, hmm, _, hx⟩
  · exact ⟨none, [], 0, hc, by simp, fun i o ho => by simp at ho, fun _ i o ho => by simp at ho⟩
  · have hlm : len ≤ m := by rw [hmm]; split <;> omega
    have c40 : Tryz.prog.cellsOf 49 = 10 := by kernel_rfl
    have each : ∀ i, ∃ o : OpD, i < len → ∃ oA on oc, a = ⟨a.block, a.off, none⟩ ∧ a.block < W.heap.size ∧ (∀ (j : Nat) (v : Value), (opC o (.slice oA on oc))[j]? = some v → W.cell? ⟨a.block, a.off + i * 10 + j, none⟩ = some v) ∧ o.data.length = on ∧ o.name.size ≤ 9223372036854775807 ∧ (on ≤ 500 → Dat W.heap.size W (.slice oA on oc) o.data) := by
      intro i
      by_cases hi : i < len
      · obtain ⟨cs', h1, h2⟩ := hx i (by omega)
        rw [c40] at h1
        obtain ⟨o, oA, on, oc, rfl, hd, hs, hD⟩ := open_op h2
        obtain ⟨_, _, hcell⟩ := World.cells?_some h1
        have ha : a = ⟨a.block, a.off, none⟩ ∧ a.block < W.heap.size := by
          obtain ⟨cs0, g1, g2⟩ := hx 0 (by omega)
          obtain ⟨_, g3, g4⟩ := World.cells?_some g1
          have hp : 0 < Tryz.prog.cellsOf 49 := by rw [c40]; decide
          have := g4 0 hp
          rw [Nat.zero_mul, List.getElem?_eq_getElem (by omega)] at this
          exact spot_none (show W.cell? a = _ from this)
        refine ⟨o, fun _ => ⟨oA, on, oc, ha.1, ha.2, fun j v hj => ?_, hd, hs, hD⟩⟩
        have hj10 : j < 10 := (List.getElem?_eq_some_iff.1 hj).1
        have := hcell j hj10
        rw [hj, ha.1, add_at, add_at] at this
        exact this
      · exact ⟨default, fun h => absurd h hi⟩
    refine ⟨some a, (List.range len).map fun i => (each i).choose, cap, by rw [List.length_map, List.length_range]; exact hc, by rw [List.length_map, List.length_range]; exact Nat.le_trans hl (Nat.le_trans hm (Nat.le_of_ble_eq_true rfl)), fun i o ho => ?_, fun hsm i o ho => ?_⟩
    · have hi : i < len := by have := (List.getElem?_eq_some_iff.1 ho).1; simpa using this
      have he : (each i).choose = o := by simpa [List.getElem?_map, List.getElem?_range hi] using ho
      obtain ⟨oA, on, oc, ha, hb, hc', hd, hs, hD⟩ := (each i).choose_spec hi
      rw [he] at hc' hd hs
      exact ⟨a.block, a.off, oA, on, oc, by rw [← ha], hb, hc', hd, hs⟩
    · have hi : i < len := by have := (List.getElem?_eq_some_iff.1 ho).1; simpa using this
      have he : (each i).choose = o := by simpa [List.getElem?_map, List.getElem?_range hi] using ho
      obtain ⟨oA, on, oc, ha, hb, hc', hd, hs, hD⟩ := (each i).choose_spec hi
      rw [he] at hc' hd hs hD
      exact ⟨a.block, a.off, oA, on, oc, by rw [← ha], hb, hc', hD (by have := hsm i o ho; omega), hs⟩
end
end Go.Proofs.YtefhfoioeoijlaaGreatDoor
set_option linter.unusedVariables false
set_option linter.unusedSimpArgs false
namespace Go.Proofs.YtefhfoioeoijlaaGreatDoor
open Go Go.RowKit Go.Sort
theorem tkO {L : List OpD} {k : Nat} {x : OpD} (h : L[k]? = some x) : L.take (k + 1) = L.take k ++ [x] := by rw [List.take_add_one, h]; rfl
set_option maxHeartbeats 2000000 in
theorem opsort_at {B : Nat} {w : World} {lA : Option Addr} {lc : Nat} {os : List OpD} (h : OpRow B w lA os) (hB : B ≤ w.heap.size) (hn : os.length ≤ 1000000) :
    Calls Tryz.prog 56 #[.slice lA os.length lc] w fun e w' => ∃ v, e = .returned v ∧ ORow 49 B w.heap.size w' v (sortO os) ∧ Up w w' := by
  have hBb := hB
  obtain ⟨iO, zO, hiO, hzO, hsO, hbO, hcO⟩ := info_op
  go_enter Tryz.func56, Tryz.ntmps56
  refine wp_seq (rg_lit ?_)
  refine was (v := .slice none 0 0) ?_
  refine wnil (then_n (wp_seq (rg_lit ?_)))
  refine wmv (v := .slice lA os.length lc) ?_
  refine wl (sv rfl (v := .int .i64 (os.length : Int)) (r_len Ty.un22 (ad := lA) (n := os.length) (c := lc) (by kernel_rfl)) ?_)
  refine wl (mkO rfl (B := B) (base := w.heap.size) (m := os.length) (by kernel_rfl) (by kernel_rfl) Ty.un22 hiO hzO hsO hbO (by omega) (Mod.refl [] w).size ?_)
  intro g w1 e2 h3 u4
  obtain ⟨_, _, _, cgh5, h5, _⟩ := ORow.blk h3
  have g6 : w.heap.size ≤ g := by rw [e2]; exact (Mod.refl [] w).size
  have M7 := Mod.trans (Mod.refl [] w) (Mod.of_up u4)
  have hBg : B ≤ g := Nat.le_trans hB g6
  refine was (v := .slice (some ⟨g, 0, none⟩) 0 os.length) ?_
  refine wnil (then_n (wp_seq (wp_seq (rg_lit ?_))))
  refine wmv (v := .slice lA os.length lc) ?_
  refine wl (sv rfl (v := .int .i64 (os.length : Int)) (r_len Ty.un22 (ad := lA) (n := os.length) (c := lc) (by kernel_rfl)) ?_)
  refine wmv (v := .int .i64 0) ?_
  refine wnil (then_n (wp_block ?_))
  have h8 := (OpRow.up h (Mod.up M7))
  refine lp (fun n a r1 => ∃ (kk : Nat) (z5 z12 z13 z14 z15 z16 z17 z18 z19 z20 : Value), (n = os.length - kk) ∧ (a = ⟨#[.slice lA os.length lc, undef, .slice none 0 0, .slice (some ⟨g, 0, none⟩) kk os.length, undef, z5, .slice lA os.length lc, .int .i64 (os.length : Int), .slice (some ⟨g, 0, none⟩) 0 os.length, .slice lA os.length lc, .int .i64 (os.length : Int), .int .i64 (kk : Int), z12, z13, z14, z15, z16, z17, z18, z19, z20, undef, undef, undef, undef], []⟩) ∧ (Mod [g] w1 r1) ∧ (kk ≤ os.length) ∧ (ORow 49 B w.heap.size r1 (.slice (some ⟨g, 0, none⟩) kk os.length) (os.take kk))) ⟨_, 0, undef, undef, undef, undef, undef, undef, undef, undef, undef, undef, rfl, (by kernel_rfl), Mod.refl _ _, (Nat.zero_le _), h3⟩ ?_
  rintro _ _ r1 ⟨kk, z5, z12, z13, z14, z15, z16, z17, z18, z19, z20, rfl, rfl, hM1, hF1_0, hF1_1⟩
  have M9 := Mod.thin M7 hM1 (fun y hy => by simp only [List.mem_cons, List.not_mem_nil, or_false] at hy; subst hy; exact .inr g6)
  obtain ⟨_, _, _, cg10, hg10, _⟩ := ORow.blk hF1_1
  refine wp_seq (rg_lit ?_)
  refine wl (sb rfl (r_lt (k := .i64) (m := (kk : Int)) (n := (os.length : Int)) (by kernel_rfl) (by kernel_rfl)) ?_)
  intro b11 k12
  refine wnil (then_n (wp_seq ?_))
  refine bcase b11 (fun v13 => ?_) (fun v13 => ?_)
  ·
   have p14 := of_decide_eq_false (k12.trans v13)
   refine wp_cond_false (ebool (b := b11) (by kernel_rfl) v13) ?_
   refine wp_exit (then_x (by nofun) (then_x (by nofun) (inb_hit (then_n (wp_seq (rg_lit ?_))))))
   refine wmv (v := .slice (some ⟨g, 0, none⟩) kk os.length) ?_
   have ho := ORow.to hF1_1 (show os.take kk = (List.range kk).map (atO os) by rw [List.take_of_length_le (by omega), show kk = os.length by omega]; exact (range_at os).symm)
   refine wl (sc rfl (r_callv (caps := []) (all := [.slice (some ⟨g, 0, none⟩) kk os.length, .func (.func 115) #[] #[]]) En.f114 (by kernel_rfl) (by kernel_rfl)) (sortStable_at ho hBb (by omega)) ?_)
   rintro e w15 ⟨D16, rfl, h17, m18, c19⟩
   refine ⟨.tuple #[], rfl, ?_⟩
   have M20 := Mod.trans' M9 c19 (fun i hi => by injection hi with hi; rw [← hi]; exact g6)
   have M21 := Mod.trans hM1 (Mod.of_chg c19 (by simp))
   obtain ⟨_, _, _, cg22, hg22, _⟩ := ORow.blk h17
   refine wnil (then_n (wp_seq (rg_lit ?_)))
   refine wmv (v := .slice (some ⟨g, 0, none⟩) kk os.length) ?_
   refine wl (sc rfl (r_callv (caps := []) (all := [.slice (some ⟨g, 0, none⟩) kk os.length, .func (.func 117) #[] #[]]) En.f116 (by kernel_rfl) (by kernel_rfl)) (compact_at h17 hBb (by omega)) ?_)
   rintro e w23 ⟨m24, D25, rfl, h26, h27, c28⟩
   refine ⟨.slice (some ⟨g, 0, none⟩) m24 os.length, rfl, ?_⟩
   have M29 := Mod.trans' M20 c28 (fun i hi => by injection hi with hi; rw [← hi]; exact g6)
   have M30 := Mod.trans M21 (Mod.of_chg c28 (by simp))
   obtain ⟨_, _, _, cg31, hg31, _⟩ := ORow.blk h26
   refine was (v := .slice (some ⟨g, 0, none⟩) m24 os.length) ?_
   refine wnil (then_n (wp_ret ?_))
   refine bodyPost_ret (v := .slice (some ⟨g, 0, none⟩) m24 os.length) (res1 rfl (rv_t (by kernel_rfl))) (by kernel_rfl) ?_
   exact ⟨_, rfl, ORow.to h26 ((Thin.sortO h27 m18).trans (by rw [show kk = os.length by omega, range_at])), (Mod.up M29)⟩
  have p14 := of_decide_eq_true (k12.trans v13)
  have q15 : kk < os.length := by omega
  have q16 : kk < os.length := by omega
  refine wp_cond_true (ebool (b := b11) (by kernel_rfl) v13) ?_
  refine wp_skip (then_n (wp_seq (wp_block (wp_seq (rg_lit ?_)))))
  have h17 := (OpRow.up h (Mod.up M9))
  obtain ⟨o18, ho18⟩ : ∃ x, os[kk]? = some x := ⟨_, List.getElem?_eq_getElem q16⟩
  obtain ⟨g18, f18, oA18, on18, oc18, hA18, hl18, hc18, hD18, hs18⟩ := h17 kk o18 ho18
  refine wl (sv rfl (v := .pointer (some ⟨g18, f18 + kk * 10, none⟩)) (r_ixaddr' (A := lA) (b := g18) (o := f18) (n := os.length) (c := lc) (sz := 10) (j := (kk : Int)) (m := f18 + kk * 10) (by kernel_rfl) hA18 (by kernel_rfl) Ty.un22 Ty.sz49 (by omega) (by omega) (by simp)) ?_)
  refine wl (sv rfl (v := opV o18 (.slice oA18 on18 oc18)) (r_loadcN (vs := (opC o18 (.slice oA18 on18 oc18))) (by kernel_rfl) Ty.ag49 Ty.sz49 hc18) ?_)
  refine wl (sn rfl (cs := #[.int .i64 0, .int .i64 0, .int .i64 0, .int .i64 0, .int .i64 0, .int .i64 0, .int .i64 0, .bool false, .string (⟨#[]⟩), .slice none 0 0]) (T := 49) (V := fun b => .pointer (some ⟨b, 0, none⟩)) (r_alloc Ty.zv49 rfl) ?_)
  intro b19 w20 e21 h22 u23
  have l24 : g < b19 := by rw [e21]; exact lt_ob hg10
  have g25 : w.heap.size ≤ b19 := by rw [e21]; exact M9.size
  have g26 : w1.heap.size ≤ b19 := by rw [e21]; exact hM1.size
  have M27 := Mod.trans M9 (Mod.of_up u23)
  have M28 := Mod.trans hM1 (Mod.of_up u23)
  refine wl (ss rfl (k := 0) (v := opV o18 (.slice oA18 on18 oc18)) (vs := (opC o18 (.slice oA18 on18 oc18))) (cs' := (opC o18 (.slice oA18 on18 oc18))) (by kernel_rfl) (by kernel_rfl) rfl Ty.sz49 h22 rfl (Nat.le_of_ble_eq_true rfl) rfl ?_)
  intro w29 h30 c31
  have M32 := Mod.trans' M27 c31 (fun i hi => by injection hi with hi; rw [← hi]; exact g25)
  have M33 := Mod.trans' M28 c31 (fun i hi => by injection hi with hi; rw [← hi]; exact g26)
  refine wnil (then_n (rg_lit ?_))
  refine wmv (v := .slice (some ⟨g, 0, none⟩) kk os.length) ?_
  refine wl (sv rfl (v := opV o18 (.slice oA18 on18 oc18)) (r_loads (k := 0) (by kernel_rfl) Ty.ag49 Ty.sz49 h30 (by kernel_rfl)) ?_)
  have h34 := (Dat.up hD18 (up_chgn u23 c31 (by rw [e21]; exact Nat.le_refl _)))
  refine wl (sc rfl (r_callv (caps := []) (all := [opV o18 (.slice oA18 on18 oc18)]) En.f113 (by kernel_rfl) (by kernel_rfl)) (opown_at o18 oA18 on18 oc18 (Nat.le_trans hB M32.size) h34) ?_)
  rintro e w35 ⟨A36, n37, c38, rfl, h39, u40⟩
  refine ⟨opV o18 (.slice A36 n37 c38), rfl, ?_⟩
  have M41 := Mod.trans M32 (Mod.of_up u40)
  have M42 := Mod.trans M33 (Mod.of_up u40)
  refine wl (sn rfl (cs := (opC o18 (.slice A36 n37 c38)).toArray) (T := 49) (V := fun b => .slice (some ⟨b, 0, none⟩) 1 1) (r_buildSlice (n := 1) (ps := [(0, opV o18 (.slice A36 n37 c38))]) Ty.un22 Ty.sz49 Ty.zv49 (by decide) (by decide) (by kernel_rfl) (by kernel_rfl)) ?_)
  intro b43 w44 e45 h46 u47
  have h48 := (up_ob u40 (chg_ob c31 (Nat.ne_of_lt l24) (up_ob u23 hg10)))
  have l49 : g < b43 := by rw [e45]; exact lt_ob h48
  have h50 := (up_ob u40 h30)
  have l51 : b19 < b43 := by rw [e45]; exact lt_ob h50
  have g52 : w.heap.size ≤ b43 := by rw [e45]; exact M41.size
  have g53 : w1.heap.size ≤ b43 := by rw [e45]; exact M42.size
  have M54 := Mod.trans M41 (Mod.of_up u47)
  have M55 := Mod.trans M42 (Mod.of_up u47)
  have h56 := (ORow.up hF1_1 (up_up (up_up (up_chgn u23 c31 (by rw [e21]; exact Nat.le_refl _)) u40) u47))
  have h57 := (Dat.up h39 u47)
  have h61 := (up_ob u47 h48)
  refine wl (fitO rfl (x := o18) (e := .slice A36 n37 c38) (by kernel_rfl) (by kernel_rfl) h56 Ty.un22 hiO hsO h46 h57 (by decide) hBb (by omega) ?_)
  intro w58 h59 c60
  have M62 := Mod.trans' M54 c60 (fun i hi => by injection hi with hi; rw [← hi]; exact g6)
  have M63 := Mod.trans M55 (Mod.of_chg c60 (by simp))
  obtain ⟨_, _, _, cg64, hg64, _⟩ := ORow.blk h59
  refine was (v := .slice (some ⟨g, 0, none⟩) (kk + 1) os.length) ?_
  refine wnil (inb_n (then_n (rg_lit ?_)))
  refine wl (sv rfl (v := .int .i64 ((kk + 1 : Nat) : Int)) (r_add (k := .i64) (m := (kk : Int)) (n := 1) (c := ((kk + 1 : Nat) : Int)) (by kernel_rfl) (by kernel_rfl) ((IntWalk.i64_in _ (by omega)).trans (by omega))) ?_)
  refine wmv (v := .int .i64 ((kk + 1 : Nat) : Int)) ?_
  refine wnil (then_n ?_)
  refine ⟨os.length - (kk + 1), ?_, (kk + 1), .pointer (some ⟨b19, 0, none⟩), .bool b11, .pointer (some ⟨g18, f18 + kk * 10, none⟩), opV o18 (.slice oA18 on18 oc18), .slice (some ⟨g, 0, none⟩) kk os.length, opV o18 (.slice oA18 on18 oc18), opV o18 (.slice A36 n37 c38), .slice (some ⟨b43, 0, none⟩) 1 1, .slice (some ⟨g, 0, none⟩) (kk + 1) os.length, .int .i64 ((kk + 1 : Nat) : Int), rfl, (by kernel_rfl), M63, (by omega), (ORow.to h59 (tkO ho18).symm)⟩
  · omega
def playI (L : List Item) (o : OpD) : List Item := (doI L o).2
def buildI (os : List OpD) : List Item := (sortO os).foldl playI []
theorem orow_sl {P : Program} {f : FuncId} {args : Array Value} {w : World} {T : TypeId} {B base : Nat} {L : List OpD} (h : Calls P f args w fun e w' => ∃ v, e = .returned v ∧ ORow T B base w' v L ∧ Up w w') :
    Calls P f args w fun e w' => ∃ A c, e = .returned (.slice A L.length c) ∧ ORow T B base w' (.slice A L.length c) L ∧ Up w w' := by
  refine h.mono ?_
  rintro e w' ⟨v, rfl, hr, u⟩
  obtain ⟨A, c, rfl⟩ := hr.form
  exact ⟨A, c, rfl, hr, u⟩
theorem OpRow.names {B : Nat} {w : World} {A : Option Addr} {os : List OpD} (h : OpRow B w A os) : ∀ o ∈ sortO os, o.name.size ≤ 9223372036854775807 := fun o ho => by
  obtain ⟨i, hi⟩ := List.mem_iff_getElem?.1 (sortO_mem ho)
  obtain ⟨_, _, _, _, _, _, _, _, _, hs⟩ := h i o hi
  exact hs
set_option maxHeartbeats 2000000 in
theorem build_at {B : Nat} {w : World} {lA : Option Addr} {lc : Nat} {os : List OpD} (h : OpRow B w lA os) (hB : B ≤ w.heap.size) (hn : os.length ≤ 1000000) :
    Calls Tryz.prog 15 #[.slice lA os.length lc] w fun e w' => ∃ tb r, e = .returned (trP tb) ∧ TreeIs B w' tb r (buildI os) ∧ Up w w' ∧ w.heap.size ≤ tb ∧ w.heap.size ≤ r := by
  have hnm := h.names
  have hsl := sortO_len os
  go_enter Tryz.func15, Tryz.ntmps15
  refine wp_seq (rg_lit ?_)
  refine was (v := .pointer none) ?_
  refine wnil (then_n (wp_seq (rg_lit ?_)))
  refine wl (sc rfl (r_callv (caps := []) (all := []) En.f30 (by kernel_rfl) (by kernel_rfl)) (tnew_any (Nat.le_trans hB (Mod.refl [] w).size)) ?_)
  rintro e w1 ⟨tb, r, rfl, h4, u5, z6, z7⟩
  refine ⟨.pointer (some ⟨tb, 0, none⟩), rfl, ?_⟩
  have M8 := Mod.trans (Mod.refl [] w) (Mod.of_up u5)
  obtain ⟨eshr9, clhr9, xshr9, hr9, _⟩ := h4.2.2.2.1
  refine was (v := .pointer (some ⟨tb, 0, none⟩)) ?_
  refine wnil (then_n (wp_seq (wp_seq (rg_lit ?_))))
  refine wmv (v := .slice lA os.length lc) ?_
  have h10 := (OpRow.up h (Mod.up M8))
  refine wl (sc rfl (r_callv (caps := []) (all := [.slice lA os.length lc]) En.f56 (by kernel_rfl) (by kernel_rfl)) (orow_sl (opsort_at h10 (Nat.le_trans hB M8.size) hn)) ?_)
  rintro e w11 ⟨A12, c13, rfl, h14, u15⟩
  refine ⟨.slice A12 ((sortO os).length) c13, rfl, ?_⟩
  have M16 := Mod.trans M8 (Mod.of_up u15)
  refine wl (sv rfl (v := .int .i64 (((sortO os).length) : Int)) (r_len Ty.un22 (ad := A12) (n := ((sortO os).length)) (c := c13) (by kernel_rfl)) ?_)
  refine wmv (v := .int .i64 0) ?_
  refine wnil (then_n (wp_block ?_))
  have h17 := (up_ob u15 hr9)
  have h18 := (up_ob u15 h4.1)
  have h19 := (OpRow.up h (Mod.up M16))
  have h20 := (TreeIs.up h4 u15)
  refine lp (fun n a r1 => ∃ (kk : Nat) (Lc : List Item) (z5 z11 z12 z13 z14 z15 z16 z17 : Value), (n = (sortO os).length - kk) ∧ (a = ⟨#[.slice lA os.length lc, undef, .pointer none, .pointer (some ⟨tb, 0, none⟩), undef, z5, .pointer (some ⟨tb, 0, none⟩), .slice lA os.length lc, .slice A12 ((sortO os).length) c13, .int .i64 (((sortO os).length) : Int), .int .i64 (kk : Int), z11, z12, z13, z14, z15, z16, z17, undef], []⟩) ∧ (Mod [r] w11 r1) ∧ (kk ≤ (sortO os).length) ∧ (Lc = ((sortO os).take kk).foldl playI []) ∧ (TreeIs B r1 tb r Lc)) ⟨_, 0, [], undef, undef, undef, undef, undef, undef, undef, undef, rfl, (by kernel_rfl), Mod.refl _ _, (Nat.zero_le _), rfl, h20⟩ ?_
  rintro _ _ r1 ⟨kk, Lc, z5, z11, z12, z13, z14, z15, z16, z17, rfl, rfl, hM1, hF1_0, hF1_1, hF1_2⟩
  have M21 := Mod.thin M16 hM1 (fun y hy => by simp only [List.mem_cons, List.not_mem_nil, or_false] at hy; subst hy; exact .inr (Nat.le_trans (Mod.refl [] w).size z7))
  obtain ⟨eshr22, clhr22, xshr22, hr22, _⟩ := hF1_2.2.2.2.1
  refine wp_seq (rg_lit ?_)
  refine wl (sb rfl (r_lt (k := .i64) (m := (kk : Int)) (n := (((sortO os).length) : Int)) (by kernel_rfl) (by kernel_rfl)) ?_)
  intro b23 k24
  refine wnil (then_n (wp_seq ?_))
  refine bcase b23 (fun v25 => ?_) (fun v25 => ?_)
  ·
   have p26 := of_decide_eq_false (k24.trans v25)
   refine wp_cond_false (ebool (b := b23) (by kernel_rfl) v25) ?_
   refine wp_exit (then_x (by nofun) (then_x (by nofun) (inb_hit (then_n (wp_seq (rg_lit ?_))))))
   refine wmv (v := .pointer (some ⟨tb, 0, none⟩)) ?_
   refine was (v := .pointer (some ⟨tb, 0, none⟩)) ?_
   refine wnil (then_n (wp_ret ?_))
   refine bodyPost_ret (v := .pointer (some ⟨tb, 0, none⟩)) (res1 rfl (rv_t (by kernel_rfl))) (by kernel_rfl) ?_
   refine ⟨tb, r, rfl, ?_, (Mod.up M21), (Nat.le_trans (Mod.refl [] w).size z6), (Nat.le_trans (Mod.refl [] w).size z7)⟩
   have h0 := hF1_2
   rw [hF1_1, List.take_of_length_le (by omega)] at h0
   exact h0
  have p26 := of_decide_eq_true (k24.trans v25)
  refine wp_cond_true (ebool (b := b23) (by kernel_rfl) v25) ?_
  refine wp_skip (then_n (wp_seq (wp_block (wp_seq (rg_lit ?_)))))
  have h27 := (ORow.chgn h14 (Mod.chg hM1) ⟨h20.2.2.1, NotU8.map h17⟩ (ORow.ne_old h14 (lt_ob hr9)))
  obtain ⟨o28, ho28⟩ : ∃ x, (sortO os)[kk]? = some x := ⟨_, List.getElem?_eq_getElem (by omega)⟩
  obtain ⟨g28, cp28, cu28, dA28, dn28, dc28, hA28, hg28, hb28, he28, hD28⟩ := ORow.get h27 ho28
  injection hA28 with hA28 _ _
  replace he28 : (cu28.toList.drop (0 + kk * 10)).take 10 = opC o28 (.slice dA28 dn28 dc28) := by rw [Nat.zero_add]; exact he28
  refine wl (sv rfl (v := .pointer (some ⟨g28, 0 + kk * 10, none⟩)) (r_ixaddr' (A := A12) (b := g28) (o := 0) (n := ((sortO os).length)) (c := c13) (sz := 10) (j := (kk : Int)) (by kernel_rfl) hA28 (by kernel_rfl) Ty.un22 Ty.sz49 (by omega) (by omega) (by simp)) ?_)
  refine wl (sv rfl (v := opV o28 (.slice dA28 dn28 dc28)) (r_loads (k := 0 + kk * 10) (by kernel_rfl) Ty.ag49 Ty.sz49 hb28 (el_sub0 he28 rfl)) ?_)
  refine wl (sn rfl (cs := #[.int .i64 0, .int .i64 0, .int .i64 0, .int .i64 0, .int .i64 0, .int .i64 0, .int .i64 0, .bool false, .string (⟨#[]⟩), .slice none 0 0]) (T := 49) (V := fun b => .pointer (some ⟨b, 0, none⟩)) (r_alloc Ty.zv49 rfl) ?_)
  intro b29 w30 e31 h32 u33
  have l34 : r < b29 := by rw [e31]; exact lt_ob hr22
  have l35 : tb < b29 := by rw [e31]; exact lt_ob hF1_2.1
  have l36 : g28 < b29 := by rw [e31]; exact lt_ob hb28
  have g37 : w.heap.size ≤ b29 := by rw [e31]; exact M21.size
  have g38 : w11.heap.size ≤ b29 := by rw [e31]; exact hM1.size
  have M39 := Mod.trans M21 (Mod.of_up u33)
  have M40 := Mod.trans hM1 (Mod.of_up u33)
  refine wl (ss rfl (k := 0) (v := opV o28 (.slice dA28 dn28 dc28)) (vs := (opC o28 (.slice dA28 dn28 dc28))) (cs' := (opC o28 (.slice dA28 dn28 dc28))) (by kernel_rfl) (by kernel_rfl) rfl Ty.sz49 h32 rfl (Nat.le_of_ble_eq_true rfl) rfl ?_)
  intro w41 h42 c43
  have M44 := Mod.trans' M39 c43 (fun i hi => by injection hi with hi; rw [← hi]; exact g37)
  have M45 := Mod.trans' M40 c43 (fun i hi => by injection hi with hi; rw [← hi]; exact g38)
  refine wnil (then_n (rg_lit ?_))
  refine wmv (v := .pointer (some ⟨tb, 0, none⟩)) ?_
  refine wl (sv rfl (v := opV o28 (.slice dA28 dn28 dc28)) (r_loads (k := 0) (by kernel_rfl) Ty.ag49 Ty.sz49 h42 (by kernel_rfl)) ?_)
  have h46 := (TreeIs.up hF1_2 (up_chgn u33 c43 (by rw [e31]; exact Nat.le_refl _)))
  have h47 := (Dat.up hD28 (up_chgn u33 c43 (by rw [e31]; exact Nat.le_refl _)))
  have h55 := (chg_ob c43 (Nat.ne_of_lt l34) (up_ob u33 hr22))
  have h56 := (chg_ob c43 (Nat.ne_of_lt l35) (up_ob u33 hF1_2.1))
  have h57 := (chg_ob c43 (Nat.ne_of_lt l36) (up_ob u33 hb28))
  refine wl (sc rfl (r_callv (caps := []) (all := [.pointer (some ⟨tb, 0, none⟩), opV o28 (.slice dA28 dn28 dc28)]) En.f22 (by kernel_rfl) (by kernel_rfl)) (do_x (L' := (playI Lc o28)) h46 (Nat.le_trans hB M44.size) o28 dA28 dn28 dc28 h47 (hnm _ (List.mem_of_getElem? ho28)) rfl) ?_)
  rintro e w48 ⟨A49, n50, c51, rfl, h52, h53, u54⟩
  refine ⟨.tuple #[itV (doI Lc o28).1.1 (.slice A49 n50 c51), .bool ((doI Lc o28).1.2.1), .int .i64 ((doI Lc o28).1.2.2)], rfl, ?_⟩
  have M58 := Mod.trans' M44 u54 (fun i hi => by injection hi with hi; rw [← hi]; exact (Nat.le_trans (Mod.refl [] w).size z7))
  have M59 := Mod.trans M45 (Mod.of_chg u54 (by simp))
  obtain ⟨eshr60, clhr60, xshr60, hr60, _⟩ := h53.2.2.2.1
  refine wnil (inb_n (then_n (rg_lit ?_)))
  refine wl (sv rfl (v := .int .i64 ((kk + 1 : Nat) : Int)) (r_add (k := .i64) (m := (kk : Int)) (n := 1) (c := ((kk + 1 : Nat) : Int)) (by kernel_rfl) (by kernel_rfl) ((IntWalk.i64_in _ (by omega)).trans (by omega))) ?_)
  refine wmv (v := .int .i64 ((kk + 1 : Nat) : Int)) ?_
  refine wnil (then_n ?_)
  refine ⟨(sortO os).length - (kk + 1), ?_, (kk + 1), (playI Lc o28), .pointer (some ⟨b29, 0, none⟩), .bool b23, .pointer (some ⟨g28, 0 + kk * 10, none⟩), opV o28 (.slice dA28 dn28 dc28), .pointer (some ⟨tb, 0, none⟩), opV o28 (.slice dA28 dn28 dc28), .tuple #[itV (doI Lc o28).1.1 (.slice A49 n50 c51), .bool ((doI Lc o28).1.2.1), .int .i64 ((doI Lc o28).1.2.2)], .int .i64 ((kk + 1 : Nat) : Int), rfl, (by kernel_rfl), M59, (by omega), (by rw [tkO ho28, List.foldl_append, ← hF1_1]; rfl), h53⟩
  · omega
end Go.Proofs.YtefhfoioeoijlaaGreatDoor
set_option linter.unusedVariables false
set_option linter.unusedSimpArgs false
namespace Go.Proofs.YtefhfoioeoijlaaGreatDoor
open Go Go.RowKit Go.Sort
structure StepD where
  o : OpD
  was : Item
  there : Bool
  did : Bool
  deriving DecidableEq, Inhabited
end Go.Proofs.YtefhfoioeoijlaaGreatDoor
namespace Go.Proofs.YtefhfoioeoijlaaGreatDoor
open Go Go.RowKit
abbrev wideAt (ro : Option Nat) : Fence := { Fence.wide with round := ro }
@[irreducible] def XL (ro : Option Nat) (n : Nat) (P : Program) (ops : Array Oper) (Q : Exit → Act → World → Prop) : List Oper → Act → World → Prop := wpListIn (wideAt ro) n P ops Q
variable {ro : Option Nat} {n : Nat} {P : Program} {ops : Array Oper} {Q : Exit → Act → World → Prop} {o : Oper} {rest : List Oper} {a : Act} {w : World}
theorem xnil (h : Q .normal a w) : XL ro n P ops Q [] a w := by unfold XL; exact h
theorem rg_x {id : Nat} {l : List Oper} (h : XL ro n P l.toArray Q l a w) : (Code.region id l.toArray false).wpIn (wideAt ro) n P Q a w := wpIn_region_lit (by unfold XL at h; exact h)
theorem xl (hw : Region.wanted o (yielded ops a.tmps) = true) (hd : o.semAt ro a.eval = execOp a.eval o) (h : o.uponIn (wideAt ro) n P a (XL ro n P ops Q rest) Q ((execOp a.eval o).run P w)) : XL ro n P ops Q (o :: rest) a w := by
  unfold XL at h ⊢
  unfold wpListIn
  rw [if_pos hw]
  refine ⟨fun _ _ => trivial, ?_⟩
  rw [hd]
  exact h
theorem xv {v : Value} {w' : World} (hw : Region.wanted o (yielded ops a.tmps) = true) (hd : o.semAt ro a.eval = execOp a.eval o) (h : (execOp a.eval o).run P w = .ok (.value v) w') (k : XL ro n P ops Q rest (a.put o.dst v) w') : XL ro n P ops Q (o :: rest) a w :=
  xl hw hd (by rw [h]; exact k)
theorem xn {cs : Array Value} {T : TypeId} {V : Nat → Value} (hw : Region.wanted o (yielded ops a.tmps) = true) (hd : o.semAt ro a.eval = execOp a.eval o) (h : (execOp a.eval o).run P w = .ok (.value (V w.heap.size)) (w.alloc (.cells cs T)))
    (k : ∀ b w', b = w.heap.size → w'.heap[b]? = some (.cells cs T (0, 0)) → Up w w' → XL ro n P ops Q rest (a.put o.dst (V b)) w') : XL ro n P ops Q (o :: rest) a w :=
  xv hw hd h (k _ _ rfl (heap_alloc_new w _) (up_new _))
theorem callsAt {f : FuncId} {args : Array Value} {R : Ending → World → Prop} (h : Calls P f args w R) : CallsIn (wideAt ro) n P f args w R := by
  have := (callsIn_wide (n := n)).2 h
  cases ro with
  | none => exact this
  | some l => exact CallsIn.inRound l this
theorem xc {f : FuncId} {args : Array Value} {R : Ending → World → Prop} (hw : Region.wanted o (yielded ops a.tmps) = true) (hd : o.semAt ro a.eval = execOp a.eval o) (h : (execOp a.eval o).run P w = .ok (.enter f args) w) (hc : Calls P f args w R)
    (k : ∀ e w', R e w' → ∃ v, e = .returned v ∧ XL ro n P ops Q rest (a.put o.dst v) w') : XL ro n P ops Q (o :: rest) a w :=
  xl hw hd (by
    rw [h]
    refine ⟨fun hn => (by cases hn), (callsAt hc).mono fun e w' hR => ?_⟩
    obtain ⟨v, rfl, h⟩ := k e w' hR
    exact h)
theorem xy {l : Nat} {f : FuncId} {tmps : Array Value} {assign body : Code} {R : Ending → World → Prop} (hw : Region.wanted o (yielded ops a.tmps) = true) (hd : o.semAt ro a.eval = execOp a.eval o) (h : (execOp a.eval o).run P w = .ok (.round l f tmps assign body) w)
    (hr : RoundIn (wideAt ro) (n - 1) P l f tmps assign body w R) (k : ∀ e w', R e w' → ∃ v, e = .returned v ∧ XL ro n P ops Q rest (a.put o.dst v) w') : XL ro n P ops Q (o :: rest) a w :=
  xl hw hd (by
    rw [h]
    refine ⟨fun hn => (by cases hn), hr.mono fun e w' hR => ?_⟩
    obtain ⟨v, rfl, h⟩ := k e w' hR
    exact h)
end Go.Proofs.YtefhfoioeoijlaaGreatDoor
namespace Go.Proofs.YtefhfoioeoijlaaGreatDoor
open Go Go.RowKit Go.Sort
theorem r_yield {P : Program} {w : World} {ρ : Operand → Value} {d : Option Tmp} {ty : TypeId} {pos : String} {af : Array Edge} {gd : Option (Nat × Bool)} {l f : Nat} {x : Operand} {xs : List Operand} {ats : Array TypeId} {all : List Value} {tmps : Array Value} {assign body : Code} (hx : ρ x = .func (.yield l) #[] #[]) (ha : xs.map ρ = all)
    (h : (Instr.yield l all.toArray).run P w = .ok (.round l f tmps assign body) w) : (execOp ρ ⟨d, .call { callee := .value x, args := xs.toArray, argTypes := ats }, ty, pos, af, gd⟩).run P w = .ok (.round l f tmps assign body) w := by
  subst ha
  simp only [execOp, resolve, go_sem, hx]
  simpa [go_sem, invoke] using h
end Go.Proofs.YtefhfoioeoijlaaGreatDoor
namespace Go.Proofs.YtefhfoioeoijlaaGreatDoor
open Go Go.RowKit Go.Sort
structure DD where
  oA : Option Addr
  on : Nat
  oc : Nat
  iA : Option Addr
  in_ : Nat
  ic : Nat
end Go.Proofs.YtefhfoioeoijlaaGreatDoor
set_option linter.unusedVariables false
set_option linter.unusedSimpArgs false
namespace Go.Proofs.YtefhfoioeoijlaaGreatDoor
inductive Roots (L : List Item) : Stamp → Nat → Prop
  | root : Roots L nilS 0
  | step {m x k} : m ≠ nilS → getI L m = some x → Roots L x.parent k → Roots L m (k + 1)
theorem Roots.one {L : List Item} {m : Stamp} {k k' : Nat} (h : Roots L m k) (h' : Roots L m k') : k = k' := by
  induction h generalizing k' with
  | root =>
    cases h' with
    | root => rfl
    | step h1 _ _ => exact absurd rfl h1
  | step h1 h2 h3 ih =>
    cases h' with
    | root => exact absurd rfl h1
    | step _ h2' h3' =>
      rw [h2] at h2'; injection h2' with h2'; subst h2'
      rw [ih h3']
theorem Roots.at_ {L : List Item} {m : Stamp} {k : Nat} (h : Roots L m k) (hm : m ≠ nilS) : ∃ x, getI L m = some x := by
  cases h with
  | root => exact absurd rfl hm
  | step _ h2 _ => exact ⟨_, h2⟩
theorem sub_len {α : Type} [DecidableEq α] : ∀ {l l' : List α}, l.Nodup → (∀ x ∈ l, x ∈ l') → l.length ≤ l'.length
  | [], _, _, _ => Nat.zero_le _
  | x :: l, l', hn, hs => by
    obtain ⟨h1, h2⟩ := List.nodup_cons.1 hn
    have hx := hs x (by simp)
    have := sub_len (l := l) (l' := l'.erase x) h2 fun y hy => (List.mem_erase_of_ne (by rintro rfl; exact h1 hy)).2 (hs y (by simp [hy]))
    rw [List.length_erase_of_mem hx] at this
    have : 0 < l'.length := List.length_pos_of_mem hx
    simp; omega
theorem Roots.chain {L : List Item} {m : Stamp} {k : Nat} (h : Roots L m k) : ∃ l : List Stamp, l.length = k ∧ (∀ x ∈ l, x ∈ L.map (·.node) ∧ ∃ j, 0 < j ∧ j ≤ k ∧ Roots L x j) ∧ l.Nodup := by
  induction h with
  | root => exact ⟨[], rfl, by simp, by simp⟩
  | @step m x k h1 h2 h3 ih =>
    obtain ⟨l, e1, e2, e3⟩ := ih
    have hr : Roots L m (k + 1) := .step h1 h2 h3
    refine ⟨m :: l, by simp [e1], fun y hy => ?_, List.nodup_cons.2 ⟨fun hm => ?_, e3⟩⟩
    · rcases List.mem_cons.1 hy with rfl | hy
      · obtain ⟨g1, g2⟩ := getI_some h2
        exact ⟨List.mem_map.2 ⟨x, g1, g2⟩, k + 1, by omega, by omega, hr⟩
      · obtain ⟨a, j, b, c, d⟩ := e2 y hy
        exact ⟨a, j, b, by omega, d⟩
    · obtain ⟨_, j, _, hj, hR⟩ := e2 m hm
      have := hr.one hR; omega
theorem Roots.le {L : List Item} {m : Stamp} {k : Nat} (h : Roots L m k) : k ≤ L.length := by
  obtain ⟨l, e1, e2, e3⟩ := h.chain
  have := sub_len e3 fun x hx => (e2 x hx).1
  simp at this; omega
theorem within_roots {L : List Item} {n : Stamp} (hn : getI L nilS = none) : ∀ {f : Nat} {m : Stamp} {k : Nat}, withinI L n f m = true → Roots L m k → ∃ j, j ≤ k ∧ Roots L n j
  | f + 1, m, k, h, hr => by
    simp only [withinI] at h
    by_cases hm : m = n
    · subst hm; exact ⟨k, Nat.le_refl _, hr⟩
    · rw [if_neg hm] at h
      cases hg : getI L m with
      | none => rw [hg] at h; cases h
      | some x =>
        rw [hg] at h
        cases hr with
        | root => rw [hn] at hg; cases hg
        | step h1 h2 h3 =>
          rw [hg] at h2; injection h2 with h2; subst h2
          obtain ⟨j, hj, hR⟩ := within_roots hn h h3
          exact ⟨j, by omega, hR⟩
theorem getI_put {it : Item} {m : Stamp} : ∀ {L : List Item}, getI (putI it L) m = if m = it.node then some it else getI L m
  | [] => by
    by_cases h : m = it.node
    · simp [putI, getI, h]
    · have h' : ¬ it.node = m := fun e => h e.symm
      simp [putI, getI, h, h']
  | y :: L => by
    have ih := getI_put (it := it) (m := m) (L := L)
    by_cases h1 : ltS it.node y.node = true
    · by_cases h : m = it.node
      · simp [putI, h1, getI, h]
      · have h' : ¬ it.node = m := fun e => h e.symm
        simp [putI, h1, getI, h, h']
    · by_cases h2 : y.node = it.node
      · by_cases h : m = it.node
        · simp [putI, h1, h2, getI, h, ltS_irrefl]
        · have h' : ¬ it.node = m := fun e => h e.symm
          simp [putI, h1, h2, getI, h, h', ltS_irrefl]
      · simp only [putI, h1, h2, if_false, Bool.false_eq_true]
        by_cases h3 : y.node = m
        · have h : ¬ m = it.node := fun e => h2 (h3.trans e)
          simp [getI, h3, h]
        · unfold getI at ih ⊢
          simp only [List.find?_cons, h3, decide_false]
          exact ih
structure Wf (L : List Item) : Prop where
  srt : Srt L
  nonil : ∀ x ∈ L, x.node ≠ nilS
  roots : ∀ x ∈ L, ∃ k, Roots L x.node k
  dirs : ∀ x ∈ L, x.parent = nilS ∨ ∃ y ∈ L, y.node = x.parent ∧ y.dir = true
  empt : ∀ x ∈ L, x.dir = true → x.data = []
theorem Wf.nil : Wf [] := ⟨by simp [Srt], by simp, by simp, by simp, by simp⟩
theorem Wf.nope {L : List Item} (h : Wf L) : getI L nilS = none := getI_none.2 h.nonil
theorem mem_put {it x : Item} {L : List Item} (hs : Srt L) (h : x ∈ putI it L) : x = it ∨ x ∈ L ∧ x.node ≠ it.node := by
  have hg := getI_mem hs.putI h
  rw [getI_put] at hg
  by_cases e : x.node = it.node
  · rw [if_pos e] at hg; injection hg with hg; exact .inl hg.symm
  · rw [if_neg e] at hg; exact .inr ⟨(getI_some hg).1, e⟩
theorem put_mem {it x : Item} {L : List Item} (hs : Srt L) (h : x ∈ L) (e : x.node ≠ it.node) : x ∈ putI it L := by
  have hg := getI_put (it := it) (m := x.node) (L := L)
  rw [if_neg e, getI_mem hs h] at hg
  exact (getI_some hg).1
theorem put_self {it : Item} {L : List Item} : it ∈ putI it L := by
  have hg := getI_put (it := it) (m := it.node) (L := L)
  rw [if_pos rfl] at hg
  exact (getI_some hg).1
theorem Wf.up {L : List Item} (h : Wf L) {p : Stamp} (hp : p = nilS ∨ ∃ y ∈ L, y.node = p ∧ y.dir = true) : ∃ k, Roots L p k := by
  rcases hp with rfl | ⟨y, hy, rfl, _⟩
  · exact ⟨0, .root⟩
  · exact h.roots y hy
theorem Wf.put {L : List Item} {it : Item} (h : Wf L) (hl : L.length ≤ 300) (hn : it.node ≠ nilS) (hp : it.parent = nilS ∨ ∃ y ∈ L, y.node = it.parent ∧ y.dir = true) (hd : ∀ old, getI L it.node = some old → old.dir = it.dir) (he : it.dir = true → it.data = [])
    (ha : (∃ old, getI L it.node = some old ∧ old.parent = it.parent) ∨ withinI L it.node 301 it.parent = false) : Wf (putI it L) := by
  have hdir : ∀ p, (p = nilS ∨ ∃ y ∈ L, y.node = p ∧ y.dir = true) → p = nilS ∨ ∃ y ∈ putI it L, y.node = p ∧ y.dir = true := by
    rintro p (e | ⟨y, hy, e1, e2⟩)
    · exact .inl e
    · by_cases e : y.node = it.node
      · refine .inr ⟨it, put_self, by rw [← e, e1], ?_⟩
        rw [← hd y (by rw [← e]; exact getI_mem h.srt hy)]; exact e2
      · exact .inr ⟨y, put_mem h.srt hy e, e1, e2⟩
  refine ⟨h.srt.putI, fun x hx => ?_, fun x hx => ?_, fun x hx => ?_, fun x hx => ?_⟩
  · rcases mem_put h.srt hx with rfl | ⟨hx, _⟩
    · exact hn
    · exact h.nonil x hx
  · have key : ∀ m k, Roots L m k → ∃ k', Roots (putI it L) m k' := by
      rcases ha with ⟨old, ho, hop⟩ | hw
      · intro m k hr
        refine ⟨k, ?_⟩
        induction hr with
        | root => exact .root
        | @step m x k h1 h2 h3 ih =>
          by_cases e : m = it.node
          · refine .step (x := it) h1 (by rw [getI_put, if_pos e]) ?_
            rw [e, ho] at h2; injection h2 with h2
            rw [← hop, h2]; exact ih
          · exact .step h1 (by rw [getI_put, if_neg e]; exact h2) ih
      · obtain ⟨kp, hkp⟩ := h.up hp
        have c1 : ∀ m k f, Roots L m k → k < f → withinI L it.node f m = false → Roots (putI it L) m k := by
          intro m k f hr
          induction hr generalizing f with
          | root => intro _ _; exact .root
          | @step m x k h1 h2 h3 ih =>
            intro hf hwf
            obtain ⟨f, rfl⟩ : ∃ g, f = g + 1 := ⟨f - 1, by omega⟩
            simp only [withinI] at hwf
            by_cases e : m = it.node
            · rw [if_pos e] at hwf; cases hwf
            · rw [if_neg e, h2] at hwf
              exact .step h1 (by rw [getI_put, if_neg e]; exact h2) (ih f (by omega) hwf)
        have hR : Roots (putI it L) it.node (kp + 1) := .step (x := it) hn (by rw [getI_put, if_pos rfl]) (c1 _ _ 301 hkp (by have := hkp.le; omega) hw)
        intro m k hr
        induction hr with
        | root => exact ⟨0, .root⟩
        | @step m x k h1 h2 h3 ih =>
          by_cases e : m = it.node
          · exact ⟨_, e ▸ hR⟩
          · obtain ⟨k', ih⟩ := ih
            exact ⟨k' + 1, .step h1 (by rw [getI_put, if_neg e]; exact h2) ih⟩
    rcases mem_put h.srt hx with rfl | ⟨hx, _⟩
    · rcases ha with ⟨old, ho, _⟩ | hw
      · obtain ⟨g1, g2⟩ := getI_some ho
        obtain ⟨k, hk⟩ := h.roots old g1
        rw [g2] at hk
        exact key _ k hk
      · obtain ⟨kp, hkp⟩ := h.up hp
        obtain ⟨k', hk'⟩ := key _ _ hkp
        exact ⟨k' + 1, .step (x := x) hn (by rw [getI_put, if_pos rfl]) hk'⟩
    · obtain ⟨k, hk⟩ := h.roots x hx
      exact key _ k hk
  · rcases mem_put h.srt hx with rfl | ⟨hx, _⟩
    · exact hdir _ hp
    · exact hdir _ (h.dirs x hx)
  · rcases mem_put h.srt hx with rfl | ⟨hx, _⟩
    · exact he
    · exact h.empt x hx
theorem doI_len {L : List Item} {o : OpD} (hs : Srt L) (hl : L.length ≤ 300) : (doI L o).2.length ≤ 300 := by
  unfold doI
  split
  · exact hl
  · split
    · exact hl
    · rename_i h1 h2
      show (if (nowI L (gotI L o.node) o).2 = true then putI (nowI L (gotI L o.node) o).1 L else L).length ≤ 300
      split
      · rename_i h3
        by_cases hh : hasI L o.node = true
        · exact putI_len_has hs (by rw [nowI_node h3]; exact hh) hl
        · refine putI_len_new (Nat.lt_of_not_le fun h4 => h2 ⟨h3, by simpa using hh, h4⟩)
      · exact hl
theorem dirI_up {L : List Item} {p : Stamp} (h : dirI L p = true) : p = nilS ∨ ∃ y ∈ L, y.node = p ∧ y.dir = true := by
  unfold dirI at h
  rw [Bool.or_eq_true] at h
  rcases h with h | h
  · exact .inl (of_decide_eq_true h)
  · unfold gotI at h
    cases hg : getI L p with
    | none => rw [hg] at h; cases h
    | some y =>
      rw [hg] at h
      obtain ⟨g1, g2⟩ := getI_some hg
      exact .inr ⟨y, g1, g2, h⟩
theorem got_some {L : List Item} {n : Stamp} (hn : n ≠ nilS) (h : (gotI L n).node = n) : getI L n = some (gotI L n) := by
  unfold gotI at h ⊢
  cases hg : getI L n with
  | none => rw [hg] at h; exact absurd h.symm hn
  | some y => rfl
theorem Wf.doI {L : List Item} (h : Wf L) (hl : L.length ≤ 300) (o : OpD) : Wf (doI L o).2 := by
  unfold Go.Proofs.YtefhfoioeoijlaaGreatDoor.doI
  split
  · exact h
  · split
    · exact h
    · rename_i h1 h2
      show Wf (if (nowI L (gotI L o.node) o).2 = true then putI (nowI L (gotI L o.node) o).1 L else L)
      split
      · rename_i h3
        have hr : rightB o = true := by simpa using h1
        have hn : o.node ≠ nilS := by
          have h5 : stR o.node = true := by unfold rightB at hr; simp only [Bool.and_eq_true] at hr; exact hr.2.1
          intro e; rw [e] at h5; cases h5
        have hnode := nowI_node h3
        have same : (gotI L o.node).node = o.node → (gotI L o.node) ∈ L := fun e => (getI_some (got_some hn e)).1
        unfold nowI at h3 hnode ⊢
        by_cases k1 : o.kind = 1
        · rw [if_pos k1] at h3 hnode ⊢
          simp only [Bool.and_eq_true, Bool.not_eq_true', decide_eq_false_iff_not] at h3
          have hg : getI L o.node = none := by
            cases hg : getI L o.node with
            | none => rfl
            | some y => have : gotI L o.node = y := by simp [gotI, hg]
                        rw [this] at h3; exact absurd (getI_some hg).2 h3.1
          refine h.put hl hn (dirI_up h3.2) (fun old ho => by rw [hg] at ho; cases ho) (fun _ => rfl) (.inr ?_)
          cases hw : withinI L o.node 301 o.parent with
          | false => rfl
          | true =>
            obtain ⟨kp, hkp⟩ := h.up (dirI_up h3.2)
            obtain ⟨j, _, hR⟩ := within_roots h.nope hw hkp
            obtain ⟨z, hz⟩ := hR.at_ hn
            rw [hg] at hz; cases hz
        · rw [if_neg k1] at h3 hnode ⊢
          by_cases k2 : o.kind = 2
          · rw [if_pos k2] at h3 hnode ⊢
            simp only [Bool.and_eq_true, Bool.not_eq_true', decide_eq_true_eq] at h3
            have hx := same h3.1
            have hg := got_some hn h3.1
            refine h.put hl (by rw [hnode]; exact hn) (dirI_up h3.2.1) (fun old ho => ?_) (fun e => h.empt (gotI L o.node) hx e) (.inr ?_)
            · rw [hnode, hg] at ho; injection ho with ho; rw [← ho]
            · rw [hnode]; exact h3.2.2
          · rw [if_neg k2] at h3 hnode ⊢
            by_cases k3 : o.kind = 3
            · rw [if_pos k3] at h3 hnode ⊢
              have e3 : (gotI L o.node).node = o.node := of_decide_eq_true h3
              have hx := same e3
              have hg := got_some hn e3
              refine h.put hl (by rw [hnode]; exact hn) (h.dirs (gotI L o.node) hx) (fun old ho => ?_) (fun e => h.empt (gotI L o.node) hx e) (.inl ⟨gotI L o.node, by show getI L (gotI L o.node).node = _; rw [e3]; exact hg, rfl⟩)
              rw [hnode, hg] at ho; injection ho with ho; rw [← ho]
            · rw [if_neg k3] at h3 hnode ⊢
              simp only [Bool.and_eq_true, Bool.not_eq_true', decide_eq_true_eq] at h3
              have hx := same h3.1
              have hg := got_some hn h3.1
              refine h.put hl (by rw [hnode]; exact hn) (h.dirs (gotI L o.node) hx) (fun old ho => ?_) (fun e => ?_) (.inl ⟨gotI L o.node, by show getI L (gotI L o.node).node = _; rw [h3.1]; exact hg, rfl⟩)
              · rw [hnode, hg] at ho; injection ho with ho; rw [← ho]
              · rw [show (gotI L o.node).dir = true from e] at h3; cases h3.2
      · exact h
end Go.Proofs.YtefhfoioeoijlaaGreatDoor
namespace Go.Proofs.YtefhfoioeoijlaaGreatDoor
open Go Go.RowKit Go.Sort
section
variable {P : Program} {d : Option Tmp} {ty : TypeId} {pos : String} {af : Array Edge} {g : Option (Nat × Bool)} {ρ : Operand → Value} {w w' : World}
theorem r_mapUpdate {t : TypeId} {m k v : Operand} {mv kv vv : Value} (hm : ρ m = mv) (hk : ρ k = kv) (hv : ρ v = vv) (h : (Instr.mapUpdate t mv kv vv).run P w = .ok () w') : (execOp ρ ⟨d, .mapUpdate t m k v, ty, pos, af, g⟩).run P w = .ok .skip w' := by
  simp [execOp, hm, hk, hv, h]
end
end Go.Proofs.YtefhfoioeoijlaaGreatDoor
namespace Go.Proofs.YtefhfoioeoijlaaGreatDoor
open Go Go.RowKit Go.Sort
def SubO (B : Nat) (w : World) (v : Value) (L : List OpD) : Prop :=
  ∃ A c, v = .slice A L.length c ∧ (L ≠ [] → ∃ b o ds, A = some ⟨b, o, none⟩ ∧ b < w.heap.size ∧ Pair (fun x d => Dat B w d x.data) L ds ∧ ∀ (j : Nat) (u : Value), (flatO L ds)[j]? = some u → w.cell? ⟨b, o + j, none⟩ = some u)
theorem OpRow.sub {B : Nat} {w : World} {A : Option Addr} {c : Nat} {os : List OpD} (h : OpRow B w A os) : SubO B w (.slice A os.length c) os := by
  refine ⟨A, c, rfl, fun hL => ?_⟩
  obtain ⟨o0, os', rfl⟩ := List.exists_cons_of_ne_nil hL
  obtain ⟨g, f, oA, on, oc, hA, hg, hc, hD, _⟩ := h 0 o0 rfl
  have key : ∀ (l : List OpD) (k : Nat), (∀ i o, l[i]? = some o → (o0 :: os')[k + i]? = some o) → ∃ ds, Pair (fun x d => Dat B w d x.data) l ds ∧ ∀ (j : Nat) (u : Value), (flatO l ds)[j]? = some u → w.cell? ⟨g, f + k * 10 + j, none⟩ = some u := by
    intro l
    induction l with
    | nil => intro k _; exact ⟨[], trivial, fun j u hj => by simp [flatO] at hj⟩
    | cons x l ih =>
      intro k hk
      obtain ⟨ds, hp, hds⟩ := ih (k + 1) (fun i o ho => by rw [show k + 1 + i = k + (i + 1) by omega]; exact hk (i + 1) o ho)
      obtain ⟨g2, f2, oA2, on2, oc2, hA2, _, hc2, hD2, _⟩ := h k x (hk 0 x rfl)
      rw [hA] at hA2; injection hA2 with hA2; injection hA2 with e1 e2 _; subst e1; subst e2
      refine ⟨.slice oA2 on2 oc2 :: ds, ⟨hD2, hp⟩, fun j u hj => ?_⟩
      simp only [flatO] at hj
      by_cases hj10 : j < 10
      · rw [List.getElem?_append_left (by simpa [opC] using hj10)] at hj
        exact hc2 j u hj
      · rw [List.getElem?_append_right (by simp [opC]; omega)] at hj
        have := hds _ u hj
        rw [show f + (k + 1) * 10 + (j - (opC x (.slice oA2 on2 oc2)).length) = f + k * 10 + j by simp [opC]; omega] at this
        exact this
  obtain ⟨ds, hp, hds⟩ := key (o0 :: os') 0 (fun i o ho => by rw [Nat.zero_add]; exact ho)
  exact ⟨g, f, ds, hA, hg, hp, fun j u hj => by have := hds j u hj; simpa using this⟩
theorem opC_one {x : OpD} {d u : Value} (hd : d.oneCell' = true) (hu : u ∈ opC x d) : u.oneCell' = true := by
  simp only [opC, List.mem_cons, List.not_mem_nil, or_false] at hu
  rcases hu with rfl | rfl | rfl | rfl | rfl | rfl | rfl | rfl | rfl | rfl <;> first | rfl | exact hd
theorem flatO_one {B : Nat} {w : World} : ∀ {L : List OpD} {ds : List Value}, Pair (fun x d => Dat B w d x.data) L ds → ∀ u ∈ flatO L ds, u.oneCell' = true
  | [], [], _, u, hu => by simp [flatO] at hu
  | [], _ :: _, h, _, _ => h.elim
  | _ :: _, [], h, _, _ => h.elim
  | x :: L, d :: ds, h, u, hu => by
    simp only [flatO] at hu
    rcases List.mem_append.1 hu with hu | hu
    · obtain ⟨A, n, c, rfl⟩ := h.1.form
      exact opC_one rfl hu
    · exact flatO_one h.2 u hu
end Go.Proofs.YtefhfoioeoijlaaGreatDoor
namespace Go.Proofs.YtefhfoioeoijlaaGreatDoor
open Go Go.RowKit Go.Sort
theorem ORow.ops {T : TypeId} {B base : Nat} {w : World} {A : Option Addr} {n c : Nat} {L : List OpD} (h : ORow T B base w (.slice A n c) L) (hn : ∀ o ∈ L, o.name.size ≤ 9223372036854775807) : OpRow B w A L := by
  intro i o ho
  obtain ⟨g, cap, cur, dA, dn, dc, e, _, hg, he, hD⟩ := h.get ho
  injection e with e1 _ _
  refine ⟨g, 0, dA, dn, dc, e1, lt_ob hg, fun j v hj => ?_, hD, hn o (List.mem_of_getElem? ho)⟩
  have := el_get he j hj
  rw [Array.getElem?_toList] at this
  simp only [World.cell?, hg, Nat.zero_add]; simpa using this
end Go.Proofs.YtefhfoioeoijlaaGreatDoor

/- Arg, GN, StpR, Plain, Nm -/
import Derived.Below
import Derived.ChangeOld
import Derived.ChangeSame
import Derived.Deep.Fields
import Derived.Deep.Slices
import Derived.Laws.Externs
import Derived.Lib.AppendZerosOnto
import Derived.Lib.ItoaLen
import Derived.Lib.Overlaps
import Derived.OpenShut
import Derived.ProofKit
import Derived.ShutString
import Derived.WalkKit
import Derived.WideShapes
import Derived.Test.YtefhfoioeoijlaaGreatDoorVab
import Derived.Test.YtefhfoioeoijlaaGreatDoorVae
import Derived.Test.YtefhfoioeoijlaaGreatDoorVaf
import Derived.Test.YtefhfoioeoijlaaGreatDoorVag
import Derived.Test.YtefhfoioeoijlaaGreatDoorVah
import Derived.Test.YtefhfoioeoijlaaGreatDoorVaj
import Derived.Test.YtefhfoioeoijlaaGreatDoorVak
set_option linter.unusedVariables false
set_option linter.unusedSimpArgs false
namespace Go.Proofs.YtefhfoioeoijlaaGreatDoor
open Go Go.RowKit Go.Sort Go.Shelf
theorem putI_len_has {it : Item} {L : List Item} (hs : Srt L) (h : hasI L it.node = true) (hL : L.length ≤ 300) : (putI it L).length ≤ 300 := by rw [putI_length_old hs h]; exact hL
theorem putI_len_new {it : Item} {L : List Item} (hL : L.length < 300) : (putI it L).length ≤ 300 := by have := putI_length (it := it) (L := L); omega
def OpRow (B : Nat) (w : World) (A : Option Addr) (os : List OpD) : Prop :=
  ∀ (i : Nat) (o : OpD), os[i]? = some o → ∃ g f oA on oc, A = some ⟨g, f, none⟩ ∧ g < w.heap.size ∧ (∀ (j : Nat) (v : Value), (opC o (.slice oA on oc))[j]? = some v → w.cell? ⟨g, f + i * 10 + j, none⟩ = some v) ∧ Dat B w (.slice oA on oc) o.data ∧ o.name.size ≤ 9223372036854775807
theorem OpRow.up {B : Nat} {w w' : World} {A : Option Addr} {os : List OpD} (h : OpRow B w A os) (u : Up w w') : OpRow B w' A os := fun i o ho => by
  obtain ⟨g, f, oA, on, oc, hA, hg, hc, hD, hs⟩ := h i o ho
  exact ⟨g, f, oA, on, oc, hA, Nat.lt_of_lt_of_le hg u.size, fun j v hj => (u.cell (p := ⟨g, f + i * 10 + j, none⟩) hg).trans (hc j v hj), hD.up u, hs⟩
section
variable {P : Program} {d : Option Tmp} {ty : TypeId} {pos : String} {af : Array Edge} {g : Option (Nat × Bool)} {ρ : Operand → Value} {w : World}
theorem r_loadcN {t : TypeId} {x : Operand} {b k : Nat} {vs : List Value} (hx : ρ x = .pointer (some ⟨b, k, none⟩)) (ht : ∀ w, (isAgg t).run P w = .ok true w) (hs : ∀ w, (sizeOf t).run P w = .ok vs.length w)
    (h : ∀ j v, vs[j]? = some v → w.cell? ⟨b, k + j, none⟩ = some v) : (execOp ρ ⟨d, .load t x, ty, pos, af, g⟩).run P w = .ok (.value (.agg vs.toArray)) w := by
  have := run_loadCells_list (P := P) w ⟨b, k, none⟩ vs (fun j v hj => by rw [add_at]; exact h j v hj)
  simp [execOp, hx, Instr.loadAt, Instr.sureAddr, loadVar, ht, hs, this]
end
theorem row_sl {P : Program} {f : FuncId} {args : Array Value} {w : World} {T : TypeId} {B base : Nat} {L : List Item} (h : Calls P f args w fun e w' => ∃ v, e = .returned v ∧ IRow T B base w' v L ∧ Up w w') :
    Calls P f args w fun e w' => ∃ A c, e = .returned (.slice A L.length c) ∧ IRow T B base w' (.slice A L.length c) L ∧ Up w w' := by
  refine h.mono ?_
  rintro e w' ⟨v, rfl, hr, u⟩
  obtain ⟨A, c, rfl⟩ := hr.form
  exact ⟨A, c, rfl, hr, u⟩
theorem NotU8.map {w : World} {r : Nat} {es : Array MapEntry} {cl : Nat} (h : w.heap[r]? = some (.map es cl)) : NotU8 w r := fun cs fr e => by rw [h] at e; cases e
theorem do_x {B : Nat} {w : World} {tb r : Nat} {L L' : List Item} (h : TreeIs B w tb r L) (hB : B ≤ w.heap.size) (o : OpD) (oA : Option Addr) (on oc : Nat) (hDo : Dat B w (.slice oA on oc) o.data) (hs : o.name.size ≤ 9223372036854775807) (hL : (doI L o).2 = L') :
    Calls Tryz.prog 22 #[trP tb, opV o (.slice oA on oc)] w fun e w' => ∃ A n c, e = .returned (.tuple #[itV (doI L o).1.1 (.slice A n c), .bool (doI L o).1.2.1, .int .i64 (doI L o).1.2.2]) ∧ Dat B w' (.slice A n c) (doI L o).1.1.data ∧ TreeIs B w' tb r L' ∧ Chg w w' r := by
  refine (do_at h hB o oA on oc hDo hs).mono ?_
  rintro e w' ⟨d, rfl, hD, hT, hC⟩
  obtain ⟨A, n, c, rfl⟩ := hD.form
  rw [hL] at hT
  exact ⟨A, n, c, rfl, hD, hT, hC⟩
theorem get_x {B : Nat} {w : World} {tb r : Nat} {L : List Item} (h : TreeIs B w tb r L) (n : Stamp) {x : Item} {b : Bool} (hx : gotI L n = x) (hb : hasI L n = b) : Calls Tryz.prog 20 #[trP tb, stV n] w fun e w' =>
    ∃ A k c, e = .returned (.tuple #[itV x (.slice A k c), .bool b]) ∧ Dat B w' (.slice A k c) x.data ∧ Up w w' := by
  refine (tget_any h n).mono ?_
  rintro e w' ⟨d, rfl, hD, u⟩
  obtain ⟨A, k, c, rfl⟩ := hD.form
  rw [hx] at hD
  rw [hx, hb]
  exact ⟨A, k, c, rfl, hD, u⟩
end Go.Proofs.YtefhfoioeoijlaaGreatDoor
namespace Go.Proofs.YtefhfoioeoijlaaGreatDoor
open Go Go.RowKit Go.ChangeShapes Go.WideShapes Go.ChangeAt Go.Deep
def OpRow0 (w : World) (A : Option Addr) (os : List OpD) : Prop :=
  ∀ (i : Nat) (o : OpD), os[i]? = some o → ∃ g f oA on oc, A = some ⟨g, f, none⟩ ∧ g < w.heap.size ∧ (∀ (j : Nat) (v : Value), (opC o (.slice oA on oc))[j]? = some v → w.cell? ⟨g, f + i * 10 + j, none⟩ = some v) ∧ o.data.length = on ∧ o.name.size ≤ 9223372036854775807
theorem OpRow0.up {w w' : World} {A : Option Addr} {os : List OpD} (h : OpRow0 w A os) (u : Up w w') : OpRow0 w' A os := fun i o ho => by
  obtain ⟨g, f, oA, on, oc, hA, hg, hc, hD, hs⟩ := h i o ho
  exact ⟨g, f, oA, on, oc, hA, Nat.lt_of_lt_of_le hg u.size, fun j v hj => (u.cell (p := ⟨g, f + i * 10 + j, none⟩) hg).trans (hc j v hj), hD, hs⟩
def Small (os : List OpD) : Prop := ∀ (i : Nat) (o : OpD), os[i]? = some o → o.data.length ≤ 500
theorem light_next {os : List OpD} {k on : Nat} {o : OpD} (h : Hid (∀ (i : Nat) (o : OpD), i < k → os[i]? = some o → o.data.length ≤ 500)) (ho : os[k]? = some o) (hD : o.data.length = on) (p : ¬ ((on : Int) > 500)) : Hid (∀ (i : Nat) (o : OpD), i < k + 1 → os[i]? = some o → o.data.length ≤ 500) := fun i x hi hx => by
  rcases Nat.lt_or_ge i k with h1 | h1
  · exact h.out i x h1 hx
  · obtain rfl : i = k := by omega
    rw [ho] at hx; injection hx with hx; subst hx
    omega
theorem light_end {os : List OpD} {k : Nat} (h : Hid (∀ (i : Nat) (o : OpD), i < k → os[i]? = some o → o.data.length ≤ 500)) (hk : os.length ≤ k) : Small os := fun i o ho => h.out i o (by have := (List.getElem?_eq_some_iff.1 ho).1; omega) ho
section
variable {H : Type} {enc : TypeId × Value → H}
theorem spot_none {w : World} {a : Addr} {v : Value} (h : w.cell? a = some v) : a = ⟨a.block, a.off, none⟩ ∧ a.block < w.heap.size := by
  obtain ⟨b, o, s⟩ := a
  refine ⟨?_, World.block_lt_of_cell? w _ h⟩
  cases s with
  | none => rfl
  | some s => unfold World.cell? at h; simp at h; split at h <;> simp at h
theorem open_data {W : World} {sp : Nat → Bool} {held : Bool} {n : Nat} {v : Value} {y : DataW H × List MemPlace} (h : DataW.trod enc Tryz.prog W 0 sp held n 40 [v] = some y) :
    ∃ oA on oc xs, v = .slice oA on oc ∧ xs.length = on ∧ (on ≤ 500 → Dat W.heap.size W (.slice oA on oc) xs) := by
  rcases open_ints Tryz.underlying40 Tryz.underlying5 (by kernel_rfl) h with ⟨hc, _⟩ | ⟨a, len, cap, zs, hc, _, hl, hm, hz, _, hcell, hwf⟩
  · injection hc with hc _
    exact ⟨none, 0, 0, [], hc, rfl, fun _ => Dat.nil _ _⟩
  · injection hc with hc _
    have hlz : len ≤ zs.length := by rw [hz]; split <;> omega
    have htl : (zs.take len).length = len := by rw [List.length_take]; omega
    refine ⟨some a, len, cap, zs.take len, hc, htl, fun h5 => ?_⟩
    refine ⟨some a, len, cap, rfl, htl, hl, by omega, fun x hx => ?_, fun h0 => ?_⟩
    · have := hwf x (List.mem_of_mem_take hx)
      have := bounds_u8 this
      omega
    · have h1 := hcell 0 (by omega)
      rw [show a.add 0 = a from rfl] at h1
      obtain ⟨ha, hb⟩ := spot_none h1
      refine ⟨a.block, a.off, by rw [← ha], hb, .inl hb, fun i hi => ?_⟩
      have := hcell i (by omega)
      rw [ha, add_at] at this
      rw [this]
      congr 2
      simp [List.getD_eq_getElem?_getD, List.getElem?_take, hi]
set_option maxRecDepth 20000 in
theorem open_op {W : World} {sp : Nat → Bool} {held : Bool} {n : Nat} {cs : List Value} {x : DataW H × List MemPlace} (h : DataW.trod enc Tryz.prog W 0 sp held n 49 cs = some x) :
    ∃ (o : OpD) (oA : Option Addr) (on oc : Nat), cs = opC o (.slice oA on oc) ∧ o.data.length = on ∧ o.name.size ≤ 9223372036854775807 ∧ (on ≤ 500 → Dat W.heap.size W (.slice oA on oc) o.data) := by
  obtain ⟨xs, k, _, _, hlen, hxs, hf⟩ := DataW.trod_struct Tryz.underlying49 h
  rw [show Tryz.prog.cellsOf 49 = 10 from by kernel_rfl] at hlen
  match cs, hlen with
  | [v0, v1, v2, v3, v4, v5, v6, v7, v8, v9], _ =>
    simp only [List.size_toArray, List.length_cons, List.length_nil, Nat.reduceAdd] at hxs
    match xs, hxs with
    | [y0, y1, y2, y3, y4, y5, y6], _ =>
      have c2 : Tryz.prog.cellsOf 2 = 1 := by kernel_rfl
      have c3 : Tryz.prog.cellsOf 3 = 1 := by kernel_rfl
      have c4 : Tryz.prog.cellsOf 4 = 1 := by kernel_rfl
      have c9 : Tryz.prog.cellsOf 9 = 1 := by kernel_rfl
      have c24 : Tryz.prog.cellsOf 24 = 2 := by kernel_rfl
      have c33 : Tryz.prog.cellsOf 40 = 1 := by kernel_rfl
      have t0 : DataW.trod enc Tryz.prog W 0 sp held k 3 [v0] = some y0 := by
        have q : DataW.trod enc Tryz.prog W 0 sp held k 3 (([v0, v1, v2, v3, v4, v5, v6, v7, v8, v9].drop 0).take (Tryz.prog.cellsOf 3)) = some y0 := hf 0 _ rfl
        rw [c3] at q; exact q
      have t1 : DataW.trod enc Tryz.prog W 0 sp held k 24 [v1, v2] = some y1 := by
        have q : DataW.trod enc Tryz.prog W 0 sp held k 24 (([v0, v1, v2, v3, v4, v5, v6, v7, v8, v9].drop 1).take (Tryz.prog.cellsOf 24)) = some y1 := hf 1 _ rfl
        rw [c24] at q; exact q
      have t2 : DataW.trod enc Tryz.prog W 0 sp held k 24 [v3, v4] = some y2 := by
        have q : DataW.trod enc Tryz.prog W 0 sp held k 24 (([v0, v1, v2, v3, v4, v5, v6, v7, v8, v9].drop 3).take (Tryz.prog.cellsOf 24)) = some y2 := hf 2 _ rfl
        rw [c24] at q; exact q
      have t3 : DataW.trod enc Tryz.prog W 0 sp held k 24 [v5, v6] = some y3 := by
        have q : DataW.trod enc Tryz.prog W 0 sp held k 24 (([v0, v1, v2, v3, v4, v5, v6, v7, v8, v9].drop 5).take (Tryz.prog.cellsOf 24)) = some y3 := hf 3 _ rfl
        rw [c24] at q; exact q
      have t4 : DataW.trod enc Tryz.prog W 0 sp held k 4 [v7] = some y4 := by
        have q : DataW.trod enc Tryz.prog W 0 sp held k 4 (([v0, v1, v2, v3, v4, v5, v6, v7, v8, v9].drop 7).take (Tryz.prog.cellsOf 4)) = some y4 := hf 4 _ rfl
        rw [c4] at q; exact q
      have t5 : DataW.trod enc Tryz.prog W 0 sp held k 9 [v8] = some y5 := by
        have q : DataW.trod enc Tryz.prog W 0 sp held k 9 (([v0, v1, v2, v3, v4, v5, v6, v7, v8, v9].drop 8).take (Tryz.prog.cellsOf 9)) = some y5 := hf 5 _ rfl
        rw [c9] at q; exact q
      have t6 : DataW.trod enc Tryz.prog W 0 sp held k 40 [v9] = some y6 := by
        have q : DataW.trod enc Tryz.prog W 0 sp held k 40 (([v0, v1, v2, v3, v4, v5, v6, v7, v8, v9].drop 9).take (Tryz.prog.cellsOf 40)) = some y6 := hf 6 _ rfl
        rw [c33] at q; exact q
      have st : ∀ {u v : Value} {y : DataW H × List MemPlace}, DataW.trod enc Tryz.prog W 0 sp held k 24 [u, v] = some y → ∃ a b, u = .int .i64 a ∧ v = .int .i64 b := fun {u v y} hy => by
        obtain ⟨z0, z1, m, _, _, q0, q1⟩ := trod_struct2 Tryz.underlying24 hy
        simp only [c2, c3, List.drop, List.take] at q0 q1
        obtain ⟨a, ha, _⟩ := DataW.trod_int Tryz.underlying2 q0
        obtain ⟨b, hb, _⟩ := DataW.trod_int Tryz.underlying3 q1
        injection ha with ha _
        injection hb with hb _
        exact ⟨a, b, ha, hb⟩
      obtain ⟨kd, e0, _⟩ := DataW.trod_int Tryz.underlying3 t0
      obtain ⟨a1, b1, rfl, rfl⟩ := st t1
      obtain ⟨a2, b2, rfl, rfl⟩ := st t2
      obtain ⟨a3, b3, rfl, rfl⟩ := st t3
      obtain ⟨dr, e4, _⟩ := DataW.trod_bool Tryz.underlying4 t4
      obtain ⟨nm, e5, _, hnm⟩ := DataW.trod_string Tryz.underlying9 t5
      obtain ⟨oA, on, oc, zs, e6, hz, hD⟩ := open_data t6
      injection e0 with e0 _
      injection e4 with e4 _
      injection e5 with e5 _
      subst e0 e4 e5 e6
      exact ⟨⟨kd, ⟨a1, b1⟩, ⟨a2, b2⟩, ⟨a3, b3⟩, dr, nm, zs⟩, oA, on, oc, rfl, hz, by unfold maxLen at hnm; simpa using hnm, hD⟩
theorem open_ops {W : World} {sp : Nat → Bool} {held : Bool} {n : Nat} {cs : List Value} {x : DataW H × List MemPlace} (h : DataW.trod enc Tryz.prog W 0 sp held n 22 cs = some x) :
    ∃ (A : Option Addr) (os : List OpD) (c : Nat), cs = [.slice A os.length c] ∧ os.length ≤ 9223372036854775807 ∧ OpRow0 W A os ∧ (Small os → OpRow W.heap.size W A os) := by
  rcases open_slice Tryz.underlying22 h with ⟨hc, _⟩ | ⟨a, len, cap, m, k, D, Pl, hc, _, hl, hm, hmm, _, hx⟩
  · exact ⟨none, [], 0, hc, by simp, fun i o ho => by simp at ho, fun _ i o ho => by simp at ho⟩
  · have hlm : len ≤ m := by rw [hmm]; split <;> omega
    have c40 : Tryz.prog.cellsOf 49 = 10 := by kernel_rfl
    have each : ∀ i, ∃ o : OpD, i < len → ∃ oA on oc, a = ⟨a.block, a.off, none⟩ ∧ a.block < W.heap.size ∧ (∀ (j : Nat) (v : Value), (opC o (.slice oA on oc))[j]? = some v → W.cell? ⟨a.block, a.off + i * 10 + j, none⟩ = some v) ∧ o.data.length = on ∧ o.name.size ≤ 9223372036854775807 ∧ (on ≤ 500 → Dat W.heap.size W (.slice oA on oc) o.data) := by
      intro i
      by_cases hi : i < len
      · obtain ⟨cs', h1, h2⟩ := hx i (by omega)
        rw [c40] at h1
        obtain ⟨o, oA, on, oc, rfl, hd, hs, hD⟩ := open_op h2
        obtain ⟨_, _, hcell⟩ := World.cells?_some h1
        have ha : a = ⟨a.block, a.off, none⟩ ∧ a.block < W.heap.size := by
          obtain ⟨cs0, g1, g2⟩ := hx 0 (by omega)
          obtain ⟨_, g3, g4⟩ := World.cells?_some g1
          have hp : 0 < Tryz.prog.cellsOf 49 := by rw [c40]; decide
          have := g4 0 hp
          rw [Nat.zero_mul, List.getElem?_eq_getElem (by omega)] at this
          exact spot_none (show W.cell? a = _ from this)
        refine ⟨o, fun _ => ⟨oA, on, oc, ha.1, ha.2, fun j v hj => ?_, hd, hs, hD⟩⟩
        have hj10 : j < 10 := (List.getElem?_eq_some_iff.1 hj).1
        have := hcell j hj10
        rw [hj, ha.1, add_at, add_at] at this
        exact this
      · exact ⟨default, fun h => absurd h hi⟩
    refine ⟨some a, (List.range len).map fun i => (each i).choose, cap, by rw [List.length_map, List.length_range]; exact hc, by rw [List.length_map, List.length_range]; exact Nat.le_trans hl (Nat.le_trans hm (Nat.le_of_ble_eq_true rfl)), fun i o ho => ?_, fun hsm i o ho => ?_⟩
    · have hi : i < len := by have := (List.getElem?_eq_some_iff.1 ho).1; simpa using this
      have he : (each i).choose = o := by simpa [List.getElem?_map, List.getElem?_range hi] using ho
      obtain ⟨oA, on, oc, ha, hb, hc', hd, hs, hD⟩ := (each i).choose_spec hi
      rw [he] at hc' hd hs
      exact ⟨a.block, a.off, oA, on, oc, by rw [← ha], hb, hc', hd, hs⟩
    · have hi : i < len := by have := (List.getElem?_eq_some_iff.1 ho).1; simpa using this
      have he : (each i).choose = o := by simpa [List.getElem?_map, List.getElem?_range hi] using ho
      obtain ⟨oA, on, oc, ha, hb, hc', hd, hs, hD⟩ := (each i).choose_spec hi
      rw [he] at hc' hd hs hD
      exact ⟨a.block, a.off, oA, on, oc, by rw [← ha], hb, hc', hD (by have := hsm i o ho; omega), hs⟩
end
end Go.Proofs.YtefhfoioeoijlaaGreatDoor
set_option linter.unusedVariables false
set_option linter.unusedSimpArgs false
namespace Go.Proofs.YtefhfoioeoijlaaGreatDoor
open Go Go.RowKit Go.Sort
theorem tkO {L : List OpD} {k : Nat} {x : OpD} (h : L[k]? = some x) : L.take (k + 1) = L.take k ++ [x] := by rw [List.take_add_one, h]; rfl
set_option maxHeartbeats 2000000 in
theorem opsort_at {B : Nat} {w : World} {lA : Option Addr} {lc : Nat} {os : List OpD} (h : OpRow B w lA os) (hB : B ≤ w.heap.size) (hn : os.length ≤ 1000000) :
    Calls Tryz.prog 56 #[.slice lA os.length lc] w fun e w' => ∃ v, e = .returned v ∧ ORow 49 B w.heap.size w' v (sortO os) ∧ Up w w' := by
  have hBb := hB
  obtain ⟨iO, zO, hiO, hzO, hsO, hbO, hcO⟩ := info_op
  go_enter Tryz.func56, Tryz.ntmps56
  refine wp_seq (rg_lit (was (v := .slice none 0 0) (wnil (then_n (wp_seq (rg_lit (wmv (v := .slice lA os.length lc) (wlv (v := I_ os.length) (ln lA os.length lc Ty.un22) (wl (mkO rfl (B := B) (base := w.heap.size) (m := os.length) (by kernel_rfl) (by kernel_rfl) Ty.un22 hiO hzO hsO hbO (by omega) (Mod.refl [] w).size fun g w1 e2 h3 u4 => ?_))))))))))
  obtain ⟨_, _, _, cgh5, h5, _⟩ := ORow.blk h3
  have g6 := gsz e2 (Mod.refl [] w)
  have M7 := mtu (Mod.refl [] w) u4
  have hBg : B ≤ g := Nat.le_trans hB g6
  refine was (v := sl g 0 0 os.length) (wnil (then_n (wp_seq (wp_seq (rg_lit (wmv (v := .slice lA os.length lc) (wlv (v := I_ os.length) (ln lA os.length lc Ty.un22) (wmv (v := I_ 0) (wnil (then_n (wp_block ?_)))))))))))
  refine lp (fun n a r1 => ∃ (kk : Nat), (n = os.length - kk) ∧ (HasFr a 25 [(0, .slice lA os.length lc), (2, .slice none 0 0), (3, sl g 0 kk os.length), (9, .slice lA os.length lc), (10, I_ os.length), (11, I_ kk)] []) ∧ (Mod [g] w1 r1) ∧ (kk ≤ os.length) ∧ (ORow 49 B w.heap.size r1 (sl g 0 kk os.length) (os.take kk))) ⟨_, 0, rfl, hmk, Mod.refl _ _, (Nat.zero_le _), h3⟩ ?_
  rintro _ _ r1 ⟨kk, rfl, h9, hM1, hF1_0, hF1_1⟩
  obtain ⟨Y30, rfl⟩ := h9
  have M10 := Mod.thin M7 hM1 (fun y hy => by simp only [List.mem_cons, List.not_mem_nil, or_false] at hy; subst hy; exact .inr g6)
  obtain ⟨_, _, _, cg11, hg11, _⟩ := ORow.blk hF1_1
  refine wp_seq (rg_lit (wl (sb rfl (ltI kk os.length) fun b12 k13 => wnil (then_n (wp_seq ?_)))))
  refine bcd k13 (fun v14 p15 => ?_) (fun v14 p15 => ?_)
  ·
   refine wp_cond_false (eb v14) (wp_exit (then_x (by nofun) (then_x (by nofun) (inb_hit (then_n (wp_seq (rg_lit (wmv (v := sl g 0 kk os.length) ?_))))))))
   have ho := ORow.to hF1_1 (show os.take kk = (List.range kk).map (atO os) by rw [List.take_of_length_le (by omega), show kk = os.length by omega]; exact (range_at os).symm)
   refine wl (sca [sl g 0 kk os.length, .func (.func 115) #[] #[]] En.f114 (sortStable_at ho hBb (by omega)) ?_)
   rintro e w16 ⟨D17, rfl, h18, m19, c20⟩
   refine ⟨_, rfl, ?_⟩
   have M21 := mtn M10 c20 g6
   obtain ⟨_, _, _, cg23, hg23, _⟩ := ORow.blk h18
   refine wnil (then_n (wp_seq (rg_lit (wmv (v := sl g 0 kk os.length) (wl (sca [sl g 0 kk os.length, .func (.func 117) #[] #[]] En.f116 (compact_at h18 hBb (by omega)) ?_))))))
   rintro e w24 ⟨m25, D26, rfl, h27, h28, c29⟩
   refine ⟨_, rfl, ?_⟩
   have M30 := mtn M21 c29 g6
   obtain ⟨_, _, _, cg32, hg32, _⟩ := ORow.blk h27
   refine was (v := sl g 0 m25 os.length) (wnil (then_n (wp_ret ?_)))
   refine br1 (v := sl g 0 m25 os.length) rfl ?_
   exact ⟨_, rfl, ORow.to h27 ((Thin.sortO h28 m19).trans (by rw [show kk = os.length by omega, range_at])), (Mod.up M30)⟩
  have q17 : kk < os.length := by omega
  refine wp_cond_true (eb v14) (wp_skip (then_n (wp_seq (wp_block (wp_seq (rg_lit ?_))))))
  have h18 := (OpRow.up h (Mod.up M10))
  obtain ⟨o19, ho19⟩ : ∃ x, os[kk]? = some x := ⟨_, List.getElem?_eq_getElem q17⟩
  obtain ⟨g19, f19, oA19, on19, oc19, hA19, hl19, hc19, hD19, hs19⟩ := h18 kk o19 ho19
  refine wlv (v := pt g19 (f19 + kk * 10)) (ixa os.length lc 10 kk hA19 Ty.un22 Ty.sz49) (wlv (v := opV o19 (.slice oA19 on19 oc19)) (r_loadcN (vs := (opC o19 (.slice oA19 on19 oc19))) (by kernel_rfl) Ty.ag49 Ty.sz49 hc19) (wl (sn rfl (cs := #[I_ 0, I_ 0, I_ 0, I_ 0, I_ 0, I_ 0, I_ 0, B_ false, S_ (⟨#[]⟩), .slice none 0 0]) (T := 49) (V := fun b => pt b 0) (r_alloc Ty.zv49 rfl) fun b20 w21 e22 h23 u24 => ?_)))
  have g26 := gsz e22 M10
  have g27 := gsz e22 hM1
  have M28 := mtu M10 u24
  have M29 := mtu hM1 u24
  refine wl (ss rfl (k := 0) (v := opV o19 (.slice oA19 on19 oc19)) (vs := (opC o19 (.slice oA19 on19 oc19))) (cs' := (opC o19 (.slice oA19 on19 oc19))) (by kernel_rfl) (by kernel_rfl) rfl Ty.sz49 h23 rfl (Nat.le_of_ble_eq_true rfl) rfl fun w30 h31 c32 => ?_)
  have M33 := mtn M28 c32 g26
  have M34 := mtn M29 c32 g27
  refine wnil (then_n (rg_lit (wmv (v := sl g 0 kk os.length) (wlv (v := opV o19 (.slice oA19 on19 oc19)) (lds 0 Ty.ag49 Ty.sz49 h31) ?_))))
  have h35 := (Dat.up hD19 (up_chgn u24 c32 (by rw [e22]; exact Nat.le_refl _)))
  refine wl (sca [opV o19 (.slice oA19 on19 oc19)] En.f113 (opown_at o19 oA19 on19 oc19 (Nat.le_trans hB M33.size) h35) ?_)
  rintro e w36 ⟨A37, n38, c39, rfl, h40, u41⟩
  refine ⟨_, rfl, ?_⟩
  have M43 := mtu M34 u41
  refine wl (sn rfl (cs := (opC o19 (.slice A37 n38 c39)).toArray) (T := 49) (V := fun b => sl b 0 1 1) (r_buildSlice (n := 1) (ps := [(0, opV o19 (.slice A37 n38 c39))]) Ty.un22 Ty.sz49 Ty.zv49 (by decide) (by decide) (by kernel_rfl) (by kernel_rfl)) fun b44 w45 e46 h47 u48 => ?_)
  have M56 := mtu M43 u48
  have h57 := (ORow.up hF1_1 (up_up (up_up (up_chgn u24 c32 (by rw [e22]; exact Nat.le_refl _)) u41) u48))
  have h58 := (Dat.up h40 u48)
  refine wl (fitO rfl (x := o19) (e := .slice A37 n38 c39) (by kernel_rfl) (by kernel_rfl) h57 Ty.un22 hiO hsO h47 h58 (by decide) hBb (by omega) fun w59 h60 c61 => ?_)
  have M64 := mtx M56 c61
  obtain ⟨_, _, _, cg65, hg65, _⟩ := ORow.blk h60
  refine was (v := sl g 0 (kk + 1) os.length) (wnil (inb_n (then_n (rg_lit (wlv (v := I_ ((kk + 1 : Nat) : Int)) (adI (c := ((kk + 1 : Nat) : Int)) kk 1 ((IntWalk.i64_in _ (by omega)).trans (by omega))) (wmv (v := I_ ((kk + 1 : Nat) : Int)) (wnil (then_n ?_))))))))
  refine ⟨os.length - (kk + 1), ?_, (kk + 1), rfl, hmk, M64, (by omega), (ORow.to h60 (tkO ho19).symm)⟩
  · omega
def playI (L : List Item) (o : OpD) : List Item := (doI L o).2
def buildI (os : List OpD) : List Item := (sortO os).foldl playI []
theorem orow_sl {P : Program} {f : FuncId} {args : Array Value} {w : World} {T : TypeId} {B base : Nat} {L : List OpD} (h : Calls P f args w fun e w' => ∃ v, e = .returned v ∧ ORow T B base w' v L ∧ Up w w') :
    Calls P f args w fun e w' => ∃ A c, e = .returned (.slice A L.length c) ∧ ORow T B base w' (.slice A L.length c) L ∧ Up w w' := by
  refine h.mono ?_
  rintro e w' ⟨v, rfl, hr, u⟩
  obtain ⟨A, c, rfl⟩ := hr.form
  exact ⟨A, c, rfl, hr, u⟩
theorem OpRow.names {B : Nat} {w : World} {A : Option Addr} {os : List OpD} (h : OpRow B w A os) : ∀ o ∈ sortO os, o.name.size ≤ 9223372036854775807 := fun o ho => by
  obtain ⟨i, hi⟩ := List.mem_iff_getElem?.1 (sortO_mem ho)
  obtain ⟨_, _, _, _, _, _, _, _, _, hs⟩ := h i o hi
  exact hs
set_option maxHeartbeats 2000000 in
theorem build_at {B : Nat} {w : World} {lA : Option Addr} {lc : Nat} {os : List OpD} (h : OpRow B w lA os) (hB : B ≤ w.heap.size) (hn : os.length ≤ 1000000) :
    Calls Tryz.prog 15 #[.slice lA os.length lc] w fun e w' => ∃ tb r, e = .returned (trP tb) ∧ TreeIs B w' tb r (buildI os) ∧ Up w w' ∧ w.heap.size ≤ tb ∧ w.heap.size ≤ r := by
  have hnm := h.names
  have hsl := sortO_len os
  go_enter Tryz.func15, Tryz.ntmps15
  refine wp_seq (rg_lit (was (v := .pointer none) (wnil (then_n (wp_seq (rg_lit (wl (sca [] En.f30 (tnew_any (Nat.le_trans hB (Mod.refl [] w).size)) ?_))))))))
  rintro e w1 ⟨tb, r, rfl, h4, u5, z6, z7⟩
  refine ⟨_, rfl, ?_⟩
  have M8 := mtu (Mod.refl [] w) u5
  obtain ⟨eshr9, clhr9, xshr9, hr9, _⟩ := h4.2.2.2.1
  refine was (v := pt tb 0) (wnil (then_n (wp_seq (wp_seq (rg_lit (wmv (v := .slice lA os.length lc) ?_))))))
  have h10 := (OpRow.up h (Mod.up M8))
  refine wl (sca [.slice lA os.length lc] En.f56 (orow_sl (opsort_at h10 (Nat.le_trans hB M8.size) hn)) ?_)
  rintro e w11 ⟨A12, c13, rfl, h14, u15⟩
  refine ⟨_, rfl, ?_⟩
  have M16 := mtu M8 u15
  refine wlv (v := I_ (((sortO os).length) : Int)) (ln A12 ((sortO os).length) c13 Ty.un22) (wmv (v := I_ 0) (wnil (then_n (wp_block ?_))))
  have h17 := (up_ob u15 hr9)
  have h20 := (TreeIs.up h4 u15)
  refine lp (fun n a r1 => ∃ (kk : Nat) (Lc : List Item), (n = (sortO os).length - kk) ∧ (HasFr a 19 [(0, .slice lA os.length lc), (2, .pointer none), (3, pt tb 0), (8, .slice A12 ((sortO os).length) c13), (9, I_ (((sortO os).length) : Int)), (10, I_ kk)] []) ∧ (Mod [r] w11 r1) ∧ (kk ≤ (sortO os).length) ∧ (Lc = ((sortO os).take kk).foldl playI []) ∧ (TreeIs B r1 tb r Lc)) ⟨_, 0, [], rfl, hmk, Mod.refl _ _, (Nat.zero_le _), rfl, h20⟩ ?_
  rintro _ _ r1 ⟨kk, Lc, rfl, h21, hM1, hF1_0, hF1_1, hF1_2⟩
  obtain ⟨Y31, rfl⟩ := h21
  have M22 := Mod.thin M16 hM1 (fun y hy => by simp only [List.mem_cons, List.not_mem_nil, or_false] at hy; subst hy; exact .inr (Nat.le_trans (Mod.refl [] w).size z7))
  obtain ⟨eshr23, clhr23, xshr23, hr23, _⟩ := hF1_2.2.2.2.1
  refine wp_seq (rg_lit (wl (sb rfl (ltI kk (((sortO os).length) : Int)) fun b24 k25 => wnil (then_n (wp_seq ?_)))))
  refine bcd k25 (fun v26 p27 => ?_) (fun v26 p27 => ?_)
  ·
   refine wp_cond_false (eb v26) (wp_exit (then_x (by nofun) (then_x (by nofun) (inb_hit (then_n (wp_seq (rg_lit (wmv (v := pt tb 0) (was (v := pt tb 0) (wnil (then_n (wp_ret ?_))))))))))))
   refine br1 (v := pt tb 0) rfl ?_
   refine ⟨tb, r, rfl, ?_, (Mod.up M22), (Nat.le_trans (Mod.refl [] w).size z6), (Nat.le_trans (Mod.refl [] w).size z7)⟩
   have h0 := hF1_2
   rw [hF1_1, List.take_of_length_le (by omega)] at h0
   exact h0
  refine wp_cond_true (eb v26) (wp_skip (then_n (wp_seq (wp_block (wp_seq (rg_lit ?_))))))
  have h28 := (ORow.chgn h14 (Mod.chg hM1) ⟨h20.2.2.1, NotU8.map h17⟩ (ORow.ne_old h14 (lt_ob hr9)))
  obtain ⟨o29, ho29⟩ : ∃ x, (sortO os)[kk]? = some x := ⟨_, List.getElem?_eq_getElem (by omega)⟩
  obtain ⟨g29, cp29, cu29, dA29, dn29, dc29, hA29, hg29, hb29, he29, hD29⟩ := ORow.get h28 ho29
  injection hA29 with hA29 _ _
  replace he29 : (cu29.toList.drop (0 + kk * 10)).take 10 = opC o29 (.slice dA29 dn29 dc29) := by rw [Nat.zero_add]; exact he29
  refine wlv (v := pt g29 (0 + kk * 10)) (ixa ((sortO os).length) c13 10 kk hA29 Ty.un22 Ty.sz49) (wlv (v := opV o29 (.slice dA29 dn29 dc29)) (r_loads (k := 0 + kk * 10) (by kernel_rfl) Ty.ag49 Ty.sz49 hb29 (el_sub0 he29 rfl)) (wl (sn rfl (cs := #[I_ 0, I_ 0, I_ 0, I_ 0, I_ 0, I_ 0, I_ 0, B_ false, S_ (⟨#[]⟩), .slice none 0 0]) (T := 49) (V := fun b => pt b 0) (r_alloc Ty.zv49 rfl) fun b30 w31 e32 h33 u34 => ?_)))
  have g38 := gsz e32 M22
  have g39 := gsz e32 hM1
  have M40 := mtu M22 u34
  have M41 := mtu hM1 u34
  refine wl (ss rfl (k := 0) (v := opV o29 (.slice dA29 dn29 dc29)) (vs := (opC o29 (.slice dA29 dn29 dc29))) (cs' := (opC o29 (.slice dA29 dn29 dc29))) (by kernel_rfl) (by kernel_rfl) rfl Ty.sz49 h33 rfl (Nat.le_of_ble_eq_true rfl) rfl fun w42 h43 c44 => ?_)
  have M45 := mtn M40 c44 g38
  have M46 := mtn M41 c44 g39
  refine wnil (then_n (rg_lit (wmv (v := pt tb 0) (wlv (v := opV o29 (.slice dA29 dn29 dc29)) (lds 0 Ty.ag49 Ty.sz49 h43) ?_))))
  have h47 := (TreeIs.up hF1_2 (up_chgn u34 c44 (by rw [e32]; exact Nat.le_refl _)))
  have h48 := (Dat.up hD29 (up_chgn u34 c44 (by rw [e32]; exact Nat.le_refl _)))
  refine wl (sca [pt tb 0, opV o29 (.slice dA29 dn29 dc29)] En.f22 (do_x (L' := (playI Lc o29)) h47 (Nat.le_trans hB M45.size) o29 dA29 dn29 dc29 h48 (hnm _ (List.mem_of_getElem? ho29)) rfl) ?_)
  rintro e w49 ⟨A50, n51, c52, rfl, h53, h54, u55⟩
  refine ⟨_, rfl, ?_⟩
  have M60 := mtx M46 u55
  obtain ⟨eshr61, clhr61, xshr61, hr61, _⟩ := h54.2.2.2.1
  refine wnil (inb_n (then_n (rg_lit (wlv (v := I_ ((kk + 1 : Nat) : Int)) (adI (c := ((kk + 1 : Nat) : Int)) kk 1 ((IntWalk.i64_in _ (by omega)).trans (by omega))) (wmv (v := I_ ((kk + 1 : Nat) : Int)) (wnil (then_n ?_)))))))
  refine ⟨(sortO os).length - (kk + 1), ?_, (kk + 1), (playI Lc o29), rfl, hmk, M60, (by omega), (by rw [tkO ho29, List.foldl_append, ← hF1_1]; rfl), h54⟩
  · omega
end Go.Proofs.YtefhfoioeoijlaaGreatDoor
set_option linter.unusedVariables false
set_option linter.unusedSimpArgs false
namespace Go.Proofs.YtefhfoioeoijlaaGreatDoor
open Go Go.RowKit Go.Sort
structure StepD where
  o : OpD
  was : Item
  there : Bool
  did : Bool
  deriving DecidableEq, Inhabited
end Go.Proofs.YtefhfoioeoijlaaGreatDoor
namespace Go.Proofs.YtefhfoioeoijlaaGreatDoor
open Go Go.RowKit
abbrev wideAt (ro : Option Nat) : Fence := { Fence.wide with round := ro }
@[irreducible] def XL (ro : Option Nat) (n : Nat) (P : Program) (ops : Array Oper) (Q : Exit → Act → World → Prop) : List Oper → Act → World → Prop := wpListIn (wideAt ro) n P ops Q
variable {ro : Option Nat} {n : Nat} {P : Program} {ops : Array Oper} {Q : Exit → Act → World → Prop} {o : Oper} {rest : List Oper} {a : Act} {w : World}
theorem xnil (h : Q .normal a w) : XL ro n P ops Q [] a w := by unfold XL; exact h
theorem rg_x {id : Nat} {l : List Oper} (h : XL ro n P l.toArray Q l a w) : (Code.region id l.toArray false).wpIn (wideAt ro) n P Q a w := wpIn_region_lit (by unfold XL at h; exact h)
theorem xl (hw : Region.wanted o (yielded ops a.tmps) = true) (hd : o.semAt ro a.eval = execOp a.eval o) (h : o.uponIn (wideAt ro) n P a (XL ro n P ops Q rest) Q ((execOp a.eval o).run P w)) : XL ro n P ops Q (o :: rest) a w := by
  unfold XL at h ⊢
  unfold wpListIn
  rw [if_pos hw]
  refine ⟨fun _ _ => trivial, ?_⟩
  rw [hd]
  exact h
theorem xv {v : Value} {w' : World} (hw : Region.wanted o (yielded ops a.tmps) = true) (hd : o.semAt ro a.eval = execOp a.eval o) (h : (execOp a.eval o).run P w = .ok (.value v) w') (k : XL ro n P ops Q rest (a.put o.dst v) w') : XL ro n P ops Q (o :: rest) a w :=
  xl hw hd (by rw [h]; exact k)
theorem xn {cs : Array Value} {T : TypeId} {V : Nat → Value} (hw : Region.wanted o (yielded ops a.tmps) = true) (hd : o.semAt ro a.eval = execOp a.eval o) (h : (execOp a.eval o).run P w = .ok (.value (V w.heap.size)) (w.alloc (.cells cs T)))
    (k : ∀ b w', b = w.heap.size → w'.heap[b]? = some (.cells cs T (0, 0)) → Up w w' → XL ro n P ops Q rest (a.put o.dst (V b)) w') : XL ro n P ops Q (o :: rest) a w :=
  xv hw hd h (k _ _ rfl (heap_alloc_new w _) (up_new _))
theorem callsAt {f : FuncId} {args : Array Value} {R : Ending → World → Prop} (h : Calls P f args w R) : CallsIn (wideAt ro) n P f args w R := by
  have := (callsIn_wide (n := n)).2 h
  cases ro with
  | none => exact this
  | some l => exact CallsIn.inRound l this
theorem xc {f : FuncId} {args : Array Value} {R : Ending → World → Prop} (hw : Region.wanted o (yielded ops a.tmps) = true) (hd : o.semAt ro a.eval = execOp a.eval o) (h : (execOp a.eval o).run P w = .ok (.enter f args) w) (hc : Calls P f args w R)
    (k : ∀ e w', R e w' → ∃ v, e = .returned v ∧ XL ro n P ops Q rest (a.put o.dst v) w') : XL ro n P ops Q (o :: rest) a w :=
  xl hw hd (by
    rw [h]
    refine ⟨fun hn => (by cases hn), (callsAt hc).mono fun e w' hR => ?_⟩
    obtain ⟨v, rfl, h⟩ := k e w' hR
    exact h)
theorem xy {l : Nat} {f : FuncId} {tmps : Array Value} {assign body : Code} {R : Ending → World → Prop} (hw : Region.wanted o (yielded ops a.tmps) = true) (hd : o.semAt ro a.eval = execOp a.eval o) (h : (execOp a.eval o).run P w = .ok (.round l f tmps assign body) w)
    (hr : RoundIn (wideAt ro) (n - 1) P l f tmps assign body w R) (k : ∀ e w', R e w' → ∃ v, e = .returned v ∧ XL ro n P ops Q rest (a.put o.dst v) w') : XL ro n P ops Q (o :: rest) a w :=
  xl hw hd (by
    rw [h]
    refine ⟨fun hn => (by cases hn), hr.mono fun e w' hR => ?_⟩
    obtain ⟨v, rfl, h⟩ := k e w' hR
    exact h)
end Go.Proofs.YtefhfoioeoijlaaGreatDoor
namespace Go.Proofs.YtefhfoioeoijlaaGreatDoor
open Go Go.RowKit Go.Sort
theorem r_yield {P : Program} {w : World} {ρ : Operand → Value} {d : Option Tmp} {ty : TypeId} {pos : String} {af : Array Edge} {gd : Option (Nat × Bool)} {l f : Nat} {x : Operand} {xs : List Operand} {ats : Array TypeId} {all : List Value} {tmps : Array Value} {assign body : Code} (hx : ρ x = .func (.yield l) #[] #[]) (ha : xs.map ρ = all)
    (h : (Instr.yield l all.toArray).run P w = .ok (.round l f tmps assign body) w) : (execOp ρ ⟨d, .call { callee := .value x, args := xs.toArray, argTypes := ats }, ty, pos, af, gd⟩).run P w = .ok (.round l f tmps assign body) w := by
  subst ha
  simp only [execOp, resolve, go_sem, hx]
  simpa [go_sem, invoke] using h
end Go.Proofs.YtefhfoioeoijlaaGreatDoor
namespace Go.Proofs.YtefhfoioeoijlaaGreatDoor
open Go Go.RowKit Go.Sort
structure DD where
  oA : Option Addr
  on : Nat
  oc : Nat
  iA : Option Addr
  in_ : Nat
  ic : Nat
end Go.Proofs.YtefhfoioeoijlaaGreatDoor
set_option linter.unusedVariables false
set_option linter.unusedSimpArgs false
namespace Go.Proofs.YtefhfoioeoijlaaGreatDoor
inductive Roots (L : List Item) : Stamp → Nat → Prop
  | root : Roots L nilS 0
  | step {m x k} : m ≠ nilS → getI L m = some x → Roots L x.parent k → Roots L m (k + 1)
theorem Roots.one {L : List Item} {m : Stamp} {k k' : Nat} (h : Roots L m k) (h' : Roots L m k') : k = k' := by
  induction h generalizing k' with
  | root =>
    cases h' with
    | root => rfl
    | step h1 _ _ => exact absurd rfl h1
  | step h1 h2 h3 ih =>
    cases h' with
    | root => exact absurd rfl h1
    | step _ h2' h3' =>
      rw [h2] at h2'; injection h2' with h2'; subst h2'
      rw [ih h3']
theorem Roots.at_ {L : List Item} {m : Stamp} {k : Nat} (h : Roots L m k) (hm : m ≠ nilS) : ∃ x, getI L m = some x := by
  cases h with
  | root => exact absurd rfl hm
  | step _ h2 _ => exact ⟨_, h2⟩
theorem sub_len {α : Type} [DecidableEq α] : ∀ {l l' : List α}, l.Nodup → (∀ x ∈ l, x ∈ l') → l.length ≤ l'.length
  | [], _, _, _ => Nat.zero_le _
  | x :: l, l', hn, hs => by
    obtain ⟨h1, h2⟩ := List.nodup_cons.1 hn
    have hx := hs x (by simp)
    have := sub_len (l := l) (l' := l'.erase x) h2 fun y hy => (List.mem_erase_of_ne (by rintro rfl; exact h1 hy)).2 (hs y (by simp [hy]))
    rw [List.length_erase_of_mem hx] at this
    have : 0 < l'.length := List.length_pos_of_mem hx
    simp; omega
theorem Roots.chain {L : List Item} {m : Stamp} {k : Nat} (h : Roots L m k) : ∃ l : List Stamp, l.length = k ∧ (∀ x ∈ l, x ∈ L.map (·.node) ∧ ∃ j, 0 < j ∧ j ≤ k ∧ Roots L x j) ∧ l.Nodup := by
  induction h with
  | root => exact ⟨[], rfl, by simp, by simp⟩
  | @step m x k h1 h2 h3 ih =>
    obtain ⟨l, e1, e2, e3⟩ := ih
    have hr : Roots L m (k + 1) := .step h1 h2 h3
    refine ⟨m :: l, by simp [e1], fun y hy => ?_, List.nodup_cons.2 ⟨fun hm => ?_, e3⟩⟩
    · rcases List.mem_cons.1 hy with rfl | hy
      · obtain ⟨g1, g2⟩ := getI_some h2
        exact ⟨List.mem_map.2 ⟨x, g1, g2⟩, k + 1, by omega, by omega, hr⟩
      · obtain ⟨a, j, b, c, d⟩ := e2 y hy
        exact ⟨a, j, b, by omega, d⟩
    · obtain ⟨_, j, _, hj, hR⟩ := e2 m hm
      have := hr.one hR; omega
theorem Roots.le {L : List Item} {m : Stamp} {k : Nat} (h : Roots L m k) : k ≤ L.length := by
  obtain ⟨l, e1, e2, e3⟩ := h.chain
  have := sub_len e3 fun x hx => (e2 x hx).1
  simp at this; omega
theorem within_roots {L : List Item} {n : Stamp} (hn : getI L nilS = none) : ∀ {f : Nat} {m : Stamp} {k : Nat}, withinI L n f m = true → Roots L m k → ∃ j, j ≤ k ∧ Roots L n j
  | f + 1, m, k, h, hr => by
    simp only [withinI] at h
    by_cases hm : m = n
    · subst hm; exact ⟨k, Nat.le_refl _, hr⟩
    · rw [if_neg hm] at h
      cases hg : getI L m with
      | none => rw [hg] at h; cases h
      | some x =>
        rw [hg] at h
        cases hr with
        | root => rw [hn] at hg; cases hg
        | step h1 h2 h3 =>
          rw [hg] at h2; injection h2 with h2; subst h2
          obtain ⟨j, hj, hR⟩ := within_roots hn h h3
          exact ⟨j, by omega, hR⟩
theorem getI_put {it : Item} {m : Stamp} : ∀ {L : List Item}, getI (putI it L) m = if m = it.node then some it else getI L m
  | [] => by
    by_cases h : m = it.node
    · simp [putI, getI, h]
    · have h' : ¬ it.node = m := fun e => h e.symm
      simp [putI, getI, h, h']
  | y :: L => by
    have ih := getI_put (it := it) (m := m) (L := L)
    by_cases h1 : ltS it.node y.node = true
    · by_cases h : m = it.node
      · simp [putI, h1, getI, h]
      · have h' : ¬ it.node = m := fun e => h e.symm
        simp [putI, h1, getI, h, h']
    · by_cases h2 : y.node = it.node
      · by_cases h : m = it.node
        · simp [putI, h1, h2, getI, h, ltS_irrefl]
        · have h' : ¬ it.node = m := fun e => h e.symm
          simp [putI, h1, h2, getI, h, h', ltS_irrefl]
      · simp only [putI, h1, h2, if_false, Bool.false_eq_true]
        by_cases h3 : y.node = m
        · have h : ¬ m = it.node := fun e => h2 (h3.trans e)
          simp [getI, h3, h]
        · unfold getI at ih ⊢
          simp only [List.find?_cons, h3, decide_false]
          exact ih
structure Wf (L : List Item) : Prop where
  srt : Srt L
  nonil : ∀ x ∈ L, x.node ≠ nilS
  roots : ∀ x ∈ L, ∃ k, Roots L x.node k
  dirs : ∀ x ∈ L, x.parent = nilS ∨ ∃ y ∈ L, y.node = x.parent ∧ y.dir = true
  empt : ∀ x ∈ L, x.dir = true → x.data = []
theorem Wf.nil : Wf [] := ⟨by simp [Srt], by simp, by simp, by simp, by simp⟩
theorem Wf.nope {L : List Item} (h : Wf L) : getI L nilS = none := getI_none.2 h.nonil
theorem mem_put {it x : Item} {L : List Item} (hs : Srt L) (h : x ∈ putI it L) : x = it ∨ x ∈ L ∧ x.node ≠ it.node := by
  have hg := getI_mem hs.putI h
  rw [getI_put] at hg
  by_cases e : x.node = it.node
  · rw [if_pos e] at hg; injection hg with hg; exact .inl hg.symm
  · rw [if_neg e] at hg; exact .inr ⟨(getI_some hg).1, e⟩
theorem put_mem {it x : Item} {L : List Item} (hs : Srt L) (h : x ∈ L) (e : x.node ≠ it.node) : x ∈ putI it L := by
  have hg := getI_put (it := it) (m := x.node) (L := L)
  rw [if_neg e, getI_mem hs h] at hg
  exact (getI_some hg).1
theorem put_self {it : Item} {L : List Item} : it ∈ putI it L := by
  have hg := getI_put (it := it) (m := it.node) (L := L)
  rw [if_pos rfl] at hg
  exact (getI_some hg).1
theorem Wf.up {L : List Item} (h : Wf L) {p : Stamp} (hp : p = nilS ∨ ∃ y ∈ L, y.node = p ∧ y.dir = true) : ∃ k, Roots L p k := by
  rcases hp with rfl | ⟨y, hy, rfl, _⟩
  · exact ⟨0, .root⟩
  · exact h.roots y hy
theorem Wf.put {L : List Item} {it : Item} (h : Wf L) (hl : L.length ≤ 300) (hn : it.node ≠ nilS) (hp : it.parent = nilS ∨ ∃ y ∈ L, y.node = it.parent ∧ y.dir = true) (hd : ∀ old, getI L it.node = some old → old.dir = it.dir) (he : it.dir = true → it.data = [])
    (ha : (∃ old, getI L it.node = some old ∧ old.parent = it.parent) ∨ withinI L it.node 301 it.parent = false) : Wf (putI it L) := by
  have hdir : ∀ p, (p = nilS ∨ ∃ y ∈ L, y.node = p ∧ y.dir = true) → p = nilS ∨ ∃ y ∈ putI it L, y.node = p ∧ y.dir = true := by
    rintro p (e | ⟨y, hy, e1, e2⟩)
    · exact .inl e
    · by_cases e : y.node = it.node
      · refine .inr ⟨it, put_self, by rw [← e, e1], ?_⟩
        rw [← hd y (by rw [← e]; exact getI_mem h.srt hy)]; exact e2
      · exact .inr ⟨y, put_mem h.srt hy e, e1, e2⟩
  refine ⟨h.srt.putI, fun x hx => ?_, fun x hx => ?_, fun x hx => ?_, fun x hx => ?_⟩
  · rcases mem_put h.srt hx with rfl | ⟨hx, _⟩
    · exact hn
    · exact h.nonil x hx
  · have key : ∀ m k, Roots L m k → ∃ k', Roots (putI it L) m k' := by
      rcases ha with ⟨old, ho, hop⟩ | hw
      · intro m k hr
        refine ⟨k, ?_⟩
        induction hr with
        | root => exact .root
        | @step m x k h1 h2 h3 ih =>
          by_cases e : m = it.node
          · refine .step (x := it) h1 (by rw [getI_put, if_pos e]) ?_
            rw [e, ho] at h2; injection h2 with h2
            rw [← hop, h2]; exact ih
          · exact .step h1 (by rw [getI_put, if_neg e]; exact h2) ih
      · obtain ⟨kp, hkp⟩ := h.up hp
        have c1 : ∀ m k f, Roots L m k → k < f → withinI L it.node f m = false → Roots (putI it L) m k := by
          intro m k f hr
          induction hr generalizing f with
          | root => intro _ _; exact .root
          | @step m x k h1 h2 h3 ih =>
            intro hf hwf
            obtain ⟨f, rfl⟩ : ∃ g, f = g + 1 := ⟨f - 1, by omega⟩
            simp only [withinI] at hwf
            by_cases e : m = it.node
            · rw [if_pos e] at hwf; cases hwf
            · rw [if_neg e, h2] at hwf
              exact .step h1 (by rw [getI_put, if_neg e]; exact h2) (ih f (by omega) hwf)
        have hR : Roots (putI it L) it.node (kp + 1) := .step (x := it) hn (by rw [getI_put, if_pos rfl]) (c1 _ _ 301 hkp (by have := hkp.le; omega) hw)
        intro m k hr
        induction hr with
        | root => exact ⟨0, .root⟩
        | @step m x k h1 h2 h3 ih =>
          by_cases e : m = it.node
          · exact ⟨_, e ▸ hR⟩
          · obtain ⟨k', ih⟩ := ih
            exact ⟨k' + 1, .step h1 (by rw [getI_put, if_neg e]; exact h2) ih⟩
    rcases mem_put h.srt hx with rfl | ⟨hx, _⟩
    · rcases ha with ⟨old, ho, _⟩ | hw
      · obtain ⟨g1, g2⟩ := getI_some ho
        obtain ⟨k, hk⟩ := h.roots old g1
        rw [g2] at hk
        exact key _ k hk
      · obtain ⟨kp, hkp⟩ := h.up hp
        obtain ⟨k', hk'⟩ := key _ _ hkp
        exact ⟨k' + 1, .step (x := x) hn (by rw [getI_put, if_pos rfl]) hk'⟩
    · obtain ⟨k, hk⟩ := h.roots x hx
      exact key _ k hk
  · rcases mem_put h.srt hx with rfl | ⟨hx, _⟩
    · exact hdir _ hp
    · exact hdir _ (h.dirs x hx)
  · rcases mem_put h.srt hx with rfl | ⟨hx, _⟩
    · exact he
    · exact h.empt x hx
theorem doI_len {L : List Item} {o : OpD} (hs : Srt L) (hl : L.length ≤ 300) : (doI L o).2.length ≤ 300 := by
  unfold doI
  split
  · exact hl
  · split
    · exact hl
    · rename_i h1 h2
      show (if (nowI L (gotI L o.node) o).2 = true then putI (nowI L (gotI L o.node) o).1 L else L).length ≤ 300
      split
      · rename_i h3
        by_cases hh : hasI L o.node = true
        · exact putI_len_has hs (by rw [nowI_node h3]; exact hh) hl
        · refine putI_len_new (Nat.lt_of_not_le fun h4 => h2 ⟨h3, by simpa using hh, h4⟩)
      · exact hl
theorem dirI_up {L : List Item} {p : Stamp} (h : dirI L p = true) : p = nilS ∨ ∃ y ∈ L, y.node = p ∧ y.dir = true := by
  unfold dirI at h
  rw [Bool.or_eq_true] at h
  rcases h with h | h
  · exact .inl (of_decide_eq_true h)
  · unfold gotI at h
    cases hg : getI L p with
    | none => rw [hg] at h; cases h
    | some y =>
      rw [hg] at h
      obtain ⟨g1, g2⟩ := getI_some hg
      exact .inr ⟨y, g1, g2, h⟩
theorem got_some {L : List Item} {n : Stamp} (hn : n ≠ nilS) (h : (gotI L n).node = n) : getI L n = some (gotI L n) := by
  unfold gotI at h ⊢
  cases hg : getI L n with
  | none => rw [hg] at h; exact absurd h.symm hn
  | some y => rfl
theorem Wf.doI {L : List Item} (h : Wf L) (hl : L.length ≤ 300) (o : OpD) : Wf (doI L o).2 := by
  unfold Go.Proofs.YtefhfoioeoijlaaGreatDoor.doI
  split
  · exact h
  · split
    · exact h
    · rename_i h1 h2
      show Wf (if (nowI L (gotI L o.node) o).2 = true then putI (nowI L (gotI L o.node) o).1 L else L)
      split
      · rename_i h3
        have hr : rightB o = true := by simpa using h1
        have hn : o.node ≠ nilS := by
          have h5 : stR o.node = true := by unfold rightB at hr; simp only [Bool.and_eq_true] at hr; exact hr.2.1
          intro e; rw [e] at h5; cases h5
        have hnode := nowI_node h3
        have same : (gotI L o.node).node = o.node → (gotI L o.node) ∈ L := fun e => (getI_some (got_some hn e)).1
        unfold nowI at h3 hnode ⊢
        by_cases k1 : o.kind = 1
        · rw [if_pos k1] at h3 hnode ⊢
          simp only [Bool.and_eq_true, Bool.not_eq_true', decide_eq_false_iff_not] at h3
          have hg : getI L o.node = none := by
            cases hg : getI L o.node with
            | none => rfl
            | some y => have : gotI L o.node = y := by simp [gotI, hg]
                        rw [this] at h3; exact absurd (getI_some hg).2 h3.1
          refine h.put hl hn (dirI_up h3.2) (fun old ho => by rw [hg] at ho; cases ho) (fun _ => rfl) (.inr ?_)
          cases hw : withinI L o.node 301 o.parent with
          | false => rfl
          | true =>
            obtain ⟨kp, hkp⟩ := h.up (dirI_up h3.2)
            obtain ⟨j, _, hR⟩ := within_roots h.nope hw hkp
            obtain ⟨z, hz⟩ := hR.at_ hn
            rw [hg] at hz; cases hz
        · rw [if_neg k1] at h3 hnode ⊢
          by_cases k2 : o.kind = 2
          · rw [if_pos k2] at h3 hnode ⊢
            simp only [Bool.and_eq_true, Bool.not_eq_true', decide_eq_true_eq] at h3
            have hx := same h3.1
            have hg := got_some hn h3.1
            refine h.put hl (by rw [hnode]; exact hn) (dirI_up h3.2.1) (fun old ho => ?_) (fun e => h.empt (gotI L o.node) hx e) (.inr ?_)
            · rw [hnode, hg] at ho; injection ho with ho; rw [← ho]
            · rw [hnode]; exact h3.2.2
          · rw [if_neg k2] at h3 hnode ⊢
            by_cases k3 : o.kind = 3
            · rw [if_pos k3] at h3 hnode ⊢
              have e3 : (gotI L o.node).node = o.node := of_decide_eq_true h3
              have hx := same e3
              have hg := got_some hn e3
              refine h.put hl (by rw [hnode]; exact hn) (h.dirs (gotI L o.node) hx) (fun old ho => ?_) (fun e => h.empt (gotI L o.node) hx e) (.inl ⟨gotI L o.node, by show getI L (gotI L o.node).node = _; rw [e3]; exact hg, rfl⟩)
              rw [hnode, hg] at ho; injection ho with ho; rw [← ho]
            · rw [if_neg k3] at h3 hnode ⊢
              simp only [Bool.and_eq_true, Bool.not_eq_true', decide_eq_true_eq] at h3
              have hx := same h3.1
              have hg := got_some hn h3.1
              refine h.put hl (by rw [hnode]; exact hn) (h.dirs (gotI L o.node) hx) (fun old ho => ?_) (fun e => ?_) (.inl ⟨gotI L o.node, by show getI L (gotI L o.node).node = _; rw [h3.1]; exact hg, rfl⟩)
              · rw [hnode, hg] at ho; injection ho with ho; rw [← ho]
              · rw [show (gotI L o.node).dir = true from e] at h3; cases h3.2
      · exact h
end Go.Proofs.YtefhfoioeoijlaaGreatDoor
namespace Go.Proofs.YtefhfoioeoijlaaGreatDoor
open Go Go.RowKit Go.Sort
section
variable {P : Program} {d : Option Tmp} {ty : TypeId} {pos : String} {af : Array Edge} {g : Option (Nat × Bool)} {ρ : Operand → Value} {w w' : World}
theorem r_mapUpdate {t : TypeId} {m k v : Operand} {mv kv vv : Value} (hm : ρ m = mv) (hk : ρ k = kv) (hv : ρ v = vv) (h : (Instr.mapUpdate t mv kv vv).run P w = .ok () w') : (execOp ρ ⟨d, .mapUpdate t m k v, ty, pos, af, g⟩).run P w = .ok .skip w' := by
  simp [execOp, hm, hk, hv, h]
end
end Go.Proofs.YtefhfoioeoijlaaGreatDoor
namespace Go.Proofs.YtefhfoioeoijlaaGreatDoor
open Go Go.RowKit Go.Sort
def SubO (B : Nat) (w : World) (v : Value) (L : List OpD) : Prop :=
  ∃ A c, v = .slice A L.length c ∧ (L ≠ [] → ∃ b o ds, A = some ⟨b, o, none⟩ ∧ b < w.heap.size ∧ Pair (fun x d => Dat B w d x.data) L ds ∧ ∀ (j : Nat) (u : Value), (flatO L ds)[j]? = some u → w.cell? ⟨b, o + j, none⟩ = some u)
theorem OpRow.sub {B : Nat} {w : World} {A : Option Addr} {c : Nat} {os : List OpD} (h : OpRow B w A os) : SubO B w (.slice A os.length c) os := by
  refine ⟨A, c, rfl, fun hL => ?_⟩
  obtain ⟨o0, os', rfl⟩ := List.exists_cons_of_ne_nil hL
  obtain ⟨g, f, oA, on, oc, hA, hg, hc, hD, _⟩ := h 0 o0 rfl
  have key : ∀ (l : List OpD) (k : Nat), (∀ i o, l[i]? = some o → (o0 :: os')[k + i]? = some o) → ∃ ds, Pair (fun x d => Dat B w d x.data) l ds ∧ ∀ (j : Nat) (u : Value), (flatO l ds)[j]? = some u → w.cell? ⟨g, f + k * 10 + j, none⟩ = some u := by
    intro l
    induction l with
    | nil => intro k _; exact ⟨[], trivial, fun j u hj => by simp [flatO] at hj⟩
    | cons x l ih =>
      intro k hk
      obtain ⟨ds, hp, hds⟩ := ih (k + 1) (fun i o ho => by rw [show k + 1 + i = k + (i + 1) by omega]; exact hk (i + 1) o ho)
      obtain ⟨g2, f2, oA2, on2, oc2, hA2, _, hc2, hD2, _⟩ := h k x (hk 0 x rfl)
      rw [hA] at hA2; injection hA2 with hA2; injection hA2 with e1 e2 _; subst e1; subst e2
      refine ⟨.slice oA2 on2 oc2 :: ds, ⟨hD2, hp⟩, fun j u hj => ?_⟩
      simp only [flatO] at hj
      by_cases hj10 : j < 10
      · rw [List.getElem?_append_left (by simpa [opC] using hj10)] at hj
        exact hc2 j u hj
      · rw [List.getElem?_append_right (by simp [opC]; omega)] at hj
        have := hds _ u hj
        rw [show f + (k + 1) * 10 + (j - (opC x (.slice oA2 on2 oc2)).length) = f + k * 10 + j by simp [opC]; omega] at this
        exact this
  obtain ⟨ds, hp, hds⟩ := key (o0 :: os') 0 (fun i o ho => by rw [Nat.zero_add]; exact ho)
  exact ⟨g, f, ds, hA, hg, hp, fun j u hj => by have := hds j u hj; simpa using this⟩
theorem opC_one {x : OpD} {d u : Value} (hd : d.oneCell' = true) (hu : u ∈ opC x d) : u.oneCell' = true := by
  simp only [opC, List.mem_cons, List.not_mem_nil, or_false] at hu
  rcases hu with rfl | rfl | rfl | rfl | rfl | rfl | rfl | rfl | rfl | rfl <;> first | rfl | exact hd
theorem flatO_one {B : Nat} {w : World} : ∀ {L : List OpD} {ds : List Value}, Pair (fun x d => Dat B w d x.data) L ds → ∀ u ∈ flatO L ds, u.oneCell' = true
  | [], [], _, u, hu => by simp [flatO] at hu
  | [], _ :: _, h, _, _ => h.elim
  | _ :: _, [], h, _, _ => h.elim
  | x :: L, d :: ds, h, u, hu => by
    simp only [flatO] at hu
    rcases List.mem_append.1 hu with hu | hu
    · obtain ⟨A, n, c, rfl⟩ := h.1.form
      exact opC_one rfl hu
    · exact flatO_one h.2 u hu
end Go.Proofs.YtefhfoioeoijlaaGreatDoor
namespace Go.Proofs.YtefhfoioeoijlaaGreatDoor
open Go Go.RowKit Go.Sort
theorem ORow.ops {T : TypeId} {B base : Nat} {w : World} {A : Option Addr} {n c : Nat} {L : List OpD} (h : ORow T B base w (.slice A n c) L) (hn : ∀ o ∈ L, o.name.size ≤ 9223372036854775807) : OpRow B w A L := by
  intro i o ho
  obtain ⟨g, cap, cur, dA, dn, dc, e, _, hg, he, hD⟩ := h.get ho
  injection e with e1 _ _
  refine ⟨g, 0, dA, dn, dc, e1, lt_ob hg, fun j v hj => ?_, hD, hn o (List.mem_of_getElem? ho)⟩
  have := el_get he j hj
  rw [Array.getElem?_toList] at this
  simp only [World.cell?, hg, Nat.zero_add]; simpa using this
end Go.Proofs.YtefhfoioeoijlaaGreatDoor
set_option linter.unusedVariables false
set_option linter.unusedSimpArgs false
namespace Go.Proofs.YtefhfoioeoijlaaGreatDoor
open Go Go.RowKit Go.Sort
def markB (s : Stamp) : ByteArray := (((⟨#[126]⟩ : ByteArray) ++ (⟨(Lib.itoa s.t).toArray⟩ : ByteArray)) ++ (⟨#[46]⟩ : ByteArray)) ++ (⟨(Lib.itoa s.w).toArray⟩ : ByteArray)
def markL (s : Stamp) : List UInt8 := 126 :: (Lib.itoa s.t ++ 46 :: Lib.itoa s.w)
theorem markB_list (s : Stamp) : (markB s).data.toList = markL s := by simp [markB, markL]
def metB (met : List ByteArray) (s : ByteArray) : Bool := met.any fun m => decide (m = s)
def entOf (met : List ByteArray) (x : Item) : EntD := ⟨if metB met x.name = true then x.name ++ markB x.node else x.name, x.node, x.dir, x.data.length⟩
def entsF : List ByteArray → List Item → List EntD
  | _, [] => []
  | met, x :: l => entOf met x :: entsF (met ++ [x.name]) l
def entsI (l : List Item) : List EntD := entsF [] l
def namesI (l : List Item) : List ByteArray := l.map (·.name)
theorem entsF_snoc : ∀ {met : List ByteArray} {l : List Item} {x : Item}, entsF met (l ++ [x]) = entsF met l ++ [entOf (met ++ namesI l) x]
  | met, [], x => by simp [entsF, namesI]
  | met, y :: l, x => by
    simp only [List.cons_append, entsF, entsF_snoc (met := met ++ [y.name]) (l := l)]
    simp [namesI, List.append_assoc]
theorem entsI_next {l : List Item} {k : Nat} {x : Item} (h : l[k]? = some x) : entsI (l.take (k + 1)) = entsI (l.take k) ++ [entOf (namesI (l.take k)) x] := by
  unfold entsI
  rw [List.take_add_one, h]
  exact entsF_snoc.trans (by simp)
theorem names_next {l : List Item} {k : Nat} {x : Item} (h : l[k]? = some x) : namesI (l.take (k + 1)) = namesI (l.take k) ++ [x.name] := by
  unfold namesI
  rw [List.take_add_one, h]; simp
theorem entsF_get : ∀ {met : List ByteArray} {l : List Item} {k : Nat} {x : Item}, l[k]? = some x → (entsF met l)[k]? = some (entOf (met ++ namesI (l.take k)) x)
  | met, y :: l, 0, x, h => by simp at h; subst h; simp [entsF, namesI]
  | met, y :: l, k + 1, x, h => by
    have := entsF_get (met := met ++ [y.name]) (l := l) (k := k) (x := x) (by simpa using h)
    simp only [entsF, List.getElem?_cons_succ, this]
    simp [namesI, List.append_assoc]
theorem entsI_get {l : List Item} {k : Nat} {x : Item} (h : l[k]? = some x) : (entsI l)[k]? = some (entOf (namesI (l.take k)) x) := by
  have := entsF_get (met := []) h
  simpa [entsI] using this
theorem entsF_len : ∀ {met : List ByteArray} {l : List Item}, (entsF met l).length = l.length
  | _, [] => rfl
  | met, x :: l => by simp [entsF, entsF_len (met := met ++ [x.name]) (l := l)]
theorem entsI_len (l : List Item) : (entsI l).length = l.length := entsF_len
theorem entsI_at {l : List Item} {k : Nat} {e : EntD} (h : (entsI l)[k]? = some e) : ∃ x, l[k]? = some x ∧ e = entOf (namesI (l.take k)) x := by
  have hk := (List.getElem?_eq_some_iff.1 h).1
  rw [entsI_len] at hk
  have hx : l[k]? = some l[k] := List.getElem?_eq_getElem hk
  refine ⟨_, hx, ?_⟩
  rw [entsI_get hx] at h
  injection h with h
  exact h.symm
def OKI (x : Item) : Prop := (126 : UInt8) ∉ x.name.data.toList ∧ 0 ≤ x.node.t ∧ 0 ≤ x.node.w ∧ x.name.data.toList.length ≤ 24 ∧ x.node.t ≤ 1099511627776 ∧ x.node.w ≤ 8
theorem ent_name (met : List ByteArray) (x : Item) : (entOf met x).name.data.toList = if metB met x.name = true then x.name.data.toList ++ markL x.node else x.name.data.toList := by
  unfold entOf
  by_cases h : metB met x.name = true
  · simp only [if_pos h]; rw [← markB_list]; simp
  · simp only [if_neg h]
theorem ents_nodes {l : List Item} (hd : l.Pairwise fun x y => x.node ≠ y.node) : (entsI l).Pairwise fun x y => x.node ≠ y.node := by
  rw [List.pairwise_iff_getElem]
  intro i j hi hj hij
  obtain ⟨x, hx, ex⟩ := entsI_at (List.getElem?_eq_getElem hi)
  obtain ⟨y, hy, ey⟩ := entsI_at (List.getElem?_eq_getElem hj)
  rw [ex, ey]
  have hil : i < l.length := by rw [entsI_len] at hi; exact hi
  have hjl : j < l.length := by rw [entsI_len] at hj; exact hj
  have h3 := List.pairwise_iff_getElem.1 hd i j hil hjl hij
  rw [List.getElem?_eq_getElem hil] at hx
  rw [List.getElem?_eq_getElem hjl] at hy
  injection hx with hx
  injection hy with hy
  rw [hx, hy] at h3
  exact h3
theorem find_one {α β : Type} [DecidableEq β] {f : α → β} {l : List α} (h : l.Pairwise fun x y => f x ≠ f y) {e : α} (he : e ∈ l) : l.find? (fun x => decide (f x = f e)) = some e := by
  induction l with
  | nil => cases he
  | cons z l ih =>
    obtain ⟨h1, h2⟩ := List.pairwise_cons.1 h
    rcases List.mem_cons.1 he with rfl | he'
    · simp
    · have : ¬ f z = f e := h1 _ he'
      simp [this, ih h2 he']
def nodeE (L : List Item) (m : Stamp) : Option EntD := (entsI (kidsI (gotI L m).parent L)).find? fun e => decide (e.node = m)
def shownB (L : List Item) (m : Stamp) : ByteArray := if (hasI L m && hangsI L 301 m) = true then ((nodeE L m).map (·.name)).getD ⟨#[]⟩ else ⟨#[]⟩
def shownK (L : List Item) (m : Stamp) : Int := if (hasI L m && hangsI L 301 m) = true then (if (nodeE L m).isSome then 0 else 12) else 12
structure Fit (L : List Item) : Prop where
  wf : Wf L
  len : L.length ≤ 300
  ok : ∀ x ∈ L, OKI x
theorem nameB_ok {s : ByteArray} (h : nameB s = true) : (126 : UInt8) ∉ s.data.toList ∧ s.data.toList.length ≤ 24 := by
  unfold nameB at h
  simp only [Bool.and_eq_true, decide_eq_true_eq] at h
  refine ⟨fun hm => ?_, ?_⟩
  · have h1 := h.2.2.2
    unfold nameCh at h1
    have := List.all_eq_true.1 h1 _ hm
    exact absurd this (by decide)
  · have := h.1.2
    simpa using this
theorem stR_ok {s : Stamp} (h : stR s = true) : 0 ≤ s.t ∧ 0 ≤ s.w ∧ s.t ≤ 1099511627776 ∧ s.w ≤ 8 := by
  unfold stR at h
  have := of_decide_eq_true h
  omega
theorem fit_do {L : List Item} (h : Fit L) (o : OpD) : Fit (doI L o).2 := by
  refine ⟨h.wf.doI h.len o, doI_len h.wf.srt h.len, ?_⟩
  unfold doI
  split
  · exact h.ok
  · split
    · exact h.ok
    · rename_i h1 h2
      show ∀ x ∈ (if (nowI L (gotI L o.node) o).2 = true then putI (nowI L (gotI L o.node) o).1 L else L), OKI x
      split
      · rename_i h3
        intro x hx
        rcases mem_put h.wf.srt hx with rfl | ⟨hx, _⟩
        · have hr : rightB o = true := by simpa using h1
          have hs : stR o.node = true := by unfold rightB at hr; simp only [Bool.and_eq_true] at hr; exact hr.2.1
          have hb : bodyB o = true := by unfold rightB at hr; simp only [Bool.and_eq_true] at hr; exact hr.2.2.2.2
          have hn : o.node ≠ nilS := by intro e; rw [e] at hs; cases hs
          have hnode := nowI_node h3
          have hst := stR_ok hs
          have same : (gotI L o.node).node = o.node → OKI (gotI L o.node) := fun e => h.ok _ (getI_some (got_some hn e)).1
          unfold nowI at h3 hnode ⊢
          by_cases k1 : o.kind = 1
          · rw [if_pos k1] at h3 hnode ⊢
            unfold bodyB at hb
            rw [if_pos k1] at hb
            simp only [Bool.and_eq_true] at hb
            have := nameB_ok hb.2.1
            exact ⟨this.1, hst.1, hst.2.1, this.2, hst.2.2.1, hst.2.2.2⟩
          · rw [if_neg k1] at h3 hnode ⊢
            by_cases k2 : o.kind = 2
            · rw [if_pos k2] at h3 hnode ⊢
              unfold bodyB at hb
              rw [if_neg k1, if_pos k2] at hb
              simp only [Bool.and_eq_true] at hb
              have := nameB_ok hb.2
              simp only [Bool.and_eq_true, decide_eq_true_eq] at h3
              have hx := same h3.1
              exact ⟨this.1, hx.2.1, hx.2.2.1, this.2, hx.2.2.2.2.1, hx.2.2.2.2.2⟩
            · rw [if_neg k2] at h3 hnode ⊢
              by_cases k3 : o.kind = 3
              · rw [if_pos k3] at h3 hnode ⊢
                exact same (of_decide_eq_true h3)
              · rw [if_neg k3] at h3 hnode ⊢
                simp only [Bool.and_eq_true, decide_eq_true_eq] at h3
                exact same h3.1
        · exact h.ok x hx
      · exact h.ok
theorem fit_fold : ∀ {l : List OpD} {L : List Item}, Fit L → Fit (l.foldl playI L)
  | [], _, h => h
  | o :: l, _, h => fit_fold (l := l) (fit_do h o)
theorem fit_build (os : List OpD) : Fit (buildI os) := fit_fold ⟨Wf.nil, by simp, by simp⟩
theorem srt_apart {L : List Item} (h : Srt L) : L.Pairwise fun x y => x.node ≠ y.node := h.imp fun h => ltS_ne h
theorem kids_mem {L : List Item} {n : Stamp} {x : Item} : x ∈ kidsI n L ↔ x ∈ L ∧ x.parent = n ∧ x.gone = false := by
  unfold kidsI; simp [List.mem_filter]
theorem Fit.kids {L : List Item} (h : Fit L) (n : Stamp) : (∀ x ∈ kidsI n L, OKI x) ∧ (kidsI n L).Pairwise (fun x y => x.node ≠ y.node) :=
  ⟨fun x hx => h.ok x (kids_mem.1 hx).1, (srt_apart h.wf.srt).sublist List.filter_sublist⟩
theorem Fit.nodes {L : List Item} (h : Fit L) (n : Stamp) : (entsI (kidsI n L)).Pairwise fun x y => x.node ≠ y.node := ents_nodes (h.kids n).2
end Go.Proofs.YtefhfoioeoijlaaGreatDoor

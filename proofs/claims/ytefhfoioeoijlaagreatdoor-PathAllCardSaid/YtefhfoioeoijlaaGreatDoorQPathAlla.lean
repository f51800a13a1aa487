/- Ty, Arg, Plain, Nm, SMap, GE, GF, GOL, Lib3, BRow, Pth3, Pth5 -/
import Derived.Below
import Derived.ChangeOld
import Derived.ChangeSame
import Derived.Deep.Fields
import Derived.Deep.Slices
import Derived.Lib.ItoaLen
import Derived.Lib.LaidTab
import Derived.Lib.SplitLaws
import Derived.OpenShut
import Derived.ProofKit
import Derived.Shelf.Slices.In.SortNone
import Derived.Shelf.Sort.Plain
import Derived.Shelf.Strings.Builder1
import Derived.Shelf.Strings.Builder2
import Derived.Shelf.Strings.Explode
import Derived.Shelf.Strings.OnBuilder
import Derived.Shelf.Strings.RuneCount
import Derived.Shelf.Strings.Split
import Derived.Shelf.Strings.SplitShaped
import Derived.Shelf.Strings.Trim
import Derived.Shelf.Unicode.Decode
import Derived.Shelf.Utf8.RuneCount
import Derived.ShutString
import Derived.Test.YtefhfoioeoijlaaGreatDoorProg
import Derived.WalkKit
import Derived.WideShapes
import Derived.Test.YtefhfoioeoijlaaGreatDoorQaa
import Derived.Test.YtefhfoioeoijlaaGreatDoorQab
import Derived.Test.YtefhfoioeoijlaaGreatDoorQac
import Derived.Test.YtefhfoioeoijlaaGreatDoorQad
import Derived.Test.YtefhfoioeoijlaaGreatDoorQae
import Derived.Test.YtefhfoioeoijlaaGreatDoorQaf
import Derived.Test.YtefhfoioeoijlaaGreatDoorQag
import Derived.Test.YtefhfoioeoijlaaGreatDoorQah
import Derived.Test.YtefhfoioeoijlaaGreatDoorQai
import Derived.Test.YtefhfoioeoijlaaGreatDoorQaj
import Derived.Test.YtefhfoioeoijlaaGreatDoorQak
import Derived.Test.YtefhfoioeoijlaaGreatDoorQal
import Derived.Test.YtefhfoioeoijlaaGreatDoorQam
import Derived.Test.YtefhfoioeoijlaaGreatDoorQan
import Derived.Test.YtefhfoioeoijlaaGreatDoorQao
import Derived.Test.YtefhfoioeoijlaaGreatDoorQap
import Derived.Test.YtefhfoioeoijlaaGreatDoorQaq
import Derived.Test.YtefhfoioeoijlaaGreatDoorQar
import Derived.Test.YtefhfoioeoijlaaGreatDoorQas
import Derived.Test.YtefhfoioeoijlaaGreatDoorQat
import Derived.Test.YtefhfoioeoijlaaGreatDoorQau
import Derived.Test.YtefhfoioeoijlaaGreatDoorQav
set_option linter.unusedVariables false
namespace Go.Proofs.YtefhfoioeoijlaaGreatDoor
open Go Go.RowKit Go.Sort
theorem En.f13 : ∀ args w, (callFunc 13 args).run Tryz.prog w = .ok (.enter 13 args) w := enters_of Tryz.func13 (by kernel_rfl) rfl
theorem En.f41 : ∀ args w, (callFunc 41 args).run Tryz.prog w = .ok (.enter 41 args) w := enters_of Tryz.func41 (by kernel_rfl) rfl
theorem En.f54 : ∀ args w, (callFunc 54 args).run Tryz.prog w = .ok (.enter 54 args) w := enters_of Tryz.func54 (by kernel_rfl) rfl
theorem En.f100 : ∀ args w, (callFunc 100 args).run Tryz.prog w = .ok (.enter 100 args) w := enters_of Tryz.func100 (by kernel_rfl) rfl
theorem En.f112 : ∀ args w, (callFunc 112 args).run Tryz.prog w = .ok (.enter 112 args) w := enters_of Tryz.func112 (by kernel_rfl) rfl
end Go.Proofs.YtefhfoioeoijlaaGreatDoor
set_option linter.unusedVariables false
set_option linter.unusedSimpArgs false
namespace Go.Proofs.YtefhfoioeoijlaaGreatDoor
open Go Go.RowKit Go.ChangeShapes Go.WideShapes Go.ChangeAt Go.Deep
def OpRow0 (w : World) (A : Option Addr) (os : List OpD) : Prop :=
  ∀ (i : Nat) (o : OpD), os[i]? = some o → ∃ g f oA on oc, A = some ⟨g, f, none⟩ ∧ g < w.heap.size ∧ (∀ (j : Nat) (v : Value), (opC o (.slice oA on oc))[j]? = some v → w.cell? ⟨g, f + i * 10 + j, none⟩ = some v) ∧ o.data.length = on ∧ o.name.size ≤ 9223372036854775807
theorem OpRow0.up {w w' : World} {A : Option Addr} {os : List OpD} (h : OpRow0 w A os) (u : Up w w') : OpRow0 w' A os := fun i o ho => by
  obtain ⟨g, f, oA, on, oc, hA, hg, hc, hD, hs⟩ := h i o ho
  exact ⟨g, f, oA, on, oc, hA, Nat.lt_of_lt_of_le hg u.size, fun j v hj => (u.cell (p := ⟨g, f + i * 10 + j, none⟩) hg).trans (hc j v hj), hD, hs⟩
def Small (os : List OpD) : Prop := ∀ (i : Nat) (o : OpD), os[i]? = some o → o.data.length ≤ 500
theorem light_next {os : List OpD} {k on : Nat} {o : OpD} (h : Hid (∀ (i : Nat) (o : OpD), i < k → os[i]? = some o → o.data.length ≤ 500)) (ho : os[k]? = some o) (hD : o.data.length = on) (p : ¬ ((on : Int) > 500)) : Hid (∀ (i : Nat) (o : OpD), i < k + 1 → os[i]? = some o → o.data.length ≤ 500) := fun i x hi hx => by
  rcases Nat.lt_or_ge i k with h1 | h1
  · exact h.out i x h1 hx
  · obtain rfl : i = k := by omega
    rw [ho] at hx; injection hx with hx; subst hx
    omega
theorem light_end {os : List OpD} {k : Nat} (h : Hid (∀ (i : Nat) (o : OpD), i < k → os[i]? = some o → o.data.length ≤ 500)) (hk : os.length ≤ k) : Small os := fun i o ho => h.out i o (by have := (List.getElem?_eq_some_iff.1 ho).1; omega) ho
section
variable {H : Type} {enc : TypeId × Value → H}
theorem spot_none {w : World} {a : Addr} {v : Value} (h : w.cell? a = some v) : a = ⟨a.block, a.off, none⟩ ∧ a.block < w.heap.size := by
  obtain ⟨b, o, s⟩ := a
  refine ⟨?_, World.block_lt_of_cell? w _ h⟩
  cases s with
  | none => rfl
  | some s => unfold World.cell? at h; simp at h; split at h <;> simp at h
theorem open_data {W : World} {sp : Nat → Bool} {held : Bool} {n : Nat} {v : Value} {y : DataW H × List MemPlace} (h : DataW.trod enc Tryz.prog W 0 sp held n 40 [v] = some y) :
    ∃ oA on oc xs, v = .slice oA on oc ∧ xs.length = on ∧ (on ≤ 500 → Dat W.heap.size W (.slice oA on oc) xs) := by
  rcases open_ints Tryz.underlying40 Tryz.underlying5 (by kernel_rfl) h with ⟨hc, _⟩ | ⟨a, len, cap, zs, hc, _, hl, hm, hz, _, hcell, hwf⟩
  · injection hc with hc _
    exact ⟨none, 0, 0, [], hc, rfl, fun _ => Dat.nil _ _⟩
  · injection hc with hc _
    have hlz : len ≤ zs.length := by rw [hz]; split <;> omega
    have htl : (zs.take len).length = len := by rw [List.length_take]; omega
    refine ⟨some a, len, cap, zs.take len, hc, htl, fun h5 => ?_⟩
    refine ⟨some a, len, cap, rfl, htl, hl, by omega, fun x hx => ?_, fun h0 => ?_⟩
    · have := hwf x (List.mem_of_mem_take hx)
      have := bounds_u8 this
      omega
    · have h1 := hcell 0 (by omega)
      rw [show a.add 0 = a from rfl] at h1
      obtain ⟨ha, hb⟩ := spot_none h1
      refine ⟨a.block, a.off, by rw [← ha], hb, .inl hb, fun i hi => ?_⟩
      have := hcell i (by omega)
      rw [ha, add_at] at this
      rw [this]
      congr 2
      simp [List.getD_eq_getElem?_getD, List.getElem?_take, hi]
set_option maxRecDepth 20000 in
theorem open_op {W : World} {sp : Nat → Bool} {held : Bool} {n : Nat} {cs : List Value} {x : DataW H × List MemPlace} (h : DataW.trod enc Tryz.prog W 0 sp held n 49 cs = some x) :
    ∃ (o : OpD) (oA : Option Addr) (on oc : Nat), cs = opC o (.slice oA on oc) ∧ o.data.length = on ∧ o.name.size ≤ 9223372036854775807 ∧ (on ≤ 500 → Dat W.heap.size W (.slice oA on oc) o.data) := by
  obtain ⟨xs, k, _, _, hlen, hxs, hf⟩ := DataW.trod_struct Tryz.underlying49 h
  rw [show Tryz.prog.cellsOf 49 = 10 from by kernel_rfl] at hlen
  match cs, hlen with
  | [v0, v1, v2, v3, v4, v5, v6, v7, v8, v9], _ =>
    simp only [List.size_toArray, List.length_cons, List.length_nil, Nat.reduceAdd] at hxs
    match xs, hxs with
    | [y0, y1, y2, y3, y4, y5, y6], _ =>
      have c2 : Tryz.prog.cellsOf 2 = 1 := by kernel_rfl
      have c3 : Tryz.prog.cellsOf 3 = 1 := by kernel_rfl
      have c4 : Tryz.prog.cellsOf 4 = 1 := by kernel_rfl
      have c9 : Tryz.prog.cellsOf 9 = 1 := by kernel_rfl
      have c24 : Tryz.prog.cellsOf 24 = 2 := by kernel_rfl
      have c33 : Tryz.prog.cellsOf 40 = 1 := by kernel_rfl
      have t0 : DataW.trod enc Tryz.prog W 0 sp held k 3 [v0] = some y0 := by
        have q : DataW.trod enc Tryz.prog W 0 sp held k 3 (([v0, v1, v2, v3, v4, v5, v6, v7, v8, v9].drop 0).take (Tryz.prog.cellsOf 3)) = some y0 := hf 0 _ rfl
        rw [c3] at q; exact q
      have t1 : DataW.trod enc Tryz.prog W 0 sp held k 24 [v1, v2] = some y1 := by
        have q : DataW.trod enc Tryz.prog W 0 sp held k 24 (([v0, v1, v2, v3, v4, v5, v6, v7, v8, v9].drop 1).take (Tryz.prog.cellsOf 24)) = some y1 := hf 1 _ rfl
        rw [c24] at q; exact q
      have t2 : DataW.trod enc Tryz.prog W 0 sp held k 24 [v3, v4] = some y2 := by
        have q : DataW.trod enc Tryz.prog W 0 sp held k 24 (([v0, v1, v2, v3, v4, v5, v6, v7, v8, v9].drop 3).take (Tryz.prog.cellsOf 24)) = some y2 := hf 2 _ rfl
        rw [c24] at q; exact q
      have t3 : DataW.trod enc Tryz.prog W 0 sp held k 24 [v5, v6] = some y3 := by
        have q : DataW.trod enc Tryz.prog W 0 sp held k 24 (([v0, v1, v2, v3, v4, v5, v6, v7, v8, v9].drop 5).take (Tryz.prog.cellsOf 24)) = some y3 := hf 3 _ rfl
        rw [c24] at q; exact q
      have t4 : DataW.trod enc Tryz.prog W 0 sp held k 4 [v7] = some y4 := by
        have q : DataW.trod enc Tryz.prog W 0 sp held k 4 (([v0, v1, v2, v3, v4, v5, v6, v7, v8, v9].drop 7).take (Tryz.prog.cellsOf 4)) = some y4 := hf 4 _ rfl
        rw [c4] at q; exact q
      have t5 : DataW.trod enc Tryz.prog W 0 sp held k 9 [v8] = some y5 := by
        have q : DataW.trod enc Tryz.prog W 0 sp held k 9 (([v0, v1, v2, v3, v4, v5, v6, v7, v8, v9].drop 8).take (Tryz.prog.cellsOf 9)) = some y5 := hf 5 _ rfl
        rw [c9] at q; exact q
      have t6 : DataW.trod enc Tryz.prog W 0 sp held k 40 [v9] = some y6 := by
        have q : DataW.trod enc Tryz.prog W 0 sp held k 40 (([v0, v1, v2, v3, v4, v5, v6, v7, v8, v9].drop 9).take (Tryz.prog.cellsOf 40)) = some y6 := hf 6 _ rfl
        rw [c33] at q; exact q
      have st : ∀ {u v : Value} {y : DataW H × List MemPlace}, DataW.trod enc Tryz.prog W 0 sp held k 24 [u, v] = some y → ∃ a b, u = .int .i64 a ∧ v = .int .i64 b := fun {u v y} hy => by
        obtain ⟨z0, z1, m, _, _, q0, q1⟩ := trod_struct2 Tryz.underlying24 hy
        simp only [c2, c3, List.drop, List.take] at q0 q1
        obtain ⟨a, ha, _⟩ := DataW.trod_int Tryz.underlying2 q0
        obtain ⟨b, hb, _⟩ := DataW.trod_int Tryz.underlying3 q1
        injection ha with ha _
        injection hb with hb _
        exact ⟨a, b, ha, hb⟩
      obtain ⟨kd, e0, _⟩ := DataW.trod_int Tryz.underlying3 t0
      obtain ⟨a1, b1, rfl, rfl⟩ := st t1
      obtain ⟨a2, b2, rfl, rfl⟩ := st t2
      obtain ⟨a3, b3, rfl, rfl⟩ := st t3
      obtain ⟨dr, e4, _⟩ := DataW.trod_bool Tryz.underlying4 t4
      obtain ⟨nm, e5, _, hnm⟩ := DataW.trod_string Tryz.underlying9 t5
      obtain ⟨oA, on, oc, zs, e6, hz, hD⟩ := open_data t6
      injection e0 with e0 _
      injection e4 with e4 _
      injection e5 with e5 _
      subst e0 e4 e5 e6
      exact ⟨⟨kd, ⟨a1, b1⟩, ⟨a2, b2⟩, ⟨a3, b3⟩, dr, nm, zs⟩, oA, on, oc, rfl, hz, by unfold maxLen at hnm; simpa using hnm, hD⟩
theorem open_ops {W : World} {sp : Nat → Bool} {held : Bool} {n : Nat} {cs : List Value} {x : DataW H × List MemPlace} (h : DataW.trod enc Tryz.prog W 0 sp held n 22 cs = some x) :
    ∃ (A : Option Addr) (os : List OpD) (c : Nat), cs = [.slice A os.length c] ∧ os.length ≤ 9223372036854775807 ∧ OpRow0 W A os ∧ (Small os → OpRow W.heap.size W A os) := by
  rcases open_slice Tryz.underlying22 h with ⟨hc, _⟩ | ⟨a, len, cap, m, k, D, Pl, hc, _, hl, hm, hmm, _, hx⟩
  · exact ⟨none, [], 0, hc, by simp, fun i o ho => by simp at ho, fun _ i o ho => by simp at ho⟩
  · have hlm : len ≤ m := by rw [hmm]; split <;> omega
    have c40 : Tryz.prog.cellsOf 49 = 10 := by kernel_rfl
    have each : ∀ i, ∃ o : OpD, i < len → ∃ oA on oc, a = ⟨a.block, a.off, none⟩ ∧ a.block < W.heap.size ∧ (∀ (j : Nat) (v : Value), (opC o (.slice oA on oc))[j]? = some v → W.cell? ⟨a.block, a.off + i * 10 + j, none⟩ = some v) ∧ o.data.length = on ∧ o.name.size ≤ 9223372036854775807 ∧ (on ≤ 500 → Dat W.heap.size W (.slice oA on oc) o.data) := by
      intro i
      by_cases hi : i < len
      · obtain ⟨cs', h1, h2⟩ := hx i (by omega)
        rw [c40] at h1
        obtain ⟨o, oA, on, oc, rfl, hd, hs, hD⟩ := open_op h2
        obtain ⟨_, _, hcell⟩ := World.cells?_some h1
        have ha : a = ⟨a.block, a.off, none⟩ ∧ a.block < W.heap.size := by
          obtain ⟨cs0, g1, g2⟩ := hx 0 (by omega)
          obtain ⟨_, g3, g4⟩ := World.cells?_some g1
          have hp : 0 < Tryz.prog.cellsOf 49 := by rw [c40]; decide
          have := g4 0 hp
          rw [Nat.zero_mul, List.getElem?_eq_getElem (by omega)] at this
          exact spot_none (show W.cell? a = _ from this)
        refine ⟨o, fun _ => ⟨oA, on, oc, ha.1, ha.2, fun j v hj => ?_, hd, hs, hD⟩⟩
        have hj10 : j < 10 := (List.getElem?_eq_some_iff.1 hj).1
        have := hcell j hj10
        rw [hj, ha.1, add_at, add_at] at this
        exact this
      · exact ⟨default, fun h => absurd h hi⟩
    refine ⟨some a, (List.range len).map fun i => (each i).choose, cap, by rw [List.length_map, List.length_range]; exact hc, by rw [List.length_map, List.length_range]; exact Nat.le_trans hl (Nat.le_trans hm (Nat.le_of_ble_eq_true rfl)), fun i o ho => ?_, fun hsm i o ho => ?_⟩
    · have hi : i < len := by have := (List.getElem?_eq_some_iff.1 ho).1; simpa using this
      have he : (each i).choose = o := by simpa [List.getElem?_map, List.getElem?_range hi] using ho
      obtain ⟨oA, on, oc, ha, hb, hc', hd, hs, hD⟩ := (each i).choose_spec hi
      rw [he] at hc' hd hs
      exact ⟨a.block, a.off, oA, on, oc, by rw [← ha], hb, hc', hd, hs⟩
    · have hi : i < len := by have := (List.getElem?_eq_some_iff.1 ho).1; simpa using this
      have he : (each i).choose = o := by simpa [List.getElem?_map, List.getElem?_range hi] using ho
      obtain ⟨oA, on, oc, ha, hb, hc', hd, hs, hD⟩ := (each i).choose_spec hi
      rw [he] at hc' hd hs hD
      exact ⟨a.block, a.off, oA, on, oc, by rw [← ha], hb, hc', hD (by have := hsm i o ho; omega), hs⟩
end
end Go.Proofs.YtefhfoioeoijlaaGreatDoor
set_option linter.unusedVariables false
set_option linter.unusedSimpArgs false
namespace Go.Proofs.YtefhfoioeoijlaaGreatDoor
theorem Roots.inv {L : List Item} {m : Stamp} {k : Nat} {x : Item} (h : Roots L m k) (hm : m ≠ nilS) (hx : getI L m = some x) : ∃ j, k = j + 1 ∧ Roots L x.parent j := by
  cases h with
  | root => exact absurd rfl hm
  | step _ h2 h3 => rw [hx] at h2; injection h2 with h2; subst h2; exact ⟨_, rfl, h3⟩
theorem Roots.within {L : List Item} {m : Stamp} {k f : Nat} (h : Roots L m k) (hf : k < f) : withinI L nilS f m = true := by
  induction h generalizing f with
  | root => obtain ⟨f, rfl⟩ : ∃ g, f = g + 1 := ⟨f - 1, by omega⟩; simp [withinI]
  | step h1 h2 _ ih =>
    obtain ⟨f, rfl⟩ : ∃ g, f = g + 1 := ⟨f - 1, by omega⟩
    simp [withinI, h1, h2, ih (by omega : _ < f)]
theorem fold_wf {l : List OpD} : ∀ {L : List Item}, Wf L → L.length ≤ 300 → Wf (l.foldl playI L) ∧ (l.foldl playI L).length ≤ 300 := by
  induction l with
  | nil => intro L h hl; exact ⟨h, hl⟩
  | cons o l ih => intro L h hl; exact ih (h.doI hl o) (doI_len h.srt hl)
theorem buildI_wf (os : List OpD) : Wf (buildI os) ∧ (buildI os).length ≤ 300 := fold_wf Wf.nil (by simp)
theorem Roots.hangs {L : List Item} {m : Stamp} {k : Nat} (h : Roots L m k) : ∀ f g, k < f → k < g → hangsI L f m = hangsI L g m := by
  induction h with
  | root =>
    intro f g hf hg
    obtain ⟨f, rfl⟩ : ∃ x, f = x + 1 := ⟨f - 1, by omega⟩
    obtain ⟨g, rfl⟩ : ∃ x, g = x + 1 := ⟨g - 1, by omega⟩
    simp [hangsI]
  | step h1 h2 _ ih =>
    intro f g hf hg
    obtain ⟨f, rfl⟩ : ∃ x, f = x + 1 := ⟨f - 1, by omega⟩
    obtain ⟨g, rfl⟩ : ∃ x, g = x + 1 := ⟨g - 1, by omega⟩
    simp [hangsI, h1, h2, ih f g (by omega) (by omega)]
theorem Wf.item {L : List Item} (h : Wf L) (hl : L.length ≤ 300) {x : Item} (hx : x ∈ L) : withinI L x.node 301 x.parent = false ∧ withinI L nilS 301 x.node = true ∧ (x.parent ≠ nilS → hasI L x.parent = true ∧ (gotI L x.parent).dir = true) ∧
    hangsI L 301 x.node = (!x.gone && hangsI L 301 x.parent) ∧ (x.dir = true → x.data = []) := by
  obtain ⟨k, hk⟩ := h.roots x hx
  have hle := hk.le
  have hg := getI_mem h.srt hx
  obtain ⟨k', rfl, hp⟩ : ∃ j, k = j + 1 ∧ Roots L x.parent j := by
    exact hk.inv (h.nonil x hx) hg
  refine ⟨?_, hk.within (by omega), fun hne => ?_, ?_, h.empt x hx⟩
  · cases hw : withinI L x.node 301 x.parent with
    | false => rfl
    | true =>
      obtain ⟨j, hj, hR⟩ := within_roots h.nope hw hp
      have := hk.one hR; omega
  · rcases h.dirs x hx with e | ⟨y, hy, e1, e2⟩
    · exact absurd e hne
    · have hgy := getI_mem h.srt hy
      rw [e1] at hgy
      exact ⟨by simp [hasI, hgy], by simp [gotI, hgy, e2]⟩
  · have e := hp.hangs 300 301 (by omega) (by omega)
    have e2 : hangsI L (300 + 1) x.node = if x.gone then false else hangsI L 300 x.parent := by
      rw [hangsI, if_neg (h.nonil x hx), hg]
    rw [show (301 : Nat) = 300 + 1 from rfl, e2, e]
    cases x.gone
    · rfl
    · rfl
end Go.Proofs.YtefhfoioeoijlaaGreatDoor
set_option linter.unusedVariables false
set_option linter.unusedSimpArgs false
namespace Go.Proofs.YtefhfoioeoijlaaGreatDoor
open Go Go.RowKit Go.Sort
theorem ents_node {l : List Item} {e : EntD} (h : e ∈ entsI l) : ∃ x ∈ l, e.node = x.node := by
  obtain ⟨k, hk⟩ := List.mem_iff_getElem?.1 h
  obtain ⟨x, hx, rfl⟩ := entsI_at hk
  exact ⟨x, List.mem_of_getElem? hx, rfl⟩
theorem Fit.shown {L : List Item} (h : Fit L) {n : Stamp} (hk : kidK L n = 0) {e : EntD} (he : e ∈ entsI (kidsI n L)) : shownB L e.node = e.name ∧ shownK L e.node = 0 := by
  obtain ⟨x, hx, hn⟩ := ents_node he
  obtain ⟨hxL, hp, hg⟩ := kids_mem.1 hx
  have hgot : getI L e.node = some x := by rw [hn]; exact getI_mem h.wf.srt hxL
  have hG : gotI L e.node = x := by unfold gotI; rw [hgot]; rfl
  have hH : hasI L e.node = true := by unfold hasI; rw [hgot]; rfl
  have hhn : hangsI L 301 n = true := by
    unfold kidK at hk
    cases hb : hangsI L 301 n with
    | true => rfl
    | false => rw [hb] at hk; simp at hk
  have hhx : hangsI L 301 e.node = true := by
    have := (h.wf.item h.len hxL).2.2.2.1
    rw [hn, this, hg, hp, hhn]; rfl
  have h1 : nodeE L e.node = some e := by
    unfold nodeE
    rw [hG, hp]
    exact find_one (f := fun e : EntD => e.node) (h.nodes n) he
  unfold shownB shownK
  rw [hH, hhx, h1]
  exact ⟨rfl, rfl⟩
end Go.Proofs.YtefhfoioeoijlaaGreatDoor
set_option linter.unusedVariables false
set_option linter.unusedSimpArgs false
namespace Go.Proofs.YtefhfoioeoijlaaGreatDoor
open Go Go.RowKit Go.Sort
section
variable {ρ : Operand → Value} {P : Program} {w : World} {d : Option Tmp} {ty : TypeId} {pos : String} {af : Array Edge} {g : Option (Nat × Bool)}
theorem r_ges {t yt : TypeId} {x y : Operand} {m n : ByteArray} (hx : ρ x = .string m) (hy : ρ y = .string n) (h : Op.bytesLess m.data.toList n.data.toList = true) : (execOp ρ ⟨d, .binOp .geq t x y yt, ty, pos, af, g⟩).run P w = .ok (.value (.bool false)) w := by
  have h' : Op.bytesLess m.toList n.toList = true := by rw [Lib.toList_data, Lib.toList_data]; exact h
  simp [execOp, hx, hy, eqGuard, binOp, Op.stringOp, h']
end
end Go.Proofs.YtefhfoioeoijlaaGreatDoor
set_option linter.unusedVariables false
set_option linter.unusedSimpArgs false
namespace Go.Proofs.YtefhfoioeoijlaaGreatDoor
open Go Go.RowKit Go.Sort
set_option maxHeartbeats 2000000 in
theorem all1_at {w : World} (x : Item) (xA : Option Addr) (xn xc : Nat) : Calls Tryz.prog 100 #[itV x (.slice xA xn xc)] w fun e w' => e = .returned (.bool true) ∧ Up w w' := by
  go_enter Tryz.func100, Tryz.ntmps100
  refine wp_seq (rg_lit ?_)
  refine wl (sn rfl (cs := (itC x (.slice xA xn xc)).toArray) (T := 42) (V := fun b => .pointer (some ⟨b, 0, none⟩)) (r_box (v := itV x (.slice xA xn xc)) (by kernel_rfl) rfl) ?_)
  intro b1 w2 e3 h4 u5
  have g6 : w.heap.size ≤ b1 := by rw [e3]; exact (Mod.refl [] w).size
  have M7 := Mod.trans (Mod.refl [] w) (Mod.of_up u5)
  refine was (v := .bool false) ?_
  refine wnil (then_n (wp_seq (rg_lit ?_)))
  refine was (v := .bool true) ?_
  refine wnil (then_n (wp_ret ?_))
  refine bodyPost_ret (v := .bool true) (res1 rfl (rv_t (by kernel_rfl))) (by kernel_rfl) ?_
  exact ⟨rfl, (Mod.up M7)⟩
set_option maxHeartbeats 2000000 in
theorem some_all_at {B : Nat} {w : World} {tb r : Nat} {L : List Item} (h : TreeIs B w tb r L) (hB : B ≤ w.heap.size) :
    Calls Tryz.prog 97 #[trP tb, .func (.func 100) #[] #[]] w fun e w' => ∃ v, e = .returned v ∧ IRow 42 B w.heap.size w' v L ∧ Up w w' := by
  have hsrt := h.2.2.2.1.srt
  obtain ⟨hr_es, hr_cl, hr_xs, hr, _⟩ := h.2.2.2.1
  have hL := h.2.2.2.2
  obtain ⟨ii_p, iz_p, hi_p, hz_p, hs_p, hb_p, hc_p⟩ := info_item
  go_enter Tryz.func97, Tryz.ntmps97
  refine wp_seq (rg_lit ?_)
  refine was (v := .slice none 0 0) ?_
  refine wnil (then_n (wp_seq (wp_seq (rg_lit ?_))))
  refine wmv (v := .pointer (some ⟨tb, 0, none⟩)) ?_
  refine wl (sv (w' := w) rfl (v := .bool false) (by kernel_rfl) ?_)
  refine wnil (then_n ?_)
  refine wp_cond_false (by kernel_rfl) ?_
  refine wp_skip (then_n (wp_seq (wp_seq (rg_lit ?_))))
  refine wmv (v := .pointer (some ⟨tb, 0, none⟩)) ?_
  refine wl (sv rfl (v := .pointer (some ⟨tb, 0, none⟩)) (r_nilCheck (by kernel_rfl)) ?_)
  refine wl (sv rfl (v := .pointer (some ⟨tb, 0, none⟩)) (r_fieldAddr (u := .pointer (some ⟨tb, 0, none⟩)) (by kernel_rfl) (fun _ => (by kernel_rfl))) ?_)
  refine wl (sv rfl (v := .map (some r)) (r_load (k := 0) (by kernel_rfl) Ty.ag106 h.1 (by kernel_rfl)) ?_)
  refine wl (sc rfl (r_callv (caps := []) (all := [.map (some r)]) En.f149 (by kernel_rfl) (by kernel_rfl)) (mkeys_at r) ?_)
  rintro e w1 ⟨b2, rfl, h3, u4⟩
  refine ⟨.func (.func 180) #[] #[.pointer (some ⟨b2, 0, none⟩)], rfl, ?_⟩
  have M5 := Mod.trans (Mod.refl [] w) (Mod.of_up u4)
  have h6 := (TreeIs.up h (Mod.up M5))
  refine wl (sc rfl (r_callv (caps := []) (all := [.func (.func 180) #[] #[.pointer (some ⟨b2, 0, none⟩)], .func (.func 137) #[] #[]]) En.f135 (by kernel_rfl) (by kernel_rfl)) (sorted_sl h6 h3) ?_)
  rintro e w7 ⟨A8, c9, rfl, h10, u11⟩
  refine ⟨.slice A8 L.length c9, rfl, ?_⟩
  have M12 := Mod.trans M5 (Mod.of_up u11)
  refine wl (sv rfl (v := .int .i64 (L.length : Int)) (r_len Ty.un95 (ad := A8) (n := L.length) (c := c9) (by kernel_rfl)) ?_)
  refine wmv (v := .int .i64 0) ?_
  refine wnil (then_n (wp_block ?_))
  have h13 := md_ob M12 nin0 h.1
  have h14 := md_ob M12 nin0 hr
  have h15 := (TreeIs.up h (Mod.up M12))
  have h16 := ((Below.cell u11 (World.block_lt_of_cell? _ _ h3)).trans h3)
  refine lp (fun n a r1 => ∃ (k : Nat) (oA : Option Addr) (on : Nat) (oc : Nat) (z6 z7 z18 z19 z20 z21 z22 z23 z24 z25 z26 z27 z28 z29 z30 z31 z32 z33 z34 z35 : Value), (n = L.length - k) ∧ (a = ⟨#[.pointer (some ⟨tb, 0, none⟩), .func (.func 100) #[] #[], undef, undef, .slice oA on oc, undef, z6, z7, .pointer (some ⟨tb, 0, none⟩), .bool false, .pointer (some ⟨tb, 0, none⟩), .pointer (some ⟨tb, 0, none⟩), .pointer (some ⟨tb, 0, none⟩), .map (some r), .func (.func 180) #[] #[.pointer (some ⟨b2, 0, none⟩)], .slice A8 L.length c9, .int .i64 (L.length : Int), .int .i64 (k : Int), z18, z19, z20, z21, z22, z23, z24, z25, z26, z27, z28, z29, z30, z31, z32, z33, z34, z35, undef], []⟩) ∧ (Mod [] w7 r1) ∧ (k ≤ L.length) ∧ (IRow 42 B w7.heap.size r1 (.slice oA on oc) (L.take k))) ⟨_, 0, none, 0, 0, undef, undef, undef, undef, undef, undef, undef, undef, undef, undef, undef, undef, undef, undef, undef, undef, undef, undef, undef, undef, rfl, (by kernel_rfl), Mod.refl _ _, Nat.zero_le _, IRow.nil _ _ _ _⟩ ?_
  rintro _ _ r1 ⟨k, oA, on, oc, z6, z7, z18, z19, z20, z21, z22, z23, z24, z25, z26, z27, z28, z29, z30, z31, z32, z33, z34, z35, rfl, rfl, hM1, hF1_0, hF1_1⟩
  have M17 := Mod.thin M12 hM1 (by simp)
  refine wp_seq (rg_lit ?_)
  refine wl (sb rfl (r_lt (k := .i64) (m := (k : Int)) (n := (L.length : Int)) (by kernel_rfl) (by kernel_rfl)) ?_)
  intro b18 k19
  refine wnil (then_n (wp_seq ?_))
  refine bcase b18 (fun v20 => ?_) (fun v20 => ?_)
  ·
   have p21 := of_decide_eq_false (k19.trans v20)
   refine wp_cond_false (ebool (b := b18) (by kernel_rfl) v20) ?_
   refine wp_exit (then_x (by nofun) (then_x (by nofun) (inb_hit (then_n (wp_seq (rg_lit ?_))))))
   refine wmv (v := .slice oA on oc) ?_
   refine was (v := .slice oA on oc) ?_
   refine wnil (then_n (wp_ret ?_))
   refine bodyPost_ret (v := .slice oA on oc) (res1 rfl (rv_t (by kernel_rfl))) (by kernel_rfl) ?_
   refine ⟨_, rfl, ?_, (Mod.up M17)⟩
   have hk : L.take k = L := List.take_of_length_le (by omega)
   rw [hk] at hF1_1; exact IRow.base hF1_1 M12.size
  have p21 := of_decide_eq_true (k19.trans v20)
  have q22 : k < L.length := by omega
  have q23 : k < L.length := by omega
  refine wp_cond_true (ebool (b := b18) (by kernel_rfl) v20) ?_
  refine wp_skip (then_n (wp_seq (wp_block (wp_seq (rg_lit ?_)))))
  have h24 := (SRow.up h10 (Mod.up hM1))
  obtain ⟨x25, hx25⟩ : ∃ x, L[k]? = some x := ⟨_, List.getElem?_eq_getElem q23⟩
  obtain ⟨g25, hA25, hl25, hc25, hd25⟩ := SRow.item h24 hx25
  refine wl (sv rfl (v := .pointer (some ⟨g25, k * 2, none⟩)) (r_ixaddr' (A := A8) (b := g25) (o := 0) (n := L.length) (c := c9) (sz := 2) (j := (k : Int)) (m := k * 2) (by kernel_rfl) hA25 (by kernel_rfl) Ty.un95 Ty.sz24 (by omega) (by omega) (by simp)) ?_)
  refine wl (sv rfl (v := .agg #[.int .i64 x25.node.t, .int .i64 x25.node.w]) (r_loadc2 (by kernel_rfl) Ty.ag24 Ty.sz24 hc25 hd25) ?_)
  refine wl (sn rfl (cs := #[.int .i64 0, .int .i64 0]) (T := 24) (V := fun b => .pointer (some ⟨b, 0, none⟩)) (r_alloc Ty.zv24 rfl) ?_)
  intro b26 w27 e28 h29 u30
  have h31 := md_ob M17 nin0 h.1
  have l32 : tb < b26 := by rw [e28]; exact lt_ob h31
  have h33 := md_ob M17 nin0 hr
  have l34 : r < b26 := by rw [e28]; exact lt_ob h33
  have n35 := hF1_1.ne_fresh e28
  have g36 : w.heap.size ≤ b26 := by rw [e28]; exact M17.size
  have g37 : w7.heap.size ≤ b26 := by rw [e28]; exact hM1.size
  have M38 := Mod.trans M17 (Mod.of_up u30)
  have M39 := Mod.trans hM1 (Mod.of_up u30)
  refine wl (ss rfl (k := 0) (v := .agg #[.int .i64 x25.node.t, .int .i64 x25.node.w]) (vs := [.int .i64 x25.node.t, .int .i64 x25.node.w]) (cs' := [.int .i64 x25.node.t, .int .i64 x25.node.w]) (by kernel_rfl) (by kernel_rfl) rfl Ty.sz24 h29 rfl (Nat.le_of_ble_eq_true rfl) rfl ?_)
  intro w40 h41 c42
  have M43 := Mod.trans' M38 c42 (fun i hi => by injection hi with hi; rw [← hi]; exact g36)
  have M44 := Mod.trans' M39 c42 (fun i hi => by injection hi with hi; rw [← hi]; exact g37)
  refine wnil (then_n (wp_seq ?_))
  refine rg_held [] (n := 8) (by kernel_rfl) rfl ?_
  intro w45 u46
  have M47 := Mod.trans M43 (Mod.of_up u46)
  have M48 := Mod.trans M44 (Mod.of_up u46)
  refine hvq (i := 0) (fuel := 7) rfl (fun _ _ _ h => h) (Mod.refl _ _) rfl (v := .pointer (some ⟨tb, 0, none⟩)) (fun _ _ => r_move (by kernel_rfl)) ?_
  refine hvq (i := 1) (fuel := 6) rfl (fun _ _ _ h => h) (Mod.refl _ _) rfl (v := .pointer (some ⟨tb, 0, none⟩)) (fun _ _ => r_nilCheck (by kernel_rfl)) ?_
  refine hvq (i := 2) (fuel := 5) rfl (fun _ _ _ h => h) (Mod.refl _ _) rfl (v := .pointer (some ⟨tb, 0, none⟩)) (fun _ _ => r_fieldAddr (u := .pointer (some ⟨tb, 0, none⟩)) (by kernel_rfl) (fun _ => (by kernel_rfl))) ?_
  have h49 := md_ob M47 nin0 h.1
  refine hvq (i := 3) (fuel := 4) rfl (fun _ _ _ h => h) (Mod.refl _ _) rfl (v := .map (some r)) (fun _ uz => r_load (k := 0) (by kernel_rfl) Ty.ag106 (md_ob uz nin0 h49) (by kernel_rfl)) ?_
  have h50 := (up_ob u46 h41)
  refine hvq (i := 4) (fuel := 3) rfl (fun _ _ _ h => h) (Mod.refl _ _) rfl (v := .agg #[.int .i64 x25.node.t, .int .i64 x25.node.w]) (fun _ uz => r_loads (k := 0) (by kernel_rfl) Ty.ag24 Ty.sz24 (md_ob uz nin0 h50) (by kernel_rfl)) ?_
  have h51 := (TreeIs.up h (Mod.up M47))
  obtain ⟨d52, hd52, hl52⟩ := h51.2.2.2.1.look ⟨x25.node.t, x25.node.w⟩
  have hg52 : gotI L ⟨x25.node.t, x25.node.w⟩ = x25 := gotI_idx hsrt hx25
  rw [hg52] at hd52 hl52
  obtain ⟨dA52, dn52, dc52, rfl⟩ := hd52.form
  refine hvq (i := 5) (fuel := 2) rfl (fun _ _ _ h => h) (Mod.refl _ _) rfl (v := itV x25 (.slice dA52 dn52 dc52)) (fun wz uz => r_look (mv := .map (some r)) (kv := .agg #[.int .i64 x25.node.t, .int .i64 x25.node.w]) (by kernel_rfl) (by kernel_rfl) (hl52 wz (uz.block _ h51.2.2.2.1.lt nin0)).2) ?_
  refine h1 (i := 6) (fuel := 1) (by kernel_rfl) rfl (sn rfl (cs := #[.int .i64 0, .int .i64 0, .int .i64 0, .int .i64 0, .string (⟨#[]⟩), .bool false, .bool false, .slice none 0 0, .int .i64 0, .int .i64 0]) (T := 42) (V := fun b => .pointer (some ⟨b, 0, none⟩)) (r_alloc Ty.zv42 rfl) ?_)
  intro b53 w54 e55 h56 u57
  have l58 : tb < b53 := by rw [e55]; exact lt_ob h49
  have h59 := md_ob M47 nin0 hr
  have l60 : r < b53 := by rw [e55]; exact lt_ob h59
  have l61 : b26 < b53 := by rw [e55]; exact lt_ob h50
  have h62 := (IRow.up (IRow.chgn (IRow.up hF1_1 u30) c42 ⟨(Nat.le_trans hB g36), NotU8.of h29 (by decide)⟩ n35) u46)
  have n63 := h62.ne_fresh e55
  have g64 : w.heap.size ≤ b53 := by rw [e55]; exact M47.size
  have g65 : w7.heap.size ≤ b53 := by rw [e55]; exact M48.size
  have M66 := Mod.trans M47 (Mod.of_up u57)
  have M67 := Mod.trans M48 (Mod.of_up u57)
  refine hx (Y := [b53]) (Mod.of_up u57) (ynew e55) ?_
  refine h1 (i := 7) (fuel := 0) (by kernel_rfl) rfl (ss rfl (k := 0) (v := itV x25 (.slice dA52 dn52 dc52)) (vs := (itC x25 (.slice dA52 dn52 dc52))) (cs' := (itC x25 (.slice dA52 dn52 dc52))) (by kernel_rfl) (by kernel_rfl) rfl Ty.sz42 h56 rfl (Nat.le_of_ble_eq_true rfl) rfl ?_)
  intro w68 h69 c70
  have M71 := Mod.trans' M66 c70 (fun i hi => by injection hi with hi; rw [← hi]; exact g64)
  have M72 := Mod.trans' M67 c70 (fun i hi => by injection hi with hi; rw [← hi]; exact g65)
  refine hx (Y := [b53]) (Mod.of_chg c70 (by simp)) (fun y hy => .inl hy) ?_
  refine hend (by kernel_rfl) ?_
  refine then_n (wp_seq (rg_lit ?_))
  refine wmv (v := .func (.func 100) #[] #[]) ?_
  refine wl (sv rfl (v := itV x25 (.slice dA52 dn52 dc52)) (r_loads (k := 0) (by kernel_rfl) Ty.ag42 Ty.sz42 h69 (by kernel_rfl)) ?_)
  refine wl (sc rfl (r_callv (caps := []) (all := [itV x25 (.slice dA52 dn52 dc52)]) En.f100 (by kernel_rfl) (by kernel_rfl)) (all1_at x25 _ _ _) ?_)
  rintro e w73 ⟨rfl, u74⟩
  refine ⟨.bool true, rfl, ?_⟩
  have M75 := Mod.trans M71 (Mod.of_up u74)
  have M76 := Mod.trans M72 (Mod.of_up u74)
  refine wnil (then_n ?_)
  refine wp_cond_true (by kernel_rfl) ?_
  refine rg_lit ?_
  refine wmv (v := .slice oA on oc) ?_
  have h77 := (up_ob u74 h69)
  refine wl (sv rfl (v := itV x25 (.slice dA52 dn52 dc52)) (r_loads (k := 0) (by kernel_rfl) Ty.ag42 Ty.sz42 h77 (by kernel_rfl)) ?_)
  have h78 := (Dat.up (Dat.chg (Dat.up hd52 u57) c70 ⟨(Nat.le_trans hB g64), NotU8.of h56 (by decide)⟩) u74)
  refine wl (sc rfl (r_callv (caps := []) (all := [itV x25 (.slice dA52 dn52 dc52)]) En.f65 (by kernel_rfl) (by kernel_rfl)) (own_sl (Nat.le_trans hB M75.size) h78) ?_)
  rintro e w79 ⟨A80, n81, c82, rfl, h83, u84⟩
  refine ⟨itV x25 (.slice A80 n81 c82), rfl, ?_⟩
  have M85 := Mod.trans M75 (Mod.of_up u84)
  have M86 := Mod.trans M76 (Mod.of_up u84)
  refine wl (sn rfl (cs := (itC x25 (.slice A80 n81 c82)).toArray) (T := 42) (V := fun b => .slice (some ⟨b, 0, none⟩) 1 1) (r_buildSlice (n := 1) (ps := [(0, itV x25 (.slice A80 n81 c82))]) Ty.un74 Ty.sz42 Ty.zv42 (by decide) (by decide) (by kernel_rfl) (by kernel_rfl)) ?_)
  intro b87 w88 e89 h90 u91
  have h92 := md_ob M85 nin0 h.1
  have l93 : tb < b87 := by rw [e89]; exact lt_ob h92
  have h94 := md_ob M85 nin0 hr
  have l95 : r < b87 := by rw [e89]; exact lt_ob h94
  have h96 := (up_ob u84 (up_ob u74 (chg_ob c70 (Nat.ne_of_lt l61) (up_ob u57 h50))))
  have l97 : b26 < b87 := by rw [e89]; exact lt_ob h96
  have h98 := (up_ob u84 h77)
  have l99 : b53 < b87 := by rw [e89]; exact lt_ob h98
  have h100 := (IRow.up (IRow.up (IRow.chgn (IRow.up h62 u57) c70 ⟨(Nat.le_trans hB g64), NotU8.of h56 (by decide)⟩ n63) u74) u84)
  have n101 := h100.ne_fresh e89
  have g102 : w.heap.size ≤ b87 := by rw [e89]; exact M85.size
  have g103 : w7.heap.size ≤ b87 := by rw [e89]; exact M86.size
  have M104 := Mod.trans M85 (Mod.of_up u91)
  have M105 := Mod.trans M86 (Mod.of_up u91)
  have h106 := (IRow.up h100 u91)
  have h107 := (Dat.up h83 u91)
  refine wl (snI rfl (L := (L.take k)) (x := x25) (e := .slice A80 n81 c82) (by kernel_rfl) (by kernel_rfl) h106 Ty.un74 hi_p hz_p hs_p hb_p hc_p h90 h107 (by decide) (Nat.le_trans hB M12.size) M105.size (by simp; omega) ?_)
  intro A108 n109 c110 w111 e112 h113 u114
  have M115 := Mod.trans' M104 u114 (fun k hk => Nat.le_trans M12.size (h106.own k hk).1)
  have M116 := Mod.trans' M105 u114 (fun k hk => Nat.le_trans (Nat.le_refl _) (h106.own k hk).1)
  refine was (v := .slice A108 n109 c110) ?_
  refine wnil (inb_n (then_n (rg_lit ?_)))
  refine wl (sv rfl (v := .int .i64 ((k : Int) + 1)) (r_add (k := .i64) (m := (k : Int)) (n := 1) (by kernel_rfl) (by kernel_rfl) (IntWalk.i64_in _ (by omega))) ?_)
  refine wmv (v := .int .i64 ((k : Int) + 1)) ?_
  refine wnil (then_n ?_)
  refine ⟨L.length - (k + 1), ?_, (k + 1), A108, n109, c110, .pointer (some ⟨b26, 0, none⟩), .pointer (some ⟨b53, 0, none⟩), .bool b18, .pointer (some ⟨g25, k * 2, none⟩), .agg #[.int .i64 x25.node.t, .int .i64 x25.node.w], .pointer (some ⟨tb, 0, none⟩), .pointer (some ⟨tb, 0, none⟩), .pointer (some ⟨tb, 0, none⟩), .map (some r), .agg #[.int .i64 x25.node.t, .int .i64 x25.node.w], itV x25 (.slice dA52 dn52 dc52), .func (.func 100) #[] #[], itV x25 (.slice dA52 dn52 dc52), .bool true, .slice oA on oc, itV x25 (.slice dA52 dn52 dc52), itV x25 (.slice A80 n81 c82), .slice (some ⟨b87, 0, none⟩) 1 1, .slice A108 n109 c110, .int .i64 ((k : Int) + 1), rfl, (by kernel_rfl), M116, (by omega), (by rw [tk hx25]; exact h113)⟩
  · omega
end Go.Proofs.YtefhfoioeoijlaaGreatDoor
set_option linter.unusedVariables false
set_option linter.unusedSimpArgs false
namespace Go.Proofs.YtefhfoioeoijlaaGreatDoor
open Go Go.RowKit Go.Sort
set_option maxHeartbeats 2000000 in
theorem all_at {B : Nat} {w : World} {tb r : Nat} {L : List Item} (h : TreeIs B w tb r L) (hB : B ≤ w.heap.size) : Calls Tryz.prog 41 #[trP tb] w fun e w' => ∃ v, e = .returned v ∧ IRow 42 B w.heap.size w' v L ∧ Up w w' := by
  go_enter Tryz.func41, Tryz.ntmps41
  refine wp_seq (rg_lit ?_)
  refine was (v := .slice none 0 0) ?_
  refine wnil (then_n (wp_seq (rg_lit ?_)))
  refine wmv (v := .pointer (some ⟨tb, 0, none⟩)) ?_
  refine wl (sc rfl (r_callv (caps := []) (all := [.pointer (some ⟨tb, 0, none⟩), .func (.func 100) #[] #[]]) En.f97 (by kernel_rfl) (by kernel_rfl)) (row_sl (some_all_at h (Nat.le_trans hB (Mod.refl [] w).size))) ?_)
  rintro e w1 ⟨A2, c3, rfl, h4, u5⟩
  refine ⟨.slice A2 L.length c3, rfl, ?_⟩
  have M6 := Mod.trans (Mod.refl [] w) (Mod.of_up u5)
  refine was (v := .slice A2 L.length c3) ?_
  refine wnil (then_n (wp_ret ?_))
  refine bodyPost_ret (v := .slice A2 L.length c3) (res1 rfl (rv_t (by kernel_rfl))) (by kernel_rfl) ?_
  exact ⟨_, rfl, IRow.base h4 (by first | exact Nat.le_refl _ | exact M6.size), (Mod.up M6)⟩
end Go.Proofs.YtefhfoioeoijlaaGreatDoor
set_option linter.unusedVariables false
set_option linter.unusedSimpArgs false
namespace Go.Proofs.YtefhfoioeoijlaaGreatDoor
open Go Go.RowKit Go.Sort
set_option maxHeartbeats 2000000 in
theorem light2_at {w : World} {lA : Option Addr} {lc : Nat} {os : List OpD} (h : OpRow0 w lA os) (hn : os.length ≤ 9223372036854775807) (m : Int) : Calls Tryz.prog 13 #[.slice lA os.length lc, .int .i64 m] w fun e w' => ∃ b, e = .returned (.bool b) ∧ (b = true → Small os ∧ (os.length : Int) ≤ m) ∧ Up w w' := by
  go_enter Tryz.func13, Tryz.ntmps13
  refine wp_seq (rg_lit ?_)
  refine was (v := .bool false) ?_
  refine wnil (then_n (wp_seq (wp_seq (rg_lit ?_))))
  refine wmv (v := .slice lA os.length lc) ?_
  refine wl (sv rfl (v := .int .i64 (os.length : Int)) (r_len Ty.un22 (ad := lA) (n := os.length) (c := lc) (by kernel_rfl)) ?_)
  refine wmv (v := .int .i64 m) ?_
  refine wl (sb rfl (r_gt (k := .i64) (m := (os.length : Int)) (n := m) (by kernel_rfl) (by kernel_rfl)) ?_)
  intro b1 k2
  refine wnil (then_n ?_)
  refine bcase b1 (fun v3 => ?_) (fun v3 => ?_)
  ·
   have p4 := of_decide_eq_false (k2.trans v3)
   refine wp_cond_false (ebool (b := b1) (by kernel_rfl) v3) ?_
   refine wp_skip (then_n (wp_seq (wp_seq (rg_lit ?_))))
   refine was (v := .int .i64 0) ?_
   refine wnil (then_n (wp_block ?_))
   refine lp (fun n a r1 => ∃ (k : Nat) (z4 z10 z11 z12 z13 z14 z15 z16 z17 z18 z19 z20 z21 z22 z23 z24 z25 z26 z27 z28 z29 z30 z31 : Value), (n = os.length - k) ∧ (a = ⟨#[.slice lA os.length lc, .int .i64 m, undef, undef, z4, .int .i64 (k : Int), .slice lA os.length lc, .int .i64 (os.length : Int), .int .i64 m, .bool b1, z10, z11, z12, z13, z14, z15, z16, z17, z18, z19, z20, z21, z22, z23, z24, z25, z26, z27, z28, z29, z30, z31], []⟩) ∧ (Mod [] w r1) ∧ (k ≤ os.length) ∧ (Hid (∀ (i : Nat) (o : OpD), i < k → os[i]? = some o → o.data.length ≤ 500))) ⟨_, 0, .bool false, undef, undef, undef, undef, undef, undef, undef, undef, undef, undef, undef, undef, undef, undef, undef, undef, undef, undef, undef, undef, undef, undef, rfl, (by kernel_rfl), Mod.refl _ _, Nat.zero_le _, (fun i o hi => absurd hi (Nat.not_lt_zero _))⟩ ?_
   rintro _ _ r1 ⟨k, z4, z10, z11, z12, z13, z14, z15, z16, z17, z18, z19, z20, z21, z22, z23, z24, z25, z26, z27, z28, z29, z30, z31, rfl, rfl, hM1, hF1_0, hF1_1⟩
   have M5 := Mod.thin (Mod.refl [] w) hM1 (by simp)
   refine wp_seq (wp_seq (rg_lit ?_))
   refine wmv (v := .int .i64 (k : Int)) ?_
   refine wmv (v := .slice lA os.length lc) ?_
   refine wl (sv rfl (v := .int .i64 (os.length : Int)) (r_len Ty.un22 (ad := lA) (n := os.length) (c := lc) (by kernel_rfl)) ?_)
   refine wl (sb rfl (r_lt (k := .i64) (m := (k : Int)) (n := (os.length : Int)) (by kernel_rfl) (by kernel_rfl)) ?_)
   intro b6 k7
   refine wnil (then_n ?_)
   refine bcase b6 (fun v8 => ?_) (fun v8 => ?_)
   ·
    have p9 := of_decide_eq_false (k7.trans v8)
    refine wp_cond_false (ebool (b := b6) (by kernel_rfl) v8) ?_
    refine wp_exit (then_x (by nofun) (then_x (by nofun) (inb_hit (then_n (wp_seq (rg_lit ?_))))))
    refine was (v := .bool true) ?_
    refine wnil (then_n (wp_ret ?_))
    refine bodyPost_ret (v := .bool true) (res1 rfl (rv_t (by kernel_rfl))) (by kernel_rfl) ?_
    exact ⟨_, rfl, fun _ => ⟨light_end hF1_1 (by omega), by omega⟩, (Mod.up M5)⟩
   have p9 := of_decide_eq_true (k7.trans v8)
   have q10 : k < os.length := by omega
   have q11 : k < os.length := by omega
   refine wp_cond_true (ebool (b := b6) (by kernel_rfl) v8) ?_
   refine wp_skip (then_n (wp_seq (wp_block (wp_seq (rg_lit ?_)))))
   refine wmv (v := .slice lA os.length lc) ?_
   refine wmv (v := .int .i64 (k : Int)) ?_
   have h12 := (OpRow0.up h (Mod.up M5))
   obtain ⟨o13, ho13⟩ : ∃ x, os[k]? = some x := ⟨_, List.getElem?_eq_getElem q11⟩
   obtain ⟨g13, f13, oA13, on13, oc13, hA13, hl13, hc13, hD13, hs13⟩ := h12 k o13 ho13
   refine wl (sv rfl (v := .pointer (some ⟨g13, f13 + k * 10, none⟩)) (r_ixaddr' (A := lA) (b := g13) (o := f13) (n := os.length) (c := lc) (sz := 10) (j := (k : Int)) (m := f13 + k * 10) (by kernel_rfl) hA13 (by kernel_rfl) Ty.un22 Ty.sz49 (by omega) (by omega) (by simp)) ?_)
   refine wl (sv rfl (v := .pointer (some ⟨g13, f13 + k * 10 + 8, none⟩)) (r_fieldAddr (u := .pointer (some ⟨g13, f13 + k * 10, none⟩)) (by kernel_rfl) (fun _ => (by kernel_rfl))) ?_)
   refine wl (sv rfl (v := .string o13.name) (r_loadc (by kernel_rfl) Ty.ag9 (hc13 8 _ rfl)) ?_)
   refine wl (sv rfl (v := .int .i64 (o13.name.size : Int)) (r_lens Ty.un9 (s := o13.name) (by kernel_rfl)) ?_)
   refine wl (sb rfl (r_gt (k := .i64) (m := (o13.name.size : Int)) (n := 40) (by kernel_rfl) (by kernel_rfl)) ?_)
   intro b14 k15
   refine wmv (v := .bool b14) ?_
   refine bcase b14 (fun v16 => ?_) (fun v16 => ?_)
   ·
    have p17 := of_decide_eq_false (k15.trans v16)
    refine wl (sv (wt (b := b14) rfl (by kernel_rfl) v16) (v := .slice lA os.length lc) (r_move (by kernel_rfl)) ?_)
    refine wl (sv (wt (b := b14) rfl (by kernel_rfl) v16) (v := .int .i64 (k : Int)) (r_move (by kernel_rfl)) ?_)
    obtain ⟨g18, f18, oA18, on18, oc18, hA18, hl18, hc18, hD18, hs18⟩ := h12 k o13 ho13
    refine wl (sv (wt (b := b14) rfl (by kernel_rfl) v16) (v := .pointer (some ⟨g18, f18 + k * 10, none⟩)) (r_ixaddr' (A := lA) (b := g18) (o := f18) (n := os.length) (c := lc) (sz := 10) (j := (k : Int)) (m := f18 + k * 10) (by kernel_rfl) hA18 (by kernel_rfl) Ty.un22 Ty.sz49 (by omega) (by omega) (by simp)) ?_)
    refine wl (sv (wt (b := b14) rfl (by kernel_rfl) v16) (v := .pointer (some ⟨g18, f18 + k * 10 + 9, none⟩)) (r_fieldAddr (u := .pointer (some ⟨g18, f18 + k * 10, none⟩)) (by kernel_rfl) (fun _ => (by kernel_rfl))) ?_)
    refine wl (sv (wt (b := b14) rfl (by kernel_rfl) v16) (v := .slice oA18 on18 oc18) (r_loadc (by kernel_rfl) Ty.ag40 (hc18 9 _ rfl)) ?_)
    refine wl (sv (wt (b := b14) rfl (by kernel_rfl) v16) (v := .int .i64 (on18 : Int)) (r_len Ty.un40 (ad := oA18) (n := on18) (c := oc18) (by kernel_rfl)) ?_)
    refine wl (sb (wt (b := b14) rfl (by kernel_rfl) v16) (r_gt (k := .i64) (m := (on18 : Int)) (n := 500) (by kernel_rfl) (by kernel_rfl)) ?_)
    intro b19 k20
    refine wl (sv rfl (v := .bool b19) (r_pkF (ebool (b := b14) (by kernel_rfl) v16) (by kernel_rfl)) ?_)
    refine wnil (then_n ?_)
    refine bcase b19 (fun v21 => ?_) (fun v21 => ?_)
    ·
     have p22 := of_decide_eq_false (k20.trans v21)
     refine wp_cond_false (ebool (b := b19) (by kernel_rfl) v21) ?_
     refine wp_skip (inb_n (then_n (rg_lit ?_)))
     refine wmv (v := .int .i64 (k : Int)) ?_
     refine wl (sv rfl (v := .int .i64 ((k : Int) + 1)) (r_add (k := .i64) (m := (k : Int)) (n := 1) (by kernel_rfl) (by kernel_rfl) (IntWalk.i64_in _ (by omega))) ?_)
     refine was (v := .int .i64 ((k : Int) + 1)) ?_
     refine wnil (then_n ?_)
     refine ⟨os.length - (k + 1), ?_, (k + 1), z4, .int .i64 (k : Int), .slice lA os.length lc, .int .i64 (os.length : Int), .bool b6, .int .i64 (k : Int), .int .i64 ((k : Int) + 1), .slice lA os.length lc, .int .i64 (k : Int), .pointer (some ⟨g13, f13 + k * 10, none⟩), .pointer (some ⟨g13, f13 + k * 10 + 8, none⟩), .string o13.name, .int .i64 (o13.name.size : Int), .bool b14, .bool b14, .slice lA os.length lc, .int .i64 (k : Int), .pointer (some ⟨g18, f18 + k * 10, none⟩), .pointer (some ⟨g18, f18 + k * 10 + 9, none⟩), .slice oA18 on18 oc18, .int .i64 (on18 : Int), .bool b19, .bool b19, rfl, (by kernel_rfl), hM1, (by omega), (light_next hF1_1 ho13 hD18 p22)⟩
     · omega
    have p22 := of_decide_eq_true (k20.trans v21)
    refine wp_cond_true (ebool (b := b19) (by kernel_rfl) v21) ?_
    refine wp_seq (rg_lit ?_)
    refine was (v := .bool false) ?_
    refine wnil (then_n (wp_ret (inb_r (then_x (by nofun) (then_x (by nofun) (inb_r (then_x (by nofun) ?_)))))))
    refine bodyPost_ret (v := .bool false) (res1 rfl (rv_t (by kernel_rfl))) (by kernel_rfl) ?_
    exact ⟨_, rfl, fun h => (by cases h), (Mod.up M5)⟩
   have p17 := of_decide_eq_true (k15.trans v16)
   refine wl (sp (wf (b := b14) rfl (by kernel_rfl) v16) ?_)
   refine wl (sp (wf (b := b14) rfl (by kernel_rfl) v16) ?_)
   refine wl (sp (wf (b := b14) rfl (by kernel_rfl) v16) ?_)
   refine wl (sp (wf (b := b14) rfl (by kernel_rfl) v16) ?_)
   refine wl (sp (wf (b := b14) rfl (by kernel_rfl) v16) ?_)
   refine wl (sp (wf (b := b14) rfl (by kernel_rfl) v16) ?_)
   refine wl (sp (wf (b := b14) rfl (by kernel_rfl) v16) ?_)
   refine wl (sv rfl (v := .bool true) (r_pkT (ebool (b := b14) (by kernel_rfl) v16) (by kernel_rfl)) ?_)
   refine wnil (then_n ?_)
   refine wp_cond_true (by kernel_rfl) ?_
   refine wp_seq (rg_lit ?_)
   refine was (v := .bool false) ?_
   refine wnil (then_n (wp_ret (inb_r (then_x (by nofun) (then_x (by nofun) (inb_r (then_x (by nofun) ?_)))))))
   refine bodyPost_ret (v := .bool false) (res1 rfl (rv_t (by kernel_rfl))) (by kernel_rfl) ?_
   exact ⟨_, rfl, fun h => (by cases h), (Mod.up M5)⟩
  have p4 := of_decide_eq_true (k2.trans v3)
  refine wp_cond_true (ebool (b := b1) (by kernel_rfl) v3) ?_
  refine wp_seq (rg_lit ?_)
  refine was (v := .bool false) ?_
  refine wnil (then_n (wp_ret (then_x (by nofun) ?_)))
  refine bodyPost_ret (v := .bool false) (res1 rfl (rv_t (by kernel_rfl))) (by kernel_rfl) ?_
  exact ⟨_, rfl, fun h => (by cases h), (Mod.up (Mod.refl [] w))⟩
end Go.Proofs.YtefhfoioeoijlaaGreatDoor
namespace Go.Proofs
open Go.Shelf
def Tryz.lays190_ren : Go.Shelf.Ren := ⟨fun | 190 => 112 | 125 => 160 | 258 => 159 | 128 => 198 | 129 => 199 | 302 => 189 | 303 => 190 | 304 => 191 | 305 => 192 | 306 => 193 | 307 => 194 | 308 => 195 | 309 => 196 | 310 => 197 | 333 => 225 | 329 => 226 | 330 => 227 | 334 => 228 | 335 => 229 | 336 => 119 | 344 => 250 | n => n, fun | 31 => 69 | 9 => 9 | 3 => 3 | 46 => 204 | 0 => 0 | 51 => 235 | 53 => 218 | 4 => 4 | 183 => 228 | 182 => 227 | 131 => 232 | 5 => 5 | 218 => 261 | 222 => 265 | 228 => 274 | 229 => 275 | n => n, fun | n => n⟩
theorem Tryz.lays190 : Go.Proofs.Lays.n190 Tryz.prog Tryz.lays190_ren := {
  mixed := by kernel_rfl
  f125 := Tryz.func160.trans (congrArg some (by kernel_rfl))
  f128 := Tryz.func198.trans (congrArg some (by kernel_rfl))
  f129 := Tryz.func199.trans (congrArg some (by kernel_rfl))
  f190 := Tryz.func112.trans (congrArg some (by kernel_rfl))
  f258 := Tryz.func159.trans (congrArg some (by kernel_rfl))
  f302 := Tryz.func189.trans (congrArg some (by kernel_rfl))
  f303 := Tryz.func190.trans (congrArg some (by kernel_rfl))
  f304 := Tryz.func191.trans (congrArg some (by kernel_rfl))
  f305 := Tryz.func192.trans (congrArg some (by kernel_rfl))
  f306 := Tryz.func193.trans (congrArg some (by kernel_rfl))
  f307 := Tryz.func194.trans (congrArg some (by kernel_rfl))
  f308 := Tryz.func195.trans (congrArg some (by kernel_rfl))
  f309 := Tryz.func196.trans (congrArg some (by kernel_rfl))
  f310 := Tryz.func197.trans (congrArg some (by kernel_rfl))
  f329 := Tryz.func226.trans (congrArg some (by kernel_rfl))
  f330 := Tryz.func227.trans (congrArg some (by kernel_rfl))
  f333 := Tryz.func225.trans (congrArg some (by kernel_rfl))
  f334 := Tryz.func228.trans (congrArg some (by kernel_rfl))
  f335 := Tryz.func229.trans (congrArg some (by kernel_rfl))
  f336 := Tryz.func119.trans (congrArg some (by kernel_rfl))
  f344 := Tryz.func250.trans (congrArg some (by kernel_rfl))
  t0 := Tryz.underlying0
  a0 := Tryz.isAgg0
  z0 := Tryz.sizeOf0
  v0 := Tryz.zeroValue0
  t3 := Tryz.underlying3
  a3 := Tryz.isAgg3
  z3 := Tryz.sizeOf3
  v3 := Tryz.zeroValue3
  t4 := Tryz.underlying4
  a4 := Tryz.isAgg4
  z4 := Tryz.sizeOf4
  v4 := Tryz.zeroValue4
  t5 := Tryz.underlying5
  a5 := Tryz.isAgg5
  z5 := Tryz.sizeOf5
  v5 := Tryz.zeroValue5
  t9 := Tryz.underlying9
  a9 := Tryz.isAgg9
  z9 := Tryz.sizeOf9
  v9 := Tryz.zeroValue9
  t31 := Tryz.underlying69
  a31 := Tryz.isAgg69
  z31 := Tryz.sizeOf69
  v31 := Tryz.zeroValue69
  t46 := Tryz.underlying204
  a46 := Tryz.isAgg204
  z46 := Tryz.sizeOf204
  v46 := Tryz.zeroValue204
  t51 := Tryz.underlying235
  a51 := Tryz.isAgg235
  z51 := Tryz.sizeOf235
  v51 := Tryz.zeroValue235
  t53 := Tryz.underlying218
  a53 := Tryz.isAgg218
  z53 := Tryz.sizeOf218
  v53 := Tryz.zeroValue218
  t131 := Tryz.underlying232
  a131 := Tryz.isAgg232
  z131 := Tryz.sizeOf232
  v131 := Tryz.zeroValue232
  t182 := Tryz.underlying227
  a182 := Tryz.isAgg227
  z182 := Tryz.sizeOf227
  v182 := Tryz.zeroValue227
  t183 := Tryz.underlying228
  a183 := Tryz.isAgg228
  z183 := Tryz.sizeOf228
  v183 := Tryz.zeroValue228
  t218 := Tryz.underlying261
  a218 := Tryz.isAgg261
  z218 := Tryz.sizeOf261
  v218 := Tryz.zeroValue261
  t222 := Tryz.underlying265
  a222 := Tryz.isAgg265
  z222 := Tryz.sizeOf265
  v222 := Tryz.zeroValue265
  t228 := Tryz.underlying274
  a228 := Tryz.isAgg274
  z228 := Tryz.sizeOf274
  v228 := Tryz.zeroValue274
  t229 := Tryz.underlying275
  a229 := Tryz.isAgg275
  z229 := Tryz.sizeOf275
  v229 := Tryz.zeroValue275 }
open Go.Sort Go.RowKit in
theorem Tryz.slices_Sort_string (blk off cap : Nat) (ss : List (List UInt8)) (w : World) (hH : Holds encStr w blk off ss.toArray) (hblk : blk < w.heap.size) (hsz : ss.length < 4611686018427387904) :
    Calls Tryz.prog 112 #[.slice (some ⟨blk, off, none⟩) ss.length cap] w fun e w' =>
      e = .returned (.tuple #[]) ∧ ∃ n os, w' = grow (putRow encStr (Sort.ahead w n) blk off (ss.mergeSort fun x y => decide (x ≤ y)).toArray) os := Any.slices_Sort_string Tryz.lays190 blk off cap ss w hH hblk hsz
end Go.Proofs
set_option linter.unusedVariables false
set_option linter.unusedSimpArgs false
namespace Go.Proofs.YtefhfoioeoijlaaGreatDoor
open Go Go.RowKit Go.Sort
theorem BRow.base {base base' : Nat} {w : World} {v : Value} {L : List ByteArray} (h : BRow base w v L) (hb : base' ≤ base) : BRow base' w v L := by
  obtain ⟨h1, h2⟩ := h
  refine ⟨h1, ?_⟩
  rcases h2 with hn | ⟨g, cap, cur, hv, hbg, rest⟩
  · exact .inl hn
  · exact .inr ⟨g, cap, cur, hv, Nat.le_trans hb hbg, rest⟩
end Go.Proofs.YtefhfoioeoijlaaGreatDoor
set_option linter.unusedVariables false
set_option linter.unusedSimpArgs false
namespace Go.Proofs.YtefhfoioeoijlaaGreatDoor
open Go Go.RowKit Go.Sort
theorem splC_join {c : UInt8} : ∀ {t : List (List UInt8)}, t ≠ [] → (∀ x ∈ t, c ∉ x) → splC c (Lib.join t [c]) = t
  | [x], _, h => by rw [Lib.join_one]; exact splC_one (h x (by simp))
  | x :: y :: t, _, h => by
    rw [join_cons2, List.singleton_append, splC_app _ (h x (by simp)), splC_join (by simp) (fun z hz => h z (by simp [hz]))]
theorem bys_data (l : List UInt8) : (bys l).data.toList = l := rfl
theorem splB_join {L : List ByteArray} (hL : L ≠ []) (h : ∀ x ∈ L, (47 : UInt8) ∉ x.data.toList) : splB (joinB L) = L := by
  refine data_inj ?_
  rw [splB_data]
  show splC 47 (Lib.join _ [47]) = _
  refine splC_join (by simpa using hL) (fun x hx => ?_)
  obtain ⟨y, hy, rfl⟩ := List.mem_map.1 hx
  exact h y hy
end Go.Proofs.YtefhfoioeoijlaaGreatDoor
set_option linter.unusedVariables false
set_option linter.unusedSimpArgs false
namespace Go.Proofs.YtefhfoioeoijlaaGreatDoor
open Go Go.RowKit Go.Sort
theorem slash_add (r : ByteArray) : slashB ((⟨#[47]⟩ : ByteArray) ++ r) = true ∧ restB ((⟨#[47]⟩ : ByteArray) ++ r) = r := by
  have h1 : slashB ((⟨#[47]⟩ : ByteArray) ++ r) = ([47] : List UInt8).isPrefixOf (((⟨#[47]⟩ : ByteArray) ++ r).data.toList) := rfl
  have e : ((⟨#[47]⟩ : ByteArray) ++ r).data.toList = 47 :: r.data.toList := by simp
  have h3 : slashB ((⟨#[47]⟩ : ByteArray) ++ r) = true := by rw [h1, e]; simp
  refine ⟨h3, ?_⟩
  have := slash_is h3
  apply ba_ext
  have h4 := congrArg (fun x : ByteArray => x.data.toList) this
  simp at h4
  exact congrArg Array.toList h4.symm
theorem part_not : partB ⟨#[]⟩ = false ∧ partB ⟨#[46]⟩ = false ∧ partB ⟨#[46, 46]⟩ = false := ⟨by kernel_rfl, by kernel_rfl, by kernel_rfl⟩
theorem part_pos {x : ByteArray} (h : partB x = true) : 1 ≤ x.size := by
  rcases Nat.eq_zero_or_pos x.size with e | e
  · have : x = ⟨#[]⟩ := by apply ba_ext; exact List.length_eq_zero_iff.1 (by simpa using e)
    rw [this, part_not.1] at h; cases h
  · exact e
end Go.Proofs.YtefhfoioeoijlaaGreatDoor

/- TrA -/
import Derived.Carry
import Derived.Deep.RegionHeld3
import Derived.Deep.RegionWith
import Derived.Test.YtefhfoioeoijlaaGreatDoorUaa
import Derived.Test.YtefhfoioeoijlaaGreatDoorUab
set_option linter.unusedVariables false
set_option linter.unusedSimpArgs false
namespace Go.Proofs.YtefhfoioeoijlaaGreatDoor
open Go.RowKit Go.Sort
theorem Dat.of_own {B base : Nat} {w : World} {v : Value} {xs : List Int} (h : w.ownsRow base 5 1 v xs.length (xs.map (Value.int .u8))) (hx : ∀ x ∈ xs, 0 ≤ x ∧ x < 256) (hn : xs.length ≤ 140737488351232) : Dat B w v xs := by
  rcases h.2 with ⟨rfl, h0⟩ | ⟨g, cap, cur, rfl, hb, hg, hc, hm, hcs, htk⟩
  · have : xs = [] := List.eq_nil_of_length_eq_zero h0
    subst this
    exact Dat.nil B w
  · refine ⟨some ⟨g, 0, none⟩, xs.length, cap, rfl, rfl, hc, hn, hx, fun h0 => ⟨g, 0, rfl, (Array.getElem?_eq_some_iff.1 hg).1, .inr ⟨cur, (0, 0), hg⟩, fun i hi => ?_⟩⟩
    have h1 : cur.toList[i]? = some (.int .u8 (xs.getD i 0)) := by
      have h2 : (xs.map (Value.int .u8))[i]? = some (.int .u8 (xs.getD i 0)) := by
        rw [List.getElem?_map, List.getElem?_eq_getElem hi]
        simp [List.getD_eq_getElem?_getD, List.getElem?_eq_getElem hi]
      rw [← htk, List.getElem?_take] at h2
      rw [if_pos (by omega)] at h2
      exact h2
    rw [Nat.zero_add]
    simp only [World.cell?, hg]
    rw [← Array.getElem?_toList]
    simpa using h1
theorem clone_any {B : Nat} {w : World} {d : Value} {xs : List Int} (h : Dat B w d xs) :
    Calls Tryz.prog 122 #[d] w fun e w' => ∃ d', e = .returned d' ∧ Dat B w' d' xs ∧ Below w.heap.size w w' := by
  obtain ⟨A, n, c, rfl, h1, h2, h3, h4, h5⟩ := h
  cases A with
  | none =>
    have h0 : n = 0 := by
      rcases Nat.eq_zero_or_pos n with h0 | h0
      · exact h0
      · obtain ⟨b, o, e, _⟩ := h5 h0; cases e
    subst h0
    obtain rfl : xs = [] := List.eq_nil_of_length_eq_zero h1
    refine (Tryz.bytes_Clone_nil 0 c w).mono ?_
    rintro e w' ⟨rfl, rfl⟩
    exact ⟨_, rfl, Dat.nil B _, Below.refl _ _⟩
  | some a =>
    refine (Tryz.bytes_Clone_at a n c xs w h1 (by omega) (fun i hi => ?_)).mono ?_
    · obtain ⟨b, o, e, _, _, hc⟩ := h5 (by omega)
      injection e with e
      subst e
      rw [show (⟨b, o, none⟩ : Addr).add i = ⟨b, o + i, none⟩ by unfold Addr.add; split <;> simp_all]
      exact hc i hi
    · rintro e w' ⟨v', rfl, hown, _, hb⟩
      subst h1
      exact ⟨v', rfl, Dat.of_own hown h4 h3, hb⟩
theorem own_any {B : Nat} {w : World} {x : Item} {d : Value} (hB : B ≤ w.heap.size) (h : Dat B w d x.data) :
    Calls Tryz.prog 65 #[itV x d] w fun e w' => ∃ d', e = .returned (itV x d') ∧ Dat B w' d' x.data ∧ Below w.heap.size w w' := by
  have HC := Lib.hid (fun (W : World) (hb : Below w.heap.size w W) => clone_any (h.up hb))
  clear h
  obtain ⟨⟨n1, n2⟩, ⟨p1, p2⟩, name, dir, gone, data, ⟨b1, b2⟩⟩ := x
  unfold itV
  simp only at HC
  go_enter Tryz.func65, Tryz.ntmps65
  go_wp2_with fail
  refine (HC.out _ (up_trans (up_alloc _ _) (up_alloc _ _))).mono ?_
  rintro e w1 ⟨d', rfl, hD, hb⟩
  obtain ⟨A', n', c', rfl⟩ := hD.form
  obtain ⟨hc1, hf1⟩ := bcell hb
  have hz : w.heap.size + 1 < w1.heap.size := by have := hb.size; simp at this; omega
  have h7 : w1.cell? ⟨w.heap.size, 7, none⟩ = some d := by go_simp
  have hs7 : ∀ u, (w1.setCell ⟨w.heap.size, 7, none⟩ u).cell? ⟨w.heap.size, 7, none⟩ = some u := fun u => World.cell?_setCell_same _ _ _ h7
  go_wp2_with fail
  refine bodyPost_ret (v := .agg #[.int .i64 n1, .int .i64 n2, .int .i64 p1, .int .i64 p2, .string name, .bool dir, .bool gone, .slice A' n' c', .int .i64 b1, .int .i64 b2]) (by simp [results, Tryz.results56, go_sem, hc1, hz, h7, hs7]) rfl ?_
  have N0 : NotU8 w1 w.heap.size := ((NotU8.new (w := w) (by decide)).up (up_alloc _ _) (by simp)).up hb (by simp; omega)
  have N1 : NotU8 w1 (w.heap.size + 1) := NotU8.up (w := (w.alloc _).alloc _) (by have := NotU8.new (w := w.alloc (.cells #[.int .i64 n1, .int .i64 n2, .int .i64 p1, .int .i64 p2, .string name, .bool dir, .bool gone, d, .int .i64 b1, .int .i64 b2] 42)) (cs := #[.int .i64 0, .int .i64 0, .int .i64 0, .int .i64 0, .string ⟨#[]⟩, .bool false, .bool false, .slice none 0 0, .int .i64 0, .int .i64 0]) (e := 42) (by decide); simpa using this) hb (by simp)
  have hb0 := up_trans (up_trans (up_alloc w _) (up_alloc _ _)) hb
  refine ⟨.slice A' n' c', rfl, ?_, ?_⟩
  · repeat (first | (with_reducible exact hD) | (with_reducible refine Dat.set ?_ ?_ ?_ _))
    all_goals first | (dsimp only; omega) | (repeat (with_reducible refine NotU8.set ?_ _ _)); first | (with_reducible exact N0) | (with_reducible exact N1)
  · repeat (first | (with_reducible exact hb0) | (with_reducible refine up_set ?_ ?_ _))
    all_goals simp
end Go.Proofs.YtefhfoioeoijlaaGreatDoor
namespace Go.Proofs.YtefhfoioeoijlaaGreatDoor
open Go.RowKit Go.Sort
def TreeIs (B : Nat) (w : World) (tb r : Nat) (L : List Item) : Prop :=
  w.heap[tb]? = some (.cells #[.map (some r)] 108 (0, 0)) ∧ B ≤ tb ∧ B ≤ r ∧ MapIs B w r L ∧ L.length ≤ 300
theorem TreeIs.lt {B : Nat} {w : World} {tb r : Nat} {L : List Item} (h : TreeIs B w tb r L) : tb < w.heap.size := (Array.getElem?_eq_some_iff.1 h.1).1
theorem TreeIs.up {B : Nat} {w w' : World} {tb r : Nat} {L : List Item} (h : TreeIs B w tb r L) (hb : Below w.heap.size w w') : TreeIs B w' tb r L :=
  ⟨(hb.block _ h.lt).trans h.1, h.2.1, h.2.2.1, h.2.2.2.1.up hb, h.2.2.2.2⟩
theorem TreeIs.cell {B : Nat} {w : World} {tb r : Nat} {L : List Item} (h : TreeIs B w tb r L) : w.cell? ⟨tb, 0, none⟩ = some (.map (some r)) := by
  simp [World.cell?, h.1]
theorem alloc_get0 (w : World) (o : Obj) : (w.alloc o).heap[w.heap.size]? = some o := heap_alloc_new w o
theorem alloc_get1 (w : World) (o o' : Obj) : ((w.alloc o).alloc o').heap[w.heap.size + 1]? = some o' := by
  have := heap_alloc_new (w.alloc o) o'
  simpa using this
theorem alloc_get2 (w : World) (o o' o'' : Obj) : (((w.alloc o).alloc o').alloc o'').heap[w.heap.size + 2]? = some o'' := by
  have := heap_alloc_new ((w.alloc o).alloc o') o''
  simpa using this
theorem NotU8.later {w w' : World} {b : Nat} {cs : Array Value} {e : TypeId} {fr : Nat × Nat} (h : w.heap[b]? = some (.cells cs e fr)) (hne : e ≠ 5) (hb : Below w.heap.size w w') : NotU8 w' b :=
  (NotU8.of h hne).up hb (Array.getElem?_eq_some_iff.1 h).1
def trP (tb : Nat) : Value := .pointer (some ⟨tb, 0, none⟩)
theorem tnew_any {B : Nat} {w : World} (hB : B ≤ w.heap.size) : Calls Tryz.prog 30 #[] w fun e w' => ∃ tb r, e = .returned (trP tb) ∧ TreeIs B w' tb r [] ∧ Below w.heap.size w w' ∧ w.heap.size ≤ tb ∧ w.heap.size ≤ r := by
  have hmm := @run_makeMap Tryz.prog
  go_enter Tryz.func30, Tryz.ntmps30
  go_wp2_with fail
  refine bodyPost_ret (v := trP (w.heap.size + 1)) (by simp [results, Tryz.results14, trP]) rfl ?_
  have hb := up_trans (up_alloc w (.map #[] 0)) (up_alloc _ (.cells #[.map (some w.heap.size)] 108))
  have h1 : ((w.alloc (.map #[] 0)).alloc (.cells #[.map (some w.heap.size)] 108)).heap[w.heap.size + 1]? = some (.cells #[.map (some w.heap.size)] 108 (0, 0)) := by
    have := heap_alloc_new (w.alloc (.map #[] 0)) (.cells #[.map (some w.heap.size)] 108)
    simpa using this
  have h2 : ((w.alloc (.map #[] 0)).alloc (.cells #[.map (some w.heap.size)] 108)).heap[w.heap.size]? = some (.map #[] 0) := by
    rw [(up_alloc (w.alloc (.map #[] 0)) (.cells #[.map (some w.heap.size)] 108)).block w.heap.size (by simp)]
    exact heap_alloc_new w _
  exact ⟨w.heap.size + 1, w.heap.size, rfl, ⟨h1, by omega, hB, ⟨#[], 0, [], h2, trivial, List.Perm.refl _, List.Pairwise.nil, by simp, by simp⟩, by simp⟩, hb, by omega, by omega⟩
theorem tget_any {B : Nat} {w : World} {tb r : Nat} {L : List Item} (h : TreeIs B w tb r L) (n : Stamp) : Calls Tryz.prog 20 #[trP tb, stV n] w fun e w' =>
    ∃ d, e = .returned (.tuple #[itV (gotI L n) d, .bool (hasI L n)]) ∧ Dat B w' d (gotI L n).data ∧ Below w.heap.size w w' := by
  have hlt := h.lt
  have hc := h.cell
  have hrl := h.2.2.2.1.lt
  have hrB := h.2.2.1
  obtain ⟨d, hd, hlk⟩ := h.2.2.2.1.look n
  have HO := Lib.hid (fun (W : World) (hW : Below w.heap.size w W) => own_any (B := B) (w := W) (by have := hW.size; omega) (hd.up hW))
  obtain ⟨dA, dn, dc, rfl⟩ := hd.form
  clear hd h
  unfold stV itV at hlk
  unfold stV trP itV
  unfold itV at HO
  generalize gotI L n = x at *
  generalize hasI L n = b at *
  obtain ⟨⟨n1, n2⟩, ⟨p1, p2⟩, name, dir, gone, data, ⟨b1, b2⟩⟩ := x
  obtain ⟨m1, m2⟩ := n
  simp only at hlk HO
  go_enter Tryz.func20, Tryz.ntmps20
  go_wp2_with fail
  have HL : ∀ (o o' o'' : Obj), (Instr.lookup 106 (.map (some r)) (.agg #[.int .i64 m1, .int .i64 m2]) true).run Tryz.prog (((w.alloc o).alloc o').alloc o'').drew = .ok (.tuple #[.agg #[.int .i64 n1, .int .i64 n2, .int .i64 p1, .int .i64 p2, .string name, .bool dir, .bool gone, .slice dA dn dc, .int .i64 b1, .int .i64 b2], .bool b]) (((w.alloc o).alloc o').alloc o'').drew := fun o o' o'' => (hlk _ ((up_trans (up_trans (up_trans (up_alloc w o) (up_alloc _ o')) (up_alloc _ o'')) (up_drew _)).block r hrl)).1
  have HC : ∀ (o o' o'' : Obj), (((w.alloc o).alloc o').alloc o'').drew.cell? ⟨tb, 0, none⟩ = some (.map (some r)) := fun o o' o'' => by rw [(up_trans (up_trans (up_trans (up_alloc w o) (up_alloc _ o')) (up_alloc _ o'')) (up_drew _)).cell (p := ⟨tb, 0, none⟩) hlt]; exact hc
  have HL2 : ∀ (o o' : Obj), (Instr.lookup 106 (.map (some r)) (.agg #[.int .i64 m1, .int .i64 m2]) true).run Tryz.prog ((w.alloc o).alloc o').drew = .ok (.tuple #[.agg #[.int .i64 n1, .int .i64 n2, .int .i64 p1, .int .i64 p2, .string name, .bool dir, .bool gone, .slice dA dn dc, .int .i64 b1, .int .i64 b2], .bool b]) ((w.alloc o).alloc o').drew := fun o o' => (hlk _ ((up_trans (up_trans (up_alloc w o) (up_alloc _ o')) (up_drew _)).block r hrl)).1
  have HC2 : ∀ (o o' : Obj), ((w.alloc o).alloc o').drew.cell? ⟨tb, 0, none⟩ = some (.map (some r)) := fun o o' => by rw [(up_trans (up_trans (up_alloc w o) (up_alloc _ o')) (up_drew _)).cell (p := ⟨tb, 0, none⟩) hlt]; exact hc
  go_region
  go_wp2_with fail
  have hb0 := fun (o o' o'' : Obj) => up_trans (up_trans (up_trans (up_alloc w o) (up_alloc _ o')) (up_alloc _ o'')) (up_drew (((w.alloc o).alloc o').alloc o''))
  have hbb := hb0 (.cells #[.int .i64 m1, .int .i64 m2] 24) (.cells #[.int .i64 0, .int .i64 0, .int .i64 0, .int .i64 0, .string ⟨#[]⟩, .bool false, .bool false, .slice none 0 0, .int .i64 0, .int .i64 0] 42) (.cells #[.int .i64 n1, .int .i64 n2, .int .i64 p1, .int .i64 p2, .string name, .bool dir, .bool gone, .slice dA dn dc, .int .i64 b1, .int .i64 b2] 42)
  refine (HO.out _ hbb).mono ?_
  rintro e w1 ⟨d', rfl, hD, hb⟩
  obtain ⟨A', n', c', rfl⟩ := hD.form
  obtain ⟨hc1, hf1⟩ := bcell hb
  have hz : w.heap.size + 2 < w1.heap.size := by have := hb.size; simp at this; omega
  go_wp2_with fail
  have h7 : w1.cell? ⟨w.heap.size + 1, 7, none⟩ = some (.slice none 0 0) := by go_simp
  have hs7 : ∀ u, (w1.setCell ⟨w.heap.size + 1, 7, none⟩ u).cell? ⟨w.heap.size + 1, 7, none⟩ = some u := fun u => World.cell?_setCell_same _ _ _ h7
  refine bodyPost_ret (v := .tuple #[.agg #[.int .i64 n1, .int .i64 n2, .int .i64 p1, .int .i64 p2, .string name, .bool dir, .bool gone, .slice A' n' c', .int .i64 b1, .int .i64 b2], .bool b]) (by simp [results, Tryz.results23, go_sem, hc1, hz, h7, hs7]) rfl ?_
  have N1 : NotU8 w1 (w.heap.size + 1) := NotU8.later (w := (w.alloc _).alloc _) (alloc_get1 w _ _) (by decide) (up_trans (up_trans (up_alloc _ _) (up_drew _)) hb)
  have hbw := up_trans hbb hb
  refine ⟨.slice A' n' c', rfl, ?_, ?_⟩
  · ((repeat (first | (with_reducible exact hD) | (with_reducible refine Dat.set ?_ ?_ ?_ _))); all_goals first | ((try dsimp only); omega) | ((repeat (with_reducible refine NotU8.set ?_ _ _)); (with_reducible exact N1)))
  · ((repeat (first | (with_reducible exact hbw) | (with_reducible refine up_set ?_ ?_ _) | (with_reducible refine up_trans ?_ (up_drew _)))); all_goals ((try dsimp only); omega))
end Go.Proofs.YtefhfoioeoijlaaGreatDoor
namespace Go.Proofs.YtefhfoioeoijlaaGreatDoor
open Go.RowKit Go.Sort
theorem dirI_zero (L : List Item) : dirI L ⟨0, 0⟩ = true := by simp [dirI, nilS]
theorem dirI_t (L : List Item) {t u : Int} (h : ¬ t = 0) : dirI L ⟨t, u⟩ = (gotI L ⟨t, u⟩).dir := by simp [dirI, nilS, h]
theorem dirI_w (L : List Item) {t u : Int} (h : ¬ u = 0) : dirI L ⟨t, u⟩ = (gotI L ⟨t, u⟩).dir := by simp [dirI, nilS, h]
theorem grow_block {w : World} {b : Nat} (h : b < w.heap.size) (n : Nat) (os : Array Obj) : (grow (w.drewN n) os).heap[b]? = w.heap[b]? := (ups_grow w n os).below.block b h
theorem field_dir (v0 v1 v2 v3 v4 : Value) (dir : Bool) (v6 v7 v8 v9 : Value) (w : World) : (Instr.field 42 (.agg #[v0, v1, v2, v3, v4, .bool dir, v6, v7, v8, v9]) 3).run Tryz.prog w = .ok (.bool dir) w := by kernel_rfl
set_option maxRecDepth 20000 in
theorem holds_at {B : Nat} {w : World} {tb r : Nat} {L : List Item} (h : TreeIs B w tb r L) (t u : Int) : Calls Tryz.prog 125 #[trP tb, .agg #[.int .i64 t, .int .i64 u]] w fun e w' => e = .returned (.bool (dirI L ⟨t, u⟩)) ∧ Ups w w' := by
  have hlt := h.lt
  have hc := h.cell
  have hrl := h.2.2.2.1.lt
  obtain ⟨d, hd, hlk⟩ := h.2.2.2.1.look ⟨t, u⟩
  obtain ⟨dA, dn, dc, rfl⟩ := hd.form
  clear hd h
  have HR := Lib.hid (fun (W : World) n os => grown_ups (root_at (grow (W.drewN n) os)))
  have U0 := Ups.alloc w (.cells #[.int .i64 t, .int .i64 u] 24)
  have c0 : (w.alloc (.cells #[.int .i64 t, .int .i64 u] 24)).cell? ⟨w.heap.size, 0, none⟩ = some (.int .i64 t) := by go_simp
  have c1 : (w.alloc (.cells #[.int .i64 t, .int .i64 u] 24)).cell? ⟨w.heap.size, 1, none⟩ = some (.int .i64 u) := by go_simp
  have ct : (w.alloc (.cells #[.int .i64 t, .int .i64 u] 24)).cell? ⟨tb, 0, none⟩ = some (.map (some r)) := by rw [(up_alloc w _).cell (p := ⟨tb, 0, none⟩) hlt]; exact hc
  have hl := fun n os => (hlk (grow ((w.alloc (.cells #[.int .i64 t, .int .i64 u] 24)).drewN n) os) (by rw [grow_block (by simp; omega)]; exact (up_alloc w _).block r hrl)).2
  unfold itV stV at hl
  unfold trP
  have key : ∀ b, dirI L ⟨t, u⟩ = b → ((t = 0 ∧ u = 0) ∧ b = true ∨ (¬ (t = 0 ∧ u = 0)) ∧ b = (gotI L ⟨t, u⟩).dir) := by
    rintro b rfl
    by_cases ht : t = 0
    · by_cases hu : u = 0
      · subst ht hu; exact .inl ⟨⟨rfl, rfl⟩, dirI_zero L⟩
      · exact .inr ⟨by simp [hu], dirI_w L hu⟩
    · exact .inr ⟨by simp [ht], dirI_t L ht⟩
  have HK := Lib.hid (key _ rfl)
  have hfd := field_dir
  clear key hlk
  generalize dirI L ⟨t, u⟩ = b at HK ⊢
  generalize gotI L ⟨t, u⟩ = x at *
  obtain ⟨⟨n1, n2⟩, ⟨p1, p2⟩, name, dir, gone, data, ⟨b1, b2⟩⟩ := x
  simp only at hl HK
  by_cases ht : t = 0
  · by_cases hu : u = 0
    · subst ht; subst hu
      go_enter Tryz.func125, Tryz.ntmps125
      go_wp2_with fail
      generalize (w.alloc (.cells #[.int .i64 0, .int .i64 0] 24)) = W at U0 c0 c1 ct hl ⊢
      have d0 := grown_cell c0
      have d1 := grown_cell c1
      have d2 := grown_cell ct
      refine wp_region_grown_all (by kernel_rfl) (by kernel_rfl) ?_
      repeat (quiet_step ((exact HR.out _ _ _)))
      refine wpQuiet_nil ?_
      rintro _ ⟨⟨nq, osq⟩, rfl⟩
      go_wp2_with fail
      go_ret
      refine ⟨ret_bool ?_, U0.trans (ups_grow _ _ _)⟩
      rcases HK.out with ⟨_, h⟩ | ⟨h, _⟩
      · exact h.symm
      · exact absurd (by decide) h
    · subst ht
      have hu' : (u == 0) = false := beq_eq_false_iff_ne.2 hu
      go_enter Tryz.func125, Tryz.ntmps125
      go_wp2_with fail
      generalize (w.alloc (.cells #[.int .i64 0, .int .i64 u] 24)) = W at U0 c0 c1 ct hl ⊢
      have d0 := grown_cell c0
      have d1 := grown_cell c1
      have d2 := grown_cell ct
      refine wp_region_grown_all (by kernel_rfl) (by kernel_rfl) ?_
      repeat (quiet_step ((exact HR.out _ _ _)))
      refine wpQuiet_nil ?_
      rintro _ ⟨⟨nq, osq⟩, rfl⟩
      go_wp2_with fail
      go_ret
      refine ⟨ret_bool ?_, U0.trans (ups_grow _ _ _)⟩
      rcases HK.out with ⟨h, _⟩ | ⟨_, h⟩
      · exact absurd h.2 hu
      · exact h.symm
  · have ht' : (t == 0) = false := beq_eq_false_iff_ne.2 ht
    go_enter Tryz.func125, Tryz.ntmps125
    go_wp2_with fail
    generalize (w.alloc (.cells #[.int .i64 t, .int .i64 u] 24)) = W at U0 c0 c1 ct hl ⊢
    have d0 := grown_cell c0
    have d1 := grown_cell c1
    have d2 := grown_cell ct
    refine wp_region_grown_all (by kernel_rfl) (by kernel_rfl) ?_
    repeat (quiet_step ((exact HR.out _ _ _)))
    refine wpQuiet_nil ?_
    rintro _ ⟨⟨nq, osq⟩, rfl⟩
    go_wp2_with fail
    go_ret
    refine ⟨ret_bool ?_, U0.trans (ups_grow _ _ _)⟩
    rcases HK.out with ⟨h, _⟩ | ⟨_, h⟩
    · exact absurd h.1 ht
    · exact h.symm
end Go.Proofs.YtefhfoioeoijlaaGreatDoor
namespace Go.Proofs.YtefhfoioeoijlaaGreatDoor
open Go.RowKit Go.Sort
theorem cell_ad {W : World} {p : Addr} {v : Value} (h : W.cell? p = some v) (o : Obj) : (W.alloc o).drew.cell? p = some v := by
  rw [(up_trans (up_alloc W o) (up_drew _)).cell (World.block_lt_of_cell? W p h)]; exact h
theorem frozen_ad {W : World} {p : Addr} {b : Bool} (hlt : p.block < W.heap.size) (h : W.frozen? p = b) (o : Obj) : (W.alloc o).drew.frozen? p = b := by
  rw [(up_trans (up_alloc W o) (up_drew _)).frozen hlt]; exact h
theorem withinI_hit (L : List Item) (n m : Stamp) (f : Nat) (h : m = n) : withinI L n (f + 1) m = true := by simp [withinI, h]
theorem withinI_out (L : List Item) (n m : Stamp) (f : Nat) (h : m ≠ n) (hh : hasI L m = false) : withinI L n (f + 1) m = false := by
  simp only [withinI, h, if_false]
  unfold hasI at hh
  cases hg : getI L m with
  | none => rfl
  | some x => rw [hg] at hh; cases hh
theorem withinI_on (L : List Item) (n m : Stamp) (f : Nat) (h : m ≠ n) (hh : hasI L m = true) : withinI L n (f + 1) m = withinI L n f (gotI L m).parent := by
  simp only [withinI, h, if_false]
  unfold hasI at hh
  cases hg : getI L m with
  | none => rw [hg] at hh; cases hh
  | some x => simp [gotI, hg]
set_option maxRecDepth 20000 in
theorem within_at {B : Nat} {w : World} {tb r : Nat} {L : List Item} (h : TreeIs B w tb r L) (n1 n2 m1 m2 : Int) : Calls Tryz.prog 126 #[trP tb, .agg #[.int .i64 n1, .int .i64 n2], .agg #[.int .i64 m1, .int .i64 m2]] w fun e w' => e = .returned (.bool (withinI L ⟨n1, n2⟩ 301 ⟨m1, m2⟩)) ∧ Below w.heap.size w w' := by
  have hlt := h.lt
  have hc := h.cell
  have hrl := h.2.2.2.1.lt
  have hlook := fun m => h.2.2.2.1.look m
  clear h
  unfold trP
  go_enter Tryz.func126, Tryz.ntmps126
  go_wp2_with fail
  go_loopw [11] (fun i wr => ∃ (k : Nat) (a b : Int), k ≤ 301 ∧ i = .int .i64 k ∧ Below w.heap.size w wr ∧ w.heap.size + 1 < wr.heap.size ∧ wr.cell? ⟨w.heap.size, 0, none⟩ = some (.int .i64 n1) ∧ wr.cell? ⟨w.heap.size, 1, none⟩ = some (.int .i64 n2) ∧
    wr.cell? ⟨w.heap.size + 1, 0, none⟩ = some (.int .i64 a) ∧ wr.cell? ⟨w.heap.size + 1, 1, none⟩ = some (.int .i64 b) ∧ wr.frozen? ⟨w.heap.size + 1, 0, none⟩ = false ∧ wr.frozen? ⟨w.heap.size + 1, 1, none⟩ = false ∧
    Hid (withinI L ⟨n1, n2⟩ 301 ⟨m1, m2⟩ = withinI L ⟨n1, n2⟩ (301 - k) ⟨a, b⟩)) (fun i _ => 301 - (intOf i).toNat)
  case atStart => exact ⟨0, m1, m2, by omega, rfl, up_trans (up_alloc _ _) (up_alloc _ _), by simp, by go_simp, by go_simp, by go_simp, by go_simp, by go_simp, by go_simp, rfl⟩
  case round =>
    obtain ⟨k, a, b, hk, rfl, hb, hz, x0, x1, y0, y1, f0, f1, H⟩ := hrel
    rcases Nat.lt_or_ge k 301 with hk1 | hk1
    · have e0 : 301 - k = (300 - k) + 1 := by omega
      have H0 := H.out
      rw [e0] at H0
      by_cases he : (⟨a, b⟩ : Stamp) = ⟨n1, n2⟩
      · have H' := Lib.hid (H0.trans (withinI_hit L _ _ _ he))
        clear H H0
        injection he with e1 e2
        subst e1; subst e2
        go_wp2_with fail
        go_ret
        exact ⟨ret_bool H'.out.symm, hb⟩
      · obtain ⟨d, hd, hlk⟩ := hlook ⟨a, b⟩
        obtain ⟨dA, dn, dc, rfl⟩ := hd.form
        have HO := Lib.hid (fun hh => H0.trans (withinI_out L ⟨n1, n2⟩ ⟨a, b⟩ (300 - k) he hh))
        have HN := Lib.hid (fun hh => H0.trans (withinI_on L ⟨n1, n2⟩ ⟨a, b⟩ (300 - k) he hh))
        clear hd H H0
        unfold itV stV at hlk
        generalize gotI L ⟨a, b⟩ = x at *
        generalize hasI L ⟨a, b⟩ = is at *
        obtain ⟨⟨i1, i2⟩, ⟨p1, p2⟩, name, dir, gone, data, ⟨b1, b2⟩⟩ := x
        simp only at hlk HN
        have HL0 := (hlk wr.drew ((up_trans hb (up_drew _)).block r hrl)).1
        have HL1 := fun (o : Obj) => (hlk (wr.alloc o).drew ((up_trans (up_trans hb (up_alloc _ _)) (up_drew _)).block r hrl)).1
        have HC0 : wr.drew.cell? ⟨tb, 0, none⟩ = some (.map (some r)) := by rw [(up_trans hb (up_drew _)).cell (p := ⟨tb, 0, none⟩) hlt]; exact hc
        have HC1 : ∀ o : Obj, (wr.alloc o).drew.cell? ⟨tb, 0, none⟩ = some (.map (some r)) := fun o => by rw [(up_trans (up_trans hb (up_alloc _ _)) (up_drew _)).cell (p := ⟨tb, 0, none⟩) hlt]; exact hc
        clear hlk hlook
        have ht : (a = n1 ∧ (b == n2) = false) ∨ (a == n1) = false := by
          by_cases h1 : a = n1
          · refine .inl ⟨h1, beq_eq_false_iff_ne.2 ?_⟩
            intro h2; exact he (by rw [h1, h2])
          · exact .inr (beq_eq_false_iff_ne.2 h1)
        have HE := Lib.hid he
        clear he
        rcases ht with ⟨h1, h2⟩ | h1
        · subst h1
          go_wp2_with fail
          go_region
          cases is
          · go_wp2_with fail
            go_ret
            exact ⟨ret_bool (HO.out (by simp)).symm, up_trans (up_trans hb (up_alloc _ _)) (up_drew _)⟩
          · go_wp2_with fail
            go_roundw
            case rel =>
              refine ⟨k + 1, p1, p2, by omega, by go_num, ?_, ?_, cell_ad (by go_simp) _, cell_ad (by go_simp) _, cell_ad (by go_simp) _, cell_ad (by go_simp) _, frozen_ad (by simp; omega) (by go_simp) _, frozen_ad (by simp; omega) (by go_simp) _, ?_⟩
              · exact up_trans (up_set (up_set hb (by simp) _) (by simp) _) (up_trans (up_alloc _ _) (up_drew _))
              · simp; omega
              · have := HN.out (by simp)
                exact Lib.hid (by rw [this]; congr 1; omega)
            case measure => simp [intOf]; omega
        · go_wp2_with fail
          go_region
          cases is
          · go_wp2_with fail
            go_ret
            exact ⟨ret_bool (HO.out (by simp)).symm, up_trans (up_trans hb (up_alloc _ _)) (up_drew _)⟩
          · go_wp2_with fail
            go_roundw
            case rel =>
              refine ⟨k + 1, p1, p2, by omega, by go_num, ?_, ?_, cell_ad (by go_simp) _, cell_ad (by go_simp) _, cell_ad (by go_simp) _, cell_ad (by go_simp) _, frozen_ad (by simp; omega) (by go_simp) _, frozen_ad (by simp; omega) (by go_simp) _, ?_⟩
              · exact up_trans (up_set (up_set hb (by simp) _) (by simp) _) (up_trans (up_alloc _ _) (up_drew _))
              · simp; omega
              · have := HN.out (by simp)
                exact Lib.hid (by rw [this]; congr 1; omega)
            case measure => simp [intOf]; omega
    · have hk2 : k = 301 := by omega
      subst hk2
      go_wp2_with fail
      go_ret
      exact ⟨ret_bool H.out.symm, hb⟩
theorem hangsI_hit (L : List Item) (m : Stamp) (f : Nat) (h : m = ⟨0, 0⟩) : hangsI L (f + 1) m = true := by simp [hangsI, nilS, h]
theorem hangsI_out (L : List Item) (m : Stamp) (f : Nat) (h : m ≠ ⟨0, 0⟩) (hh : hasI L m = false) : hangsI L (f + 1) m = false := by
  simp only [hangsI, nilS, h, if_false]
  unfold hasI at hh
  cases hg : getI L m with
  | none => rfl
  | some x => rw [hg] at hh; cases hh
theorem hangsI_gone (L : List Item) (m : Stamp) (f : Nat) (h : m ≠ ⟨0, 0⟩) (hh : (gotI L m).gone = true) : hangsI L (f + 1) m = false := by
  simp only [hangsI, nilS, h, if_false]
  unfold gotI at hh
  cases hg : getI L m with
  | none => rfl
  | some x => rw [hg] at hh; simp at hh; simp [hh]
theorem hangsI_on (L : List Item) (m : Stamp) (f : Nat) (h : m ≠ ⟨0, 0⟩) (hh : hasI L m = true) (hg' : (gotI L m).gone = false) : hangsI L (f + 1) m = hangsI L f (gotI L m).parent := by
  simp only [hangsI, nilS, h, if_false]
  unfold hasI at hh
  unfold gotI at hg' ⊢
  cases hg : getI L m with
  | none => rw [hg] at hh; cases hh
  | some x => rw [hg] at hg'; simp at hg'; simp [hg']
set_option maxRecDepth 20000 in
theorem hangs_at {B : Nat} {w : World} {tb r : Nat} {L : List Item} (h : TreeIs B w tb r L) (m1 m2 : Int) : Calls Tryz.prog 39 #[trP tb, .agg #[.int .i64 m1, .int .i64 m2]] w fun e w' => e = .returned (.bool (hangsI L 301 ⟨m1, m2⟩)) ∧ Below w.heap.size w w' := by
  have hlt := h.lt
  have hc := h.cell
  have hrl := h.2.2.2.1.lt
  have hlook := fun m => h.2.2.2.1.look m
  have HR := Lib.hid (fun (W : World) n os => grown_ups (root_at (grow (W.drewN n) os)))
  clear h
  unfold trP
  go_enter Tryz.func39, Tryz.ntmps39
  go_wp2_with fail
  go_loopw [9] (fun i wr => ∃ (k : Nat) (a b : Int), k ≤ 301 ∧ i = .int .i64 k ∧ Below w.heap.size w wr ∧ w.heap.size < wr.heap.size ∧
    wr.cell? ⟨w.heap.size, 0, none⟩ = some (.int .i64 a) ∧ wr.cell? ⟨w.heap.size, 1, none⟩ = some (.int .i64 b) ∧ wr.frozen? ⟨w.heap.size, 0, none⟩ = false ∧ wr.frozen? ⟨w.heap.size, 1, none⟩ = false ∧
    Hid (hangsI L 301 ⟨m1, m2⟩ = hangsI L (301 - k) ⟨a, b⟩)) (fun i _ => 301 - (intOf i).toNat)
  case atStart => exact ⟨0, m1, m2, by omega, rfl, up_alloc _ _, by simp, by go_simp, by go_simp, by go_simp, by go_simp, rfl⟩
  case round =>
    obtain ⟨k, a, b, hk, rfl, hb, hz, y0, y1, f0, f1, H⟩ := hrel
    have d0 := grown_cell y0
    have d1 := grown_cell y1
    rcases Nat.lt_or_ge k 301 with hk1 | hk1
    · have e0 : 301 - k = (300 - k) + 1 := by omega
      have H0 := H.out
      rw [e0] at H0
      by_cases he : (⟨a, b⟩ : Stamp) = ⟨0, 0⟩
      · have H' := Lib.hid (H0.trans (hangsI_hit L _ _ he))
        clear H H0
        injection he with e1 e2
        subst e1; subst e2
        go_wp2_with fail
        refine wp_region_grown_all (by kernel_rfl) (by kernel_rfl) ?_
        repeat (quiet_step ((exact HR.out _ _ _)))
        refine wpQuiet_nil ?_
        rintro _ ⟨⟨nq, osq⟩, rfl⟩
        go_wp2_with fail
        go_ret
        exact ⟨ret_bool H'.out.symm, up_trans hb (ups_grow _ _ _).below⟩
      · obtain ⟨d, hd, hlk⟩ := hlook ⟨a, b⟩
        obtain ⟨dA, dn, dc, rfl⟩ := hd.form
        have HO := Lib.hid (fun hh => H0.trans (hangsI_out L ⟨a, b⟩ (300 - k) he hh))
        have HG := Lib.hid (fun hh => H0.trans (hangsI_gone L ⟨a, b⟩ (300 - k) he hh))
        have HN := Lib.hid (fun hh hh' => H0.trans (hangsI_on L ⟨a, b⟩ (300 - k) he hh hh'))
        clear hd H H0
        unfold itV stV at hlk
        generalize gotI L ⟨a, b⟩ = x at *
        generalize hasI L ⟨a, b⟩ = is at *
        obtain ⟨⟨i1, i2⟩, ⟨p1, p2⟩, name, dir, gone, data, ⟨b1, b2⟩⟩ := x
        simp only at hlk HN HG
        clear hlook
        have ht : (a = 0 ∧ (b == 0) = false) ∨ (a == 0) = false := by
          by_cases h1 : a = 0
          · refine .inl ⟨h1, beq_eq_false_iff_ne.2 ?_⟩
            intro h2; exact he (by rw [h1, h2])
          · exact .inr (beq_eq_false_iff_ne.2 h1)
        have HE := Lib.hid he
        clear he
        rcases ht with ⟨h1, h2⟩ | h1
        · subst h1
          go_wp2_with fail
          refine wp_region_grown_all (by kernel_rfl) (by kernel_rfl) ?_
          repeat (quiet_step ((exact HR.out _ _ _)))
          refine wpQuiet_nil ?_
          rintro _ ⟨⟨nq, osq⟩, rfl⟩
          have hg := (ups_grow wr nq osq).below
          have z0 := d0 nq osq
          have z1 := d1 nq osq
          have hb2 := up_trans hb hg
          have hz2 : w.heap.size < (grow (wr.drewN nq) osq).heap.size := Nat.lt_of_lt_of_le hz hg.size
          have q0 : (grow (wr.drewN nq) osq).frozen? ⟨w.heap.size, 0, none⟩ = false := (hg.frozen (p := ⟨w.heap.size, 0, none⟩) hz).trans f0
          have q1 : (grow (wr.drewN nq) osq).frozen? ⟨w.heap.size, 1, none⟩ = false := (hg.frozen (p := ⟨w.heap.size, 1, none⟩) hz).trans f1
          clear hg
          generalize grow (wr.drewN nq) osq = W at *
          have HL0 := (hlk W.drew ((up_trans hb2 (up_drew _)).block r hrl)).1
          have HL1 := fun (o : Obj) => (hlk (W.alloc o).drew ((up_trans (up_trans hb2 (up_alloc _ _)) (up_drew _)).block r hrl)).1
          have HC0 : W.drew.cell? ⟨tb, 0, none⟩ = some (.map (some r)) := by rw [(up_trans hb2 (up_drew _)).cell (p := ⟨tb, 0, none⟩) hlt]; exact hc
          have HC1 : ∀ o : Obj, (W.alloc o).drew.cell? ⟨tb, 0, none⟩ = some (.map (some r)) := fun o => by rw [(up_trans (up_trans hb2 (up_alloc _ _)) (up_drew _)).cell (p := ⟨tb, 0, none⟩) hlt]; exact hc
          clear hlk
          go_wp2_with fail
          go_region
          cases is
          · go_wp2_with fail
            go_ret
            exact ⟨ret_bool (HO.out (by simp)).symm, up_trans (up_trans hb2 (up_alloc _ _)) (up_drew _)⟩
          · cases gone
            · go_wp2_with fail
              go_roundw
              case rel =>
                refine ⟨k + 1, p1, p2, by omega, by go_num, ?_, ?_, cell_ad (by go_simp) _, cell_ad (by go_simp) _, frozen_ad (by simp; omega) (by go_simp) _, frozen_ad (by simp; omega) (by go_simp) _, ?_⟩
                · exact up_trans (up_set (up_set hb2 (by simp) _) (by simp) _) (up_trans (up_alloc _ _) (up_drew _))
                · simp; omega
                · have := HN.out (by simp) (by simp)
                  exact Lib.hid (by rw [this]; congr 1; omega)
              case measure => simp [intOf]; omega
            · go_wp2_with fail
              go_ret
              exact ⟨ret_bool (HG.out (by simp)).symm, up_trans (up_trans hb2 (up_alloc _ _)) (up_drew _)⟩
        · go_wp2_with fail
          refine wp_region_grown_all (by kernel_rfl) (by kernel_rfl) ?_
          repeat (quiet_step ((exact HR.out _ _ _)))
          refine wpQuiet_nil ?_
          rintro _ ⟨⟨nq, osq⟩, rfl⟩
          have hg := (ups_grow wr nq osq).below
          have z0 := d0 nq osq
          have z1 := d1 nq osq
          have hb2 := up_trans hb hg
          have hz2 : w.heap.size < (grow (wr.drewN nq) osq).heap.size := Nat.lt_of_lt_of_le hz hg.size
          have q0 : (grow (wr.drewN nq) osq).frozen? ⟨w.heap.size, 0, none⟩ = false := (hg.frozen (p := ⟨w.heap.size, 0, none⟩) hz).trans f0
          have q1 : (grow (wr.drewN nq) osq).frozen? ⟨w.heap.size, 1, none⟩ = false := (hg.frozen (p := ⟨w.heap.size, 1, none⟩) hz).trans f1
          clear hg
          generalize grow (wr.drewN nq) osq = W at *
          have HL0 := (hlk W.drew ((up_trans hb2 (up_drew _)).block r hrl)).1
          have HL1 := fun (o : Obj) => (hlk (W.alloc o).drew ((up_trans (up_trans hb2 (up_alloc _ _)) (up_drew _)).block r hrl)).1
          have HC0 : W.drew.cell? ⟨tb, 0, none⟩ = some (.map (some r)) := by rw [(up_trans hb2 (up_drew _)).cell (p := ⟨tb, 0, none⟩) hlt]; exact hc
          have HC1 : ∀ o : Obj, (W.alloc o).drew.cell? ⟨tb, 0, none⟩ = some (.map (some r)) := fun o => by rw [(up_trans (up_trans hb2 (up_alloc _ _)) (up_drew _)).cell (p := ⟨tb, 0, none⟩) hlt]; exact hc
          clear hlk
          go_wp2_with fail
          go_region
          cases is
          · go_wp2_with fail
            go_ret
            exact ⟨ret_bool (HO.out (by simp)).symm, up_trans (up_trans hb2 (up_alloc _ _)) (up_drew _)⟩
          · cases gone
            · go_wp2_with fail
              go_roundw
              case rel =>
                refine ⟨k + 1, p1, p2, by omega, by go_num, ?_, ?_, cell_ad (by go_simp) _, cell_ad (by go_simp) _, frozen_ad (by simp; omega) (by go_simp) _, frozen_ad (by simp; omega) (by go_simp) _, ?_⟩
                · exact up_trans (up_set (up_set hb2 (by simp) _) (by simp) _) (up_trans (up_alloc _ _) (up_drew _))
                · simp; omega
                · have := HN.out (by simp) (by simp)
                  exact Lib.hid (by rw [this]; congr 1; omega)
              case measure => simp [intOf]; omega
            · go_wp2_with fail
              go_ret
              exact ⟨ret_bool (HG.out (by simp)).symm, up_trans (up_trans hb2 (up_alloc _ _)) (up_drew _)⟩
    · have hk2 : k = 301 := by omega
      subst hk2
      go_wp2_with fail
      go_ret
      exact ⟨ret_bool H.out.symm, hb⟩
end Go.Proofs.YtefhfoioeoijlaaGreatDoor
namespace Go.Proofs.YtefhfoioeoijlaaGreatDoor
open Go.RowKit Go.Sort
theorem stamp_cases (a b c d : Int) : (a = c ∧ b = d) ∨ (a = c ∧ (b == d) = false) ∨ (a == c) = false := by
  by_cases h1 : a = c
  · by_cases h2 : b = d
    · exact .inl ⟨h1, h2⟩
    · exact .inr (.inl ⟨h1, beq_eq_false_iff_ne.2 h2⟩)
  · exact .inr (.inr (beq_eq_false_iff_ne.2 h1))
theorem stamp_eq_tt (a b : Int) : decide ((⟨a, b⟩ : Stamp) = ⟨a, b⟩) = true := by simp
theorem stamp_eq_ff1 {a c : Int} (b d : Int) (h : (a == c) = false) : decide ((⟨a, b⟩ : Stamp) = ⟨c, d⟩) = false := by
  simp at h; simp [h]
theorem stamp_eq_ff2 {b d : Int} (a c : Int) (h : (b == d) = false) : decide ((⟨a, b⟩ : Stamp) = ⟨c, d⟩) = false := by
  simp at h; simp [h]
set_option maxRecDepth 20000 in
set_option maxHeartbeats 4000000 in
theorem make_at {B : Nat} {w : World} {tb r : Nat} {L : List Item} (h : TreeIs B w tb r L) (x : Item) (o : OpD) (xA : Option Addr) (xn xc : Nat) (oA : Option Addr) (on oc : Nat) :
    Calls Tryz.prog 68 #[trP tb, itV x (.slice xA xn xc), opV o (.slice oA on oc)] w fun e w' =>
      e = .returned (.tuple #[itV ⟨o.node, o.parent, o.name, o.dir, false, [], nilS⟩ (.slice none 0 0), .bool (!decide (x.node = o.node) && dirI L o.parent)]) ∧ Below w.heap.size w w' := by
  obtain ⟨⟨i1, i2⟩, ⟨p1, p2⟩, name, dir, gone, data, ⟨b1, b2⟩⟩ := x
  obtain ⟨kind, ⟨a1, a2⟩, ⟨n1, n2⟩, ⟨q1, q2⟩, odir, oname, odata⟩ := o
  have HH := Lib.hid (fun (W : World) (hW : Below w.heap.size w W) => holds_at (h.up hW) q1 q2)
  clear h
  unfold itV opV trP nilS
  unfold trP at HH
  simp only
  rcases stamp_cases i1 i2 n1 n2 with ⟨h1, h2⟩ | ⟨h1, h2⟩ | h1
  · subst h1; subst h2
    rw [stamp_eq_tt]
    go_enter Tryz.func68, Tryz.ntmps68
    go_wp2_with fail
    refine wp_region_held_drew (S := (fun W => W.cell? ⟨w.heap.size, 0, none⟩ = some (.int .i64 i1) ∧ W.cell? ⟨w.heap.size, 1, none⟩ = some (.int .i64 i2) ∧ W.cell? ⟨w.heap.size + 1, 3, none⟩ = some (.int .i64 i1) ∧ W.cell? ⟨w.heap.size + 1, 4, none⟩ = some (.int .i64 i2) ∧ W.cell? ⟨w.heap.size + 1, 5, none⟩ = some (.int .i64 q1) ∧ W.cell? ⟨w.heap.size + 1, 6, none⟩ = some (.int .i64 q2) ∧ W.cell? ⟨w.heap.size + 1, 7, none⟩ = some (.bool odir) ∧ W.cell? ⟨w.heap.size + 1, 8, none⟩ = some (.string oname))) (by kernel_rfl) ?_ (fun hHeld => ?_)
    · go_simp
    refine wpAnyH_take (i := 0) (oi := { dst := some 8, op := Op.fieldAddr 49 (Operand.tmp 5) 2, type := 0, pos := "tree.go:46", after := #[], guard := none }) (v := ?_) rfl (by kernel_rfl) (by kernel_rfl) (by kernel_rfl) (fun _ _ _ h => h) (Or.inl ⟨by rfl, ?_⟩) (by assumption) ?_
    rotate_left
    · (intro w hSw; (try dsimp only at hSw); go_simp; try (with_reducible rfl))
    (try simp only [Act.put, List.setIfInBounds_toArray, List.set_cons_zero, List.set_cons_succ])
    refine wpAnyH_take (i := 1) (oi := { dst := some 9, op := Op.load 24 (Operand.tmp 8), type := 24, pos := "tree.go:46", after := #[{ on := 0, ground := Ground.data }], guard := none }) (v := ?_) rfl (by kernel_rfl) (by kernel_rfl) (by kernel_rfl) (fun _ _ _ h => h) (Or.inl ⟨by rfl, ?_⟩) (by assumption) ?_
    rotate_left
    · (intro w hSw; (try dsimp only at hSw); go_simp; try (with_reducible rfl))
    (try simp only [Act.put, List.setIfInBounds_toArray, List.set_cons_zero, List.set_cons_succ])
    refine wpAnyH_take (i := 2) (oi := { dst := some 10, op := Op.fieldAddr 49 (Operand.tmp 5) 3, type := 0, pos := "tree.go:46", after := #[], guard := none }) (v := ?_) rfl (by kernel_rfl) (by kernel_rfl) (by kernel_rfl) (fun _ _ _ h => h) (Or.inl ⟨by rfl, ?_⟩) (by assumption) ?_
    rotate_left
    · (intro w hSw; (try dsimp only at hSw); go_simp; try (with_reducible rfl))
    (try simp only [Act.put, List.setIfInBounds_toArray, List.set_cons_zero, List.set_cons_succ])
    refine wpAnyH_take (i := 3) (oi := { dst := some 11, op := Op.load 24 (Operand.tmp 10), type := 24, pos := "tree.go:46", after := #[{ on := 2, ground := Ground.data }], guard := none }) (v := ?_) rfl (by kernel_rfl) (by kernel_rfl) (by kernel_rfl) (fun _ _ _ h => h) (Or.inl ⟨by rfl, ?_⟩) (by assumption) ?_
    rotate_left
    · (intro w hSw; (try dsimp only at hSw); go_simp; try (with_reducible rfl))
    (try simp only [Act.put, List.setIfInBounds_toArray, List.set_cons_zero, List.set_cons_succ])
    refine wpAnyH_take (i := 4) (oi := { dst := some 12, op := Op.fieldAddr 49 (Operand.tmp 5) 5, type := 0, pos := "tree.go:46", after := #[], guard := none }) (v := ?_) rfl (by kernel_rfl) (by kernel_rfl) (by kernel_rfl) (fun _ _ _ h => h) (Or.inl ⟨by rfl, ?_⟩) (by assumption) ?_
    rotate_left
    · (intro w hSw; (try dsimp only at hSw); go_simp; try (with_reducible rfl))
    (try simp only [Act.put, List.setIfInBounds_toArray, List.set_cons_zero, List.set_cons_succ])
    refine wpAnyH_take (i := 5) (oi := { dst := some 13, op := Op.load 9 (Operand.tmp 12), type := 9, pos := "tree.go:46", after := #[{ on := 4, ground := Ground.data }], guard := none }) (v := ?_) rfl (by kernel_rfl) (by kernel_rfl) (by kernel_rfl) (fun _ _ _ h => h) (Or.inl ⟨by rfl, ?_⟩) (by assumption) ?_
    rotate_left
    · (intro w hSw; (try dsimp only at hSw); go_simp; try (with_reducible rfl))
    (try simp only [Act.put, List.setIfInBounds_toArray, List.set_cons_zero, List.set_cons_succ])
    refine wpAnyH_take (i := 6) (oi := { dst := some 14, op := Op.fieldAddr 49 (Operand.tmp 5) 4, type := 0, pos := "tree.go:46", after := #[], guard := none }) (v := ?_) rfl (by kernel_rfl) (by kernel_rfl) (by kernel_rfl) (fun _ _ _ h => h) (Or.inl ⟨by rfl, ?_⟩) (by assumption) ?_
    rotate_left
    · (intro w hSw; (try dsimp only at hSw); go_simp; try (with_reducible rfl))
    (try simp only [Act.put, List.setIfInBounds_toArray, List.set_cons_zero, List.set_cons_succ])
    refine wpAnyH_take (i := 7) (oi := { dst := some 15, op := Op.load 4 (Operand.tmp 14), type := 4, pos := "tree.go:46", after := #[{ on := 6, ground := Ground.data }], guard := none }) (v := ?_) rfl (by kernel_rfl) (by kernel_rfl) (by kernel_rfl) (fun _ _ _ h => h) (Or.inl ⟨by rfl, ?_⟩) (by assumption) ?_
    rotate_left
    · (intro w hSw; (try dsimp only at hSw); go_simp; try (with_reducible rfl))
    (try simp only [Act.put, List.setIfInBounds_toArray, List.set_cons_zero, List.set_cons_succ])
    refine wpAnyH_take (i := 8) (oi := { dst := some 16, op := Op.build 42 #[(0, Operand.tmp 9), (1, Operand.tmp 11), (2, Operand.tmp 13), (3, Operand.tmp 15)], type := 42, pos := "tree.go:46", after := #[{ on := 1, ground := Ground.data }, { on := 3, ground := Ground.data }, { on := 5, ground := Ground.data }, { on := 7, ground := Ground.data }], guard := none }) (v := ?_) rfl (by kernel_rfl) (by kernel_rfl) (by kernel_rfl) (fun _ _ _ h => h) (Or.inl ⟨by rfl, ?_⟩) (by assumption) ?_
    rotate_left
    · (intro w hSw; (try dsimp only at hSw); go_simp; try (with_reducible rfl))
    (try simp only [Act.put, List.setIfInBounds_toArray, List.set_cons_zero, List.set_cons_succ])
    refine wpAnyH_take (i := 9) (oi := { dst := some 17, op := Op.fieldAddr 42 (Operand.tmp 4) 0, type := 0, pos := "tree.go:46", after := #[], guard := none }) (v := ?_) rfl (by kernel_rfl) (by kernel_rfl) (by kernel_rfl) (fun _ _ _ h => h) (Or.inl ⟨by rfl, ?_⟩) (by assumption) ?_
    rotate_left
    · (intro w hSw; (try dsimp only at hSw); go_simp; try (with_reducible rfl))
    (try simp only [Act.put, List.setIfInBounds_toArray, List.set_cons_zero, List.set_cons_succ])
    refine wpAnyH_take (i := 10) (oi := { dst := some 18, op := Op.load 24 (Operand.tmp 17), type := 24, pos := "tree.go:46", after := #[{ on := 9, ground := Ground.data }], guard := none }) (v := ?_) rfl (by kernel_rfl) (by kernel_rfl) (by kernel_rfl) (fun _ _ _ h => h) (Or.inl ⟨by rfl, ?_⟩) (by assumption) ?_
    rotate_left
    · (intro w hSw; (try dsimp only at hSw); go_simp; try (with_reducible rfl))
    (try simp only [Act.put, List.setIfInBounds_toArray, List.set_cons_zero, List.set_cons_succ])
    refine wpAnyH_take (i := 11) (oi := { dst := some 19, op := Op.fieldAddr 49 (Operand.tmp 5) 2, type := 0, pos := "tree.go:46", after := #[], guard := none }) (v := ?_) rfl (by kernel_rfl) (by kernel_rfl) (by kernel_rfl) (fun _ _ _ h => h) (Or.inl ⟨by rfl, ?_⟩) (by assumption) ?_
    rotate_left
    · (intro w hSw; (try dsimp only at hSw); go_simp; try (with_reducible rfl))
    (try simp only [Act.put, List.setIfInBounds_toArray, List.set_cons_zero, List.set_cons_succ])
    refine wpAnyH_take (i := 12) (oi := { dst := some 20, op := Op.load 24 (Operand.tmp 19), type := 24, pos := "tree.go:46", after := #[{ on := 11, ground := Ground.data }], guard := none }) (v := ?_) rfl (by kernel_rfl) (by kernel_rfl) (by kernel_rfl) (fun _ _ _ h => h) (Or.inl ⟨by rfl, ?_⟩) (by assumption) ?_
    rotate_left
    · (intro w hSw; (try dsimp only at hSw); go_simp; try (with_reducible rfl))
    (try simp only [Act.put, List.setIfInBounds_toArray, List.set_cons_zero, List.set_cons_succ])
    refine wpAnyH_take (i := 13) (oi := { dst := some 21, op := Op.binOp BinOp.neq 24 (Operand.tmp 18) (Operand.tmp 20) 24, type := 4, pos := "tree.go:46", after := #[{ on := 10, ground := Ground.data }, { on := 12, ground := Ground.data }], guard := none }) (v := ?_) rfl (by kernel_rfl) (by kernel_rfl) (by kernel_rfl) (fun _ _ _ h => h) (Or.inl ⟨by rfl, ?_⟩) (by assumption) ?_
    rotate_left
    · (intro w hSw; (try dsimp only at hSw); go_simp; try (with_reducible rfl))
    (try simp only [Act.put, List.setIfInBounds_toArray, List.set_cons_zero, List.set_cons_succ])
    refine wpAnyH_take (i := 14) (oi := { dst := some 22, op := Op.move (Operand.tmp 21), type := 4, pos := "tree.go:46", after := #[{ on := 13, ground := Ground.data }], guard := none }) (v := ?_) rfl (by kernel_rfl) (by kernel_rfl) (by kernel_rfl) (fun _ _ _ h => h) (Or.inl ⟨by rfl, ?_⟩) (by assumption) ?_
    rotate_left
    · (intro w hSw; (try dsimp only at hSw); go_simp; try (with_reducible rfl))
    (try simp only [Act.put, List.setIfInBounds_toArray, List.set_cons_zero, List.set_cons_succ])
    refine wpAnyH_take (i := 15) (oi := { dst := some 23, op := Op.move (Operand.tmp 0), type := 27, pos := "tree.go:46", after := #[{ on := 14, ground := Ground.guard }], guard := some (14, true) }) (v := undef) rfl (by kernel_rfl) (by kernel_rfl) (by kernel_rfl) (fun _ _ _ h => h) (Or.inr ⟨by rfl, rfl⟩) (by assumption) ?_
    (try simp only [Act.put, List.setIfInBounds_toArray, List.set_cons_zero, List.set_cons_succ])
    refine wpAnyH_take (i := 16) (oi := { dst := some 24, op := Op.fieldAddr 49 (Operand.tmp 5) 3, type := 0, pos := "tree.go:46", after := #[{ on := 14, ground := Ground.guard }], guard := some (14, true) }) (v := undef) rfl (by kernel_rfl) (by kernel_rfl) (by kernel_rfl) (fun _ _ _ h => h) (Or.inr ⟨by rfl, rfl⟩) (by assumption) ?_
    (try simp only [Act.put, List.setIfInBounds_toArray, List.set_cons_zero, List.set_cons_succ])
    refine wpAnyH_take (i := 17) (oi := { dst := some 25, op := Op.load 24 (Operand.tmp 24), type := 24, pos := "tree.go:46", after := #[{ on := 16, ground := Ground.data }, { on := 14, ground := Ground.guard }], guard := some (14, true) }) (v := undef) rfl (by kernel_rfl) (by kernel_rfl) (by kernel_rfl) (fun _ _ _ h => h) (Or.inr ⟨by rfl, rfl⟩) (by assumption) ?_
    (try simp only [Act.put, List.setIfInBounds_toArray, List.set_cons_zero, List.set_cons_succ])
    refine wpAnyH_take (i := 18) (oi := { dst := some 26, op := Op.call { callee := Callee.value (Operand.func 125), args := #[Operand.tmp 23, Operand.tmp 25], argTypes := #[27, 24] }, type := 4, pos := "tree.go:46", after := #[{ on := 15, ground := Ground.data }, { on := 17, ground := Ground.data }, { on := 14, ground := Ground.chain }, { on := 14, ground := Ground.guard }], guard := some (14, true) }) (v := undef) rfl (by kernel_rfl) (by kernel_rfl) (by kernel_rfl) (fun _ _ _ h => h) (Or.inr ⟨by rfl, rfl⟩) (by assumption) ?_
    (try simp only [Act.put, List.setIfInBounds_toArray, List.set_cons_zero, List.set_cons_succ])
    refine wpAnyH_take (i := 19) (oi := { dst := some 27, op := Op.pick (Operand.tmp 22) (Operand.tmp 26) (Operand.const (Value.bool false)), type := 4, pos := "tree.go:46", after := #[{ on := 14, ground := Ground.data }, { on := 18, ground := Ground.data }, { on := 20, ground := Ground.gcOnly Departure.lateStores }], guard := none }) (v := ?_) rfl (by kernel_rfl) (by kernel_rfl) (by kernel_rfl) (fun _ _ _ h => h) (Or.inl ⟨by rfl, ?_⟩) (by assumption) ?_
    rotate_left
    · (intro w hSw; (try dsimp only at hSw); go_simp; try (with_reducible rfl))
    (try simp only [Act.put, List.setIfInBounds_toArray, List.set_cons_zero, List.set_cons_succ])
    refine wpAnyH_ready (rs := [20]) (by kernel_rfl) (by simp) ?_
    refine AllReadyH.cons rfl (fun K hK => ?_) AllReadyH.nil
    go_simp
    refine hK.out _ _ ?_ (fun hHeld2 => ?_)
    · go_simp
    clear hK K
    (try simp only [Act.put, List.setIfInBounds_toArray, List.set_cons_zero, List.set_cons_succ])
    refine wpAnyH_take (i := 21) (oi := { dst := some 7, op := Op.assign (Operand.tmp 27), type := 4, pos := "tree.go:46", after := #[{ on := 19, ground := Ground.data }, { on := 20, ground := Ground.chain }, { on := 0, ground := Ground.phase }, { on := 1, ground := Ground.phase }, { on := 2, ground := Ground.phase }, { on := 3, ground := Ground.phase }, { on := 4, ground := Ground.phase }, { on := 5, ground := Ground.phase }, { on := 6, ground := Ground.phase }, { on := 7, ground := Ground.phase }, { on := 8, ground := Ground.phase }, { on := 9, ground := Ground.phase }, { on := 10, ground := Ground.phase }, { on := 11, ground := Ground.phase }, { on := 12, ground := Ground.phase }, { on := 13, ground := Ground.phase }, { on := 14, ground := Ground.phase }, { on := 15, ground := Ground.phase }, { on := 16, ground := Ground.phase }, { on := 17, ground := Ground.phase }, { on := 18, ground := Ground.phase }, { on := 19, ground := Ground.phase }, { on := 20, ground := Ground.phase }], guard := none }) (v := ?_) rfl (by kernel_rfl) (by kernel_rfl) (by kernel_rfl) (fun _ _ _ h => h) (Or.inl ⟨by rfl, ?_⟩) (by assumption) ?_
    rotate_left
    · (intro w hSw; (try dsimp only at hSw); go_simp; try (with_reducible rfl))
    (try simp only [Act.put, List.setIfInBounds_toArray, List.set_cons_zero, List.set_cons_succ])
    refine wpAnyH_done (by kernel_rfl) ?_ _
    all_goals (clear HH; go_wp2_with fail)
    all_goals (refine bodyPost_ret (v := .tuple #[.agg #[.int .i64 i1, .int .i64 i2, .int .i64 q1, .int .i64 q2, .string oname, .bool odir, .bool false, .slice none 0 0, .int .i64 0, .int .i64 0], .bool false]) (by simp [results, Tryz.results53, go_sem]) rfl ⟨rfl, ?_⟩)
    all_goals exact up_trans (up_trans (up_trans (up_alloc _ _) (up_alloc _ _)) (up_alloc _ _)) (up_drew _)
  · obtain rfl := h1
    rw [stamp_eq_ff2 _ _ h2]
    generalize dirI L ⟨q1, q2⟩ = hd at HH ⊢
    go_enter Tryz.func68, Tryz.ntmps68
    go_wp2_with fail
    first | go_region_held3 (fun W => W.cell? ⟨w.heap.size, 0, none⟩ = some (.int .i64 i1) ∧ W.cell? ⟨w.heap.size, 1, none⟩ = some (.int .i64 i2) ∧ W.cell? ⟨w.heap.size + 1, 3, none⟩ = some (.int .i64 i1) ∧ W.cell? ⟨w.heap.size + 1, 4, none⟩ = some (.int .i64 n2) ∧ W.cell? ⟨w.heap.size + 1, 5, none⟩ = some (.int .i64 q1) ∧ W.cell? ⟨w.heap.size + 1, 6, none⟩ = some (.int .i64 q2) ∧ W.cell? ⟨w.heap.size + 1, 7, none⟩ = some (.bool odir) ∧ W.cell? ⟨w.heap.size + 1, 8, none⟩ = some (.string oname)) (go_simp) ((go_at_call 125; refine (HH.out _ (up_trans (up_trans (up_trans (up_alloc _ _) (up_alloc _ _)) (up_alloc _ _)) (up_drew _))).mono ?_; rintro e w1 ⟨rfl, hu⟩; have hb1 := hu.below; obtain ⟨hc1, hf1⟩ := bcell hb1; have hz := hb1.size)) | fail "no"
    all_goals (clear HH; go_wp2_with fail)
    all_goals (have h7 : w1.cell? ⟨w.heap.size + 1 + 1, 7, none⟩ = some (.slice none 0 0) := by go_simp)
    all_goals (have hs7 : ∀ u, (w1.setCell ⟨w.heap.size + 1 + 1, 7, none⟩ u).cell? ⟨w.heap.size + 1 + 1, 7, none⟩ = some u := fun u => World.cell?_setCell_same _ _ _ h7)
    all_goals (refine bodyPost_ret (v := .tuple #[.agg #[.int .i64 i1, .int .i64 n2, .int .i64 q1, .int .i64 q2, .string oname, .bool odir, .bool false, .slice none 0 0, .int .i64 0, .int .i64 0], .bool hd]) (by simp [results, Tryz.results53, go_sem, hc1, hz, h7, hs7]) rfl ⟨by simp, ?_⟩)
    all_goals (have hbw := up_trans (up_trans (up_trans (up_trans (up_alloc _ _) (up_alloc _ _)) (up_alloc _ _)) (up_drew _)) hb1; ((repeat (first | (with_reducible exact hbw) | (with_reducible refine up_set ?_ ?_ _) | (with_reducible refine up_trans ?_ (up_drew _)))); all_goals ((try dsimp only); omega)))
  · rw [stamp_eq_ff1 _ _ h1]
    generalize dirI L ⟨q1, q2⟩ = hd at HH ⊢
    go_enter Tryz.func68, Tryz.ntmps68
    go_wp2_with fail
    first | go_region_held3 (fun W => W.cell? ⟨w.heap.size, 0, none⟩ = some (.int .i64 i1) ∧ W.cell? ⟨w.heap.size, 1, none⟩ = some (.int .i64 i2) ∧ W.cell? ⟨w.heap.size + 1, 3, none⟩ = some (.int .i64 n1) ∧ W.cell? ⟨w.heap.size + 1, 4, none⟩ = some (.int .i64 n2) ∧ W.cell? ⟨w.heap.size + 1, 5, none⟩ = some (.int .i64 q1) ∧ W.cell? ⟨w.heap.size + 1, 6, none⟩ = some (.int .i64 q2) ∧ W.cell? ⟨w.heap.size + 1, 7, none⟩ = some (.bool odir) ∧ W.cell? ⟨w.heap.size + 1, 8, none⟩ = some (.string oname)) (go_simp) ((go_at_call 125; refine (HH.out _ (up_trans (up_trans (up_trans (up_alloc _ _) (up_alloc _ _)) (up_alloc _ _)) (up_drew _))).mono ?_; rintro e w1 ⟨rfl, hu⟩; have hb1 := hu.below; obtain ⟨hc1, hf1⟩ := bcell hb1; have hz := hb1.size)) | fail "no"
    all_goals (clear HH; go_wp2_with fail)
    all_goals (have h7 : w1.cell? ⟨w.heap.size + 1 + 1, 7, none⟩ = some (.slice none 0 0) := by go_simp)
    all_goals (have hs7 : ∀ u, (w1.setCell ⟨w.heap.size + 1 + 1, 7, none⟩ u).cell? ⟨w.heap.size + 1 + 1, 7, none⟩ = some u := fun u => World.cell?_setCell_same _ _ _ h7)
    all_goals (refine bodyPost_ret (v := .tuple #[.agg #[.int .i64 n1, .int .i64 n2, .int .i64 q1, .int .i64 q2, .string oname, .bool odir, .bool false, .slice none 0 0, .int .i64 0, .int .i64 0], .bool hd]) (by simp [results, Tryz.results53, go_sem, hc1, hz, h7, hs7]) rfl ⟨by simp, ?_⟩)
    all_goals (have hbw := up_trans (up_trans (up_trans (up_trans (up_alloc _ _) (up_alloc _ _)) (up_alloc _ _)) (up_drew _)) hb1; ((repeat (first | (with_reducible exact hbw) | (with_reducible refine up_set ?_ ?_ _) | (with_reducible refine up_trans ?_ (up_drew _)))); all_goals ((try dsimp only); omega)))
end Go.Proofs.YtefhfoioeoijlaaGreatDoor
namespace Go.Proofs.YtefhfoioeoijlaaGreatDoor
open Go.RowKit Go.Sort
set_option maxRecDepth 20000 in
set_option maxHeartbeats 4000000 in
theorem remove_at {w : World} (tb : Nat) (x : Item) (o : OpD) (xA : Option Addr) (xn xc : Nat) (oA : Option Addr) (on oc : Nat) :
    Calls Tryz.prog 70 #[trP tb, itV x (.slice xA xn xc), opV o (.slice oA on oc)] w fun e w' =>
      e = .returned (.tuple #[itV { x with gone := true } (.slice xA xn xc), .bool (decide (x.node = o.node))]) ∧ Below w.heap.size w w' := by
  obtain ⟨⟨i1, i2⟩, ⟨p1, p2⟩, name, dir, gone, data, ⟨b1, b2⟩⟩ := x
  obtain ⟨kind, ⟨a1, a2⟩, ⟨n1, n2⟩, ⟨q1, q2⟩, odir, oname, odata⟩ := o
  unfold itV opV trP
  simp only
  rcases stamp_cases i1 i2 n1 n2 with ⟨h1, h2⟩ | ⟨h1, h2⟩ | h1
  · subst h1; subst h2
    rw [stamp_eq_tt]
    go_enter Tryz.func70, Tryz.ntmps70
    go_wp2_with fail
    go_region
    go_wp2_with fail
    refine bodyPost_ret (v := .tuple #[.agg #[.int .i64 i1, .int .i64 i2, .int .i64 p1, .int .i64 p2, .string name, .bool dir, .bool true, .slice xA xn xc, .int .i64 b1, .int .i64 b2], .bool true]) (by simp [results, Tryz.results55, go_sem]) rfl ⟨rfl, ?_⟩
    exact up_trans (up_trans (up_trans (up_alloc _ _) (up_alloc _ _)) (up_alloc _ _)) (up_drew _)
  · obtain rfl := h1
    rw [stamp_eq_ff2 _ _ h2]
    go_enter Tryz.func70, Tryz.ntmps70
    go_wp2_with fail
    go_region
    go_wp2_with fail
    refine bodyPost_ret (v := .tuple #[.agg #[.int .i64 i1, .int .i64 i2, .int .i64 p1, .int .i64 p2, .string name, .bool dir, .bool true, .slice xA xn xc, .int .i64 b1, .int .i64 b2], .bool false]) (by simp [results, Tryz.results55, go_sem]) rfl ⟨rfl, ?_⟩
    exact up_trans (up_trans (up_trans (up_alloc _ _) (up_alloc _ _)) (up_alloc _ _)) (up_drew _)
  · rw [stamp_eq_ff1 _ _ h1]
    go_enter Tryz.func70, Tryz.ntmps70
    go_wp2_with fail
    go_region
    go_wp2_with fail
    refine bodyPost_ret (v := .tuple #[.agg #[.int .i64 i1, .int .i64 i2, .int .i64 p1, .int .i64 p2, .string name, .bool dir, .bool true, .slice xA xn xc, .int .i64 b1, .int .i64 b2], .bool false]) (by simp [results, Tryz.results55, go_sem]) rfl ⟨rfl, ?_⟩
    exact up_trans (up_trans (up_trans (up_alloc _ _) (up_alloc _ _)) (up_alloc _ _)) (up_drew _)
end Go.Proofs.YtefhfoioeoijlaaGreatDoor
namespace Go.Proofs.YtefhfoioeoijlaaGreatDoor
open Go.RowKit Go.Sort
set_option maxRecDepth 20000 in
set_option maxHeartbeats 4000000 in
theorem write_at {B : Nat} {w : World} (hB : B ≤ w.heap.size) (tb : Nat) (x : Item) (o : OpD) (xA : Option Addr) (xn xc : Nat) (oA : Option Addr) (on oc : Nat) (hD : Dat B w (.slice oA on oc) o.data) :
    Calls Tryz.prog 67 #[trP tb, itV x (.slice xA xn xc), opV o (.slice oA on oc)] w fun e w' =>
      ∃ d', e = .returned (.tuple #[itV { x with data := o.data, by_ := o.at_ } d', .bool (decide (x.node = o.node) && !x.dir)]) ∧ Dat B w' d' o.data ∧ Below w.heap.size w w' := by
  obtain ⟨⟨i1, i2⟩, ⟨p1, p2⟩, name, dir, gone, data, ⟨b1, b2⟩⟩ := x
  obtain ⟨kind, ⟨a1, a2⟩, ⟨n1, n2⟩, ⟨q1, q2⟩, odir, oname, odata⟩ := o
  have HC := Lib.hid (fun (W : World) (hb : Below w.heap.size w W) => clone_any (hD.up hb))
  clear hD
  unfold itV opV trP
  simp only at HC ⊢
  rcases stamp_cases i1 i2 n1 n2 with ⟨h1, h2⟩ | ⟨h1, h2⟩ | h1
  · subst h1; subst h2
    rw [stamp_eq_tt]
    go_enter Tryz.func67, Tryz.ntmps67
    go_wp2_with fail
    first | go_region_held3 (fun W => W.cell? ⟨w.heap.size + 1, 9, none⟩ = some (.slice oA on oc) ∧ W.cell? ⟨w.heap.size + 1, 1, none⟩ = some (.int .i64 a1) ∧ W.cell? ⟨w.heap.size + 1, 2, none⟩ = some (.int .i64 a2)) (go_simp) ((go_at_call 122; refine (HC.out _ (up_trans (up_trans (up_trans (up_alloc _ _) (up_alloc _ _)) (up_alloc _ _)) (up_drew _))).mono ?_; rintro e w1 ⟨d', rfl, hDd, hb1⟩; obtain ⟨A', n', c', rfl⟩ := hDd.form; obtain ⟨hc1, hf1⟩ := bcell hb1; have hz := hb1.size)) | fail "no"
    all_goals (clear HC)
    all_goals (have g7 : w1.cell? ⟨w.heap.size, 7, none⟩ = some (.slice xA xn xc) := by go_simp)
    all_goals (have gs7 : ∀ u, (w1.setCell ⟨w.heap.size, 7, none⟩ u).cell? ⟨w.heap.size, 7, none⟩ = some u := fun u => World.cell?_setCell_same _ _ _ g7)
    all_goals (have g8 : w1.cell? ⟨w.heap.size, 8, none⟩ = some (.int .i64 b1) := by go_simp)
    all_goals (have g9 : w1.cell? ⟨w.heap.size, 9, none⟩ = some (.int .i64 b2) := by go_simp)
    all_goals (have h7 : w1.cell? ⟨w.heap.size + 1 + 1, 7, none⟩ = some (.slice none 0 0) := by go_simp)
    all_goals (have hs7 : ∀ u, (w1.setCell ⟨w.heap.size + 1 + 1, 7, none⟩ u).cell? ⟨w.heap.size + 1 + 1, 7, none⟩ = some u := fun u => World.cell?_setCell_same _ _ _ h7)
    all_goals go_wp2_with fail
    all_goals (refine bodyPost_ret (v := .tuple #[.agg #[.int .i64 i1, .int .i64 i2, .int .i64 p1, .int .i64 p2, .string name, .bool dir, .bool gone, .slice A' n' c', .int .i64 a1, .int .i64 a2], .bool (!dir)]) (by simp [results, Tryz.results52, go_sem, hc1, hz, h7, hs7, g7, gs7]) rfl ⟨.slice A' n' c', by simp, ?_, ?_⟩)
    all_goals (have hbb := up_trans (up_trans (up_trans (up_alloc w (.cells #[.int .i64 i1, .int .i64 i2, .int .i64 p1, .int .i64 p2, .string name, .bool dir, .bool gone, .slice xA xn xc, .int .i64 b1, .int .i64 b2] 42)) (up_alloc _ (.cells #[.int .i64 kind, .int .i64 a1, .int .i64 a2, .int .i64 i1, .int .i64 i2, .int .i64 q1, .int .i64 q2, .bool odir, .string oname, .slice oA on oc] 49))) (up_alloc _ (.cells #[.int .i64 0, .int .i64 0, .int .i64 0, .int .i64 0, .string ⟨#[]⟩, .bool false, .bool false, .slice none 0 0, .int .i64 0, .int .i64 0] 42))) (up_drew _))
    all_goals (have N0 : NotU8 w1 w.heap.size := NotU8.later (w := w.alloc _) (alloc_get0 w _) (by decide) (up_trans (up_trans (up_trans (up_alloc _ _) (up_alloc _ _)) (up_drew _)) hb1))
    all_goals (have N2 : NotU8 w1 (w.heap.size + 1 + 1) := NotU8.later (w := ((w.alloc _).alloc _).alloc _) (alloc_get2 w _ _ _) (by decide) (up_trans (up_drew _) hb1))
    all_goals (have hbw := up_trans hbb hb1)
    all_goals first | ((repeat (first | (with_reducible exact hDd) | (with_reducible refine Dat.set ?_ ?_ ?_ _))); all_goals first | ((try dsimp only); omega) | ((repeat (with_reducible refine NotU8.set ?_ _ _)); first | (with_reducible exact N0) | (with_reducible exact N2))) | ((repeat (first | (with_reducible exact hbw) | (with_reducible refine up_set ?_ ?_ _) | (with_reducible refine up_trans ?_ (up_drew _)))); all_goals ((try dsimp only); omega))
  · obtain rfl := h1
    rw [stamp_eq_ff2 _ _ h2]
    go_enter Tryz.func67, Tryz.ntmps67
    go_wp2_with fail
    first | go_region_held3 (fun W => W.cell? ⟨w.heap.size + 1, 9, none⟩ = some (.slice oA on oc) ∧ W.cell? ⟨w.heap.size + 1, 1, none⟩ = some (.int .i64 a1) ∧ W.cell? ⟨w.heap.size + 1, 2, none⟩ = some (.int .i64 a2)) (go_simp) ((go_at_call 122; refine (HC.out _ (up_trans (up_trans (up_trans (up_alloc _ _) (up_alloc _ _)) (up_alloc _ _)) (up_drew _))).mono ?_; rintro e w1 ⟨d', rfl, hDd, hb1⟩; obtain ⟨A', n', c', rfl⟩ := hDd.form; obtain ⟨hc1, hf1⟩ := bcell hb1; have hz := hb1.size)) | fail "no"
    all_goals (clear HC)
    all_goals (have g7 : w1.cell? ⟨w.heap.size, 7, none⟩ = some (.slice xA xn xc) := by go_simp)
    all_goals (have gs7 : ∀ u, (w1.setCell ⟨w.heap.size, 7, none⟩ u).cell? ⟨w.heap.size, 7, none⟩ = some u := fun u => World.cell?_setCell_same _ _ _ g7)
    all_goals (have g8 : w1.cell? ⟨w.heap.size, 8, none⟩ = some (.int .i64 b1) := by go_simp)
    all_goals (have g9 : w1.cell? ⟨w.heap.size, 9, none⟩ = some (.int .i64 b2) := by go_simp)
    all_goals (have h7 : w1.cell? ⟨w.heap.size + 1 + 1, 7, none⟩ = some (.slice none 0 0) := by go_simp)
    all_goals (have hs7 : ∀ u, (w1.setCell ⟨w.heap.size + 1 + 1, 7, none⟩ u).cell? ⟨w.heap.size + 1 + 1, 7, none⟩ = some u := fun u => World.cell?_setCell_same _ _ _ h7)
    all_goals go_wp2_with fail
    all_goals (refine bodyPost_ret (v := .tuple #[.agg #[.int .i64 i1, .int .i64 i2, .int .i64 p1, .int .i64 p2, .string name, .bool dir, .bool gone, .slice A' n' c', .int .i64 a1, .int .i64 a2], .bool (false)]) (by simp [results, Tryz.results52, go_sem, hc1, hz, h7, hs7, g7, gs7]) rfl ⟨.slice A' n' c', by simp, ?_, ?_⟩)
    all_goals (have hbb := up_trans (up_trans (up_trans (up_alloc w (.cells #[.int .i64 i1, .int .i64 i2, .int .i64 p1, .int .i64 p2, .string name, .bool dir, .bool gone, .slice xA xn xc, .int .i64 b1, .int .i64 b2] 42)) (up_alloc _ (.cells #[.int .i64 kind, .int .i64 a1, .int .i64 a2, .int .i64 i1, .int .i64 n2, .int .i64 q1, .int .i64 q2, .bool odir, .string oname, .slice oA on oc] 49))) (up_alloc _ (.cells #[.int .i64 0, .int .i64 0, .int .i64 0, .int .i64 0, .string ⟨#[]⟩, .bool false, .bool false, .slice none 0 0, .int .i64 0, .int .i64 0] 42))) (up_drew _))
    all_goals (have N0 : NotU8 w1 w.heap.size := NotU8.later (w := w.alloc _) (alloc_get0 w _) (by decide) (up_trans (up_trans (up_trans (up_alloc _ _) (up_alloc _ _)) (up_drew _)) hb1))
    all_goals (have N2 : NotU8 w1 (w.heap.size + 1 + 1) := NotU8.later (w := ((w.alloc _).alloc _).alloc _) (alloc_get2 w _ _ _) (by decide) (up_trans (up_drew _) hb1))
    all_goals (have hbw := up_trans hbb hb1)
    all_goals first | ((repeat (first | (with_reducible exact hDd) | (with_reducible refine Dat.set ?_ ?_ ?_ _))); all_goals first | ((try dsimp only); omega) | ((repeat (with_reducible refine NotU8.set ?_ _ _)); first | (with_reducible exact N0) | (with_reducible exact N2))) | ((repeat (first | (with_reducible exact hbw) | (with_reducible refine up_set ?_ ?_ _) | (with_reducible refine up_trans ?_ (up_drew _)))); all_goals ((try dsimp only); omega))
  · rw [stamp_eq_ff1 _ _ h1]
    go_enter Tryz.func67, Tryz.ntmps67
    go_wp2_with fail
    first | go_region_held3 (fun W => W.cell? ⟨w.heap.size + 1, 9, none⟩ = some (.slice oA on oc) ∧ W.cell? ⟨w.heap.size + 1, 1, none⟩ = some (.int .i64 a1) ∧ W.cell? ⟨w.heap.size + 1, 2, none⟩ = some (.int .i64 a2)) (go_simp) ((go_at_call 122; refine (HC.out _ (up_trans (up_trans (up_trans (up_alloc _ _) (up_alloc _ _)) (up_alloc _ _)) (up_drew _))).mono ?_; rintro e w1 ⟨d', rfl, hDd, hb1⟩; obtain ⟨A', n', c', rfl⟩ := hDd.form; obtain ⟨hc1, hf1⟩ := bcell hb1; have hz := hb1.size)) | fail "no"
    all_goals (clear HC)
    all_goals (have g7 : w1.cell? ⟨w.heap.size, 7, none⟩ = some (.slice xA xn xc) := by go_simp)
    all_goals (have gs7 : ∀ u, (w1.setCell ⟨w.heap.size, 7, none⟩ u).cell? ⟨w.heap.size, 7, none⟩ = some u := fun u => World.cell?_setCell_same _ _ _ g7)
    all_goals (have g8 : w1.cell? ⟨w.heap.size, 8, none⟩ = some (.int .i64 b1) := by go_simp)
    all_goals (have g9 : w1.cell? ⟨w.heap.size, 9, none⟩ = some (.int .i64 b2) := by go_simp)
    all_goals (have h7 : w1.cell? ⟨w.heap.size + 1 + 1, 7, none⟩ = some (.slice none 0 0) := by go_simp)
    all_goals (have hs7 : ∀ u, (w1.setCell ⟨w.heap.size + 1 + 1, 7, none⟩ u).cell? ⟨w.heap.size + 1 + 1, 7, none⟩ = some u := fun u => World.cell?_setCell_same _ _ _ h7)
    all_goals go_wp2_with fail
    all_goals (refine bodyPost_ret (v := .tuple #[.agg #[.int .i64 i1, .int .i64 i2, .int .i64 p1, .int .i64 p2, .string name, .bool dir, .bool gone, .slice A' n' c', .int .i64 a1, .int .i64 a2], .bool (false)]) (by simp [results, Tryz.results52, go_sem, hc1, hz, h7, hs7, g7, gs7]) rfl ⟨.slice A' n' c', by simp, ?_, ?_⟩)
    all_goals (have hbb := up_trans (up_trans (up_trans (up_alloc w (.cells #[.int .i64 i1, .int .i64 i2, .int .i64 p1, .int .i64 p2, .string name, .bool dir, .bool gone, .slice xA xn xc, .int .i64 b1, .int .i64 b2] 42)) (up_alloc _ (.cells #[.int .i64 kind, .int .i64 a1, .int .i64 a2, .int .i64 n1, .int .i64 n2, .int .i64 q1, .int .i64 q2, .bool odir, .string oname, .slice oA on oc] 49))) (up_alloc _ (.cells #[.int .i64 0, .int .i64 0, .int .i64 0, .int .i64 0, .string ⟨#[]⟩, .bool false, .bool false, .slice none 0 0, .int .i64 0, .int .i64 0] 42))) (up_drew _))
    all_goals (have N0 : NotU8 w1 w.heap.size := NotU8.later (w := w.alloc _) (alloc_get0 w _) (by decide) (up_trans (up_trans (up_trans (up_alloc _ _) (up_alloc _ _)) (up_drew _)) hb1))
    all_goals (have N2 : NotU8 w1 (w.heap.size + 1 + 1) := NotU8.later (w := ((w.alloc _).alloc _).alloc _) (alloc_get2 w _ _ _) (by decide) (up_trans (up_drew _) hb1))
    all_goals (have hbw := up_trans hbb hb1)
    all_goals first | ((repeat (first | (with_reducible exact hDd) | (with_reducible refine Dat.set ?_ ?_ ?_ _))); all_goals first | ((try dsimp only); omega) | ((repeat (with_reducible refine NotU8.set ?_ _ _)); first | (with_reducible exact N0) | (with_reducible exact N2))) | ((repeat (first | (with_reducible exact hbw) | (with_reducible refine up_set ?_ ?_ _) | (with_reducible refine up_trans ?_ (up_drew _)))); all_goals ((try dsimp only); omega))
end Go.Proofs.YtefhfoioeoijlaaGreatDoor
namespace Go.Proofs.YtefhfoioeoijlaaGreatDoor
open Go.RowKit Go.Sort
set_option maxRecDepth 20000 in
set_option maxHeartbeats 4000000 in
theorem move_at {B : Nat} {w : World} {tb r : Nat} {L : List Item} (h : TreeIs B w tb r L) (x : Item) (o : OpD) (xA : Option Addr) (xn xc : Nat) (oA : Option Addr) (on oc : Nat) :
    Calls Tryz.prog 69 #[trP tb, itV x (.slice xA xn xc), opV o (.slice oA on oc)] w fun e w' =>
      e = .returned (.tuple #[itV { x with parent := o.parent, name := o.name, gone := false } (.slice xA xn xc), .bool (decide (x.node = o.node) && (dirI L o.parent && !withinI L o.node 301 o.parent))]) ∧ Below w.heap.size w w' := by
  obtain ⟨⟨i1, i2⟩, ⟨p1, p2⟩, name, dir, gone, data, ⟨b1, b2⟩⟩ := x
  obtain ⟨kind, ⟨a1, a2⟩, ⟨n1, n2⟩, ⟨q1, q2⟩, odir, oname, odata⟩ := o
  have HH := Lib.hid (fun (W : World) (hW : Below w.heap.size w W) => holds_at (h.up hW) q1 q2)
  have HW := Lib.hid (fun (W : World) (hW : Below w.heap.size w W) => within_at (h.up hW) n1 n2 q1 q2)
  clear h
  unfold itV opV trP
  unfold trP at HH HW
  simp only
  generalize dirI L ⟨q1, q2⟩ = hd at HH ⊢
  generalize withinI L ⟨n1, n2⟩ 301 ⟨q1, q2⟩ = hw at HW ⊢
  rcases stamp_cases i1 i2 n1 n2 with ⟨h1, h2⟩ | ⟨h1, h2⟩ | h1
  · subst h1; subst h2
    rw [stamp_eq_tt]
    cases hd
    · -- nothing holds there
      go_enter Tryz.func69, Tryz.ntmps69
      go_wp2_with fail
      refine (HH.out _ (up_trans (up_trans (up_alloc _ _) (up_alloc _ _)) (up_alloc _ _))).mono ?_
      rintro e w1 ⟨rfl, hu⟩
      have hb1 := hu.below
      obtain ⟨hc1, hf1⟩ := bcell hb1
      have hz := hb1.size
      have hbw := up_trans (up_trans (up_trans (up_alloc w _) (up_alloc _ _)) (up_alloc _ _)) hb1
      have x0 : w1.cell? ⟨w.heap.size, 0, none⟩ = some (.int .i64 i1) := by go_simp
      have z0 : w1.cell? ⟨w.heap.size + 1 + 1, 0, none⟩ = some (.int .i64 0) := by go_simp
      have fz0 : w1.frozen? ⟨w.heap.size + 1 + 1, 0, none⟩ = false := by go_simp
      have x1 : w1.cell? ⟨w.heap.size, 1, none⟩ = some (.int .i64 i2) := by go_simp
      have z1 : w1.cell? ⟨w.heap.size + 1 + 1, 1, none⟩ = some (.int .i64 0) := by go_simp
      have fz1 : w1.frozen? ⟨w.heap.size + 1 + 1, 1, none⟩ = false := by go_simp
      have x2 : w1.cell? ⟨w.heap.size, 2, none⟩ = some (.int .i64 p1) := by go_simp
      have z2 : w1.cell? ⟨w.heap.size + 1 + 1, 2, none⟩ = some (.int .i64 0) := by go_simp
      have fx2 : w1.frozen? ⟨w.heap.size, 2, none⟩ = false := by go_simp
      have fz2 : w1.frozen? ⟨w.heap.size + 1 + 1, 2, none⟩ = false := by go_simp
      have x3 : w1.cell? ⟨w.heap.size, 3, none⟩ = some (.int .i64 p2) := by go_simp
      have z3 : w1.cell? ⟨w.heap.size + 1 + 1, 3, none⟩ = some (.int .i64 0) := by go_simp
      have fx3 : w1.frozen? ⟨w.heap.size, 3, none⟩ = false := by go_simp
      have fz3 : w1.frozen? ⟨w.heap.size + 1 + 1, 3, none⟩ = false := by go_simp
      have x4 : w1.cell? ⟨w.heap.size, 4, none⟩ = some (.string name) := by go_simp
      have z4 : w1.cell? ⟨w.heap.size + 1 + 1, 4, none⟩ = some (.string ⟨#[]⟩) := by go_simp
      have fx4 : w1.frozen? ⟨w.heap.size, 4, none⟩ = false := by go_simp
      have fz4 : w1.frozen? ⟨w.heap.size + 1 + 1, 4, none⟩ = false := by go_simp
      have x5 : w1.cell? ⟨w.heap.size, 5, none⟩ = some (.bool dir) := by go_simp
      have z5 : w1.cell? ⟨w.heap.size + 1 + 1, 5, none⟩ = some (.bool false) := by go_simp
      have fz5 : w1.frozen? ⟨w.heap.size + 1 + 1, 5, none⟩ = false := by go_simp
      have x6 : w1.cell? ⟨w.heap.size, 6, none⟩ = some (.bool gone) := by go_simp
      have z6 : w1.cell? ⟨w.heap.size + 1 + 1, 6, none⟩ = some (.bool false) := by go_simp
      have fx6 : w1.frozen? ⟨w.heap.size, 6, none⟩ = false := by go_simp
      have fz6 : w1.frozen? ⟨w.heap.size + 1 + 1, 6, none⟩ = false := by go_simp
      have x7 : w1.cell? ⟨w.heap.size, 7, none⟩ = some (.slice xA xn xc) := by go_simp
      have z7 : w1.cell? ⟨w.heap.size + 1 + 1, 7, none⟩ = some (.slice none 0 0) := by go_simp
      have fz7 : w1.frozen? ⟨w.heap.size + 1 + 1, 7, none⟩ = false := by go_simp
      have x8 : w1.cell? ⟨w.heap.size, 8, none⟩ = some (.int .i64 b1) := by go_simp
      have z8 : w1.cell? ⟨w.heap.size + 1 + 1, 8, none⟩ = some (.int .i64 0) := by go_simp
      have fz8 : w1.frozen? ⟨w.heap.size + 1 + 1, 8, none⟩ = false := by go_simp
      have x9 : w1.cell? ⟨w.heap.size, 9, none⟩ = some (.int .i64 b2) := by go_simp
      have z9 : w1.cell? ⟨w.heap.size + 1 + 1, 9, none⟩ = some (.int .i64 0) := by go_simp
      have fz9 : w1.frozen? ⟨w.heap.size + 1 + 1, 9, none⟩ = false := by go_simp
      have y5 : w1.cell? ⟨w.heap.size + 1, 5, none⟩ = some (.int .i64 q1) := by go_simp
      have y6 : w1.cell? ⟨w.heap.size + 1, 6, none⟩ = some (.int .i64 q2) := by go_simp
      have y8 : w1.cell? ⟨w.heap.size + 1, 8, none⟩ = some (.string oname) := by go_simp
      go_wp2_with fail
      go_region
      go_wp2_with fail
      refine bodyPost_ret (v := .tuple #[.agg #[.int .i64 i1, .int .i64 i2, .int .i64 q1, .int .i64 q2, .string oname, .bool dir, .bool false, .slice xA xn xc, .int .i64 b1, .int .i64 b2], .bool false]) (by simp [results, Tryz.results54, go_sem, *]) rfl ⟨by simp, ?_⟩
      ((repeat (first | (with_reducible exact hbw) | (with_reducible refine up_set ?_ ?_ _) | (with_reducible refine up_trans ?_ (up_drew _)))); all_goals ((try dsimp only); omega))
    · -- something does
      go_enter Tryz.func69, Tryz.ntmps69
      go_wp2_with fail
      refine (HH.out _ (up_trans (up_trans (up_alloc _ _) (up_alloc _ _)) (up_alloc _ _))).mono ?_
      rintro e w1 ⟨rfl, hu⟩
      have hb1 := hu.below
      obtain ⟨hc1, hf1⟩ := bcell hb1
      have hz := hb1.size
      have hbw := up_trans (up_trans (up_trans (up_alloc w _) (up_alloc _ _)) (up_alloc _ _)) hb1
      go_wp2_with fail
      refine (HW.out _ hbw).mono ?_
      rintro e w2 ⟨rfl, hb2⟩
      obtain ⟨hc2, hf2⟩ := bcell (up_trans hb1 hb2)
      have hbw2 := up_trans hbw hb2
      have hz2 := (up_trans hb1 hb2).size
      clear hc1 hf1
      have x0 : w2.cell? ⟨w.heap.size, 0, none⟩ = some (.int .i64 i1) := by go_simp
      have z0 : w2.cell? ⟨w.heap.size + 1 + 1, 0, none⟩ = some (.int .i64 0) := by go_simp
      have fz0 : w2.frozen? ⟨w.heap.size + 1 + 1, 0, none⟩ = false := by go_simp
      have x1 : w2.cell? ⟨w.heap.size, 1, none⟩ = some (.int .i64 i2) := by go_simp
      have z1 : w2.cell? ⟨w.heap.size + 1 + 1, 1, none⟩ = some (.int .i64 0) := by go_simp
      have fz1 : w2.frozen? ⟨w.heap.size + 1 + 1, 1, none⟩ = false := by go_simp
      have x2 : w2.cell? ⟨w.heap.size, 2, none⟩ = some (.int .i64 p1) := by go_simp
      have z2 : w2.cell? ⟨w.heap.size + 1 + 1, 2, none⟩ = some (.int .i64 0) := by go_simp
      have fx2 : w2.frozen? ⟨w.heap.size, 2, none⟩ = false := by go_simp
      have fz2 : w2.frozen? ⟨w.heap.size + 1 + 1, 2, none⟩ = false := by go_simp
      have x3 : w2.cell? ⟨w.heap.size, 3, none⟩ = some (.int .i64 p2) := by go_simp
      have z3 : w2.cell? ⟨w.heap.size + 1 + 1, 3, none⟩ = some (.int .i64 0) := by go_simp
      have fx3 : w2.frozen? ⟨w.heap.size, 3, none⟩ = false := by go_simp
      have fz3 : w2.frozen? ⟨w.heap.size + 1 + 1, 3, none⟩ = false := by go_simp
      have x4 : w2.cell? ⟨w.heap.size, 4, none⟩ = some (.string name) := by go_simp
      have z4 : w2.cell? ⟨w.heap.size + 1 + 1, 4, none⟩ = some (.string ⟨#[]⟩) := by go_simp
      have fx4 : w2.frozen? ⟨w.heap.size, 4, none⟩ = false := by go_simp
      have fz4 : w2.frozen? ⟨w.heap.size + 1 + 1, 4, none⟩ = false := by go_simp
      have x5 : w2.cell? ⟨w.heap.size, 5, none⟩ = some (.bool dir) := by go_simp
      have z5 : w2.cell? ⟨w.heap.size + 1 + 1, 5, none⟩ = some (.bool false) := by go_simp
      have fz5 : w2.frozen? ⟨w.heap.size + 1 + 1, 5, none⟩ = false := by go_simp
      have x6 : w2.cell? ⟨w.heap.size, 6, none⟩ = some (.bool gone) := by go_simp
      have z6 : w2.cell? ⟨w.heap.size + 1 + 1, 6, none⟩ = some (.bool false) := by go_simp
      have fx6 : w2.frozen? ⟨w.heap.size, 6, none⟩ = false := by go_simp
      have fz6 : w2.frozen? ⟨w.heap.size + 1 + 1, 6, none⟩ = false := by go_simp
      have x7 : w2.cell? ⟨w.heap.size, 7, none⟩ = some (.slice xA xn xc) := by go_simp
      have z7 : w2.cell? ⟨w.heap.size + 1 + 1, 7, none⟩ = some (.slice none 0 0) := by go_simp
      have fz7 : w2.frozen? ⟨w.heap.size + 1 + 1, 7, none⟩ = false := by go_simp
      have x8 : w2.cell? ⟨w.heap.size, 8, none⟩ = some (.int .i64 b1) := by go_simp
      have z8 : w2.cell? ⟨w.heap.size + 1 + 1, 8, none⟩ = some (.int .i64 0) := by go_simp
      have fz8 : w2.frozen? ⟨w.heap.size + 1 + 1, 8, none⟩ = false := by go_simp
      have x9 : w2.cell? ⟨w.heap.size, 9, none⟩ = some (.int .i64 b2) := by go_simp
      have z9 : w2.cell? ⟨w.heap.size + 1 + 1, 9, none⟩ = some (.int .i64 0) := by go_simp
      have fz9 : w2.frozen? ⟨w.heap.size + 1 + 1, 9, none⟩ = false := by go_simp
      have y5 : w2.cell? ⟨w.heap.size + 1, 5, none⟩ = some (.int .i64 q1) := by go_simp
      have y6 : w2.cell? ⟨w.heap.size + 1, 6, none⟩ = some (.int .i64 q2) := by go_simp
      have y8 : w2.cell? ⟨w.heap.size + 1, 8, none⟩ = some (.string oname) := by go_simp
      go_wp2_with fail
      go_region
      go_wp2_with fail
      refine bodyPost_ret (v := .tuple #[.agg #[.int .i64 i1, .int .i64 i2, .int .i64 q1, .int .i64 q2, .string oname, .bool dir, .bool false, .slice xA xn xc, .int .i64 b1, .int .i64 b2], .bool (!hw)]) (by simp [results, Tryz.results54, go_sem, *]) rfl ⟨by simp, ?_⟩
      ((repeat (first | (with_reducible exact hbw2) | (with_reducible refine up_set ?_ ?_ _) | (with_reducible refine up_trans ?_ (up_drew _)))); all_goals ((try dsimp only); omega))
  · obtain rfl := h1
    rw [stamp_eq_ff2 _ _ h2]
    go_enter Tryz.func69, Tryz.ntmps69
    go_wp2_with fail
    go_region
    go_wp2_with fail
    refine bodyPost_ret (v := .tuple #[.agg #[.int .i64 i1, .int .i64 i2, .int .i64 q1, .int .i64 q2, .string oname, .bool dir, .bool false, .slice xA xn xc, .int .i64 b1, .int .i64 b2], .bool false]) (by simp [results, Tryz.results54, go_sem, *]) rfl ⟨by simp, ?_⟩
    exact up_trans (up_trans (up_trans (up_alloc _ _) (up_alloc _ _)) (up_alloc _ _)) (up_drew _)
  · rw [stamp_eq_ff1 _ _ h1]
    go_enter Tryz.func69, Tryz.ntmps69
    go_wp2_with fail
    go_region
    go_wp2_with fail
    refine bodyPost_ret (v := .tuple #[.agg #[.int .i64 i1, .int .i64 i2, .int .i64 q1, .int .i64 q2, .string oname, .bool dir, .bool false, .slice xA xn xc, .int .i64 b1, .int .i64 b2], .bool false]) (by simp [results, Tryz.results54, go_sem, *]) rfl ⟨by simp, ?_⟩
    exact up_trans (up_trans (up_trans (up_alloc _ _) (up_alloc _ _)) (up_alloc _ _)) (up_drew _)
end Go.Proofs.YtefhfoioeoijlaaGreatDoor

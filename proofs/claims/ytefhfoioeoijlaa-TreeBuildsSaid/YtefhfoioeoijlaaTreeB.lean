/- The tree: New, Len, Get, holds. -/
import Derived.Test.YtefhfoioeoijlaaTreeA
import Derived.Carry
set_option linter.unusedVariables false
set_option linter.unusedSimpArgs false
namespace Go.Proofs.Ytefhfoioeoijlaa
open Go.RowKit Go.Sort

/-- Block tb is a tree, whose map is block r, and that holds the items L. -/
def TreeIs (B : Nat) (w : World) (tb r : Nat) (L : List Item) : Prop :=
  w.heap[tb]? = some (.cells #[.map (some r)] 87 (0, 0)) ∧ B ≤ tb ∧ B ≤ r ∧ MapIs B w r L ∧ L.length ≤ 300

theorem TreeIs.lt {B : Nat} {w : World} {tb r : Nat} {L : List Item} (h : TreeIs B w tb r L) : tb < w.heap.size := (Array.getElem?_eq_some_iff.1 h.1).1
theorem TreeIs.up {B : Nat} {w w' : World} {tb r : Nat} {L : List Item} (h : TreeIs B w tb r L) (hb : Below w.heap.size w w') : TreeIs B w' tb r L :=
  ⟨(hb.block _ h.lt).trans h.1, h.2.1, h.2.2.1, h.2.2.2.1.up hb, h.2.2.2.2⟩
theorem TreeIs.cell {B : Nat} {w : World} {tb r : Nat} {L : List Item} (h : TreeIs B w tb r L) : w.cell? ⟨tb, 0, none⟩ = some (.map (some r)) := by
  simp [World.cell?, h.1]

theorem alloc_get0 (w : World) (o : Obj) : (w.alloc o).heap[w.heap.size]? = some o := heap_alloc_new w o
theorem alloc_get1 (w : World) (o o' : Obj) : ((w.alloc o).alloc o').heap[w.heap.size + 1]? = some o' := by
  have := heap_alloc_new (w.alloc o) o'
  simpa using this
theorem alloc_get2 (w : World) (o o' o'' : Obj) : (((w.alloc o).alloc o').alloc o'').heap[w.heap.size + 2]? = some o'' := by
  have := heap_alloc_new ((w.alloc o).alloc o') o''
  simpa using this
theorem alloc_get3 (w : World) (o o' o'' o3 : Obj) : ((((w.alloc o).alloc o').alloc o'').alloc o3).heap[w.heap.size + 3]? = some o3 := by
  have := heap_alloc_new (((w.alloc o).alloc o').alloc o'') o3
  simpa using this
/-- A block that is no bytes, and stays. -/
theorem NotU8.later {w w' : World} {b : Nat} {cs : Array Value} {e : TypeId} {fr : Nat × Nat} (h : w.heap[b]? = some (.cells cs e fr)) (hne : e ≠ 5) (hb : Below w.heap.size w w') : NotU8 w' b :=
  (NotU8.of h hne).up hb (Array.getElem?_eq_some_iff.1 h).1


def trP (tb : Nat) : Value := .pointer (some ⟨tb, 0, none⟩)

theorem tnew_any {B : Nat} {w : World} (hB : B ≤ w.heap.size) : Calls Try.prog 14 #[] w fun e w' => ∃ tb r, e = .returned (trP tb) ∧ TreeIs B w' tb r [] ∧ Below w.heap.size w w' ∧ w.heap.size ≤ tb ∧ w.heap.size ≤ r := by
  have hmm := @run_makeMap Try.prog
  go_enter Try.func14, Try.ntmps14
  go_wp2_with fail
  refine bodyPost_ret (v := trP (w.heap.size + 1)) (by simp [results, Try.results14, trP]) rfl ?_
  have hb := up_trans (up_alloc w (.map #[] 0)) (up_alloc _ (.cells #[.map (some w.heap.size)] 87))
  have h1 : ((w.alloc (.map #[] 0)).alloc (.cells #[.map (some w.heap.size)] 87)).heap[w.heap.size + 1]? = some (.cells #[.map (some w.heap.size)] 87 (0, 0)) := by
    have := heap_alloc_new (w.alloc (.map #[] 0)) (.cells #[.map (some w.heap.size)] 87)
    simpa using this
  have h2 : ((w.alloc (.map #[] 0)).alloc (.cells #[.map (some w.heap.size)] 87)).heap[w.heap.size]? = some (.map #[] 0) := by
    rw [(up_alloc (w.alloc (.map #[] 0)) (.cells #[.map (some w.heap.size)] 87)).block w.heap.size (by simp)]
    exact heap_alloc_new w _
  exact ⟨w.heap.size + 1, w.heap.size, rfl, ⟨h1, by omega, hB, ⟨#[], 0, [], h2, trivial, List.Perm.refl _, List.Pairwise.nil, by simp, by simp⟩, by simp⟩, hb, by omega, by omega⟩

theorem tlen_any {B : Nat} {w : World} {tb r : Nat} {L : List Item} (h : TreeIs B w tb r L) : Calls Try.prog 22 #[trP tb] w fun e w' => e = .returned (.int .i64 L.length) ∧ w' = w := by
  have hc := h.cell
  obtain ⟨es, clock, hr, hes⟩ := h.2.2.2.1.len
  have hl : ∀ ty, (Builtin.len_ #[85] ty #[.map (some r)]).run Try.prog w = .ok (.int .i64 L.length) w := fun ty => by rw [run_len_map w 85 ty r es clock (by kernel_rfl) hr, hes]; rfl
  clear hr hes h
  unfold trP
  go_enter Try.func22, Try.ntmps22
  go_wp2_with fail
  go_ret
  exact ⟨rfl, rfl⟩

theorem tget_any {B : Nat} {w : World} {tb r : Nat} {L : List Item} (h : TreeIs B w tb r L) (n : Stamp) : Calls Try.prog 23 #[trP tb, stV n] w fun e w' =>
    ∃ d, e = .returned (.tuple #[itV (gotI L n) d, .bool (hasI L n)]) ∧ Dat B w' d (gotI L n).data ∧ Below w.heap.size w w' := by
  have hlt := h.lt
  have hc := h.cell
  have hrl := h.2.2.2.1.lt
  have hrB := h.2.2.1
  obtain ⟨d, hd, hlk⟩ := h.2.2.2.1.look n
  have HO := Lib.hid (fun (W : World) (hW : Below w.heap.size w W) => own_any (B := B) (w := W) (by have := hW.size; omega) (hd.up hW))
  obtain ⟨dA, dn, dc, rfl⟩ := hd.form
  clear hd h
  unfold stV itV at hlk
  unfold stV trP itV
  unfold itV at HO
  generalize gotI L n = x at *
  generalize hasI L n = b at *
  obtain ⟨⟨n1, n2⟩, ⟨p1, p2⟩, name, dir, gone, data, ⟨b1, b2⟩⟩ := x
  obtain ⟨m1, m2⟩ := n
  simp only at hlk HO
  go_enter Try.func23, Try.ntmps23
  go_wp2_with fail
  have HL : ∀ (o o' o'' : Obj), (Instr.lookup 85 (.map (some r)) (.agg #[.int .i64 m1, .int .i64 m2]) true).run Try.prog (((w.alloc o).alloc o').alloc o'').drew = .ok (.tuple #[.agg #[.int .i64 n1, .int .i64 n2, .int .i64 p1, .int .i64 p2, .string name, .bool dir, .bool gone, .slice dA dn dc, .int .i64 b1, .int .i64 b2], .bool b]) (((w.alloc o).alloc o').alloc o'').drew := fun o o' o'' => (hlk _ ((up_trans (up_trans (up_trans (up_alloc w o) (up_alloc _ o')) (up_alloc _ o'')) (up_drew _)).block r hrl)).1
  have HC : ∀ (o o' o'' : Obj), (((w.alloc o).alloc o').alloc o'').drew.cell? ⟨tb, 0, none⟩ = some (.map (some r)) := fun o o' o'' => by rw [(up_trans (up_trans (up_trans (up_alloc w o) (up_alloc _ o')) (up_alloc _ o'')) (up_drew _)).cell (p := ⟨tb, 0, none⟩) hlt]; exact hc
  have HL2 : ∀ (o o' : Obj), (Instr.lookup 85 (.map (some r)) (.agg #[.int .i64 m1, .int .i64 m2]) true).run Try.prog ((w.alloc o).alloc o').drew = .ok (.tuple #[.agg #[.int .i64 n1, .int .i64 n2, .int .i64 p1, .int .i64 p2, .string name, .bool dir, .bool gone, .slice dA dn dc, .int .i64 b1, .int .i64 b2], .bool b]) ((w.alloc o).alloc o').drew := fun o o' => (hlk _ ((up_trans (up_trans (up_alloc w o) (up_alloc _ o')) (up_drew _)).block r hrl)).1
  have HC2 : ∀ (o o' : Obj), ((w.alloc o).alloc o').drew.cell? ⟨tb, 0, none⟩ = some (.map (some r)) := fun o o' => by rw [(up_trans (up_trans (up_alloc w o) (up_alloc _ o')) (up_drew _)).cell (p := ⟨tb, 0, none⟩) hlt]; exact hc
  go_region
  go_wp2_with fail
  have hb0 := fun (o o' o'' : Obj) => up_trans (up_trans (up_trans (up_alloc w o) (up_alloc _ o')) (up_alloc _ o'')) (up_drew (((w.alloc o).alloc o').alloc o''))
  have hbb := hb0 (.cells #[.int .i64 m1, .int .i64 m2] 24) (.cells #[.int .i64 0, .int .i64 0, .int .i64 0, .int .i64 0, .string ⟨#[]⟩, .bool false, .bool false, .slice none 0 0, .int .i64 0, .int .i64 0] 35) (.cells #[.int .i64 n1, .int .i64 n2, .int .i64 p1, .int .i64 p2, .string name, .bool dir, .bool gone, .slice dA dn dc, .int .i64 b1, .int .i64 b2] 35)
  refine (HO.out _ hbb).mono ?_
  rintro e w1 ⟨d', rfl, hD, hb⟩
  obtain ⟨A', n', c', rfl⟩ := hD.form
  obtain ⟨hc1, hf1⟩ := bcell hb
  have hz : w.heap.size + 2 < w1.heap.size := by have := hb.size; simp at this; omega
  go_wp2_with fail
  have h7 : w1.cell? ⟨w.heap.size + 1, 7, none⟩ = some (.slice none 0 0) := by go_simp
  have hs7 : ∀ u, (w1.setCell ⟨w.heap.size + 1, 7, none⟩ u).cell? ⟨w.heap.size + 1, 7, none⟩ = some u := fun u => World.cell?_setCell_same _ _ _ h7
  refine bodyPost_ret (v := .tuple #[.agg #[.int .i64 n1, .int .i64 n2, .int .i64 p1, .int .i64 p2, .string name, .bool dir, .bool gone, .slice A' n' c', .int .i64 b1, .int .i64 b2], .bool b]) (by simp [results, Try.results23, go_sem, hc1, hz, h7, hs7]) rfl ?_
  have N1 : NotU8 w1 (w.heap.size + 1) := NotU8.later (w := (w.alloc _).alloc _) (alloc_get1 w _ _) (by decide) (up_trans (up_trans (up_alloc _ _) (up_drew _)) hb)
  have hbw := up_trans hbb hb
  refine ⟨.slice A' n' c', rfl, ?_, ?_⟩
  · ((repeat (first | (with_reducible exact hD) | (with_reducible refine Dat.set ?_ ?_ ?_ _))); all_goals first | ((try dsimp only); omega) | ((repeat (with_reducible refine NotU8.set ?_ _ _)); (with_reducible exact N1)))
  · ((repeat (first | (with_reducible exact hbw) | (with_reducible refine up_set ?_ ?_ _) | (with_reducible refine up_trans ?_ (up_drew _)))); all_goals ((try dsimp only); omega))
end Go.Proofs.Ytefhfoioeoijlaa

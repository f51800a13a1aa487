/- slices.SortFunc over stamps, by stamp.Compare. -/
import Derived.Test.YtefhfoioeoijlaaKeys
import Derived.Test.YtefhfoioeoijlaaCmp
import Derived.Test.YtefhfoioeoijlaaLib
import Derived.Shelf.SlSortCmp.NoneTotal
set_option linter.unusedVariables false
set_option linter.unusedSimpArgs false
namespace Go.Proofs.Ytefhfoioeoijlaa
open Go Go.RowKit Go.Sort Go.Shelf

theorem cmpS_lt {a b : Stamp} : cmpS a b < 0 ↔ ltS a b = true := by
  unfold cmpS orI cmpI ltS
  simp only [decide_eq_true_eq]
  repeat' split <;> (try omega)
theorem ltOf_cmpS (a b : Stamp) : ltOf cmpS a b = ltS a b := by
  unfold ltOf
  rw [Bool.eq_iff_iff, decide_eq_true_eq]; exact cmpS_lt
theorem swo_stamps : SWO (ltOf cmpS) := by
  refine ⟨fun x => by rw [ltOf_cmpS, ltS_irrefl], fun x y z h k => ?_, fun x y z h k => ?_⟩
  · rw [ltOf_cmpS] at *; exact ltS_trans h k
  · rw [ltOf_cmpS] at *
    simp [ltS] at *
    omega
theorem flatS_get : ∀ {ss : List Stamp} {i k : Nat} {x : Stamp}, ss[i]? = some x → k < 2 → (flatS ss)[i * 2 + k]? = (stC x)[k]?
  | y :: L, 0, k, x, h1, hk => by
    simp at h1; subst h1
    simp only [flatS, List.flatMap_cons, Nat.zero_mul, Nat.zero_add]
    rw [List.getElem?_append_left (by simpa [stC] using hk)]
  | y :: L, i + 1, k, x, h1, hk => by
    simp only [flatS, List.flatMap_cons]
    rw [List.getElem?_append_right (by simp [stC]; omega)]
    rw [show (i + 1) * 2 + k - (stC y).length = i * 2 + k by simp [stC]; omega]
    exact flatS_get (by simpa using h1) hk
theorem flatS_len (ss : List Stamp) : (flatS ss).length = ss.length * 2 := by
  induction ss with
  | nil => rfl
  | cons x L ih => simp only [flatS, List.flatMap_cons, List.length_append, List.length_cons] at *; rw [ih]; simp [stC]; omega

/-- A slice of stamps, to be read. -/
def SRow (w : World) (v : Value) (ss : List Stamp) : Prop :=
  ∃ A c, v = .slice A ss.length c ∧ ∀ (i : Nat) (x : Stamp), ss[i]? = some x → ∃ g, A = some ⟨g, 0, none⟩ ∧ g < w.heap.size ∧ w.cell? ⟨g, i * 2, none⟩ = some (.int .i64 x.t) ∧ w.cell? ⟨g, i * 2 + 1, none⟩ = some (.int .i64 x.w)
theorem SRow.up {w w' : World} {v : Value} {ss : List Stamp} (h : SRow w v ss) (u : Up w w') : SRow w' v ss := by
  obtain ⟨A, c, rfl, h⟩ := h
  refine ⟨A, c, rfl, fun i x hx => ?_⟩
  obtain ⟨g, hA, hg, h0, h1⟩ := h i x hx
  exact ⟨g, hA, Nat.lt_of_lt_of_le hg u.size, (u.cell (p := ⟨g, i * 2, none⟩) hg).trans h0, (u.cell (p := ⟨g, i * 2 + 1, none⟩) hg).trans h1⟩
def StSorted (ss : List Stamp) : Prop := ss.Pairwise fun a b => ltS b a = false

theorem sortWorld_grown (enc : Stamp → List Value) (k : Nat) (w : World) (blk off n : Nat) (d : Array Stamp) (os : Array Obj) : w.grownBy (sortWorldK enc k w blk off n d os) (some blk) := by
  unfold sortWorldK
  refine ⟨rfl, rfl, rfl, ?_, fun j hj hne => ?_⟩
  · rw [size_grow, size_putRowK]; exact Nat.le_add_right _ _
  · have hlt : j < (putRowK enc k (Sort.ahead w n) blk off d).heap.size := by rw [size_putRowK]; exact hj
    show ((putRowK enc k (Sort.ahead w n) blk off d).heap ++ os)[j]? = _
    rw [Array.getElem?_append_left hlt]
    unfold putRowK putRow mapBlock
    simp only [Array.getElem?_modify]
    rw [if_neg (by intro e; exact hne (by rw [e]))]
    rfl

theorem cmp_lays (blk off size : Nat) (w : World) : CmpLays Try.prog 89 #[] stC 2 cmpS blk off size w := fun m os dk _ x y => by
  refine (scompare_ups x y _).mono ?_
  rintro e w' ⟨rfl, q, os', rfl⟩
  exact ⟨rfl, q, os', rfl⟩

theorem sortNil (c : Nat) (w : World) : Calls Try.prog 109 #[.slice none 0 c, .func (.func 89) #[] #[]] w fun e w' => e = .returned (.tuple #[]) ∧ w' = w :=
  AnyF.slices_SortFunc_none (P := Try.prog) { Try.sortStamps with } none c (.func (.func 89) #[] #[]) w

theorem sortFunc_at {w : World} {base : Nat} {v : Value} {ss : List Stamp} (h : w.ownsRow base 24 2 v ss.length (flatS ss)) (hl : ss.length ≤ 1000) :
    Calls Try.prog 109 #[v, .func (.func 89) #[] #[]] w fun e w' => e = .returned (.tuple #[]) ∧ ∃ ss', ss'.Perm ss ∧ StSorted ss' ∧ SRow w' v ss' ∧ w.grownBy w' v.ownBlock := by
  rcases h.2 with ⟨rfl, h0⟩ | ⟨g, cap, cur, rfl, hb, hg, hc, hm, hcs, htk⟩
  · obtain rfl : ss = [] := List.eq_nil_of_length_eq_zero h0
    refine (sortNil 0 w).mono ?_
    rintro e w' ⟨rfl, rfl⟩
    exact ⟨rfl, [], List.Perm.refl _, List.Pairwise.nil, ⟨none, 0, rfl, fun i x hx => by simp at hx⟩, rfl, rfl, rfl, Nat.le_refl _, fun k hk _ => rfl⟩
  · have hcell : ∀ j u, (flatS ss)[j]? = some u → w.cell? ⟨g, j, none⟩ = some u := fun j u hj => by
      have := h.cells (g := g) rfl j u hj
      rwa [add_at, Nat.zero_add] at this
    have hH : HoldsK stC 2 w g 0 ss.toArray := by
      intro j hj
      rw [size_flatK] at hj
      simp only [List.size_toArray] at hj
      have hi : j / 2 < ss.length := by omega
      obtain ⟨x, hx⟩ : ∃ x, ss[j / 2]? = some x := ⟨_, List.getElem?_eq_getElem hi⟩
      have hget : (flatK stC 2 ss.toArray)[j]! = (stC x)[j % 2]! := by
        rw [get_flatK _ _ _ _ (by simpa using hj)]
        congr 2
        rw [Array.getElem!_eq_getD, Array.getD_eq_getD_getElem?]
        simp [hx]
      refine ⟨?_, by simp [World.frozen?, hg]⟩
      rw [Nat.zero_add, hget]
      refine hcell j _ ?_
      have := flatS_get (k := j % 2) hx (Nat.mod_lt _ (by omega))
      rw [show j / 2 * 2 + j % 2 = j by omega] at this
      rw [this]
      have h2 : j % 2 = 0 ∨ j % 2 = 1 := by omega
      rcases h2 with h2 | h2 <;> rw [h2] <;> rfl
    have key := AnyQ.slices_SortFunc (P := Try.prog) Try.sortStamps 2 Ty.ag24 Ty.sz24 stC (fun _ => rfl) (fun x v hv => by simp [stC] at hv; rcases hv with rfl | rfl <;> rfl) cmpS swo_stamps 89 #[] g 0 cap ss.toArray w (enters_of Try.func89 (by kernel_rfl) rfl) (cmp_lays g 0 _ w) hH (Array.getElem?_eq_some_iff.1 hg).1 (by simp; omega)
    refine Calls.mono (show Calls Try.prog 109 #[.slice (some ⟨g, 0, none⟩) ss.length cap, .func (.func 89) #[] #[]] w _ from key) ?_
    rintro e w' ⟨rfl, d', n, os, hperm, hsort, rfl⟩
    have hsz : d'.size = ss.length := by simpa using hperm.1
    have hH' := holdsK_sortWorldK_c stC 2 w g 0 ss.toArray d' n os hH (Array.getElem?_eq_some_iff.1 hg).1 (by simpa using hsz)
    have hgr := sortWorld_grown stC 2 w g 0 n d' os
    refine ⟨rfl, d'.toList, ?_, ?_, ⟨_, cap, by rw [show d'.toList.length = ss.length from by simpa using hsz], fun i x hx => ⟨g, rfl, Nat.lt_of_lt_of_le (Array.getElem?_eq_some_iff.1 hg).1 hgr.size, ?_, ?_⟩⟩, hgr⟩
    · have := hperm.2.2
      rw [show (ss.toArray).size = d'.size by simpa using hsz.symm] at this
      rw [show d'.size = ss.length from hsz] at this
      simpa [← hsz] using this.trans (by simp)
    · unfold StSorted
      rw [List.pairwise_iff_getElem]
      intro i j hi hj hij
      have := hsort i j (Nat.zero_le _) hij (by simp at hj ⊢; omega)
      rw [ltOf_cmpS] at this
      simp at hi hj
      simpa [getElem!_pos, hi, hj] using this
    · have hi := (List.getElem?_eq_some_iff.1 hx).1
      simp at hi
      have := (hH' (i * 2) (by rw [size_flatK]; omega)).1
      rw [Nat.zero_add, get_flatK _ _ _ _ (by omega)] at this
      rw [this]
      have hx' : d'[i]! = x := by rw [getElem!_pos d' i hi]; simpa [List.getElem?_eq_getElem] using (List.getElem?_eq_some_iff.1 hx).2
      rw [show i * 2 / 2 = i by omega, show i * 2 % 2 = 0 by omega, hx']
      rfl
    · have hi := (List.getElem?_eq_some_iff.1 hx).1
      simp at hi
      have := (hH' (i * 2 + 1) (by rw [size_flatK]; omega)).1
      rw [Nat.zero_add, get_flatK _ _ _ _ (by omega)] at this
      rw [this]
      have hx' : d'[i]! = x := by rw [getElem!_pos d' i hi]; simpa [List.getElem?_eq_getElem] using (List.getElem?_eq_some_iff.1 hx).2
      rw [show (i * 2 + 1) / 2 = i by omega, show (i * 2 + 1) % 2 = 1 by omega, hx']
      rfl
end Go.Proofs.Ytefhfoioeoijlaa

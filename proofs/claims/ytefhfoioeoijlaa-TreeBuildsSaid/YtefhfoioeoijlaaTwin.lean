/- Two operations change places, neither of which has a twin: the sorted list stays. A slice of numbers that came in. -/
import Derived.Test.YtefhfoioeoijlaaRefS
import Derived.Test.YtefhfoioeoijlaaArgs
set_option linter.unusedVariables false
set_option linter.unusedSimpArgs false
namespace Go.Proofs.Ytefhfoioeoijlaa
open Go Go.RowKit Go.Sort
theorem sortO_iff {l : List OpD} {o : OpD} : o ∈ sortO l ↔ ∃ i : Nat, l[i]? = some o ∧ ∀ (j : Nat) (z : OpD), j < i → l[j]? = some z → z.at_ ≠ o.at_ := by
  obtain ⟨J, h1, h2⟩ := heads_fold (atO l) l.length
  rw [range_at] at h2
  have hat : ∀ i, i < l.length → l[i]? = some (atO l i) := fun i hi => by simp [atO, List.getD_eq_getElem?_getD, List.getElem?_eq_getElem hi]
  rw [← h2, List.mem_map]
  constructor
  · rintro ⟨i, hi, rfl⟩
    obtain ⟨h3, h4⟩ := (h1.2 i).1 hi
    refine ⟨i, hat i h3, fun j z hj hz => ?_⟩
    rw [hat j (by omega)] at hz; injection hz with hz; rw [← hz]
    exact h4 j hj
  · rintro ⟨i, hi, h4⟩
    have hlt := (List.getElem?_eq_some_iff.1 hi).1
    have e : atO l i = o := by rw [hat i hlt] at hi; injection hi
    refine ⟨i, (h1.2 i).2 ⟨hlt, fun j hj => ?_⟩, e⟩
    rw [e]; exact h4 j _ hj (hat j (by omega))
theorem srtO_one {L M : List OpD} (hL : SrtO L) (hM : SrtO M) (h : ∀ o, o ∈ L ↔ o ∈ M) : L = M := by
  have nd : ∀ {K : List OpD}, SrtO K → K.Nodup := fun hK => hK.imp fun {a b} hab e => by subst e; rw [ltS_irrefl] at hab; cases hab
  exact sorted_one (lt := fun x y : OpD => ltS x.at_ y.at_ = true) (fun x y h k => by rw [ltS_asymm h] at k; cases k) hL hM ((List.perm_ext_iff_of_nodup (nd hL) (nd hM)).2 h)
theorem swap_get {L : List OpD} {a b : Nat} {x y : OpD} (hx : L[a]? = some x) (hy : L[b]? = some y) (i : Nat) : ((L.set a y).set b x)[i]? = L[if i = b then a else if i = a then b else i]? := by
  have ha := (List.getElem?_eq_some_iff.1 hx).1
  have hb := (List.getElem?_eq_some_iff.1 hy).1
  by_cases h1 : i = b
  · subst h1
    rw [if_pos rfl, List.getElem?_set_self (by simpa using hb), hx]
  · rw [if_neg h1, List.getElem?_set_ne (fun e => h1 e.symm)]
    by_cases h2 : i = a
    · subst h2
      rw [if_pos rfl, List.getElem?_set_self ha, hy]
    · rw [if_neg h2, List.getElem?_set_ne (fun e => h2 e.symm)]
theorem sortO_swap {L : List OpD} {a b : Nat} {x y : OpD} (hx : L[a]? = some x) (hy : L[b]? = some y) (ha : ∀ (k : Nat) (z : OpD), L[k]? = some z → k ≠ a → z.at_ ≠ x.at_) (hb : ∀ (k : Nat) (z : OpD), L[k]? = some z → k ≠ b → z.at_ ≠ y.at_) : sortO ((L.set a y).set b x) = sortO L := by
  have hab : x.at_ = y.at_ → a = b := fun e => by
    by_cases h : b = a
    · exact h.symm
    · exact absurd e.symm (ha b y hy h)
  refine srtO_one (sortO_srt _) (sortO_srt _) fun o => ?_
  rw [sortO_iff, sortO_iff]
  constructor
  · rintro ⟨i, hi, h4⟩
    rw [swap_get hx hy] at hi
    refine ⟨_, hi, fun j z hj hz e => ?_⟩
    by_cases h1 : i = b
    · subst h1
      rw [if_pos rfl, hx] at hi; injection hi with hi; subst hi
      rw [if_pos rfl] at hj
      exact ha j z hz (by omega) e
    · rw [if_neg h1] at hi hj
      by_cases h2 : i = a
      · subst h2
        rw [if_pos rfl, hy] at hi; injection hi with hi; subst hi
        rw [if_pos rfl] at hj
        exact hb j z hz (by omega) e
      · rw [if_neg h2] at hi hj
        by_cases h3 : j = a
        · subst h3
          rw [hx] at hz; injection hz with hz; subst hz
          exact ha i o hi h2 e.symm
        · by_cases h5 : j = b
          · subst h5
            rw [hy] at hz; injection hz with hz; subst hz
            exact hb i o hi h1 e.symm
          · exact h4 j z hj (by rw [swap_get hx hy, if_neg h5, if_neg h3]; exact hz) e
  · rintro ⟨p, hp, h4⟩
    by_cases h1 : p = a
    · subst h1
      rw [hx] at hp; injection hp with hp; subst hp
      refine ⟨b, by rw [swap_get hx hy, if_pos rfl]; exact hx, fun j z hj hz e => ?_⟩
      rw [swap_get hx hy, if_neg (by omega)] at hz
      by_cases h2 : j = p
      · rw [if_pos h2, hy] at hz; injection hz with hz; subst hz
        have := hab e.symm; omega
      · rw [if_neg h2] at hz; exact ha j z hz h2 e
    · by_cases h2 : p = b
      · subst h2
        rw [hy] at hp; injection hp with hp; subst hp
        refine ⟨a, by rw [swap_get hx hy, if_neg (fun e => h1 e.symm), if_pos rfl]; exact hy, fun j z hj hz e => ?_⟩
        rw [swap_get hx hy] at hz
        by_cases h3 : j = p
        · rw [if_pos h3, hx] at hz; injection hz with hz; subst hz
          have := hab e; omega
        · rw [if_neg h3, if_neg (by omega)] at hz; exact hb j z hz h3 e
      · refine ⟨p, by rw [swap_get hx hy, if_neg h2, if_neg h1]; exact hp, fun j z hj hz e => ?_⟩
        rw [swap_get hx hy] at hz
        by_cases h3 : j = b
        · rw [if_pos h3, hx] at hz; injection hz with hz; subst hz
          exact ha p o hp h1 e.symm
        · rw [if_neg h3] at hz
          by_cases h5 : j = a
          · rw [if_pos h5, hy] at hz; injection hz with hz; subst hz
            exact hb p o hp h2 e.symm
          · rw [if_neg h5] at hz; exact h4 j z hj hz e
/-- So far nobody has a twin: told by the places. -/
def NoTwin (f : Nat → OpD) (I : List Nat) (a b k : Nat) (tw : Bool) : Prop := tw = false → ∀ (j z x y : Nat), j < k → I[j]? = some z → I[a]? = some x → I[b]? = some y → (j ≠ a → (f z).at_ ≠ (f x).at_) ∧ (j ≠ b → (f z).at_ ≠ (f y).at_)
theorem NoTwin.yes {f : Nat → OpD} {I : List Nat} {a b k : Nat} : NoTwin f I a b k true := fun h => by cases h
theorem NoTwin.next {f : Nat → OpD} {I : List Nat} {a b k z x y : Nat} (h : NoTwin f I a b k false) (hz : I[k]? = some z) (hx : k ≠ a → I[a]? = some x ∧ (f z).at_ ≠ (f x).at_) (hy : k ≠ b → I[b]? = some y ∧ (f z).at_ ≠ (f y).at_) : NoTwin f I a b (k + 1) false := fun _ j z' x' y' hj hz' hx' hy' => by
  rcases Nat.lt_or_ge j k with h1 | h1
  · exact h rfl j z' x' y' h1 hz' hx' hy'
  · obtain rfl : j = k := by omega
    rw [hz] at hz'; injection hz' with hz'; subst hz'
    refine ⟨fun hne => ?_, fun hne => ?_⟩
    · obtain ⟨e1, e2⟩ := hx hne
      rw [e1] at hx'; injection hx' with hx'; subst hx'; exact e2
    · obtain ⟨e1, e2⟩ := hy hne
      rw [e1] at hy'; injection hy' with hy'; subst hy'; exact e2
theorem NoTwin.swap {f : Nat → OpD} {I : List Nat} {a b n x y : Nat} (h : NoTwin f I a b n false) (hn : I.length ≤ n) (hx : I[a]? = some x) (hy : I[b]? = some y) : sortO (((I.set a y).set b x).map f) = sortO (I.map f) := by
  rw [← map_set', ← map_set']
  refine sortO_swap (map_get' hx) (map_get' hy) (fun k z hz hne => ?_) (fun k z hz hne => ?_)
  · rw [List.getElem?_map, Option.map_eq_some_iff] at hz
    obtain ⟨z', hz, rfl⟩ := hz
    have := (List.getElem?_eq_some_iff.1 hz).1
    exact (h rfl k z' x y (by omega) hz hx hy).1 hne
  · rw [List.getElem?_map, Option.map_eq_some_iff] at hz
    obtain ⟨z', hz, rfl⟩ := hz
    have := (List.getElem?_eq_some_iff.1 hz).1
    exact (h rfl k z' x y (by omega) hz hx hy).2 hne
theorem build_sort {l m : List OpD} (h : sortO m = sortO l) : buildI m = buildI l := by unfold buildI; rw [h]
theorem ORow.ops {T : TypeId} {B base : Nat} {w : World} {A : Option Addr} {n c : Nat} {L : List OpD} (h : ORow T B base w (.slice A n c) L) (hn : ∀ o ∈ L, o.name.size ≤ 9223372036854775807) : OpRow B w A L := by
  intro i o ho
  obtain ⟨g, cap, cur, dA, dn, dc, e, _, hg, he, hD⟩ := h.get ho
  injection e with e1 _ _
  refine ⟨g, 0, dA, dn, dc, e1, lt_ob hg, fun j v hj => ?_, hD, hn o (List.mem_of_getElem? ho)⟩
  have := el_get he j hj
  rw [Array.getElem?_toList] at this
  simp only [World.cell?, hg, Nat.zero_add]; simpa using this
theorem sub_swap {f : Nat → OpD} {I : List Nat} {os : List OpD} {a b x y : Nat} (h : Hid (∀ o ∈ I.map f, o ∈ os)) (hx : I[a]? = some x) (hy : I[b]? = some y) : Hid (∀ o ∈ ((I.set a y).set b x).map f, o ∈ os) := fun o ho => by
  obtain ⟨z, hz, rfl⟩ := List.mem_map.1 ho
  refine h.out _ (List.mem_map.2 ⟨z, ?_, rfl⟩)
  rcases List.mem_or_eq_of_mem_set hz with hz | rfl
  · rcases List.mem_or_eq_of_mem_set hz with hz | rfl
    · exact hz
    · exact List.mem_of_getElem? hy
  · exact List.mem_of_getElem? hx
/-- Numbers that came in. -/
def IntRow (w : World) (A : Option Addr) (ts : List Int) : Prop := ∀ i, i < ts.length → ∃ g f, A = some ⟨g, f, none⟩ ∧ g < w.heap.size ∧ w.cell? ⟨g, f + i, none⟩ = some (.int .i64 (ts.getD i 0))
theorem IntRow.up {w w' : World} {A : Option Addr} {ts : List Int} (h : IntRow w A ts) (u : Up w w') : IntRow w' A ts := fun i hi => by
  obtain ⟨g, f, hA, hg, hc⟩ := h i hi
  exact ⟨g, f, hA, Nat.lt_of_lt_of_le hg u.size, (u.cell (p := ⟨g, f + i, none⟩) hg).trans hc⟩
section
open Go.ChangeShapes Go.WideShapes Go.ChangeAt Go.Deep
variable {H : Type} {enc : TypeId × Value → H}
theorem open_introw {W : World} {sp : Nat → Bool} {held : Bool} {n : Nat} {v : Value} {y : DataW H × List MemPlace} (h : DataW.trod enc Try.prog W 0 sp held n 75 [v] = some y) :
    ∃ (A : Option Addr) (ts : List Int) (c : Nat), [v] = [.slice A ts.length c] ∧ ts.length ≤ 9223372036854775807 ∧ IntRow W A ts := by
  rcases open_ints Try.underlying75 Try.underlying3 (by kernel_rfl) h with ⟨hc, _⟩ | ⟨a, len, cap, zs, hc, _, hl, hm, hz, _, hcell, hwf⟩
  · exact ⟨none, [], 0, hc, by simp, fun i hi => by simp at hi⟩
  · have hlz : len ≤ zs.length := by rw [hz]; split <;> omega
    have htl : (zs.take len).length = len := by rw [List.length_take]; omega
    refine ⟨some a, zs.take len, cap, by rw [htl]; exact hc, by rw [htl]; unfold maxLen at hm; omega, fun i hi => ?_⟩
    rw [htl] at hi
    have h0 := hcell 0 (by omega)
    rw [show a.add 0 = a from rfl] at h0
    obtain ⟨ha, hb⟩ := spot_none h0
    refine ⟨a.block, a.off, by rw [← ha], hb, ?_⟩
    have := hcell i (by omega)
    rw [ha, add_at] at this
    rw [this]
    congr 2
    simp [List.getD_eq_getElem?_getD, List.getElem?_take, hi]
end
section
variable {P : Program} {d : Option Tmp} {ty : TypeId} {pos : String} {af : Array Edge} {gd : Option (Nat × Bool)} {ρ : Operand → Value} {w : World}
theorem r_rem {t yt : TypeId} {x y : Operand} {m n c : Int} (hx : ρ x = .int .i64 m) (hy : ρ y = .int .i64 n) (hn : n ≠ 0) (hc : Int.tmod m n = c) : (execOp ρ ⟨d, .binOp .rem t x y yt, ty, pos, af, gd⟩).run P w = .ok (.value (.int .i64 c)) w := by
  subst hc
  simp [execOp, hx, hy, eqGuard, binOp, Op.intArith, Op.intDiv, hn]
end
theorem tmod_in (m : Int) {n : Nat} (hn : 0 < n) : ∃ q : Int, Int.tmod m n = q ∧ -(n : Int) < q ∧ q < n := by
  refine ⟨_, rfl, ?_, ?_⟩
  · have := Int.lt_tmod_of_pos m (by omega : (0 : Int) < n); omega
  · exact Int.tmod_lt_of_pos m (by omega)
theorem tmod_nat {q : Int} {n : Nat} (hn : 0 < n) (h1 : -(n : Int) < q) : ∃ b : Nat, Int.tmod (q + n) n = (b : Int) ∧ b < n := by
  have h2 : 0 ≤ Int.tmod (q + n) n := Int.tmod_nonneg _ (by omega)
  have h3 : Int.tmod (q + n) n < n := Int.tmod_lt_of_pos _ (by omega)
  exact ⟨(Int.tmod (q + n) n).toNat, by omega, by omega⟩
end Go.Proofs.Ytefhfoioeoijlaa

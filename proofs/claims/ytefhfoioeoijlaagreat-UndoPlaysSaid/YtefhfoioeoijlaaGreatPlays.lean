/- The document's log: behind, Insert, Remove (plain parts); a step of the two logs. In the first seat's numbers; what that seat lacks is 1000 + its number in the other one. -/
import Derived.Test.YtefhfoioeoijlaaGreatLogs
import Derived.Test.YtefhfoioeoijlaaGreatGR
import Derived.Test.YtefhfoioeoijlaaGreatEx2
set_option linter.unusedVariables false
namespace Go.Proofs.YtefhfoioeoijlaaGreat
open Go Go.RowKit Go.Sort
section
variable {P : Program} {ops : Array Oper} {Q : Exit → Act → World → Prop} {S : World → Prop} {a : Act} {w : World}
theorem h3 {i j k : Nat} {oi oj ok : Oper} {fuel : Nat} {listed : Array Bool} (hr : Region.ready .any ops listed = [i, j, k]) (hi : ops[i]? = some oi) (hj : ops[j]? = some oj) (hk : ops[k]? = some ok)
    (k1 : St1 P ops Q oi (fun a' w' => S w' ∧ HL P ops Q S fuel (listed.setIfInBounds i true) a' w') a w)
    (k2 : St1 P ops Q oj (fun a' w' => S w' ∧ HL P ops Q S fuel (listed.setIfInBounds j true) a' w') a w)
    (k3 : St1 P ops Q ok (fun a' w' => S w' ∧ HL P ops Q S fuel (listed.setIfInBounds k true) a' w') a w) : HL P ops Q S (fuel + 1) listed a w := by
  rw [hl_un] at *
  refine wpAnyH_all hr (by simp) fun l hl => ?_
  rcases List.mem_cons.1 hl with rfl | hl
  · unfold wpOp; simp only [hi]; unfold St1 at k1; exact k1
  · rcases List.mem_cons.1 hl with rfl | hl
    · unfold wpOp; simp only [hj]; unfold St1 at k2; exact k2
    · obtain rfl : l = k := by simpa using hl
      unfold wpOp; simp only [hk]; unfold St1 at k3; exact k3
end
/-- The document's log: its block holds a row of its own. -/
def RLog (B base : Nat) (w : World) (mb : Nat) (D : List OpD) : Prop := ∃ v, w.heap[mb]? = some (.cells #[v] 30 (0, 0)) ∧ ORow 38 B base w v D
theorem RLog.up {B base mb : Nat} {w w' : World} {D : List OpD} (h : RLog B base w mb D) (u : Up w w') : RLog B base w' mb D := by
  obtain ⟨v, h1, h2⟩ := h; exact ⟨v, up_ob u h1, h2.up u⟩
theorem RLog.to {B base mb : Nat} {w : World} {D D' : List OpD} (h : RLog B base w mb D) (e : D = D') : RLog B base w mb D' := e ▸ h
theorem RLog.only {B base mb : Nat} {w w' : World} {D : List OpD} (h : RLog B base w mb D) (o : Only B w w') : RLog B base w' mb D := by
  obtain ⟨v, h1, h2⟩ := h; exact ⟨v, Only.ob o h1 (by decide) (by decide), h2.only o⟩
/-- Where the last operation of a stamp is among the first k; -1: there is none. -/
def PlP (D : List OpD) (m : Stamp) (k : Nat) (p : Int) : Prop := (p = -1 ∧ ∀ i x, i < k → D[i]? = some x → x.at_ ≠ m) ∨ ∃ i x, p = ((i : Nat) : Int) ∧ i < k ∧ D[i]? = some x ∧ x.at_ = m
theorem PlP.zero (D : List OpD) (m : Stamp) : PlP D m 0 (-1) := .inl ⟨rfl, fun i x h => absurd h (Nat.not_lt_zero _)⟩
theorem PlP.hit {D : List OpD} {m : Stamp} {k : Nat} {x : OpD} (hx : D[k]? = some x) (e : (⟨x.at_.t, x.at_.w⟩ : Stamp) = ⟨m.t, m.w⟩) : PlP D m (k + 1) ((k : Nat) : Int) := .inr ⟨k, x, rfl, by omega, hx, e⟩
theorem PlP.miss {D : List OpD} {m : Stamp} {k : Nat} {p : Int} {x : OpD} (h : PlP D m k p) (hx : D[k]? = some x) (e : ¬ (⟨x.at_.t, x.at_.w⟩ : Stamp) = ⟨m.t, m.w⟩) : PlP D m (k + 1) p := by
  rcases h with ⟨h1, h2⟩ | ⟨i, y, h1, h2, h3, h4⟩
  · refine .inl ⟨h1, fun i y hi hy => ?_⟩
    rcases Nat.lt_or_ge i k with h3 | h3
    · exact h2 i y h3 hy
    · obtain rfl : i = k := by omega
      rw [hx] at hy; cases hy; exact e
  · exact .inr ⟨i, y, h1, by omega, h3, h4⟩
theorem afterN_take {D : List OpD} {m : Stamp} {k : Nat} {x : OpD} (hx : D[k]? = some x) : afterN (D.take (k + 1)) m = afterN (D.take k) m + (if ltS m x.at_ = true then 1 else 0) := by
  have e : D.take (k + 1) = D.take k ++ [x] := by rw [List.take_add_one, hx]; rfl
  unfold afterN; rw [e, List.filter_append, List.length_append]
  cases h : ltS m x.at_ <;> simp [h]
theorem after_yes {D : List OpD} {m1 m2 : Int} {k : Nat} {x : OpD} (hx : D[k]? = some x) (h : lessS ⟨m1, m2⟩ ⟨x.at_.t, x.at_.w⟩ = true) : afterN (D.take k) ⟨m1, m2⟩ + 1 = afterN (D.take (k + 1)) ⟨m1, m2⟩ := by
  rw [afterN_take hx, if_pos (show ltS ⟨m1, m2⟩ x.at_ = true from h)]
theorem after_not {D : List OpD} {m1 m2 : Int} {k : Nat} {x : OpD} (hx : D[k]? = some x) (h : lessS ⟨m1, m2⟩ ⟨x.at_.t, x.at_.w⟩ = false) : afterN (D.take k) ⟨m1, m2⟩ = afterN (D.take (k + 1)) ⟨m1, m2⟩ := by
  rw [afterN_take hx, if_neg (show ¬ ltS ⟨m1, m2⟩ x.at_ = true from fun e => by have e2 : lessS ⟨m1, m2⟩ ⟨x.at_.t, x.at_.w⟩ = true := e; rw [h] at e2; cases e2), Nat.add_zero]
theorem PlP.end_ {D : List OpD} {m : Stamp} {k : Nat} {p : Int} (h : PlP D m k p) (hk : k = D.length) : PlP D m D.length p := hk ▸ h
theorem plp_end {D : List OpD} {m : Stamp} {k : Nat} {p : Int} (h : PlP D m k p) (hk : k = D.length) : (p = -1 ∧ hasL D m = false) ∨ ∃ i x, p = ((i : Nat) : Int) ∧ i < D.length ∧ D[i]? = some x ∧ x.at_ = m ∧ hasL D m = true := by
  subst hk
  rcases h with ⟨h1, h2⟩ | ⟨i, x, h1, h2, h3, h4⟩
  · refine .inl ⟨h1, hasL_no.2 fun x hx => ?_⟩
    obtain ⟨i, hi⟩ := List.getElem?_of_mem hx
    exact h2 i x (List.getElem?_eq_some_iff.1 hi).1 hi
  · exact .inr ⟨i, x, h1, h2, h3, h4, hasL_iff.2 ⟨x, List.mem_of_getElem? h3, h4⟩⟩
theorem cut_rem : ∀ {D : List OpD} {m : Stamp} {i : Nat} {x : OpD}, SrtO D → D[i]? = some x → x.at_ = m → D.take i ++ D.drop (i + 1) = remL D m
  | [], m, i, x, _, h, _ => by cases h
  | y :: D, m, 0, x, hs, h, e => by
    cases h
    have hs2 := List.pairwise_cons.1 hs
    unfold remL
    rw [List.filter_cons, if_neg (by simp [e])]
    simp only [List.take_zero, List.nil_append, List.drop_succ_cons, List.drop_zero]
    symm; rw [List.filter_eq_self]
    intro z hz
    have hlt := hs2.1 z hz
    have hne : z.at_ ≠ m := fun e2 => by
      have h3 : ltS y.at_ z.at_ = true := hlt
      rw [e2, e, ltS_irrefl] at h3; cases h3
    simp [hne]
  | y :: D, m, i + 1, x, hs, h, e => by
    have hs2 := List.pairwise_cons.1 hs
    have h' : D[i]? = some x := by simpa using h
    have hlt : ltS y.at_ x.at_ = true := hs2.1 x (List.mem_of_getElem? h')
    have hne : y.at_ ≠ m := fun e2 => by rw [e2, e, ltS_irrefl] at hlt; cases hlt
    have ih := cut_rem (i := i) hs2.2 h' e
    unfold remL at ih ⊢
    rw [List.filter_cons, if_pos (by simp [hne]), ← ih]
    rfl
theorem sortO_insL {D : List OpD} {o : OpD} (h : SrtO D) (hr : rightB o = true) (hh : hasL D o.at_ = false) : sortO (D ++ [o]) = insL D o := by
  rw [sortO_snoc, sortO_of_srt h, ins_is hr hh]
theorem ansI_bad {D : List OpD} {o : OpD} (h : rightB o = false) : ansI D o 0 1 := by unfold ansI; rw [if_pos h]; exact ⟨rfl, rfl⟩
theorem ansI_has {D : List OpD} {o : OpD} (hr : rightB o = true) (h : hasL D o.at_ = true) : ansI D o 0 8 := by unfold ansI; rw [if_neg (by rw [hr]; decide), if_pos h]; exact ⟨rfl, rfl⟩
theorem ansI_ok {D : List OpD} {o : OpD} {n : Nat} (hr : rightB o = true) (h : hasL D o.at_ = false) (e : n = afterN D o.at_) : ansI D o n 0 := by unfold ansI; rw [if_neg (by rw [hr]; decide), if_neg (by rw [h]; decide)]; exact ⟨by rw [e], rfl⟩
theorem ansR_no {D : List OpD} {m : Stamp} (h : hasL D m = false) : ansR D m 0 12 := by unfold ansR; rw [if_neg (by rw [h]; decide)]; exact ⟨rfl, rfl⟩
theorem ansR_ok {D : List OpD} {m : Stamp} {n : Nat} (h : hasL D m = true) (e : n = afterN D m) : ansR D m n 0 := by unfold ansR; rw [if_pos h]; exact ⟨by rw [e], rfl⟩
theorem insL_bad {D : List OpD} {o : OpD} (h : rightB o = false) : insL D o = D := by unfold insL; rw [h]; rfl
theorem insL_has {D : List OpD} {o : OpD} (h : hasL D o.at_ = true) : insL D o = D := by unfold insL; rw [h]; simp
theorem ans_same {D : List OpD} {o : OpD} {a b c d : Int} (h : ansI D o a b) (k : ansI D o c d) : a = c ∧ b = d := by
  unfold ansI at h k
  split at h
  · rename_i h0; rw [if_pos h0] at k; exact ⟨h.1.trans k.1.symm, h.2.trans k.2.symm⟩
  · rename_i h0; rw [if_neg h0] at k
    split at h
    · rename_i h1; rw [if_pos h1] at k; exact ⟨h.1.trans k.1.symm, h.2.trans k.2.symm⟩
    · rename_i h1; rw [if_neg h1] at k; exact ⟨h.1.trans k.1.symm, h.2.trans k.2.symm⟩
theorem ansR_same {D : List OpD} {m : Stamp} {a b c d : Int} (h : ansR D m a b) (k : ansR D m c d) : a = c ∧ b = d := by
  unfold ansR at h k
  split at h
  · rename_i h0; rw [if_pos h0] at k; exact ⟨h.1.trans k.1.symm, h.2.trans k.2.symm⟩
  · rename_i h0; rw [if_neg h0] at k; exact ⟨h.1.trans k.1.symm, h.2.trans k.2.symm⟩
theorem rsort_own {B base : Nat} {w : World} {A : Option Addr} {n c : Nat} {os : List OpD} (h : ORow 38 B base w (.slice A n c) os) (hnm : ∀ x ∈ os, x.name.size ≤ 9223372036854775807) (hB : B ≤ w.heap.size) (hn : os.length ≤ 100000) :
    Calls Tryz.prog 26 #[.slice A n c] w fun e w' => ∃ A' n' c', e = .returned (.slice A' n' c') ∧ ORow 38 B w.heap.size w' (.slice A' n' c') (sortO os) ∧ Up w w' := by
  obtain rfl := (ORow.addr h).1
  refine Calls.mono (rsort_at (ORow.ops h hnm) hB hn) fun e w' he => ?_
  obtain ⟨v, h1, h2, h3⟩ := he
  obtain ⟨A', c', rfl⟩ := h2.form
  exact ⟨A', _, c', h1, h2, h3⟩
theorem names_snoc {D : List OpD} {o : OpD} (h : ∀ x ∈ D, x.name.size ≤ 9223372036854775807) (ho : o.name.size ≤ 9223372036854775807) : ∀ x ∈ [] ++ D ++ [o], x.name.size ≤ 9223372036854775807 := by
  intro x hx
  rcases List.mem_append.1 hx with hx | hx
  · exact h x (by simpa using hx)
  · rw [List.mem_singleton.1 hx]; exact ho
section
variable {P : Program}
/-- ORow.tailCut, with the part told in whatever world the row stands. -/
theorem ORow.tailW {T : TypeId} {B base : Nat} {w : World} {A : Option Addr} {n c k : Nat} {L : List OpD} (h : ORow T B base w (.slice A n c) L) (hk : k ≤ n) (t e : TypeId) (hu : P.underlying t = some (.slice e)) (hsz : ∀ w, (sizeOf e).run P w = .ok 10 w) :
    ∃ A', (∀ w', ORow T B base w' (.slice A n c) L → SubO B w' (.slice A' (n - k) (c - k)) (L.drop k)) ∧ ∀ (d : Option Tmp) (ty : TypeId) (pos : String) (af : Array Edge) (gd : Option (Nat × Bool)) (ρ : Operand → Value) (x lo : Operand) (W : World), ρ x = .slice A n c → ρ lo = .int .i64 (k : Int) → (execOp ρ ⟨d, .slice t x (some lo) none none, ty, pos, af, gd⟩).run P W = .ok (.value (.slice A' (n - k) (c - k))) W := by
  obtain ⟨A', h1, h2⟩ := ORow.tailCut h hk t e hu hsz
  refine ⟨A', fun w' h' => ?_, h2⟩
  obtain ⟨A2, h3, h4⟩ := ORow.tailCut h' hk t e hu hsz
  let ρ : Operand → Value := fun o => match o with
    | .tmp 0 => .slice A n c
    | _ => .int .i64 (k : Int)
  have e1 := h2 none 0 "" #[] none ρ (.tmp 0) (.tmp 1) w rfl rfl
  have e2 := h4 none 0 "" #[] none ρ (.tmp 0) (.tmp 1) w rfl rfl
  rw [e1] at e2
  injection e2 with e2 _; injection e2 with e2; injection e2 with e2 _ _
  rw [e2]; exact h3
end
/-- What a step answers. -/
def AnsS (p : List OpD) (s : GStep) (nn kk : Int) : Prop := (s.gone = true → ansR p s.o.at_ nn kk) ∧ (s.gone = false → ansI p s.o nn kk)
end Go.Proofs.YtefhfoioeoijlaaGreat

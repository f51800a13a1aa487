/- Maps from stamps to items, as the model runs them: look-up, store, delete, the steps of a range. -/
import Derived.Test.YtefhfoioeoijlaaBase
import Derived.Test.YtefhfoioeoijlaaProg
import Derived.KernelRfl
set_option linter.unusedVariables false
set_option linter.unusedSimpArgs false
namespace Go.Proofs.Ytefhfoioeoijlaa
open Go.RowKit Go.Sort

theorem int64_equal (d : Nat) (a b : Int) (w : World) : (Op.equalIn (d + 1) 2 (.int .i64 a) (.int .i64 b)).run Try.prog w = .ok (a == b) w := by
  simp [Op.equalIn, run_underlying Try.underlying2]
theorem int_equal (d : Nat) (a b : Int) (w : World) : (Op.equalIn (d + 1) 3 (.int .i64 a) (.int .i64 b)).run Try.prog w = .ok (a == b) w := by
  simp [Op.equalIn, run_underlying Try.underlying3]

theorem part_t (a b : Value) (w : World) : (part 2 #[a, b] 0).run Try.prog w = .ok a w := by kernel_rfl
theorem part_w (a b : Value) (w : World) : (part 3 #[a, b] 1).run Try.prog w = .ok b w := by kernel_rfl
theorem stamp_equal (s t : Stamp) (w : World) : (Op.equal 24 (stV s) (stV t)).run Try.prog w = .ok (decide (s = t)) w := by
  unfold Op.equal Op.maxDepth stV
  rw [show (10000 : Nat) = 9999 + 1 from rfl]
  unfold Op.equalIn
  simp only [run_underlying Try.underlying24, Sem.run_bind, program, Sem.run, Result.andThen_ok]
  have e1 := int64_equal 9998 s.t t.t w
  have e2 := int_equal 9998 s.w t.w w
  simp [part_t, part_w, e1, e2]
  by_cases h1 : s.t = t.t
  · by_cases h2 : s.w = t.w
    · have : s = t := by cases s; cases t; simp_all
      simp [h1, h2, this]
    · have : ¬ s = t := fun e => h2 (by rw [e])
      simp [h1, h2, this]
  · have : ¬ s = t := fun e => h1 (by rw [e])
    simp [h1, this]
theorem stamp_check (b : Bool) (s : Stamp) (w : World) : (Instr.checkKey b 10000 24 (stV s)).run Try.prog w = .ok () w := by kernel_rfl
theorem map_under (w : World) : (underlying 85).run Try.prog w = .ok (.map 24 35) w := run_underlying Try.underlying85 w

/-- Two lists, element by element. -/
def Pair {α β : Type} (R : α → β → Prop) : List α → List β → Prop
  | [], [] => True
  | a :: ps, b :: qs => R a b ∧ Pair R ps qs
  | _, _ => False
section
variable {α β : Type} {R R' : α → β → Prop}
theorem Pair.length : ∀ {ps : List α} {qs : List β}, Pair R ps qs → ps.length = qs.length
  | [], [], _ => rfl
  | a :: ps, b :: qs, h => by simp [Pair.length h.2]
theorem Pair.mono (hR : ∀ a b, R a b → R' a b) : ∀ {ps : List α} {qs : List β}, Pair R ps qs → Pair R' ps qs
  | [], [], _ => trivial
  | a :: ps, b :: qs, h => ⟨hR _ _ h.1, Pair.mono hR h.2⟩
theorem Pair.get : ∀ {ps : List α} {qs : List β} {k : Nat} {a : α} {b : β}, Pair R ps qs → ps[k]? = some a → qs[k]? = some b → R a b
  | a :: ps, b :: qs, 0, _, _, h, h1, h2 => by simp at h1 h2; rw [← h1, ← h2]; exact h.1
  | a :: ps, b :: qs, k + 1, _, _, h, h1, h2 => Pair.get h.2 (by simpa using h1) (by simpa using h2)
theorem Pair.snoc : ∀ {ps : List α} {qs : List β} {a : α} {b : β}, Pair R ps qs → R a b → Pair R (ps ++ [a]) (qs ++ [b])
  | [], [], _, _, _, h => ⟨h, trivial⟩
  | a :: ps, b :: qs, _, _, h, h' => ⟨h.1, Pair.snoc h.2 h'⟩
theorem Pair.set : ∀ {ps : List α} {qs : List β} {k : Nat} {a : α} {b : β}, Pair R ps qs → R a b → Pair R (ps.set k a) (qs.set k b)
  | [], [], _, _, _, _, _ => trivial
  | a :: ps, b :: qs, 0, _, _, h, h' => ⟨h', h.2⟩
  | a :: ps, b :: qs, k + 1, _, _, h, h' => ⟨h.1, Pair.set h.2 h'⟩
theorem Pair.erase : ∀ {ps : List α} {qs : List β} {k : Nat}, Pair R ps qs → Pair R (ps.eraseIdx k) (qs.eraseIdx k)
  | [], [], _, _ => trivial
  | a :: ps, b :: qs, 0, h => h.2
  | a :: ps, b :: qs, k + 1, h => ⟨h.1, Pair.erase h.2⟩
theorem Pair.mem : ∀ {ps : List α} {qs : List β} {a : α}, Pair R ps qs → a ∈ ps → ∃ b ∈ qs, R a b
  | a :: ps, b :: qs, _, h, hm => by
    rcases List.mem_cons.1 hm with rfl | hm
    · exact ⟨b, by simp, h.1⟩
    · obtain ⟨b', hb, hr⟩ := Pair.mem h.2 hm
      exact ⟨b', by simp [hb], hr⟩
end

/-- A slice of bytes: nil, empty or not; its bytes lie where nothing is written: ahead of B, or in a block of bytes. -/
def Dat (B : Nat) (w : World) (d : Value) (xs : List Int) : Prop :=
  ∃ A n c, d = .slice A n c ∧ xs.length = n ∧ n ≤ c ∧ n ≤ 140737488351232 ∧ (∀ x ∈ xs, 0 ≤ x ∧ x < 256) ∧
    (0 < n → ∃ b o, A = some ⟨b, o, none⟩ ∧ b < w.heap.size ∧ (b < B ∨ ∃ cs fr, w.heap[b]? = some (.cells cs 5 fr)) ∧ ∀ i, i < n → w.cell? ⟨b, o + i, none⟩ = some (.int .u8 (xs.getD i 0)))

theorem Dat.nil (B : Nat) (w : World) : Dat B w (.slice none 0 0) [] := ⟨none, 0, 0, rfl, rfl, Nat.le_refl _, by omega, by simp, fun h => by omega⟩

theorem Dat.form {B : Nat} {w : World} {d : Value} {xs : List Int} (h : Dat B w d xs) : ∃ A n c, d = .slice A n c := by obtain ⟨A, n, c, h, _⟩ := h; exact ⟨A, n, c, h⟩
theorem Dat.keep {B : Nat} {w w' : World} {d : Value} {xs : List Int} (h : Dat B w d xs) (hz : w.heap.size ≤ w'.heap.size)
    (hk : ∀ b, b < w.heap.size → (b < B ∨ ∃ cs fr, w.heap[b]? = some (.cells cs 5 fr)) → w'.heap[b]? = w.heap[b]?) : Dat B w' d xs := by
  obtain ⟨A, n, c, rfl, h1, h2, h3, h4, h5⟩ := h
  refine ⟨A, n, c, rfl, h1, h2, h3, h4, fun hn => ?_⟩
  obtain ⟨b, o, rfl, hb, hB, hc⟩ := h5 hn
  have e := hk b hb hB
  refine ⟨b, o, rfl, by omega, by rw [e]; exact hB, fun i hi => ?_⟩
  rw [← hc i hi]
  exact World.cell?_of_block e
theorem Dat.up {B : Nat} {w w' : World} {d : Value} {xs : List Int} (h : Dat B w d xs) (hb : Below w.heap.size w w') : Dat B w' d xs :=
  h.keep hb.size fun b h1 _ => hb.block b h1
/-- One block has turned, which is no cells of bytes, and does not lie ahead of B. -/
theorem Dat.grown {B : Nat} {w w' : World} {d : Value} {xs : List Int} (h : Dat B w d xs) {r : Nat} (hg : w.grownBy w' (some r)) (hr : B ≤ r) (hn : ∀ cs fr, w.heap[r]? ≠ some (.cells cs 5 fr)) : Dat B w' d xs :=
  h.keep hg.size fun b h1 h2 => hg.block b h1 (by
    intro e
    injection e with e
    subst e
    rcases h2 with h2 | ⟨cs, fr, h2⟩
    · omega
    · exact hn cs fr h2)

/-- Block b is no cells of bytes. -/
def NotU8 (w : World) (b : Nat) : Prop := ∀ cs fr, w.heap[b]? ≠ some (.cells cs 5 fr)
theorem NotU8.up {w w' : World} {b : Nat} (h : NotU8 w b) (hb : Below w.heap.size w w') (hlt : b < w.heap.size) : NotU8 w' b := fun cs fr => by rw [hb.block b hlt]; exact h cs fr
theorem NotU8.set {w : World} {b : Nat} (h : NotU8 w b) (p : Addr) (u : Value) : NotU8 (w.setCell p u) b := by
  intro cs fr hh
  simp only [World.setCell, Array.getElem?_modify] at hh
  by_cases e : p.block = b
  · rw [if_pos e] at hh
    cases hw : w.heap[b]? with
    | none => rw [hw] at hh; cases hh
    | some o =>
      rw [hw] at hh
      cases o <;> simp at hh
      exact h _ _ (by rw [hw, hh.2.1])
  · rw [if_neg e] at hh
    exact h cs fr hh
theorem NotU8.of {w : World} {b : Nat} {cs : Array Value} {e : TypeId} {fr : Nat × Nat} (h : w.heap[b]? = some (.cells cs e fr)) (hne : e ≠ 5) : NotU8 w b := by
  intro cs' fr' hh
  rw [h] at hh
  injection hh with hh
  injection hh with _ h2
  exact hne h2
theorem NotU8.new {w : World} {cs : Array Value} {e : TypeId} (hne : e ≠ 5) : NotU8 (w.alloc (.cells cs e)) w.heap.size := NotU8.of (heap_alloc_new w _) hne
theorem Dat.set {B : Nat} {w : World} {d : Value} {xs : List Int} (h : Dat B w d xs) {p : Addr} (hp : B ≤ p.block) (hn : NotU8 w p.block) (u : Value) : Dat B (w.setCell p u) d xs := by
  refine h.keep (by simp [World.setCell]) fun b h1 h2 => Below.heap_setCell _ _ _ _ ?_
  rintro rfl
  rcases h2 with h2 | ⟨cs, fr, h2⟩
  · omega
  · exact hn cs fr h2

/-- What stands in an entry. -/
def Ent (B : Nat) (w : World) (e : MapEntry) (x : Item) : Prop := e.key = stV x.node ∧ ∃ d, e.val = itV x d ∧ Dat B w d x.data

def locate (n : Stamp) : List MapEntry → List Item → Nat → Option (Nat × Value)
  | e :: es, x :: xs, i => if n = x.node then some (i, e.val) else locate n es xs (i + 1)
  | _, _, _ => none

theorem run_findAsking (n : Stamp) (w : World) : ∀ (es : List MapEntry) (xs : List Item) (i : Nat), Pair (fun e x => e.key = stV x.node) es xs →
    (Instr.findAsking 24 (stV n) es i).run Try.prog w = .ok (locate n es xs i) w
  | [], [], _, _ => by simp [Instr.findAsking, locate]
  | e :: es, x :: xs, i, ⟨h, hr⟩ => by
    have ih := run_findAsking n w es xs (i + 1) hr
    simp only [Instr.findAsking, Sem.run_bind, h, stamp_equal, Result.andThen_ok, locate]
    by_cases hx : n = x.node
    · simp [hx]
    · simp [hx, ih]

theorem run_findKey (n : Stamp) (w : World) (es : List MapEntry) (xs : List Item) (h : Pair (fun e x => e.key = stV x.node) es xs) :
    (Instr.findKey 24 (stV n) es).run Try.prog w = .ok (locate n es xs 0) w := by
  rw [← run_findAsking n w es xs 0 h]
  unfold Instr.findKey
  simp only [run_underlying Try.underlying24, Sem.run_bind, Result.andThen_ok]
  cases es with
  | nil => simp [Instr.findNow, Instr.findAsking]
  | cons e es => simp [Instr.findNow, Instr.sameNow]

theorem locate_none {n : Stamp} : ∀ {es : List MapEntry} {xs : List Item} {i : Nat}, es.length = xs.length → (locate n es xs i = none ↔ ∀ x ∈ xs, x.node ≠ n)
  | [], [], _, _ => by simp [locate]
  | e :: es, x :: xs, i, h => by
    simp only [locate]
    by_cases hx : n = x.node
    · simp [hx]
    · have := locate_none (n := n) (es := es) (xs := xs) (i := i + 1) (by simpa using h)
      simp only [hx, if_false, this, List.mem_cons, forall_eq_or_imp]
      exact ⟨fun h => ⟨fun e => hx e.symm, h⟩, fun h => h.2⟩

theorem locate_some {n : Stamp} : ∀ {es : List MapEntry} {xs : List Item} {i j : Nat} {v : Value}, locate n es xs i = some (j, v) → ∃ k e x, j = i + k ∧ es[k]? = some e ∧ xs[k]? = some x ∧ x.node = n ∧ e.val = v
  | [], _, _, _, _, h => by simp [locate] at h
  | _ :: _, [], _, _, _, h => by simp [locate] at h
  | e :: es, x :: xs, i, j, v, h => by
    simp only [locate] at h
    by_cases hx : n = x.node
    · simp only [hx, if_true, Option.some.injEq, Prod.mk.injEq] at h
      exact ⟨0, e, x, by omega, rfl, rfl, hx.symm, h.2⟩
    · simp only [hx, if_false] at h
      obtain ⟨k, e', x', h1, h2, h3, h4, h5⟩ := locate_some h
      exact ⟨k + 1, e', x', by omega, by simpa using h2, by simpa using h3, h4, h5⟩
end Go.Proofs.Ytefhfoioeoijlaa

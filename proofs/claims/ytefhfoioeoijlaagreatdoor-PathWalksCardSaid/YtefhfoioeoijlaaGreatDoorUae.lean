/- Step, Ty -/
import Derived.Laws.CopyRow
import Derived.OrdersHeld
import Derived.Test.YtefhfoioeoijlaaGreatDoorProg
import Derived.Test.YtefhfoioeoijlaaGreatDoorUab
set_option linter.unusedVariables false
set_option linter.unusedSimpArgs false
namespace Go.Proofs.YtefhfoioeoijlaaGreatDoor
open Go Go.RowKit Go.Sort
abbrev Up (w w' : World) : Prop := Below w.heap.size w w'
abbrev Chg (w w' : World) (b : Nat) : Prop := w.grownBy w' (some b)
theorem lt_ob {w : World} {b : Nat} {o : Obj} (h : w.heap[b]? = some o) : b < w.heap.size := (Array.getElem?_eq_some_iff.1 h).1
theorem up_ob {w w' : World} {b : Nat} {o : Obj} (u : Up w w') (h : w.heap[b]? = some o) : w'.heap[b]? = some o := (u.block b (lt_ob h)).trans h
theorem chg_ob {w w' : World} {b c : Nat} {o : Obj} (u : Chg w w' c) (hne : b ≠ c) (h : w.heap[b]? = some o) : w'.heap[b]? = some o := (u.block b (lt_ob h) (by simpa using hne)).trans h
theorem up_sz {w w' : World} (u : Up w w') : w.heap.size ≤ w'.heap.size := u.size
theorem up_new {w : World} (o : Obj) : Up w (w.alloc o) := up_alloc w o
theorem to_chg {w w' : World} (u : Up w w') (c : Nat) : Chg w w' c := ⟨u.os, u.tape, u.output, u.size, fun k hk _ => u.block k hk⟩
structure Mod (X : List Nat) (w w' : World) : Prop where
  os : w'.os = w.os
  tape : w'.tape = w.tape
  output : w'.output = w.output
  size : w.heap.size ≤ w'.heap.size
  block : ∀ k, k < w.heap.size → k ∉ X → w'.heap[k]? = w.heap[k]?
theorem Mod.refl (X : List Nat) (w : World) : Mod X w w := ⟨rfl, rfl, rfl, Nat.le_refl _, fun _ _ _ => rfl⟩
theorem Mod.trans {X : List Nat} {a b c : World} (h : Mod X a b) (k : Mod X b c) : Mod X a c :=
  ⟨k.os.trans h.os, k.tape.trans h.tape, k.output.trans h.output, Nat.le_trans h.size k.size, fun i hi hn => (k.block i (Nat.lt_of_lt_of_le hi h.size) hn).trans (h.block i hi hn)⟩
theorem Mod.of_mod {X Y : List Nat} {a b : World} (h : Mod X a b) (hX : ∀ x ∈ X, x ∈ Y) : Mod Y a b := ⟨h.os, h.tape, h.output, h.size, fun k hk hn => h.block k hk (fun hm => hn (hX k hm))⟩
theorem Mod.of_up {X : List Nat} {a b : World} (h : Up a b) : Mod X a b := ⟨h.os, h.tape, h.output, h.size, fun k hk _ => h.block k hk⟩
theorem Mod.of_chg {X : List Nat} {a b : World} {c : Nat} (h : Chg a b c) (hc : c ∈ X) : Mod X a b := ⟨h.os, h.tape, h.output, h.size, fun k hk hn => h.block k hk (by intro e; injection e with e; rw [e] at hn; exact hn hc)⟩
theorem Mod.up {a b : World} (h : Mod [] a b) : Up a b := ⟨h.os, h.tape, h.output, h.size, fun k hk => h.block k hk (by simp)⟩
theorem Mod.chg {a b : World} {c : Nat} (h : Mod [c] a b) : Chg a b c := ⟨h.os, h.tape, h.output, h.size, fun k hk hn => h.block k hk (by intro e; simp at e; exact hn (by rw [e]))⟩
theorem Mod.thin {X Y : List Nat} {a b c : World} (h : Mod X a b) (k : Mod Y b c) (hY : ∀ y ∈ Y, y ∈ X ∨ a.heap.size ≤ y) : Mod X a c :=
  ⟨k.os.trans h.os, k.tape.trans h.tape, k.output.trans h.output, Nat.le_trans h.size k.size, fun i hi hn => (k.block i (Nat.lt_of_lt_of_le hi h.size) (fun hy => by
    rcases hY i hy with h1 | h1
    · exact hn h1
    · omega)).trans (h.block i hi hn)⟩
theorem Mod.trans' {X : List Nat} {a b c : World} {q : Option Nat} (h : Mod X a b) (k : b.grownBy c q) (hq : ∀ i, q = some i → a.heap.size ≤ i) : Mod X a c :=
  ⟨k.os.trans h.os, k.tape.trans h.tape, k.output.trans h.output, Nat.le_trans h.size k.size, fun i hi hn => (k.block i (Nat.lt_of_lt_of_le hi h.size) (by intro e; have := hq i e.symm; omega)).trans (h.block i hi hn)⟩
theorem own_ob {w w' : World} {b : Nat} {o : Obj} {q : Option Nat} (u : w.grownBy w' q) (hne : q ≠ some b) (h : w.heap[b]? = some o) : w'.heap[b]? = some o := (u.block b (lt_ob h) (fun e => hne e.symm)).trans h
theorem md_old {X : List Nat} {a b c : World} {q : Nat} (h : Mod X a b) (k : Chg b c q) : Mod (q :: X) a c :=
  (h.of_mod (Y := q :: X) (fun x hx => by simp [hx])).trans (Mod.of_chg k (by simp))
theorem md_ob {X : List Nat} {w w' : World} {b : Nat} {o : Obj} (u : Mod X w w') (hne : b ∉ X) (h : w.heap[b]? = some o) : w'.heap[b]? = some o := (u.block b (lt_ob h) hne).trans h
section
variable {P : Program} {Q : Exit → Act → World → Prop} {a : Act} {w : World} {next : Act → World → Prop}
theorem then_n (h : next a w) : Exit.then next Q .normal a w := h
theorem then_x {e : Exit} (he : e ≠ .normal) (h : Q e a w) : Exit.then next Q e a w := by cases e <;> first | exact absurd rfl he | exact h
theorem inb_n {id : Nat} (h : Q .normal a w) : Exit.inBlock id Q .normal a w := h
theorem inb_r {id : Nat} (h : Q .ret a w) : Exit.inBlock id Q .ret a w := h
theorem inb_hit {id : Nat} (h : Q .normal a w) : Exit.inBlock id Q (.exit id) a w := by simp only [Exit.inBlock, if_true]; exact h
theorem least {p : Nat → Prop} (h : ∃ n, p n) : ∃ n, p n ∧ ∀ m, p m → n ≤ m := by
  obtain ⟨n, hn⟩ := h
  induction n using Nat.strongRecOn with
  | _ n ih =>
    by_cases hm : ∃ m, m < n ∧ p m
    · obtain ⟨m, h1, h2⟩ := hm; exact ih m h1 h2
    · exact ⟨n, hn, fun m hp => Nat.le_of_not_lt fun hlt => hm ⟨m, hlt, hp⟩⟩
theorem lp {c : Code} (I : Nat → Act → World → Prop) (h0 : ∃ n, I n a w) (round : ∀ n a w, I n a w → c.wp P (Exit.then (fun a' w' => ∃ m, m < n ∧ I m a' w') Q) a w) : (Code.loop c).wp P Q a w := by
  classical
  refine wp_loop (fun a w => ∃ n, I n a w) (fun a w => if h : ∃ n, I n a w then (least h).choose else 0) h0 fun a w h => ?_
  have hl := (least h).choose_spec
  refine wp_mono (round _ a w hl.1) fun e a' w' hq => ?_
  cases e with
  | normal =>
    obtain ⟨m, hm, hI⟩ := hq
    refine ⟨⟨m, hI⟩, ?_⟩
    have h' : ∃ n, I n a' w' := ⟨m, hI⟩
    show (if h : ∃ n, I n a' w' then (least h).choose else 0) < (if h : ∃ n, I n a w then (least h).choose else 0)
    rw [dif_pos h', dif_pos h]
    exact Nat.lt_of_le_of_lt ((least h').choose_spec.2 m hI) hm
  | _ => exact hq
end
section
variable {P : Program} {ops : Array Oper} {Q : Exit → Act → World → Prop} {a : Act} {w : World} {rest : List Oper} {o : Oper} {J : Act → World → Prop}
@[irreducible] def WL (P : Program) (ops : Array Oper) (Q : Exit → Act → World → Prop) (l : List Oper) (a : Act) (w : World) : Prop := wpList P ops Q l a w
@[irreducible] def QL (P : Program) (ops : Array Oper) (C : World → Prop) (Q : Act → Prop) (l : List Oper) (a : Act) : Prop := wpQuiet P ops C Q l a
@[irreducible] def HL (P : Program) (ops : Array Oper) (Q : Exit → Act → World → Prop) (S : World → Prop) (n : Nat) (listed : Array Bool) (a : Act) (w : World) : Prop := wpAnyH P .any ops Q S n listed a w
theorem wl_un {P : Program} {ops : Array Oper} {Q : Exit → Act → World → Prop} : WL P ops Q = wpList P ops Q := by funext l a w; unfold WL; rfl
theorem ql_un {P : Program} {ops : Array Oper} {C : World → Prop} {Q : Act → Prop} : QL P ops C Q = wpQuiet P ops C Q := by funext l a; unfold QL; rfl
theorem hl_un {P : Program} {ops : Array Oper} {Q : Exit → Act → World → Prop} {S : World → Prop} : HL P ops Q S = wpAnyH P .any ops Q S := by funext n l a w; unfold HL; rfl
@[irreducible] def St1 (P : Program) (ops : Array Oper) (Q : Exit → Act → World → Prop) (o : Oper) (J : Act → World → Prop) (a : Act) (w : World) : Prop :=
  if Region.wanted o (yielded ops a.tmps) then o.wp P a w J Q ∨ (o.asks P a w ∧ LetsOut Q) else J (a.put o.dst undef) w
theorem wl (h : St1 P ops Q o (WL P ops Q rest) a w) : WL P ops Q (o :: rest) a w := by
  rw [wl_un] at h ⊢; unfold St1 at h; unfold wpList; exact h
theorem wnil (h : Q .normal a w) : WL P ops Q [] a w := by rw [wl_un]; exact h
theorem rg_lit {id : Nat} {l : List Oper} (h : WL P l.toArray Q l a w) : (Code.region id l.toArray false).wp P Q a w := wp_region_lit (by rw [wl_un] at h; exact h)
theorem sv {v : Value} {w' : World} (hw : Region.wanted o (yielded ops a.tmps) = true) (h : (execOp a.eval o).run P w = .ok (.value v) w') (k : J (a.put o.dst v) w') : St1 P ops Q o J a w := by
  unfold St1; rw [if_pos hw]; refine .inl ?_; unfold Oper.wp; rw [h]; exact k
theorem sk {w' : World} (hw : Region.wanted o (yielded ops a.tmps) = true) (h : (execOp a.eval o).run P w = .ok .skip w') (k : J (a.put o.dst undef) w') : St1 P ops Q o J a w := by
  unfold St1; rw [if_pos hw]; refine .inl ?_; unfold Oper.wp; rw [h]; exact k
theorem sp (hw : Region.wanted o (yielded ops a.tmps) = false) (k : J (a.put o.dst undef) w) : St1 P ops Q o J a w := by
  unfold St1; rw [if_neg (by rw [hw]; simp)]; exact k
theorem sb {c : Bool} (hw : Region.wanted o (yielded ops a.tmps) = true) (h : (execOp a.eval o).run P w = .ok (.value (.bool c)) w) (k : ∀ b, c = b → J (a.put o.dst (.bool b)) w) : St1 P ops Q o J a w :=
  sv hw h (k c rfl)
theorem sc {f : FuncId} {args : Array Value} {R : Ending → World → Prop} (hw : Region.wanted o (yielded ops a.tmps) = true) (h : (execOp a.eval o).run P w = .ok (.enter f args) w) (hc : Calls P f args w R)
    (k : ∀ e w', R e w' → ∃ v, e = .returned v ∧ J (a.put o.dst v) w') : St1 P ops Q o J a w := by
  unfold St1; rw [if_pos hw]; refine .inl ?_; unfold Oper.wp; rw [h]
  refine hc.mono fun e w' hR => ?_
  obtain ⟨v, rfl, h⟩ := k e w' hR
  exact h
theorem bcase {p : Prop} (b : Bool) (f : b = false → p) (t : b = true → p) : p := by cases b; exact f rfl; exact t rfl
theorem ebool {x : Value} {b c : Bool} (h : x = .bool b) (hb : b = c) : x = .bool c := by rw [h, hb]
theorem bneg {b c : Bool} (h : b = c) : (!b) = !c := by rw [h]
theorem wt {f : Nat → Option Bool} {j : Nat} {want b : Bool} (hg : o.guard = some (j, want)) (hy : f j = some b) (hb : b = want) : Region.wanted o f = true := by
  unfold Region.wanted; rw [hg]; simp [hy, hb]
theorem wf {f : Nat → Option Bool} {j : Nat} {want b : Bool} (hg : o.guard = some (j, want)) (hy : f j = some b) (hb : b = !want) : Region.wanted o f = false := by
  unfold Region.wanted; rw [hg]; simp [hy, hb]
theorem sn {cs : Array Value} {T : TypeId} {V : Nat → Value} (hw : Region.wanted o (yielded ops a.tmps) = true) (h : (execOp a.eval o).run P w = .ok (.value (V w.heap.size)) (w.alloc (.cells cs T)))
    (k : ∀ b w', b = w.heap.size → w'.heap[b]? = some (.cells cs T (0, 0)) → Up w w' → J (a.put o.dst (V b)) w') : St1 P ops Q o J a w :=
  sv hw h (k _ _ rfl (heap_alloc_new w _) (up_alloc w _))
theorem snm {V : Nat → Value} (hw : Region.wanted o (yielded ops a.tmps) = true) (h : (execOp a.eval o).run P w = .ok (.value (V w.heap.size)) (w.alloc (.map #[] 0)))
    (k : ∀ b w', b = w.heap.size → w'.heap[b]? = some (.map #[] 0) → Up w w' → J (a.put o.dst (V b)) w') : St1 P ops Q o J a w :=
  sv hw h (k _ _ rfl (heap_alloc_new w _) (up_alloc w _))
variable {S : World → Prop}
theorem hv {i : Nat} {oi : Oper} {v : Value} {fuel : Nat} {listed : Array Bool} (hi : ops[i]? = some oi) (hs : Region.noSelect ops = true) (hf : Region.free .any ops listed i = true) (hr : (Region.ready .any ops listed).contains i = true)
    (hQ : ∀ c a w, Q (.panic c) (a.put oi.dst v) w → Q (.panic c) a w) (hS : S w) (hw : Region.wanted oi (yielded ops a.tmps) = true) (h : ∀ w', S w' → (execOp a.eval oi).run P w' = .ok (.value v) w')
    (k : HL P ops Q S fuel (listed.setIfInBounds i true) (a.put oi.dst v) w) : HL P ops Q S (fuel + 1) listed a w :=
  by rw [hl_un] at k ⊢; exact wpAnyH_take hi hs hf hr hQ (.inl ⟨hw, h⟩) hS k
theorem hb {i : Nat} {oi : Oper} {c : Bool} {fuel : Nat} {listed : Array Bool} (hi : ops[i]? = some oi) (hs : Region.noSelect ops = true) (hf : Region.free .any ops listed i = true) (hr : (Region.ready .any ops listed).contains i = true)
    (hQ : ∀ c' a w, Q (.panic c') (a.put oi.dst (.bool c)) w → Q (.panic c') a w) (hS : S w) (hw : Region.wanted oi (yielded ops a.tmps) = true) (h : ∀ w', S w' → (execOp a.eval oi).run P w' = .ok (.value (.bool c)) w')
    (k : ∀ b, c = b → HL P ops Q S fuel (listed.setIfInBounds i true) (a.put oi.dst (.bool b)) w) : HL P ops Q S (fuel + 1) listed a w :=
  hv hi hs hf hr hQ hS hw h (k c rfl)
theorem hp {i : Nat} {oi : Oper} {fuel : Nat} {listed : Array Bool} (hi : ops[i]? = some oi) (hs : Region.noSelect ops = true) (hf : Region.free .any ops listed i = true) (hr : (Region.ready .any ops listed).contains i = true)
    (hQ : ∀ c a w, Q (.panic c) (a.put oi.dst undef) w → Q (.panic c) a w) (hS : S w) (hw : Region.wanted oi (yielded ops a.tmps) = false)
    (k : HL P ops Q S fuel (listed.setIfInBounds i true) (a.put oi.dst undef) w) : HL P ops Q S (fuel + 1) listed a w :=
  by rw [hl_un] at k ⊢; exact wpAnyH_take hi hs hf hr hQ (.inr ⟨hw, rfl⟩) hS k
theorem h1 {i : Nat} {oi : Oper} {fuel : Nat} {listed : Array Bool} (hr : Region.ready .any ops listed = [i]) (hi : ops[i]? = some oi)
    (k : St1 P ops Q oi (fun a' w' => S w' ∧ HL P ops Q S fuel (listed.setIfInBounds i true) a' w') a w) : HL P ops Q S (fuel + 1) listed a w := by
  rw [hl_un] at *
  refine wpAnyH_all hr (by simp) fun j hj => ?_
  obtain rfl : j = i := by simpa using hj
  unfold wpOp; simp only [hi]; unfold St1 at k; exact k
theorem h2 {i j : Nat} {oi oj : Oper} {fuel : Nat} {listed : Array Bool} (hr : Region.ready .any ops listed = [i, j]) (hi : ops[i]? = some oi) (hj : ops[j]? = some oj)
    (k : St1 P ops Q oi (fun a' w' => S w' ∧ HL P ops Q S fuel (listed.setIfInBounds i true) a' w') a w)
    (k2 : St1 P ops Q oj (fun a' w' => S w' ∧ HL P ops Q S fuel (listed.setIfInBounds j true) a' w') a w) : HL P ops Q S (fuel + 1) listed a w := by
  rw [hl_un] at *
  refine wpAnyH_all hr (by simp) fun l hl => ?_
  rcases List.mem_cons.1 hl with rfl | hl
  · unfold wpOp; simp only [hi]; unfold St1 at k; exact k
  · obtain rfl : l = j := by simpa using hl
    unfold wpOp; simp only [hj]; unfold St1 at k2; exact k2
theorem held_mono {S S' : World → Prop} (hS : ∀ w, S' w → S w) : ∀ (fuel : Nat) (listed : Array Bool) (a : Act) (w : World), wpAnyH P .any ops Q S' fuel listed a w → wpAnyH P .any ops Q S fuel listed a w
  | 0, _, _, _, h => h
  | fuel + 1, _, _, _, h => ⟨h.1, fun i hi => wpOp_mono (fun a' w' h' => ⟨hS _ h'.1, held_mono hS fuel _ a' w' h'.2⟩) (h.2 i hi)⟩
theorem hx {X Y : List Nat} {w0 : World} {fuel : Nat} {listed : Array Bool} (hm : Mod X w0 w) (hY : ∀ y ∈ Y, y ∈ X ∨ w0.heap.size ≤ y) (k : HL P ops Q (Mod Y w) fuel listed a w) : Mod X w0 w ∧ HL P ops Q (Mod X w0) fuel listed a w :=
  ⟨hm, by rw [hl_un] at k ⊢; exact held_mono (fun _ h => hm.thin h hY) _ _ _ _ k⟩
theorem hend {fuel : Nat} {listed : Array Bool} (hr : Region.ready .any ops listed = []) (h : Q .normal a w) : HL P ops Q S fuel listed a w := by rw [hl_un]; exact wpAnyH_done hr h fuel
theorem rg_held {id n : Nat} {l : List Oper} (X : List Nat) (hm : P.follows .mixedOrders = true) (hn : l.length = n) (h : ∀ w', Up w w' → HL P l.toArray Q (Mod X w') n (Array.replicate n false) a w') : (Code.region id l.toArray true).wp P Q a w := by
  subst hn
  have h' := h w.drew (up_drew w)
  rw [hl_un] at h'
  exact wp_region_held (S := Mod X w.drew) hm (by simpa using h')
theorem nin0 {b : Nat} : b ∉ ([] : List Nat) := by simp
theorem nin1 {b c : Nat} (h : b ≠ c) : b ∉ [c] := by simpa using h
theorem ynew {X : List Nat} {b n : Nat} (h : b = n) : ∀ y ∈ b :: X, y ∈ X ∨ n ≤ y := by
  intro y hy
  rcases List.mem_cons.1 hy with rfl | hy
  · exact .inr (Nat.le_of_eq h.symm)
  · exact .inl hy
variable {C : World → Prop} {Qq : Act → Prop}
theorem qv {v : Value} (hw : Region.wanted o (yielded ops a.tmps) = true) (h : ∀ w', C w' → (execOp a.eval o).run P w' = .ok (.value v) w') (k : QL P ops C Qq rest (a.put o.dst v)) : QL P ops C Qq (o :: rest) a := by
  rw [ql_un] at k ⊢; unfold wpQuiet; rw [if_pos hw]
  refine ⟨v, fun w' hC => ?_, k⟩
  unfold Oper.quietAt; rw [h w' hC]; exact ⟨rfl, rfl⟩
theorem qb {c : Bool} (hw : Region.wanted o (yielded ops a.tmps) = true) (h : ∀ w', C w' → (execOp a.eval o).run P w' = .ok (.value (.bool c)) w') (k : ∀ b, c = b → QL P ops C Qq rest (a.put o.dst (.bool b))) : QL P ops C Qq (o :: rest) a :=
  qv hw h (k c rfl)
theorem qnil (h : Qq a) : QL P ops C Qq [] a := by rw [ql_un]; exact h
theorem qp (hw : Region.wanted o (yielded ops a.tmps) = false) (k : QL P ops C Qq rest (a.put o.dst undef)) : QL P ops C Qq (o :: rest) a := by
  rw [ql_un] at k ⊢; unfold wpQuiet; rw [if_neg (by rw [hw]; simp)]; exact k
theorem qc {f : FuncId} {args : Array Value} {v : Value} {R : World → Ending → World → Prop} (hw : Region.wanted o (yielded ops a.tmps) = true) (h : ∀ w', C w' → (execOp a.eval o).run P w' = .ok (.enter f args) w')
    (hc : ∀ w', C w' → Calls P f args w' (R w')) (hR : ∀ w' e w'', C w' → R w' e w'' → e = .returned v ∧ C w'') (k : QL P ops C Qq rest (a.put o.dst v)) : QL P ops C Qq (o :: rest) a := by
  rw [ql_un] at k ⊢; unfold wpQuiet; rw [if_pos hw]
  refine ⟨v, fun w' hC => ?_, k⟩
  unfold Oper.quietAt; rw [h w' hC]
  exact ⟨rfl, (hc w' hC).mono fun e w'' he => hR w' e w'' hC he⟩
theorem rg_tail {id : Nat} {l hd tl : List Oper} (n : Nat) (hm : P.follows .mixedOrders = true) (hB : Region.lexTailB .any l.toArray n = true) (hhd : l.take n = hd) (htl : l.drop n = tl)
    (h : QL P l.toArray (fun w' => Up w w') (fun a' => ∀ w', Up w w' → WL P l.toArray Q tl a' w') hd a) : (Code.region id l.toArray true).wp P Q a w := by
  subst hhd; subst htl
  rw [ql_un] at h; simp only [wl_un] at h
  exact wp_region_quiet_tail (fun w' => Up w w') n hm hB (up_drew w) h
theorem rg_all {id : Nat} {l : List Oper} (hm : P.follows .mixedOrders = true) (hB : Region.lexB .any l.toArray = true)
    (h : QL P l.toArray (fun w' => Up w w') (fun a' => ∀ w', Up w w' → Q .normal a' w') l a) : (Code.region id l.toArray true).wp P Q a w :=
  wp_region_quiet (C := fun w' => Up w w') hm hB (up_drew w) (by rw [ql_un] at h; simpa using h)
theorem up_step {a b c : World} (h : Up a b) (k : Up b c) : Up a c := up_trans h k
end
section
variable {P : Program} {d : Option Tmp} {ty : TypeId} {pos : String} {af : Array Edge} {g : Option (Nat × Bool)} {ρ : Operand → Value} {w : World}
theorem r_move {x : Operand} {v : Value} (h : ρ x = v) : (execOp ρ ⟨d, .move x, ty, pos, af, g⟩).run P w = .ok (.value v) w := by subst h; rfl
theorem r_assign {x : Operand} {v : Value} (h : ρ x = v) : (execOp ρ ⟨d, .assign x, ty, pos, af, g⟩).run P w = .ok (.value v) w := by subst h; rfl
theorem r_pick {c x y : Operand} {b : Bool} {u v : Value} (hc : ρ c = .bool b) (hx : ρ x = u) (hy : ρ y = v) : (execOp ρ ⟨d, .pick c x y, ty, pos, af, g⟩).run P w = .ok (.value (if b then u else v)) w := by
  simp [execOp, hc, hx, hy, asBool]
theorem r_pkT {c x y : Operand} {v : Value} (hc : ρ c = .bool true) (hx : ρ x = v) : (execOp ρ ⟨d, .pick c x y, ty, pos, af, g⟩).run P w = .ok (.value v) w := r_pick (u := v) (b := true) hc hx rfl
theorem r_pkF {c x y : Operand} {v : Value} (hc : ρ c = .bool false) (hy : ρ y = v) : (execOp ρ ⟨d, .pick c x y, ty, pos, af, g⟩).run P w = .ok (.value v) w := r_pick (v := v) (b := false) hc rfl hy
theorem r_load {t : TypeId} {x : Operand} {b k : Nat} {v : Value} {cs : Array Value} {T : TypeId} {fr : Nat × Nat} (hx : ρ x = .pointer (some ⟨b, k, none⟩)) (ht : ∀ w, (isAgg t).run P w = .ok false w)
    (hb : w.heap[b]? = some (.cells cs T fr)) (hv : cs.toList[k]? = some v) : (execOp ρ ⟨d, .load t x, ty, pos, af, g⟩).run P w = .ok (.value v) w := by
  have hc : w.cell? ⟨b, k, none⟩ = some v := by rw [Array.getElem?_toList] at hv; simp [World.cell?, hb, hv]
  simp [execOp, hx, Instr.loadAt, Instr.sureAddr, loadVar, ht, hc]
theorem r_loadc {t : TypeId} {x : Operand} {p : Addr} {v : Value} (hx : ρ x = .pointer (some p)) (ht : ∀ w, (isAgg t).run P w = .ok false w) (hc : w.cell? p = some v) : (execOp ρ ⟨d, .load t x, ty, pos, af, g⟩).run P w = .ok (.value v) w := by
  simp [execOp, hx, Instr.loadAt, Instr.sureAddr, loadVar, ht, hc]
theorem add_at (b k j : Nat) : (⟨b, k, none⟩ : Addr).add j = ⟨b, k + j, none⟩ := by unfold Addr.add; split <;> simp_all
theorem run_loadVars {t : TypeId} {b k : Nat} {vs : List Value} {cs : Array Value} {T : TypeId} {fr : Nat × Nat} (ht : ∀ w, (isAgg t).run P w = .ok true w) (hs : ∀ w, (sizeOf t).run P w = .ok vs.length w)
    (hb : w.heap[b]? = some (.cells cs T fr)) (hv : (cs.toList.drop k).take vs.length = vs) : (loadVar t ⟨b, k, none⟩).run P w = .ok (.agg vs.toArray) w := by
  have := run_loadCells_list (P := P) w ⟨b, k, none⟩ vs (fun j v hj => by
    rw [add_at]
    rw [← hv] at hj
    have hj2 : ((cs.toList.drop k).take vs.length)[j]? = some v := hj
    rw [List.getElem?_take] at hj2
    split at hj2
    · rw [List.getElem?_drop, Array.getElem?_toList] at hj2
      simp [World.cell?, hb, hj2]
    · cases hj2)
  simp [loadVar, ht, hs, this]
theorem r_loads {t : TypeId} {x : Operand} {b k : Nat} {vs : List Value} {cs : Array Value} {T : TypeId} {fr : Nat × Nat} (hx : ρ x = .pointer (some ⟨b, k, none⟩)) (ht : ∀ w, (isAgg t).run P w = .ok true w) (hs : ∀ w, (sizeOf t).run P w = .ok vs.length w)
    (hb : w.heap[b]? = some (.cells cs T fr)) (hv : (cs.toList.drop k).take vs.length = vs) : (execOp ρ ⟨d, .load t x, ty, pos, af, g⟩).run P w = .ok (.value (.agg vs.toArray)) w := by
  simp [execOp, hx, Instr.loadAt, Instr.sureAddr, run_loadVars ht hs hb hv]
theorem r_store {t : TypeId} {x y : Operand} {b k : Nat} {v : Value} {vs cs' : List Value} {cs : Array Value} {T : TypeId} (hx : ρ x = .pointer (some ⟨b, k, none⟩)) (hy : ρ y = v) (hvs : v.cells = vs.toArray) (hs : ∀ w, (sizeOf t).run P w = .ok vs.length w)
    (hb : w.heap[b]? = some (.cells cs T (0, 0))) (hone : vs.all Value.oneCell' = true) (hk : k + vs.length ≤ cs.toList.length) (hcs : cs.toList.take k ++ vs ++ cs.toList.drop (k + vs.length) = cs') :
    ∃ w', (execOp ρ ⟨d, .store t x y, ty, pos, af, g⟩).run P w = .ok .skip w' ∧ w'.heap[b]? = some (.cells cs'.toArray T (0, 0)) ∧ Chg w w' b ∧ w'.heap.size = w.heap.size := by
  have hst := run_storeCells_at P b k T vs 0 cs w hb (by simpa using hk) (fun v hv => List.all_eq_true.1 hone v hv)
  rw [Nat.add_zero, hcs] at hst
  refine ⟨w.setRow b cs'.toArray, ?_, setRow_heap w b cs _ T _ hb, ⟨rfl, rfl, rfl, by simp, fun k _ hk => setRow_other w b k _ (fun e => hk (by rw [e]))⟩, by simp⟩
  simp [execOp, hx, hy, Instr.storeAt, Instr.sureAddr, storeVar, hs, hvs, hst]
theorem ss {P : Program} {ops : Array Oper} {Q : Exit → Act → World → Prop} {a : Act} {w : World} {J : Act → World → Prop} {d : Option Tmp} {ty : TypeId} {pos : String} {af : Array Edge} {g : Option (Nat × Bool)}
    {t : TypeId} {x y : Operand} {b k : Nat} {v : Value} {vs cs' : List Value} {cs : Array Value} {T : TypeId} (hw : Region.wanted (⟨d, .store t x y, ty, pos, af, g⟩ : Oper) (yielded ops a.tmps) = true) (hx : a.eval x = .pointer (some ⟨b, k, none⟩)) (hy : a.eval y = v) (hvs : v.cells = vs.toArray) (hs : ∀ w, (sizeOf t).run P w = .ok vs.length w)
    (hb : w.heap[b]? = some (.cells cs T (0, 0))) (hone : vs.all Value.oneCell' = true) (hk : k + vs.length ≤ cs.toList.length) (hcs : cs.toList.take k ++ vs ++ cs.toList.drop (k + vs.length) = cs')
    (kk : ∀ w', w'.heap[b]? = some (.cells cs'.toArray T (0, 0)) → Chg w w' b → J (a.put d undef) w') : St1 P ops Q ⟨d, .store t x y, ty, pos, af, g⟩ J a w := by
  obtain ⟨w', h1, h2, h3, _⟩ := r_store (P := P) (d := d) (ty := ty) (pos := pos) (af := af) (g := g) hx hy hvs hs hb hone hk hcs
  exact sk hw h1 (kk w' h2 h3)
theorem r_callv {f : FuncId} {x : Operand} {xs : List Operand} {ats : Array TypeId} {caps all : List Value} (hf : ∀ args w, (callFunc f args).run P w = .ok (.enter f args) w) (hx : ρ x = .func (.func f) #[] caps.toArray) (ha : xs.map ρ ++ caps = all) :
    (execOp ρ ⟨d, .call ⟨.value x, xs.toArray, ats⟩, ty, pos, af, g⟩).run P w = .ok (.enter f all.toArray) w := by
  subst ha
  simp [execOp, resolve, hx, Deferred.ofValue, invoke, hf]
theorem r_add {t yt : TypeId} {x y : Operand} {k : IntKind} {m n c : Int} (hx : ρ x = .int k m) (hy : ρ y = .int k n) (h : k.wrap (m + n) = c) : (execOp ρ ⟨d, .binOp .add t x y yt, ty, pos, af, g⟩).run P w = .ok (.value (.int k c)) w := by
  subst h; simp [execOp, hx, hy, eqGuard, binOp, Op.intArith]
theorem r_sub {t yt : TypeId} {x y : Operand} {k : IntKind} {m n c : Int} (hx : ρ x = .int k m) (hy : ρ y = .int k n) (h : k.wrap (m - n) = c) : (execOp ρ ⟨d, .binOp .sub t x y yt, ty, pos, af, g⟩).run P w = .ok (.value (.int k c)) w := by
  subst h; simp [execOp, hx, hy, eqGuard, binOp, Op.intArith]
theorem r_mul {t yt : TypeId} {x y : Operand} {k : IntKind} {m n c : Int} (hx : ρ x = .int k m) (hy : ρ y = .int k n) (h : k.wrap (m * n) = c) : (execOp ρ ⟨d, .binOp .mul t x y yt, ty, pos, af, g⟩).run P w = .ok (.value (.int k c)) w := by
  subst h; simp [execOp, hx, hy, eqGuard, binOp, Op.intArith]
theorem r_lt {t yt : TypeId} {x y : Operand} {k : IntKind} {m n : Int} (hx : ρ x = .int k m) (hy : ρ y = .int k n) : (execOp ρ ⟨d, .binOp .lss t x y yt, ty, pos, af, g⟩).run P w = .ok (.value (.bool (decide (m < n)))) w := by
  simp [execOp, hx, hy, eqGuard, binOp, Op.intCmp]
theorem r_le {t yt : TypeId} {x y : Operand} {k : IntKind} {m n : Int} (hx : ρ x = .int k m) (hy : ρ y = .int k n) : (execOp ρ ⟨d, .binOp .leq t x y yt, ty, pos, af, g⟩).run P w = .ok (.value (.bool (decide (m ≤ n)))) w := by
  simp [execOp, hx, hy, eqGuard, binOp, Op.intCmp]
theorem r_gt {t yt : TypeId} {x y : Operand} {k : IntKind} {m n : Int} (hx : ρ x = .int k m) (hy : ρ y = .int k n) : (execOp ρ ⟨d, .binOp .gtr t x y yt, ty, pos, af, g⟩).run P w = .ok (.value (.bool (decide (n < m)))) w := by
  simp [execOp, hx, hy, eqGuard, binOp, Op.intCmp]
theorem r_ge {t yt : TypeId} {x y : Operand} {k : IntKind} {m n : Int} (hx : ρ x = .int k m) (hy : ρ y = .int k n) : (execOp ρ ⟨d, .binOp .geq t x y yt, ty, pos, af, g⟩).run P w = .ok (.value (.bool (decide (n ≤ m)))) w := by
  simp [execOp, hx, hy, eqGuard, binOp, Op.intCmp]
theorem r_eq {t yt : TypeId} {x y : Operand} {k : IntKind} {m n : Int} (hx : ρ x = .int k m) (hy : ρ y = .int k n) : (execOp ρ ⟨d, .binOp .eql t x y yt, ty, pos, af, g⟩).run P w = .ok (.value (.bool (decide (m = n)))) w := by
  simp [execOp, hx, hy, eqGuard, binOp, Op.intCmp]; rfl
theorem r_ne {t yt : TypeId} {x y : Operand} {k : IntKind} {m n : Int} (hx : ρ x = .int k m) (hy : ρ y = .int k n) : (execOp ρ ⟨d, .binOp .neq t x y yt, ty, pos, af, g⟩).run P w = .ok (.value (.bool (decide (m ≠ n)))) w := by
  simp [execOp, hx, hy, eqGuard, binOp, Op.intCmp, bne]; rfl
theorem beq_bytes (m n : ByteArray) : (m.toList == n.toList) = decide (m = n) := by
  rw [Bool.eq_iff_iff]; simp only [beq_iff_eq, decide_eq_true_eq]
  constructor
  · intro h
    rw [ByteArray.toList_eq, ByteArray.toList_eq] at h
    cases m; cases n; simp only [ByteArray.mk.injEq]; exact Array.toList_inj.1 h
  · rintro rfl; rfl
theorem r_eqs {t yt : TypeId} {x y : Operand} {m n : ByteArray} (hx : ρ x = .string m) (hy : ρ y = .string n) : (execOp ρ ⟨d, .binOp .eql t x y yt, ty, pos, af, g⟩).run P w = .ok (.value (.bool (decide (m = n)))) w := by
  rw [← beq_bytes]; simp [execOp, hx, hy, eqGuard, binOp, Op.stringOp]
theorem r_nes {t yt : TypeId} {x y : Operand} {m n : ByteArray} (hx : ρ x = .string m) (hy : ρ y = .string n) : (execOp ρ ⟨d, .binOp .neq t x y yt, ty, pos, af, g⟩).run P w = .ok (.value (.bool (decide (m ≠ n)))) w := by
  rw [decide_not, ← beq_bytes]; simp [execOp, hx, hy, eqGuard, binOp, Op.stringOp]
theorem r_not {t : TypeId} {x : Operand} {b : Bool} (hx : ρ x = .bool b) : (execOp ρ ⟨d, .unOp .not t x, ty, pos, af, g⟩).run P w = .ok (.value (.bool (!b))) w := by
  simp [execOp, hx, Op.unary]
theorem r_len {t : TypeId} {x : Operand} {ad : Option Addr} {n c : Nat} {e : TypeId} (hu : P.underlying t = some (.slice e)) (hx : ρ x = .slice ad n c) :
    (execOp ρ ⟨d, .call ⟨.builtin .len, #[x], #[t]⟩, ty, pos, af, g⟩).run P w = .ok (.value (.int .i64 n)) w := by
  simp [execOp, resolve, hx, invoke, builtin, Builtin.len_, run_underlying hu, goInt]
theorem r_lens {t : TypeId} {x : Operand} {s : ByteArray} (hu : P.underlying t = some .string) (hx : ρ x = .string s) :
    (execOp ρ ⟨d, .call ⟨.builtin .len, #[x], #[t]⟩, ty, pos, af, g⟩).run P w = .ok (.value (.int .i64 s.size)) w := by
  simp [execOp, resolve, hx, invoke, builtin, Builtin.len_, run_underlying hu, goInt]
theorem r_ixaddr {t e : TypeId} {x i : Operand} {b o n c m sz : Nat} {k : IntKind} {j : Int} (hx : ρ x = .slice (some ⟨b, o, none⟩) n c) (hi : ρ i = .int k j) (hu : P.underlying t = some (.slice e)) (hsz : ∀ w, (sizeOf e).run P w = .ok sz w)
    (h0 : 0 ≤ j) (h1 : j < n) (hm : o + j.toNat * sz = m) : (execOp ρ ⟨d, .indexAddr t x i, ty, pos, af, g⟩).run P w = .ok (.value (.pointer (some ⟨b, m, none⟩))) w := by
  subst hm
  simp [execOp, hx, hi, Instr.indexAt, asIntOf, run_underlying hu, h0, h1, hsz, add_at]
theorem r_fieldAddr {t : TypeId} {x : Operand} {i : Nat} {u v : Value} (hx : ρ x = u) (h : ∀ w, (Instr.fieldAt t u i).run P w = .ok v w) : (execOp ρ ⟨d, .fieldAddr t x i, ty, pos, af, g⟩).run P w = .ok (.value v) w := by
  simp [execOp, hx, h]
theorem r_extract {x : Operand} {i : Nat} {vs : List Value} {v : Value} (hx : ρ x = .tuple vs.toArray) (h : vs[i]? = some v) : (execOp ρ ⟨d, .extract x i, ty, pos, af, g⟩).run P w = .ok (.value v) w := by
  simp [execOp, hx, Instr.extract, h]
theorem r_nilCheck {x : Operand} {p : Addr} (hx : ρ x = .pointer (some p)) : (execOp ρ ⟨d, .nilCheck x, ty, pos, af, g⟩).run P w = .ok (.value (.pointer (some p))) w := by
  simp [execOp, hx]
theorem r_box {t : TypeId} {x : Operand} {v : Value} {cs : Array Value} (hx : ρ x = v) (hv : v.cells = cs) : (execOp ρ ⟨d, .box t x, ty, pos, af, g⟩).run P w = .ok (.value ((fun b => .pointer (some ⟨b, 0, none⟩)) w.heap.size)) (w.alloc (.cells cs t)) := by
  subst hx; subst hv
  simp [execOp, Instr.box, newVar, newRow]
theorem r_alloc {t : TypeId} {z : Value} {cs : Array Value} (hz : ∀ w, (zeroValue t).run P w = .ok z w) (hv : z.cells = cs) : (execOp ρ ⟨d, .alloc t, ty, pos, af, g⟩).run P w = .ok (.value ((fun b => .pointer (some ⟨b, 0, none⟩)) w.heap.size)) (w.alloc (.cells cs t)) := by
  subst hv
  simp [execOp, Instr.alloc, hz, newVar, newRow]
theorem r_makeFunc {fn : Fn} {xs ys : List Operand} {us vs : List Value} (hx : xs.map ρ = us) (hy : ys.map ρ = vs) : (execOp ρ ⟨d, .makeFunc fn xs.toArray ys.toArray, ty, pos, af, g⟩).run P w = .ok (.value (.func fn us.toArray vs.toArray)) w := by
  subst hx; subst hy
  simp [execOp, Instr.makeFunc]
theorem r_makeMap {t : TypeId} : (execOp ρ ⟨d, .makeMap t none, ty, pos, af, g⟩).run P w = .ok (.value ((fun b => .map (some b)) w.heap.size)) (w.alloc (.map #[] 0)) := by
  simp [execOp, Instr.makeMap]
theorem r_build {t : TypeId} {fs : List Field} {pl : List (Nat × Nat)} {z : Value} {xs : List (Nat × Operand)} {ps : List (Nat × Value)} {cs : List Value} (hu : P.underlying t = some (.struct fs.toArray)) (hz : ∀ w, (zeroValue t).run P w = .ok z w)
    (hpl : ∀ w, (fs.mapM fun f => Prod.mk f.offset <$> sizeOf f.type : Sem (List (Nat × Nat))).run P w = .ok pl w) (hps : xs.map (fun x => (x.1, ρ x.2)) = ps) (hf : Instr.fill (fun i => pl[i]?) z.cells ps = some cs.toArray) :
    (execOp ρ ⟨d, .build t xs.toArray, ty, pos, af, g⟩).run P w = .ok (.value (.agg cs.toArray)) w := by
  subst hps
  simp [execOp, Instr.build, hz, run_underlying hu, hpl, hf]
theorem r_buildSlice {t e : TypeId} {n sz : Nat} {z : Value} {xs : List (Nat × Operand)} {ps : List (Nat × Value)} {cs : Array Value} (hu : P.underlying t = some (.slice e)) (hs : ∀ w, (sizeOf e).run P w = .ok sz w) (hz : ∀ w, (zeroValue e).run P w = .ok z w)
    (hn : n * sz ≤ 16777216) (h0 : n * sz ≠ 0) (hps : xs.map (fun x => (x.1, ρ x.2)) = ps) (hf : Instr.fill (fun i => some (i * sz, sz)) ((List.range (n * sz)).map fun i => z.cells[i % z.cells.size]!).toArray ps = some cs) :
    (execOp ρ ⟨d, .buildSlice t n xs.toArray, ty, pos, af, g⟩).run P w = .ok (.value ((fun b => .slice (some ⟨b, 0, none⟩) n n) w.heap.size)) (w.alloc (.cells cs e)) := by
  subst hps
  have hr : (Array.range (n * sz)).map (fun i => z.cells[i % z.cells.size]!) = ((List.range (n * sz)).map fun i => z.cells[i % z.cells.size]!).toArray := by
    apply Array.ext'
    simp [Array.toList_map, Array.toList_range]
  have hle : ¬ n * sz > 2 ^ 24 := by simp only [gt_iff_lt, Nat.not_lt]; exact hn
  simp only [execOp, Instr.buildSlice, Sem.run_bind, run_underlying hu, Result.andThen_ok, hs, hz, if_neg hle, if_neg h0, hr, List.map_toArray, Sem.run_pure, hf]
  simp [newRow]
end
section
variable {P : Program} {ops : Array Oper} {Q : Exit → Act → World → Prop} {C : World → Prop} {Qq : Act → Prop} {a : Act} {w : World} {rest : List Oper} {d : Option Tmp} {ty : TypeId} {pos : String} {af : Array Edge} {x : Operand} {v : Value}
theorem wmv (k : WL P ops Q rest (a.put d v) w) (h : a.eval x = v := by kernel_rfl) : WL P ops Q (⟨d, .move x, ty, pos, af, none⟩ :: rest) a w := wl (sv rfl (r_move h) k)
theorem was (k : WL P ops Q rest (a.put d v) w) (h : a.eval x = v := by kernel_rfl) : WL P ops Q (⟨d, .assign x, ty, pos, af, none⟩ :: rest) a w := wl (sv rfl (r_assign h) k)
theorem qmv (k : QL P ops C Qq rest (a.put d v)) (h : a.eval x = v := by kernel_rfl) : QL P ops C Qq (⟨d, .move x, ty, pos, af, none⟩ :: rest) a := qv rfl (fun _ _ => r_move h) k
theorem qas (k : QL P ops C Qq rest (a.put d v)) (h : a.eval x = v := by kernel_rfl) : QL P ops C Qq (⟨d, .assign x, ty, pos, af, none⟩ :: rest) a := qv rfl (fun _ _ => r_assign h) k
end
section
variable {P : Program} {ops : Array Oper} {Q : Exit → Act → World → Prop} {a : Act} {w : World} {rest : List Oper} {o : Oper} {S : World → Prop}
theorem wsp (k : WL P ops Q rest (a.put o.dst undef) w) (hw : Region.wanted o (yielded ops a.tmps) = false := by kernel_rfl) : WL P ops Q (o :: rest) a w := wl (sp hw k)
theorem hvq {i : Nat} {oi : Oper} {v : Value} {fuel : Nat} {listed : Array Bool} (hi : ops[i]? = some oi) (hQ : ∀ c a w, Q (.panic c) (a.put oi.dst v) w → Q (.panic c) a w) (hS : S w) (hw : Region.wanted oi (yielded ops a.tmps) = true) (h : ∀ w', S w' → (execOp a.eval oi).run P w' = .ok (.value v) w')
    (k : HL P ops Q S fuel (listed.setIfInBounds i true) (a.put oi.dst v) w) (hs : Region.noSelect ops = true := by kernel_rfl) (hf : Region.free .any ops listed i = true := by kernel_rfl) (hr : (Region.ready .any ops listed).contains i = true := by kernel_rfl) : HL P ops Q S (fuel + 1) listed a w :=
  hv hi hs hf hr hQ hS hw h k
end
section
variable {P : Program} {fn : Func} {tmps : Array Value} {w : World}
def RV (P : Program) (w : World) (tmps : Array Value) : ResultVar → Value → Prop
  | .tmp t, v => tmps[t]?.getD undef = v
  | .cell a t, v => ∃ p, tmps[a]?.getD undef = .pointer (some p) ∧ (loadVar t p).run P w = .ok v w
theorem rv_t {t : Tmp} {v : Value} (h : tmps[t]?.getD undef = v) : RV P w tmps (.tmp t) v := h
theorem rv_c {a : Tmp} {t : TypeId} {p : Addr} {v : Value} (h : tmps[a]?.getD undef = .pointer (some p)) (hl : (loadVar t p).run P w = .ok v w) : RV P w tmps (.cell a t) v := ⟨p, h, hl⟩
theorem res0 (h : fn.results = #[]) : (results fn tmps).run P w = .ok (.tuple #[]) w := results_none h tmps P w
theorem res1 {r : ResultVar} {v : Value} (h : fn.results = #[r]) (h1 : RV P w tmps r v) : (results fn tmps).run P w = .ok v w := by
  cases r <;> simp only [RV] at h1 <;> (try obtain ⟨p, h1, h1'⟩ := h1) <;> simp [results, h, asAddr, *]
theorem res2 {r s : ResultVar} {u v : Value} (h : fn.results = #[r, s]) (h1 : RV P w tmps r u) (h2 : RV P w tmps s v) : (results fn tmps).run P w = .ok (.tuple #[u, v]) w := by
  cases r <;> cases s <;> simp only [RV] at h1 h2 <;> (try obtain ⟨p, h1, h1'⟩ := h1) <;> (try obtain ⟨q, h2, h2'⟩ := h2) <;> simp [results, h, asAddr, *]
theorem res3 {r s t : ResultVar} {u v x : Value} (h : fn.results = #[r, s, t]) (h1 : RV P w tmps r u) (h2 : RV P w tmps s v) (h3 : RV P w tmps t x) : (results fn tmps).run P w = .ok (.tuple #[u, v, x]) w := by
  cases r <;> cases s <;> cases t <;> simp only [RV] at h1 h2 h3 <;> (try obtain ⟨p, h1, h1'⟩ := h1) <;> (try obtain ⟨q, h2, h2'⟩ := h2) <;> (try obtain ⟨q', h3, h3'⟩ := h3) <;> simp [results, h, asAddr, *]
end
end Go.Proofs.YtefhfoioeoijlaaGreatDoor
set_option linter.unusedVariables false
namespace Go.Proofs.YtefhfoioeoijlaaGreatDoor
open Go Go.RowKit Go.Sort
theorem Ty.ag2 : ∀ w, (isAgg 2).run Tryz.prog w = .ok false w := fun _ => by kernel_rfl
theorem Ty.ag3 : ∀ w, (isAgg 3).run Tryz.prog w = .ok false w := fun _ => by kernel_rfl
theorem Ty.ag4 : ∀ w, (isAgg 4).run Tryz.prog w = .ok false w := fun _ => by kernel_rfl
theorem Ty.sz4 : ∀ w, (sizeOf 4).run Tryz.prog w = .ok 1 w := fun _ => by kernel_rfl
theorem Ty.sz5 : ∀ w, (sizeOf 5).run Tryz.prog w = .ok 1 w := fun _ => by kernel_rfl
theorem Ty.zv5 : ∀ w, (zeroValue 5).run Tryz.prog w = .ok (.int .u8 0) w := fun _ => by kernel_rfl
theorem Ty.ag9 : ∀ w, (isAgg 9).run Tryz.prog w = .ok false w := fun _ => by kernel_rfl
theorem Ty.sz9 : ∀ w, (sizeOf 9).run Tryz.prog w = .ok 1 w := fun _ => by kernel_rfl
theorem Ty.zv9 : ∀ w, (zeroValue 9).run Tryz.prog w = .ok (.string (⟨#[]⟩)) w := fun _ => by kernel_rfl
theorem Ty.un9 : Tryz.prog.underlying 9 = some .string := by kernel_rfl
theorem Ty.un22 : Tryz.prog.underlying 22 = some (.slice 49) := by kernel_rfl
theorem Ty.ag24 : ∀ w, (isAgg 24).run Tryz.prog w = .ok true w := fun _ => by kernel_rfl
theorem Ty.sz24 : ∀ w, (sizeOf 24).run Tryz.prog w = .ok 2 w := fun _ => by kernel_rfl
theorem Ty.zv24 : ∀ w, (zeroValue 24).run Tryz.prog w = .ok (.agg #[.int .i64 0, .int .i64 0]) w := fun _ => by kernel_rfl
noncomputable def Ty.fs24 : List Field := match Tryz.prog.underlying 24 with | some (.struct fs) => fs.toList | _ => []
theorem Ty.un24 : Tryz.prog.underlying 24 = some (.struct Ty.fs24.toArray) := by kernel_rfl
theorem Ty.pl24 : ∀ w, (Ty.fs24.mapM fun f => Prod.mk f.offset <$> sizeOf f.type : Sem (List (Nat × Nat))).run Tryz.prog w = .ok [(0, 1), (1, 1)] w := fun _ => by kernel_rfl
theorem Ty.un29 : Tryz.prog.underlying 29 = some (.slice 35) := by kernel_rfl
theorem Ty.ag35 : ∀ w, (isAgg 35).run Tryz.prog w = .ok true w := fun _ => by kernel_rfl
theorem Ty.sz35 : ∀ w, (sizeOf 35).run Tryz.prog w = .ok 5 w := fun _ => by kernel_rfl
theorem Ty.zv35 : ∀ w, (zeroValue 35).run Tryz.prog w = .ok (.agg #[.string (⟨#[]⟩), .int .i64 0, .int .i64 0, .bool false, .int .i64 0]) w := fun _ => by kernel_rfl
noncomputable def Ty.fs35 : List Field := match Tryz.prog.underlying 35 with | some (.struct fs) => fs.toList | _ => []
theorem Ty.un35 : Tryz.prog.underlying 35 = some (.struct Ty.fs35.toArray) := by kernel_rfl
theorem Ty.pl35 : ∀ w, (Ty.fs35.mapM fun f => Prod.mk f.offset <$> sizeOf f.type : Sem (List (Nat × Nat))).run Tryz.prog w = .ok [(0, 1), (1, 2), (3, 1), (4, 1)] w := fun _ => by kernel_rfl
theorem Ty.ag40 : ∀ w, (isAgg 40).run Tryz.prog w = .ok false w := fun _ => by kernel_rfl
theorem Ty.sz40 : ∀ w, (sizeOf 40).run Tryz.prog w = .ok 1 w := fun _ => by kernel_rfl
theorem Ty.un40 : Tryz.prog.underlying 40 = some (.slice 5) := by kernel_rfl
theorem Ty.ag42 : ∀ w, (isAgg 42).run Tryz.prog w = .ok true w := fun _ => by kernel_rfl
theorem Ty.sz42 : ∀ w, (sizeOf 42).run Tryz.prog w = .ok 10 w := fun _ => by kernel_rfl
theorem Ty.zv42 : ∀ w, (zeroValue 42).run Tryz.prog w = .ok (.agg #[.int .i64 0, .int .i64 0, .int .i64 0, .int .i64 0, .string (⟨#[]⟩), .bool false, .bool false, .slice none 0 0, .int .i64 0, .int .i64 0]) w := fun _ => by kernel_rfl
theorem Ty.ag49 : ∀ w, (isAgg 49).run Tryz.prog w = .ok true w := fun _ => by kernel_rfl
theorem Ty.sz49 : ∀ w, (sizeOf 49).run Tryz.prog w = .ok 10 w := fun _ => by kernel_rfl
theorem Ty.zv49 : ∀ w, (zeroValue 49).run Tryz.prog w = .ok (.agg #[.int .i64 0, .int .i64 0, .int .i64 0, .int .i64 0, .int .i64 0, .int .i64 0, .int .i64 0, .bool false, .string (⟨#[]⟩), .slice none 0 0]) w := fun _ => by kernel_rfl
noncomputable def Ty.fs49 : List Field := match Tryz.prog.underlying 49 with | some (.struct fs) => fs.toList | _ => []
theorem Ty.un49 : Tryz.prog.underlying 49 = some (.struct Ty.fs49.toArray) := by kernel_rfl
theorem Ty.pl49 : ∀ w, (Ty.fs49.mapM fun f => Prod.mk f.offset <$> sizeOf f.type : Sem (List (Nat × Nat))).run Tryz.prog w = .ok [(0, 1), (1, 2), (3, 2), (5, 2), (7, 1), (8, 1), (9, 1)] w := fun _ => by kernel_rfl
theorem Ty.ag64 : ∀ w, (isAgg 64).run Tryz.prog w = .ok false w := fun _ => by kernel_rfl
theorem Ty.sz64 : ∀ w, (sizeOf 64).run Tryz.prog w = .ok 1 w := fun _ => by kernel_rfl
theorem Ty.un64 : Tryz.prog.underlying 64 = some (.slice 127) := by kernel_rfl
theorem Ty.un69 : Tryz.prog.underlying 69 = some (.slice 9) := by kernel_rfl
theorem Ty.un74 : Tryz.prog.underlying 74 = some (.slice 42) := by kernel_rfl
theorem Ty.un95 : Tryz.prog.underlying 95 = some (.slice 24) := by kernel_rfl
theorem Ty.ag106 : ∀ w, (isAgg 106).run Tryz.prog w = .ok false w := fun _ => by kernel_rfl
theorem Ty.zv126 : ∀ w, (zeroValue 126).run Tryz.prog w = .ok (.agg #[.slice none 0 0]) w := fun _ => by kernel_rfl
noncomputable def Ty.fs126 : List Field := match Tryz.prog.underlying 126 with | some (.struct fs) => fs.toList | _ => []
theorem Ty.un126 : Tryz.prog.underlying 126 = some (.struct Ty.fs126.toArray) := by kernel_rfl
theorem Ty.pl126 : ∀ w, (Ty.fs126.mapM fun f => Prod.mk f.offset <$> sizeOf f.type : Sem (List (Nat × Nat))).run Tryz.prog w = .ok [(0, 1)] w := fun _ => by kernel_rfl
theorem Ty.ag127 : ∀ w, (isAgg 127).run Tryz.prog w = .ok true w := fun _ => by kernel_rfl
theorem Ty.sz127 : ∀ w, (sizeOf 127).run Tryz.prog w = .ok 10 w := fun _ => by kernel_rfl
theorem Ty.zv127 : ∀ w, (zeroValue 127).run Tryz.prog w = .ok (.agg #[.int .i64 0, .int .i64 0, .int .i64 0, .int .i64 0, .string (⟨#[]⟩), .bool false, .bool false, .slice none 0 0, .int .i64 0, .int .i64 0]) w := fun _ => by kernel_rfl
noncomputable def Ty.fs127 : List Field := match Tryz.prog.underlying 127 with | some (.struct fs) => fs.toList | _ => []
theorem Ty.un127 : Tryz.prog.underlying 127 = some (.struct Ty.fs127.toArray) := by kernel_rfl
theorem Ty.pl127 : ∀ w, (Ty.fs127.mapM fun f => Prod.mk f.offset <$> sizeOf f.type : Sem (List (Nat × Nat))).run Tryz.prog w = .ok [(0, 2), (2, 2), (4, 1), (5, 1), (6, 1), (7, 1), (8, 2)] w := fun _ => by kernel_rfl
theorem Ty.un136 : Tryz.prog.underlying 136 = some (.slice 160) := by kernel_rfl
theorem Ty.ag160 : ∀ w, (isAgg 160).run Tryz.prog w = .ok true w := fun _ => by kernel_rfl
theorem Ty.sz160 : ∀ w, (sizeOf 160).run Tryz.prog w = .ok 5 w := fun _ => by kernel_rfl
theorem Ty.zv160 : ∀ w, (zeroValue 160).run Tryz.prog w = .ok (.agg #[.string (⟨#[]⟩), .int .i64 0, .int .i64 0, .bool false, .int .i64 0]) w := fun _ => by kernel_rfl
noncomputable def Ty.fs160 : List Field := match Tryz.prog.underlying 160 with | some (.struct fs) => fs.toList | _ => []
theorem Ty.un160 : Tryz.prog.underlying 160 = some (.struct Ty.fs160.toArray) := by kernel_rfl
theorem Ty.pl160 : ∀ w, (Ty.fs160.mapM fun f => Prod.mk f.offset <$> sizeOf f.type : Sem (List (Nat × Nat))).run Tryz.prog w = .ok [(0, 1), (1, 2), (3, 1), (4, 1)] w := fun _ => by kernel_rfl
theorem Ty.un168 : Tryz.prog.underlying 168 = some (.map 9 4) := by kernel_rfl
theorem En.f13 : ∀ args w, (callFunc 13 args).run Tryz.prog w = .ok (.enter 13 args) w := enters_of Tryz.func13 (by kernel_rfl) rfl
theorem En.f15 : ∀ args w, (callFunc 15 args).run Tryz.prog w = .ok (.enter 15 args) w := enters_of Tryz.func15 (by kernel_rfl) rfl
theorem En.f16 : ∀ args w, (callFunc 16 args).run Tryz.prog w = .ok (.enter 16 args) w := enters_of Tryz.func16 (by kernel_rfl) rfl
theorem En.f18 : ∀ args w, (callFunc 18 args).run Tryz.prog w = .ok (.enter 18 args) w := enters_of Tryz.func18 (by kernel_rfl) rfl
theorem En.f19 : ∀ args w, (callFunc 19 args).run Tryz.prog w = .ok (.enter 19 args) w := enters_of Tryz.func19 (by kernel_rfl) rfl
theorem En.f20 : ∀ args w, (callFunc 20 args).run Tryz.prog w = .ok (.enter 20 args) w := enters_of Tryz.func20 (by kernel_rfl) rfl
theorem En.f22 : ∀ args w, (callFunc 22 args).run Tryz.prog w = .ok (.enter 22 args) w := enters_of Tryz.func22 (by kernel_rfl) rfl
theorem En.f28 : ∀ args w, (callFunc 28 args).run Tryz.prog w = .ok (.enter 28 args) w := enters_of Tryz.func28 (by kernel_rfl) rfl
theorem En.f30 : ∀ args w, (callFunc 30 args).run Tryz.prog w = .ok (.enter 30 args) w := enters_of Tryz.func30 (by kernel_rfl) rfl
theorem En.f33 : ∀ args w, (callFunc 33 args).run Tryz.prog w = .ok (.enter 33 args) w := enters_of Tryz.func33 (by kernel_rfl) rfl
theorem En.f36 : ∀ args w, (callFunc 36 args).run Tryz.prog w = .ok (.enter 36 args) w := enters_of Tryz.func36 (by kernel_rfl) rfl
theorem En.f37 : ∀ args w, (callFunc 37 args).run Tryz.prog w = .ok (.enter 37 args) w := enters_of Tryz.func37 (by kernel_rfl) rfl
theorem En.f38 : ∀ args w, (callFunc 38 args).run Tryz.prog w = .ok (.enter 38 args) w := enters_of Tryz.func38 (by kernel_rfl) rfl
theorem En.f39 : ∀ args w, (callFunc 39 args).run Tryz.prog w = .ok (.enter 39 args) w := enters_of Tryz.func39 (by kernel_rfl) rfl
theorem En.f40 : ∀ args w, (callFunc 40 args).run Tryz.prog w = .ok (.enter 40 args) w := enters_of Tryz.func40 (by kernel_rfl) rfl
theorem En.f41 : ∀ args w, (callFunc 41 args).run Tryz.prog w = .ok (.enter 41 args) w := enters_of Tryz.func41 (by kernel_rfl) rfl
theorem En.f42 : ∀ args w, (callFunc 42 args).run Tryz.prog w = .ok (.enter 42 args) w := enters_of Tryz.func42 (by kernel_rfl) rfl
theorem En.f43 : ∀ args w, (callFunc 43 args).run Tryz.prog w = .ok (.enter 43 args) w := enters_of Tryz.func43 (by kernel_rfl) rfl
theorem En.f44 : ∀ args w, (callFunc 44 args).run Tryz.prog w = .ok (.enter 44 args) w := enters_of Tryz.func44 (by kernel_rfl) rfl
theorem En.f45 : ∀ args w, (callFunc 45 args).run Tryz.prog w = .ok (.enter 45 args) w := enters_of Tryz.func45 (by kernel_rfl) rfl
theorem En.f46 : ∀ args w, (callFunc 46 args).run Tryz.prog w = .ok (.enter 46 args) w := enters_of Tryz.func46 (by kernel_rfl) rfl
theorem En.f47 : ∀ args w, (callFunc 47 args).run Tryz.prog w = .ok (.enter 47 args) w := enters_of Tryz.func47 (by kernel_rfl) rfl
theorem En.f50 : ∀ args w, (callFunc 50 args).run Tryz.prog w = .ok (.enter 50 args) w := enters_of Tryz.func50 (by kernel_rfl) rfl
theorem En.f52 : ∀ args w, (callFunc 52 args).run Tryz.prog w = .ok (.enter 52 args) w := enters_of Tryz.func52 (by kernel_rfl) rfl
theorem En.f53 : ∀ args w, (callFunc 53 args).run Tryz.prog w = .ok (.enter 53 args) w := enters_of Tryz.func53 (by kernel_rfl) rfl
theorem En.f54 : ∀ args w, (callFunc 54 args).run Tryz.prog w = .ok (.enter 54 args) w := enters_of Tryz.func54 (by kernel_rfl) rfl
theorem En.f55 : ∀ args w, (callFunc 55 args).run Tryz.prog w = .ok (.enter 55 args) w := enters_of Tryz.func55 (by kernel_rfl) rfl
theorem En.f56 : ∀ args w, (callFunc 56 args).run Tryz.prog w = .ok (.enter 56 args) w := enters_of Tryz.func56 (by kernel_rfl) rfl
theorem En.f57 : ∀ args w, (callFunc 57 args).run Tryz.prog w = .ok (.enter 57 args) w := enters_of Tryz.func57 (by kernel_rfl) rfl
theorem En.f58 : ∀ args w, (callFunc 58 args).run Tryz.prog w = .ok (.enter 58 args) w := enters_of Tryz.func58 (by kernel_rfl) rfl
theorem En.f59 : ∀ args w, (callFunc 59 args).run Tryz.prog w = .ok (.enter 59 args) w := enters_of Tryz.func59 (by kernel_rfl) rfl
theorem En.f60 : ∀ args w, (callFunc 60 args).run Tryz.prog w = .ok (.enter 60 args) w := enters_of Tryz.func60 (by kernel_rfl) rfl
theorem En.f61 : ∀ args w, (callFunc 61 args).run Tryz.prog w = .ok (.enter 61 args) w := enters_of Tryz.func61 (by kernel_rfl) rfl
theorem En.f62 : ∀ args w, (callFunc 62 args).run Tryz.prog w = .ok (.enter 62 args) w := enters_of Tryz.func62 (by kernel_rfl) rfl
theorem En.f64 : ∀ args w, (callFunc 64 args).run Tryz.prog w = .ok (.enter 64 args) w := enters_of Tryz.func64 (by kernel_rfl) rfl
theorem En.f65 : ∀ args w, (callFunc 65 args).run Tryz.prog w = .ok (.enter 65 args) w := enters_of Tryz.func65 (by kernel_rfl) rfl
theorem En.f78 : ∀ args w, (callFunc 78 args).run Tryz.prog w = .ok (.enter 78 args) w := enters_of Tryz.func78 (by kernel_rfl) rfl
theorem En.f79 : ∀ args w, (callFunc 79 args).run Tryz.prog w = .ok (.enter 79 args) w := enters_of Tryz.func79 (by kernel_rfl) rfl
theorem En.f81 : ∀ args w, (callFunc 81 args).run Tryz.prog w = .ok (.enter 81 args) w := enters_of Tryz.func81 (by kernel_rfl) rfl
theorem En.f82 : ∀ args w, (callFunc 82 args).run Tryz.prog w = .ok (.enter 82 args) w := enters_of Tryz.func82 (by kernel_rfl) rfl
theorem En.f85 : ∀ args w, (callFunc 85 args).run Tryz.prog w = .ok (.enter 85 args) w := enters_of Tryz.func85 (by kernel_rfl) rfl
theorem En.f86 : ∀ args w, (callFunc 86 args).run Tryz.prog w = .ok (.enter 86 args) w := enters_of Tryz.func86 (by kernel_rfl) rfl
theorem En.f87 : ∀ args w, (callFunc 87 args).run Tryz.prog w = .ok (.enter 87 args) w := enters_of Tryz.func87 (by kernel_rfl) rfl
theorem En.f88 : ∀ args w, (callFunc 88 args).run Tryz.prog w = .ok (.enter 88 args) w := enters_of Tryz.func88 (by kernel_rfl) rfl
theorem En.f93 : ∀ args w, (callFunc 93 args).run Tryz.prog w = .ok (.enter 93 args) w := enters_of Tryz.func93 (by kernel_rfl) rfl
theorem En.f94 : ∀ args w, (callFunc 94 args).run Tryz.prog w = .ok (.enter 94 args) w := enters_of Tryz.func94 (by kernel_rfl) rfl
theorem En.f95 : ∀ args w, (callFunc 95 args).run Tryz.prog w = .ok (.enter 95 args) w := enters_of Tryz.func95 (by kernel_rfl) rfl
theorem En.f96 : ∀ args w, (callFunc 96 args).run Tryz.prog w = .ok (.enter 96 args) w := enters_of Tryz.func96 (by kernel_rfl) rfl
theorem En.f97 : ∀ args w, (callFunc 97 args).run Tryz.prog w = .ok (.enter 97 args) w := enters_of Tryz.func97 (by kernel_rfl) rfl
theorem En.f98 : ∀ args w, (callFunc 98 args).run Tryz.prog w = .ok (.enter 98 args) w := enters_of Tryz.func98 (by kernel_rfl) rfl
theorem En.f99 : ∀ args w, (callFunc 99 args).run Tryz.prog w = .ok (.enter 99 args) w := enters_of Tryz.func99 (by kernel_rfl) rfl
theorem En.f100 : ∀ args w, (callFunc 100 args).run Tryz.prog w = .ok (.enter 100 args) w := enters_of Tryz.func100 (by kernel_rfl) rfl
theorem En.f101 : ∀ args w, (callFunc 101 args).run Tryz.prog w = .ok (.enter 101 args) w := enters_of Tryz.func101 (by kernel_rfl) rfl
theorem En.f102 : ∀ args w, (callFunc 102 args).run Tryz.prog w = .ok (.enter 102 args) w := enters_of Tryz.func102 (by kernel_rfl) rfl
theorem En.f103 : ∀ args w, (callFunc 103 args).run Tryz.prog w = .ok (.enter 103 args) w := enters_of Tryz.func103 (by kernel_rfl) rfl
theorem En.f104 : ∀ args w, (callFunc 104 args).run Tryz.prog w = .ok (.enter 104 args) w := enters_of Tryz.func104 (by kernel_rfl) rfl
theorem En.f105 : ∀ args w, (callFunc 105 args).run Tryz.prog w = .ok (.enter 105 args) w := enters_of Tryz.func105 (by kernel_rfl) rfl
theorem En.f106 : ∀ args w, (callFunc 106 args).run Tryz.prog w = .ok (.enter 106 args) w := enters_of Tryz.func106 (by kernel_rfl) rfl
theorem En.f107 : ∀ args w, (callFunc 107 args).run Tryz.prog w = .ok (.enter 107 args) w := enters_of Tryz.func107 (by kernel_rfl) rfl
theorem En.f108 : ∀ args w, (callFunc 108 args).run Tryz.prog w = .ok (.enter 108 args) w := enters_of Tryz.func108 (by kernel_rfl) rfl
theorem En.f109 : ∀ args w, (callFunc 109 args).run Tryz.prog w = .ok (.enter 109 args) w := enters_of Tryz.func109 (by kernel_rfl) rfl
theorem En.f110 : ∀ args w, (callFunc 110 args).run Tryz.prog w = .ok (.enter 110 args) w := enters_of Tryz.func110 (by kernel_rfl) rfl
theorem En.f111 : ∀ args w, (callFunc 111 args).run Tryz.prog w = .ok (.enter 111 args) w := enters_of Tryz.func111 (by kernel_rfl) rfl
theorem En.f112 : ∀ args w, (callFunc 112 args).run Tryz.prog w = .ok (.enter 112 args) w := enters_of Tryz.func112 (by kernel_rfl) rfl
theorem En.f113 : ∀ args w, (callFunc 113 args).run Tryz.prog w = .ok (.enter 113 args) w := enters_of Tryz.func113 (by kernel_rfl) rfl
theorem En.f114 : ∀ args w, (callFunc 114 args).run Tryz.prog w = .ok (.enter 114 args) w := enters_of Tryz.func114 (by kernel_rfl) rfl
theorem En.f115 : ∀ args w, (callFunc 115 args).run Tryz.prog w = .ok (.enter 115 args) w := enters_of Tryz.func115 (by kernel_rfl) rfl
theorem En.f116 : ∀ args w, (callFunc 116 args).run Tryz.prog w = .ok (.enter 116 args) w := enters_of Tryz.func116 (by kernel_rfl) rfl
theorem En.f117 : ∀ args w, (callFunc 117 args).run Tryz.prog w = .ok (.enter 117 args) w := enters_of Tryz.func117 (by kernel_rfl) rfl
theorem En.f118 : ∀ args w, (callFunc 118 args).run Tryz.prog w = .ok (.enter 118 args) w := enters_of Tryz.func118 (by kernel_rfl) rfl
theorem En.f119 : ∀ args w, (callFunc 119 args).run Tryz.prog w = .ok (.enter 119 args) w := enters_of Tryz.func119 (by kernel_rfl) rfl
theorem En.f122 : ∀ args w, (callFunc 122 args).run Tryz.prog w = .ok (.enter 122 args) w := enters_of Tryz.func122 (by kernel_rfl) rfl
theorem En.f135 : ∀ args w, (callFunc 135 args).run Tryz.prog w = .ok (.enter 135 args) w := enters_of Tryz.func135 (by kernel_rfl) rfl
theorem En.f137 : ∀ args w, (callFunc 137 args).run Tryz.prog w = .ok (.enter 137 args) w := enters_of Tryz.func137 (by kernel_rfl) rfl
theorem En.f139 : ∀ args w, (callFunc 139 args).run Tryz.prog w = .ok (.enter 139 args) w := enters_of Tryz.func139 (by kernel_rfl) rfl
theorem En.f141 : ∀ args w, (callFunc 141 args).run Tryz.prog w = .ok (.enter 141 args) w := enters_of Tryz.func141 (by kernel_rfl) rfl
theorem En.f142 : ∀ args w, (callFunc 142 args).run Tryz.prog w = .ok (.enter 142 args) w := enters_of Tryz.func142 (by kernel_rfl) rfl
theorem En.f143 : ∀ args w, (callFunc 143 args).run Tryz.prog w = .ok (.enter 143 args) w := enters_of Tryz.func143 (by kernel_rfl) rfl
theorem En.f144 : ∀ args w, (callFunc 144 args).run Tryz.prog w = .ok (.enter 144 args) w := enters_of Tryz.func144 (by kernel_rfl) rfl
theorem En.f149 : ∀ args w, (callFunc 149 args).run Tryz.prog w = .ok (.enter 149 args) w := enters_of Tryz.func149 (by kernel_rfl) rfl
theorem En.f155 : ∀ args w, (callFunc 155 args).run Tryz.prog w = .ok (.enter 155 args) w := enters_of Tryz.func155 (by kernel_rfl) rfl
theorem En.f156 : ∀ args w, (callFunc 156 args).run Tryz.prog w = .ok (.enter 156 args) w := enters_of Tryz.func156 (by kernel_rfl) rfl
theorem En.f157 : ∀ args w, (callFunc 157 args).run Tryz.prog w = .ok (.enter 157 args) w := enters_of Tryz.func157 (by kernel_rfl) rfl
theorem En.f158 : ∀ args w, (callFunc 158 args).run Tryz.prog w = .ok (.enter 158 args) w := enters_of Tryz.func158 (by kernel_rfl) rfl
theorem En.f161 : ∀ args w, (callFunc 161 args).run Tryz.prog w = .ok (.enter 161 args) w := enters_of Tryz.func161 (by kernel_rfl) rfl
theorem En.f162 : ∀ args w, (callFunc 162 args).run Tryz.prog w = .ok (.enter 162 args) w := enters_of Tryz.func162 (by kernel_rfl) rfl
theorem En.f163 : ∀ args w, (callFunc 163 args).run Tryz.prog w = .ok (.enter 163 args) w := enters_of Tryz.func163 (by kernel_rfl) rfl
theorem En.f188 : ∀ args w, (callFunc 188 args).run Tryz.prog w = .ok (.enter 188 args) w := enters_of Tryz.func188 (by kernel_rfl) rfl
theorem En.f200 : ∀ args w, (callFunc 200 args).run Tryz.prog w = .ok (.enter 200 args) w := enters_of Tryz.func200 (by kernel_rfl) rfl
theorem En.f201 : ∀ args w, (callFunc 201 args).run Tryz.prog w = .ok (.enter 201 args) w := enters_of Tryz.func201 (by kernel_rfl) rfl
theorem En.f202 : ∀ args w, (callFunc 202 args).run Tryz.prog w = .ok (.enter 202 args) w := enters_of Tryz.func202 (by kernel_rfl) rfl
theorem En.f230 : ∀ args w, (callFunc 230 args).run Tryz.prog w = .ok (.enter 230 args) w := enters_of Tryz.func230 (by kernel_rfl) rfl
theorem En.f231 : ∀ args w, (callFunc 231 args).run Tryz.prog w = .ok (.enter 231 args) w := enters_of Tryz.func231 (by kernel_rfl) rfl
theorem En.f251 : ∀ args w, (callFunc 251 args).run Tryz.prog w = .ok (.enter 251 args) w := enters_of Tryz.func251 (by kernel_rfl) rfl
end Go.Proofs.YtefhfoioeoijlaaGreatDoor

/- Logs beside each other; steps as arguments (one text of several) -/
import Derived.Test.YtefhfoioeoijlaaGreatGLD
import Derived.Test.YtefhfoioeoijlaaGreatPlain
import Derived.Test.YtefhfoioeoijlaaGreatEqM
import Derived.Test.YtefhfoioeoijlaaGreatGV
import Derived.Test.YtefhfoioeoijlaaGreatGOL
set_option linter.unusedVariables false
set_option linter.unusedSimpArgs false
namespace Go.Proofs.YtefhfoioeoijlaaGreat
open Go Go.RowKit Go.Sort
/-- Nothing has turned but blocks of logs, from B on. -/
def Only (B : Nat) (w w' : World) : Prop := ∃ X, Mod X w w' ∧ ∀ x ∈ X, B ≤ x ∧ ∀ cs T fr, w.heap[x]? = some (.cells cs T fr) → T = 66 ∨ T = 73
theorem not8 {w : World} {x : Nat} (h : ∀ cs T fr, w.heap[x]? = some (.cells cs T fr) → T = 66 ∨ T = 73) : NotU8 w x := fun cs fr e => by rcases h _ _ _ e with h | h <;> exact absurd h (by decide)
theorem Only.ob {B b : Nat} {w w' : World} {cs : Array Value} {T : TypeId} {fr : Nat × Nat} (h : Only B w w') (hb : w.heap[b]? = some (.cells cs T fr)) (h1 : T ≠ 66) (h2 : T ≠ 73) : w'.heap[b]? = some (.cells cs T fr) := by
  obtain ⟨X, m, hX⟩ := h
  exact md_ob m (fun hm => by rcases (hX b hm).2 _ _ _ hb with h | h; exact h1 h; exact h2 h) hb
theorem Only.dat {B : Nat} {w w' : World} {d : Value} {xs : List Int} (h : Only B w w') (hd : Dat B w d xs) : Dat B w' d xs := by
  obtain ⟨X, m, hX⟩ := h
  exact hd.mod m fun x hx => ⟨(hX x hx).1, not8 (hX x hx).2⟩
theorem Only.up {B : Nat} {w w' : World} (u : Up w w') : Only B w w' := ⟨[], Mod.of_up u, by simp⟩
theorem Only.below {B : Nat} {w0 w w' : World} (h : Below B w0 w) (hB : B ≤ w0.heap.size) (o : Only B w w') : Below B w0 w' := by
  obtain ⟨X, m, hX⟩ := o
  exact bl_mod h (Nat.le_trans hB h.size) m (fun x hx => (hX x hx).1)
theorem Only.of_up {w w1 w' : World} (h : Up w w1) (o : Only w.heap.size w1 w') : Up w w' := Only.below h (Nat.le_refl _) o
theorem ORow.only {B base : Nat} {w w' : World} {v : Value} {L : List OpD} (h : ORow 38 B base w v L) (o : Only B w w') : ORow 38 B base w' v L := by
  obtain ⟨X, m, hX⟩ := o
  obtain ⟨ds, hp, h1, h2⟩ := h
  refine ⟨ds, hp.mono (fun x d hd => hd.mod m fun x hx => ⟨(hX x hx).1, not8 (hX x hx).2⟩), h1, ?_⟩
  rcases h2 with h2 | ⟨g, cap, cur, e, hb, hg, rest⟩
  · exact .inl h2
  · exact .inr ⟨g, cap, cur, e, hb, md_ob m (fun hm => by rcases (hX g hm).2 _ _ _ hg with h | h <;> exact absurd h (by decide)) hg, rest⟩
theorem LogIs.ge {B : Nat} {w : World} {lb tb r : Nat} {v : Value} {ops : List OpD} (h : LogIs B w lb tb r v ops) : ∀ x ∈ r :: lb :: v.ownBlock.toList, B ≤ x ∧ ∀ cs T fr, w.heap[x]? = some (.cells cs T fr) → T = 66 ∨ T = 73 := by
  intro x hx
  have hf : x ∈ footL lb tb r v := by
    simp only [footL, List.mem_cons] at hx ⊢
    rcases hx with h | h | h
    · exact .inr (.inr (.inl h))
    · exact .inl h
    · exact .inr (.inr (.inr h))
  obtain ⟨h1, h2, h3⟩ := h.foot x hf
  refine ⟨h1, fun cs T fr e => ?_⟩
  obtain ⟨k1, k2, k3, _⟩ := h
  rcases List.mem_cons.1 hx with rfl | hx
  · exact absurd e (k2.2.2.2.1.noCells _ _ _)
  · rcases List.mem_cons.1 hx with rfl | hx
    · rw [k1] at e; injection e with e; injection e with _ e _; exact .inl e.symm
    · right
      by_cases hT : 73 = T
      · exact hT.symm
      · exact absurd (show v.ownBlock = some x by simpa using hx) (PRow.neT k3 e hT)
theorem LogStep.only {B : Nat} {w w' : World} {lb tb r : Nat} {v : Value} {ops ops' : List OpD} (h : LogIs B w lb tb r v ops) (k : LogStep B w w' lb tb r v ops') : Only B w w' := by
  obtain ⟨v', _, m, _⟩ := k
  exact ⟨_, m, h.ge⟩
/-- A log, wherever its parts lie. -/
def One (B : Nat) (w : World) (la : Nat) (p : List OpD) : Prop := ∃ ta ra va, LogIs B w la ta ra va p
/-- Two logs that share nothing. -/
def Two (B : Nat) (w : World) (la lb : Nat) (p q : List OpD) : Prop := ∃ ta ra va tb rb vb, LogIs B w la ta ra va p ∧ LogIs B w lb tb rb vb q ∧ ∀ k ∈ footL la ta ra va, k ∉ footL lb tb rb vb
theorem Two.swap {B : Nat} {w : World} {la lb : Nat} {p q : List OpD} (h : Two B w la lb p q) : Two B w lb la q p := by
  obtain ⟨ta, ra, va, tb, rb, vb, h1, h2, h3⟩ := h
  exact ⟨tb, rb, vb, ta, ra, va, h2, h1, fun k hk hm => h3 k hm hk⟩
theorem Two.up {B : Nat} {w w' : World} {la lb : Nat} {p q : List OpD} (h : Two B w la lb p q) (u : Up w w') : Two B w' la lb p q := by
  obtain ⟨ta, ra, va, tb, rb, vb, h1, h2, h3⟩ := h
  exact ⟨ta, ra, va, tb, rb, vb, h1.up u, h2.up u, h3⟩
theorem Two.to {B : Nat} {w : World} {la lb : Nat} {p q p' q' : List OpD} (h : Two B w la lb p q) (e : p = p') (e2 : q = q') : Two B w la lb p' q' := by subst e; subst e2; exact h
/-- A block of operations, or a number, that is no log's own turns: the logs stay. -/
theorem LogIs.chgT {B b : Nat} {w w' : World} {lb tb r : Nat} {v : Value} {ops : List OpD} {cs : Array Value} {T : TypeId} (h : LogIs B w lb tb r v ops) (c : Chg w w' b) (hb : w.heap[b]? = some (.cells cs T (0, 0))) (hB : B ≤ b) (hT : T ≠ 66 ∧ T ≠ 73 ∧ T ≠ 88 ∧ T ≠ 5) : LogIs B w' lb tb r v ops := by
  refine h.mod (X := [b]) (Mod.of_chg c (by simp)) (fun x hx => by simp at hx; subst hx; exact ⟨hB, NotU8.of hb hT.2.2.2⟩) (fun k hk => nin1 fun e => ?_)
  subst e
  obtain ⟨k1, k2, k3, _⟩ := h
  simp only [footL, List.mem_cons] at hk
  rcases hk with rfl | rfl | rfl | hk
  · rw [k1] at hb; injection hb with hb; injection hb with _ hb _; exact hT.1 hb.symm
  · have := k2.1; rw [hb] at this; injection this with this; injection this with _ this _; exact hT.2.2.1 this
  · exact k2.2.2.2.1.noCells _ _ _ hb
  · exact PRow.neT k3 hb (fun e => hT.2.1 e.symm) (by simpa using hk)
theorem Two.chgT {T : TypeId} {B b : Nat} {w w' : World} {la lb : Nat} {p q : List OpD} {cs : Array Value} (h : Two B w la lb p q) (c : Chg w w' b) (hb : w.heap[b]? = some (.cells cs T (0, 0))) (hB : B ≤ b) (hT : T ≠ 66 ∧ T ≠ 73 ∧ T ≠ 88 ∧ T ≠ 5) : Two B w' la lb p q := by
  obtain ⟨ta, ra, va, tb, rb, vb, h1, h2, h3⟩ := h
  exact ⟨ta, ra, va, tb, rb, vb, h1.chgT c hb hB hT, h2.chgT c hb hB hT, h3⟩
theorem One.up {B : Nat} {w w' : World} {la : Nat} {p : List OpD} (h : One B w la p) (u : Up w w') : One B w' la p := by
  obtain ⟨ta, ra, va, h1⟩ := h; exact ⟨ta, ra, va, h1.up u⟩
theorem One.to {B : Nat} {w : World} {la : Nat} {p p' : List OpD} (h : One B w la p) (e : p = p') : One B w la p' := by subst e; exact h
theorem One.chgT {T : TypeId} {B b : Nat} {w w' : World} {la : Nat} {p : List OpD} {cs : Array Value} (h : One B w la p) (c : Chg w w' b) (hb : w.heap[b]? = some (.cells cs T (0, 0))) (hB : B ≤ b) (hT : T ≠ 66 ∧ T ≠ 73 ∧ T ≠ 88 ∧ T ≠ 5) : One B w' la p := by
  obtain ⟨ta, ra, va, h1⟩ := h; exact ⟨ta, ra, va, h1.chgT c hb hB hT⟩
theorem Two.one {B : Nat} {w : World} {la lb : Nat} {p q : List OpD} (h : Two B w la lb p q) : One B w la p := by
  obtain ⟨ta, ra, va, tb, rb, vb, h1, h2, h3⟩ := h; exact ⟨ta, ra, va, h1⟩
/-- One log has had its step: the other is as it was, and they share nothing. -/
theorem Two.step {B : Nat} {w w' : World} {la lb ta ra tb rb : Nat} {va vb : Value} {p p' q : List OpD} (h1 : LogIs B w la ta ra va p) (h2 : LogIs B w lb tb rb vb q) (h3 : ∀ k ∈ footL la ta ra va, k ∉ footL lb tb rb vb) (k : LogStep B w w' la ta ra va p') : Two B w' la lb p' q := by
  obtain ⟨v', k1, m, k3⟩ := k
  have hX := h1.ge
  have hsub : ∀ x ∈ ra :: la :: va.ownBlock.toList, x ∈ footL la ta ra va := fun x hx => by
    simp only [footL, List.mem_cons] at hx ⊢
    rcases hx with h | h | h
    · exact .inr (.inr (.inl h))
    · exact .inl h
    · exact .inr (.inr (.inr h))
  refine ⟨ta, ra, v', tb, rb, vb, k1, h2.mod m (fun x hx => ⟨(hX x hx).1, not8 (hX x hx).2⟩) (fun k hk hm => h3 k (hsub k hm) hk), fun k hk hm => ?_⟩
  simp only [footL, List.mem_cons] at hk
  have hold : k ∈ footL la ta ra va → False := fun h => h3 k h hm
  rcases hk with h | h | h | h
  · exact hold (by simp [footL, h])
  · exact hold (by simp [footL, h])
  · exact hold (by simp [footL, h])
  · rcases k3 k (by simpa using h) with h | h
    · exact hold (by simp [footL, h])
    · have := (h2.foot k hm).2.2; omega
theorem log_form {B : Nat} {w : World} {lb tb r : Nat} {v : Value} {ops : List OpD} (h : LogIs B w lb tb r v ops) : ∃ A c, v = .slice A (recAll [] ops).length c := PRow.form h.2.2.1
theorem LogStep.one {B : Nat} {w w' : World} {lb tb r : Nat} {v : Value} {ops : List OpD} (h : LogStep B w w' lb tb r v ops) : One B w' lb ops := by obtain ⟨v', h1, _⟩ := h; exact ⟨tb, r, v', h1⟩
theorem one_ins {B : Nat} {w : World} {la : Nat} {p : List OpD} (h : One B w la p) (hB : B ≤ w.heap.size) (hlen : p.length ≤ 140) (o : OpD) (oA : Option Addr) (on oc : Nat) (hd : Dat B w (.slice oA on oc) o.data) (hname : o.name.size ≤ 9223372036854775807) :
    Calls Tryz.prog 20 #[trP la, opV o (.slice oA on oc)] w fun e w' => ∃ nn kk, e = .returned (.tuple #[.int .i64 nn, .int .i64 kk]) ∧ One B w' la (insL p o) ∧ Only B w w' ∧ ansI p o nn kk := by
  obtain ⟨ta, ra, va, h1⟩ := h
  obtain ⟨A, c, rfl⟩ := log_form h1
  refine (loginsert_at h1 hB hlen o oA on oc hd hname).mono ?_
  rintro e w' ⟨nn, kk, rfl, hs, ha⟩
  exact ⟨nn, kk, rfl, hs.one, LogStep.only h1 hs, ha⟩
theorem one_rem {B : Nat} {w : World} {la : Nat} {p : List OpD} (h : One B w la p) (hB : B ≤ w.heap.size) (hlen : p.length ≤ 140) (m1 m2 : Int) :
    Calls Tryz.prog 23 #[trP la, .agg #[.int .i64 m1, .int .i64 m2]] w fun e w' => ∃ nn kk, e = .returned (.tuple #[.int .i64 nn, .int .i64 kk]) ∧ One B w' la (remL p ⟨m1, m2⟩) ∧ Only B w w' ∧ ansR p ⟨m1, m2⟩ nn kk := by
  obtain ⟨ta, ra, va, h1⟩ := h
  obtain ⟨A, c, rfl⟩ := log_form h1
  refine (logremove_at h1 hB hlen m1 m2).mono ?_
  rintro e w' ⟨nn, kk, rfl, hs, ha⟩
  exact ⟨nn, kk, rfl, hs.one, LogStep.only h1 hs, ha⟩
theorem one_has {B : Nat} {w : World} {la : Nat} {p : List OpD} (h : One B w la p) (hlen : p.length ≤ 140) (m1 m2 : Int) :
    Calls Tryz.prog 18 #[trP la, .agg #[.int .i64 m1, .int .i64 m2]] w fun e w' => e = .returned (.bool (hasL p ⟨m1, m2⟩)) ∧ Up w w' := by
  obtain ⟨ta, ra, va, h1⟩ := h
  obtain ⟨A, c, rfl⟩ := log_form h1
  obtain ⟨hlb, _, hp, _, hso, _⟩ := h1
  refine (has_at hlb hp (by rw [recAll_len]; omega) m1 m2).mono ?_
  rintro e w' ⟨i, f, rfl, hF, u⟩
  exact ⟨by rw [found_has hso hF], u⟩
theorem one_len {B : Nat} {w : World} {la : Nat} {p : List OpD} (h : One B w la p) (hlen : p.length ≤ 140) :
    Calls Tryz.prog 10 #[trP la] w fun e w' => e = .returned (.int .i64 p.length) ∧ Up w w' := by
  obtain ⟨ta, ra, va, h1⟩ := h
  obtain ⟨A, c, rfl⟩ := log_form h1
  obtain ⟨hlb, _, hp, _, hso, _⟩ := h1
  have := loglen_at hlb hp (by rw [recAll_len]; omega)
  rw [recAll_len] at this
  exact this
theorem one_ops {B : Nat} {w : World} {la : Nat} {p : List OpD} (h : One B w la p) (hB : B ≤ w.heap.size) (hlen : p.length ≤ 140) :
    Calls Tryz.prog 12 #[trP la] w fun e w' => ∃ A c, e = .returned (.slice A p.length c) ∧ ORow 38 B w.heap.size w' (.slice A p.length c) p ∧ Up w w' := by
  obtain ⟨ta, ra, va, h1⟩ := h
  obtain ⟨A, c, rfl⟩ := log_form h1
  obtain ⟨hlb, _, hp, _, hso, _⟩ := h1
  refine (logops_at hlb hp (by rw [recAll_len]; omega) (by rw [recAll_len]; omega) hB).mono ?_
  rintro e w' ⟨v, rfl, hr, u⟩
  rw [recAll_ops] at hr
  obtain ⟨A', c', rfl⟩ := hr.form
  exact ⟨A', c', rfl, hr, u⟩
theorem one_tree {B : Nat} {w : World} {la : Nat} {p : List OpD} (h : One B w la p) (hlen : p.length ≤ 140) :
    Calls Tryz.prog 15 #[trP la] w fun e w' => ∃ tb r, e = .returned (trP tb) ∧ TreeIs B w' tb r (playA p) ∧ Up w w' := by
  obtain ⟨ta, ra, va, h1⟩ := h
  obtain ⟨A, c, rfl⟩ := log_form h1
  obtain ⟨hlb, hT, hp, _, hso, _⟩ := h1
  refine (logtree_at hlb hp (by rw [recAll_len]; omega)).mono ?_
  rintro e w' ⟨rfl, u⟩
  exact ⟨ta, ra, rfl, hT.up u, u⟩
set_option maxHeartbeats 1000000 in
theorem lognew_at {B : Nat} {w : World} (hB : B ≤ w.heap.size) : Calls Tryz.prog 6 #[] w fun e w' => ∃ lb tb r, e = .returned (trP lb) ∧ LogIs B w' lb tb r (.slice none 0 0) [] ∧ Up w w' ∧ w.heap.size ≤ lb ∧ w.heap.size ≤ tb ∧ w.heap.size ≤ r := by
  go_enter Tryz.func6, Tryz.ntmps6
  refine wp_seq (rg_lit ?_)
  refine was (v := .pointer none) ?_
  refine wnil (then_n (wp_seq (rg_lit ?_)))
  refine wl (sc rfl (r_callv (caps := []) (all := []) En.f22 (by kernel_rfl) (by kernel_rfl)) (tnew_any hB) ?_)
  rintro e w1 ⟨tb, r, rfl, hT, u1, g1, g2⟩
  refine ⟨_, rfl, ?_⟩
  refine wl (sv rfl (v := .agg #[.slice none 0 0, .pointer (some ⟨tb, 0, none⟩)]) (r_build (ps := [(1, .pointer (some ⟨tb, 0, none⟩))]) (cs := [.slice none 0 0, .pointer (some ⟨tb, 0, none⟩)]) Ty.un66 Ty.zv66 Ty.pl66 (by kernel_rfl) (by kernel_rfl)) ?_)
  refine wl (sn rfl (cs := #[.slice none 0 0, .pointer (some ⟨tb, 0, none⟩)]) (T := 66) (V := fun b => .pointer (some ⟨b, 0, none⟩)) (r_box (v := .agg #[.slice none 0 0, .pointer (some ⟨tb, 0, none⟩)]) (by kernel_rfl) rfl) ?_)
  intro lb w2 e2 h2 u2
  refine was (v := .pointer (some ⟨lb, 0, none⟩)) ?_
  refine wnil (then_n (wp_ret ?_))
  refine bodyPost_ret (v := .pointer (some ⟨lb, 0, none⟩)) (res1 rfl (rv_t (by kernel_rfl))) (by kernel_rfl) ?_
  have hlb : w.heap.size ≤ lb := by rw [e2]; exact u1.size
  exact ⟨lb, tb, r, rfl, ⟨h2, hT.up u2, PRow.nil _ _ _ _, Nat.le_trans hB hlb, by simp [SrtO], by simp⟩, up_up u1 u2, hlb, g1, g2⟩
end Go.Proofs.YtefhfoioeoijlaaGreat

namespace Go.Proofs.YtefhfoioeoijlaaGreat
open Go Go.RowKit Go.Sort
structure GStep where
  gone : Bool
  o : OpD
  deriving DecidableEq, Inhabited
def gsC (s : GStep) (d : Value) : List Value := .bool s.gone :: opC s.o d
/-- The steps that an argument holds. -/
def StRow0 (w : World) (A : Option Addr) (ss : List GStep) : Prop :=
  ∀ (i : Nat) (s : GStep), ss[i]? = some s → ∃ g f oA on oc, A = some ⟨g, f, none⟩ ∧ g < w.heap.size ∧ (∀ (j : Nat) (v : Value), (gsC s (.slice oA on oc))[j]? = some v → w.cell? ⟨g, f + i * 11 + j, none⟩ = some v) ∧ s.o.data.length = on ∧ s.o.name.size ≤ 9223372036854775807
def StRow (B : Nat) (w : World) (A : Option Addr) (ss : List GStep) : Prop :=
  ∀ (i : Nat) (s : GStep), ss[i]? = some s → ∃ g f oA on oc, A = some ⟨g, f, none⟩ ∧ g < w.heap.size ∧ (∀ (j : Nat) (v : Value), (gsC s (.slice oA on oc))[j]? = some v → w.cell? ⟨g, f + i * 11 + j, none⟩ = some v) ∧ Dat B w (.slice oA on oc) s.o.data ∧ s.o.name.size ≤ 9223372036854775807
theorem StRow0.up {w w' : World} {A : Option Addr} {ss : List GStep} (h : StRow0 w A ss) (u : Up w w') : StRow0 w' A ss := fun i s hs => by
  obtain ⟨g, f, oA, on, oc, hA, hg, hc, hD, hn⟩ := h i s hs
  exact ⟨g, f, oA, on, oc, hA, Nat.lt_of_lt_of_le hg u.size, fun j v hj => (u.cell (p := ⟨g, f + i * 11 + j, none⟩) hg).trans (hc j v hj), hD, hn⟩
theorem StRow.up {B : Nat} {w w' : World} {A : Option Addr} {ss : List GStep} (h : StRow B w A ss) (u : Up w w') : StRow B w' A ss := fun i s hs => by
  obtain ⟨g, f, oA, on, oc, hA, hg, hc, hD, hn⟩ := h i s hs
  exact ⟨g, f, oA, on, oc, hA, Nat.lt_of_lt_of_le hg u.size, fun j v hj => (u.cell (p := ⟨g, f + i * 11 + j, none⟩) hg).trans (hc j v hj), hD.up u, hn⟩
def SmallS (ss : List GStep) : Prop := Small (ss.map (·.o))
end Go.Proofs.YtefhfoioeoijlaaGreat

namespace Go.Proofs.YtefhfoioeoijlaaGreat
open Go Go.RowKit Go.ChangeShapes Go.WideShapes Go.ChangeAt Go.Deep
section
variable {H : Type} {enc : TypeId × Value → H}
set_option maxRecDepth 20000 in
theorem open_step {W : World} {sp : Nat → Bool} {held : Bool} {n : Nat} {cs : List Value} {x : DataW H × List MemPlace} (h : DataW.trod enc Tryz.prog W 0 sp held n 40 cs = some x) :
    ∃ (s : GStep) (oA : Option Addr) (on oc : Nat), cs = gsC s (.slice oA on oc) ∧ s.o.data.length = on ∧ s.o.name.size ≤ 9223372036854775807 ∧ (on ≤ 500 → Dat W.heap.size W (.slice oA on oc) s.o.data) := by
  obtain ⟨xs, k, _, _, hlen, hxs, hf⟩ := DataW.trod_struct Tryz.underlying40 h
  rw [show Tryz.prog.cellsOf 40 = 11 from by kernel_rfl] at hlen
  match cs, hlen with
  | [u0, v0, v1, v2, v3, v4, v5, v6, v7, v8, v9], _ =>
    simp only [List.size_toArray, List.length_cons, List.length_nil, Nat.reduceAdd] at hxs
    match xs, hxs with
    | [y0, y1], _ =>
      have c4 : Tryz.prog.cellsOf 4 = 1 := by kernel_rfl
      have c40 : Tryz.prog.cellsOf 38 = 10 := by kernel_rfl
      have t0 : DataW.trod enc Tryz.prog W 0 sp held k 4 [u0] = some y0 := by
        have q : DataW.trod enc Tryz.prog W 0 sp held k 4 (([u0, v0, v1, v2, v3, v4, v5, v6, v7, v8, v9].drop 0).take (Tryz.prog.cellsOf 4)) = some y0 := hf 0 _ rfl
        rw [c4] at q; exact q
      have t1 : DataW.trod enc Tryz.prog W 0 sp held k 38 [v0, v1, v2, v3, v4, v5, v6, v7, v8, v9] = some y1 := by
        have q : DataW.trod enc Tryz.prog W 0 sp held k 38 (([u0, v0, v1, v2, v3, v4, v5, v6, v7, v8, v9].drop 1).take (Tryz.prog.cellsOf 38)) = some y1 := hf 1 _ rfl
        rw [c40] at q; exact q
      obtain ⟨gn, e0, _⟩ := DataW.trod_bool Tryz.underlying4 t0
      injection e0 with e0 _
      obtain ⟨o, oA, on, oc, e1, h1, h2, h3⟩ := open_op t1
      refine ⟨⟨gn, o⟩, oA, on, oc, ?_, h1, h2, h3⟩
      rw [e0, e1]; rfl
theorem open_steps {W : World} {sp : Nat → Bool} {held : Bool} {n : Nat} {cs : List Value} {x : DataW H × List MemPlace} (h : DataW.trod enc Tryz.prog W 0 sp held n 22 cs = some x) :
    ∃ (A : Option Addr) (ss : List GStep) (c : Nat), cs = [.slice A ss.length c] ∧ (ss = [] ∨ ∃ elems spare, x.1 = .slice elems spare ∧ elems.length = ss.length) ∧ StRow0 W A ss ∧ (SmallS ss → StRow W.heap.size W A ss) := by
  rcases open_slice Tryz.underlying22 h with ⟨hc, _⟩ | ⟨a, len, cap, m, k, D, Pl, hc, _, hl, hm, hmm, hxx, hx⟩
  · exact ⟨none, [], 0, hc, .inl rfl, fun i o ho => by simp at ho, fun _ i o ho => by simp at ho⟩
  · have hlm : len ≤ m := by rw [hmm]; split <;> omega
    have c67 : Tryz.prog.cellsOf 40 = 11 := by kernel_rfl
    have each : ∀ i, ∃ s : GStep, i < len → ∃ oA on oc, a = ⟨a.block, a.off, none⟩ ∧ a.block < W.heap.size ∧ (∀ (j : Nat) (v : Value), (gsC s (.slice oA on oc))[j]? = some v → W.cell? ⟨a.block, a.off + i * 11 + j, none⟩ = some v) ∧ s.o.data.length = on ∧ s.o.name.size ≤ 9223372036854775807 ∧ (on ≤ 500 → Dat W.heap.size W (.slice oA on oc) s.o.data) := by
      intro i
      by_cases hi : i < len
      · obtain ⟨cs', h1, h2⟩ := hx i (by omega)
        rw [c67] at h1
        obtain ⟨o, oA, on, oc, rfl, hd, hs, hD⟩ := open_step h2
        obtain ⟨_, _, hcell⟩ := World.cells?_some h1
        have ha : a = ⟨a.block, a.off, none⟩ ∧ a.block < W.heap.size := by
          obtain ⟨cs0, g1, g2⟩ := hx 0 (by omega)
          obtain ⟨_, g3, g4⟩ := World.cells?_some g1
          have hp : 0 < Tryz.prog.cellsOf 40 := by rw [c67]; decide
          have := g4 0 hp
          rw [Nat.zero_mul, List.getElem?_eq_getElem (by omega)] at this
          exact spot_none (show W.cell? a = _ from this)
        refine ⟨o, fun _ => ⟨oA, on, oc, ha.1, ha.2, fun j v hj => ?_, hd, hs, hD⟩⟩
        have hj10 : j < 11 := (List.getElem?_eq_some_iff.1 hj).1
        have := hcell j hj10
        rw [hj, ha.1, add_at, add_at] at this
        exact this
      · exact ⟨default, fun h => absurd h hi⟩
    refine ⟨some a, (List.range len).map fun i => (each i).choose, cap, by rw [List.length_map, List.length_range]; exact hc, .inr ⟨_, _, by rw [hxx], by rw [List.length_map, List.length_map]⟩, fun i o ho => ?_, fun hsm i o ho => ?_⟩
    · have hi : i < len := by have := (List.getElem?_eq_some_iff.1 ho).1; simpa using this
      have he : (each i).choose = o := by simpa [List.getElem?_map, List.getElem?_range hi] using ho
      obtain ⟨oA, on, oc, ha, hb, hc', hd, hs, hD⟩ := (each i).choose_spec hi
      rw [he] at hc' hd hs
      exact ⟨a.block, a.off, oA, on, oc, by rw [← ha], hb, hc', hd, hs⟩
    · have hi : i < len := by have := (List.getElem?_eq_some_iff.1 ho).1; simpa using this
      have he : (each i).choose = o := by simpa [List.getElem?_map, List.getElem?_range hi] using ho
      obtain ⟨oA, on, oc, ha, hb, hc', hd, hs, hD⟩ := (each i).choose_spec hi
      have hsm' := hsm i o.o (by rw [List.getElem?_map, ho]; rfl)
      rw [he] at hc' hd hs hD
      exact ⟨a.block, a.off, oA, on, oc, by rw [← ha], hb, hc', hD (by omega), hs⟩
end
end Go.Proofs.YtefhfoioeoijlaaGreat

namespace Go.Proofs.YtefhfoioeoijlaaGreat
open Go Go.RowKit Go.Sort
/-- A row of one's own of operations whose data are only as long as they say. -/
def ORow0 (base : Nat) (w : World) (v : Value) (L : List OpD) : Prop :=
  ∃ ds, Pair (fun (x : OpD) d => ∃ A c, d = .slice A x.data.length c) L ds ∧ w.ownsRow base 38 10 v L.length (flatO L ds)
theorem ORow0.nil (base : Nat) (w : World) : ORow0 base w (.slice none 0 0) [] := ⟨[], trivial, World.ownsRow_nil w base _ 10⟩
theorem ORow0.up {base : Nat} {w w' : World} {v : Value} {L : List OpD} (h : ORow0 base w v L) (hb : Up w w') : ORow0 base w' v L := by
  obtain ⟨ds, hp, ho⟩ := h
  have hg : w.grownBy w' none := ⟨hb.os, hb.tape, hb.output, hb.size, fun k hk _ => hb.block k hk⟩
  exact ⟨ds, hp, ho.kept hg (by cases hv : v.ownBlock <;> simp)⟩
theorem ORow0.form {base : Nat} {w : World} {v : Value} {L : List OpD} (h : ORow0 base w v L) : ∃ A c, v = .slice A L.length c := by
  obtain ⟨ds, _, _, ⟨rfl, h0⟩ | ⟨g, cap, cur, rfl, _⟩⟩ := h
  · exact ⟨none, 0, by rw [h0]⟩
  · exact ⟨_, cap, rfl⟩
theorem ORow0.own {base : Nat} {w : World} {v : Value} {L : List OpD} (h : ORow0 base w v L) : ∀ k, v.ownBlock = some k → base ≤ k ∧ k < w.heap.size := by
  obtain ⟨ds, _, ho⟩ := h; exact ho.lt
theorem ORow0.ops {base : Nat} {w : World} {A : Option Addr} {c : Nat} {L : List OpD} (h : ORow0 base w (.slice A L.length c) L) (hn : ∀ x ∈ L, x.name.size ≤ 9223372036854775807) : OpRow0 w A L := by
  intro i o hi
  obtain ⟨ds, hp, ho⟩ := h
  obtain ⟨d, hd, A', c', rfl⟩ := hp.ex hi
  have hil := (List.getElem?_eq_some_iff.1 hi).1
  rcases ho.2 with ⟨e, h0⟩ | ⟨g, cap, cur, e, hb, hg, hc, hm, hcs, htk⟩
  · omega
  · injection e with e1 e2 e3
    refine ⟨g, 0, A', _, c', e1, lt_ob hg, fun j v hj => ?_, rfl, hn o (List.mem_of_getElem? hi)⟩
    have hj10 : j < 10 := (List.getElem?_eq_some_iff.1 hj).1
    have h1 := flatO_get hi hd hj10
    rw [hj, ← htk, List.getElem?_take, if_pos (by omega), Array.getElem?_toList] at h1
    simp only [World.cell?, hg, Nat.zero_add]
    simpa using h1
theorem ORow0.snoc {base : Nat} {w : World} {v : Value} {L : List OpD} (h : ORow0 base w v L) {ty : TypeId} {i : TypeInfo} {z : Value} (hi : Tryz.prog.info? 38 = some i) (hz : i.zero = some z)
    (hsize : i.size = 10) (hby : i.bytes = 104) (hzs : z.cells.size = 10) {b : Nat} {x : OpD} {dA : Option Addr} {dc : Nat} (hb : w.heap[b]? = some (.cells (opC x (.slice dA x.data.length dc)).toArray 38 (0, 0))) (hbase : base ≤ w.heap.size) (hlen : L.length ≤ 1300000000000) :
    ∃ v' w', (Builtin.append_ #[28, 28] ty #[v, .slice (some ⟨b, 0, none⟩) 1 1]).run Tryz.prog w = .ok v' w' ∧ ORow0 base w' v' (L ++ [x]) ∧ w.grownBy w' v.ownBlock := by
  obtain ⟨ds, hp, ho⟩ := h
  obtain ⟨v', w', h1, h2, h3, h4⟩ := run_append_own (P := Tryz.prog) w base 28 ty 38 i z 10 104 Ty.un28 hi hz hsize hby hzs (by decide) v L.length (flatO L ds) ho ⟨b, 0, none⟩ 1 1 (opC x (.slice dA x.data.length dc)) (by simp [opC])
    (fun j u hj => by
      rw [add_at, Nat.zero_add]
      have : (opC x (.slice dA x.data.length dc)).toArray[j]? = some u := by simpa using hj
      simp only [World.cell?, hb]; simpa using this) (by intro u hu; simp [opC] at hu; rcases hu with rfl | rfl | rfl | rfl | rfl | rfl | rfl | rfl | rfl | rfl <;> rfl) (by unfold maxLen; omega) (by omega) hbase
  refine ⟨v', w', h1, ⟨ds ++ [.slice dA x.data.length dc], Pair.snoc hp ⟨dA, dc, rfl⟩, ?_⟩, h3⟩
  rw [flatO_snoc x _ hp.length]
  simpa using h2
end Go.Proofs.YtefhfoioeoijlaaGreat

namespace Go.Proofs.YtefhfoioeoijlaaGreat
open Go Go.RowKit Go.Sort
theorem ORow0.len {base : Nat} {w : World} {A : Option Addr} {n c : Nat} {L : List OpD} (h : ORow0 base w (.slice A n c) L) : n = L.length := by
  obtain ⟨A', c', e⟩ := h.form
  injection e
theorem ORow0.to {base : Nat} {w : World} {v : Value} {L L' : List OpD} (h : ORow0 base w v L) (e : L = L') : ORow0 base w v L' := e ▸ h
theorem ORow0.ops' {base : Nat} {w : World} {A : Option Addr} {n c : Nat} {L : List OpD} (h : ORow0 base w (.slice A n c) L) (hn : ∀ x ∈ L, x.name.size ≤ 9223372036854775807) : OpRow0 w A L := by
  obtain rfl := h.len; exact h.ops hn
theorem snO0 {ops : Array Oper} {Q : Exit → Act → World → Prop} {a : Act} {w : World} {J : Act → World → Prop} {d : Option Tmp} {ty : TypeId} {pos : String} {af : Array Edge} {g : Option (Nat × Bool)} {base : Nat} {s y : Operand} {A dA : Option Addr} {n c b dc : Nat} {L : List OpD} {x : OpD}
    (hw : Region.wanted (⟨d, .call ⟨.builtin .append, #[s, y], #[28, 28]⟩, ty, pos, af, g⟩ : Oper) (yielded ops a.tmps) = true) (hs : a.eval s = .slice A n c) (hy : a.eval y = .slice (some ⟨b, 0, none⟩) 1 1)
    (h : ORow0 base w (.slice A n c) L) (hb : w.heap[b]? = some (.cells (opC x (.slice dA x.data.length dc)).toArray 38 (0, 0))) (hbase : base ≤ w.heap.size) (hlen : L.length ≤ 1300000000000)
    (k : ∀ A' n' c' w', ORow0 base w' (.slice A' n' c') (L ++ [x]) → w.grownBy w' (Value.ownBlock (.slice A n c)) → J (a.put d (.slice A' n' c')) w') : St1 Tryz.prog ops Q ⟨d, .call ⟨.builtin .append, #[s, y], #[28, 28]⟩, ty, pos, af, g⟩ J a w := by
  obtain ⟨iO, zO, hiO, hzO, hsO, hbO, hcO⟩ := info_op
  obtain ⟨v', w', h1, h2, h3⟩ := h.snoc (ty := ty) hiO hzO hsO hbO hcO hb hbase hlen
  obtain ⟨A', c', rfl⟩ := h2.form
  refine sv hw ?_ (k A' _ c' w' h2 h3)
  simp [execOp, resolve, invoke, builtin, hs, hy, h1]
theorem sub11 {w : World} {b k : Nat} {s : GStep} {d : Value} (h : ∀ (j : Nat) (v : Value), (gsC s d)[j]? = some v → w.cell? ⟨b, k + j, none⟩ = some v) : ∀ (j : Nat) (v : Value), (opC s.o d)[j]? = some v → w.cell? ⟨b, k + 1 + j, none⟩ = some v := fun j v hj => by
  have := h (j + 1) v (by rw [gsC, List.getElem?_cons_succ]; exact hj)
  rwa [show k + (j + 1) = k + 1 + j by omega] at this
theorem Only.upl {B : Nat} {w w1 w2 : World} (u : Up w w1) (o : Only B w1 w2) : Only B w w2 := by
  obtain ⟨X, m, hX⟩ := o
  exact ⟨X, Mod.trans (Mod.of_up u) m, fun x hx => ⟨(hX x hx).1, fun cs T fr h => (hX x hx).2 cs T fr (up_ob u h)⟩⟩
/-- What a step does to a log's operations. -/
def stepL (p : List OpD) (s : GStep) : List OpD := if s.gone then remL p s.o.at_ else insL p s.o
theorem stepL_yes {p : List OpD} {s : GStep} (h : s.gone = true) : remL p s.o.at_ = stepL p s := by unfold stepL; rw [if_pos h]
theorem stepL_no {p : List OpD} {s : GStep} (h : s.gone = false) : insL p s.o = stepL p s := by unfold stepL; rw [if_neg (by rw [h]; decide)]
end Go.Proofs.YtefhfoioeoijlaaGreat

namespace Go.Proofs.YtefhfoioeoijlaaGreat
open Go Go.RowKit Go.Sort
def OneR (B : Nat) (w : World) (la r : Nat) (p : List OpD) : Prop := ∃ ta va, LogIs B w la ta r va p
/-- Nothing has turned but a log's blocks, map r among them, from B on. -/
def OnlyR (r B : Nat) (w w' : World) : Prop := ∃ X, Mod X w w' ∧ ∀ x ∈ X, B ≤ x ∧ ((x = r ∧ ∃ es cl, w.heap[x]? = some (.map es cl)) ∨ ∃ cs T, w.heap[x]? = some (.cells cs T (0, 0)) ∧ (T = 66 ∨ T = 73))
theorem OnlyR.only {r B : Nat} {w w' : World} (h : OnlyR r B w w') : Only B w w' := by
  obtain ⟨X, m, hX⟩ := h
  refine ⟨X, m, fun x hx => ⟨(hX x hx).1, fun cs T fr e => ?_⟩⟩
  rcases (hX x hx).2 with ⟨_, es, cl, hr⟩ | ⟨cs', T', hc, hT⟩
  · rw [hr] at e; cases e
  · rw [hc] at e; injection e with e; injection e with _ e _; rw [← e]; exact hT
theorem OneR.one {B : Nat} {w : World} {la r : Nat} {p : List OpD} (h : OneR B w la r p) : One B w la p := by obtain ⟨ta, va, h⟩ := h; exact ⟨ta, r, va, h⟩
theorem OneR.up {B : Nat} {w w' : World} {la r : Nat} {p : List OpD} (h : OneR B w la r p) (u : Up w w') : OneR B w' la r p := by obtain ⟨ta, va, h⟩ := h; exact ⟨ta, va, h.up u⟩
theorem OneR.to {B : Nat} {w : World} {la r : Nat} {p p' : List OpD} (h : OneR B w la r p) (e : p = p') : OneR B w la r p' := by subst e; exact h
theorem OneR.chgT {T : TypeId} {B b : Nat} {w w' : World} {la r : Nat} {p : List OpD} {cs : Array Value} (h : OneR B w la r p) (c : Chg w w' b) (hb : w.heap[b]? = some (.cells cs T (0, 0))) (hB : B ≤ b) (hT : T ≠ 66 ∧ T ≠ 73 ∧ T ≠ 88 ∧ T ≠ 5) : OneR B w' la r p := by
  obtain ⟨ta, va, h1⟩ := h; exact ⟨ta, va, h1.chgT c hb hB hT⟩
theorem OneR.lt {B : Nat} {w : World} {la r : Nat} {p : List OpD} (h : OneR B w la r p) : r < w.heap.size := by obtain ⟨ta, va, h⟩ := h; exact (h.foot r (by simp [footL])).2.2
theorem OneR.srt {B : Nat} {w : World} {la r : Nat} {p : List OpD} (h : OneR B w la r p) : SrtO p := by obtain ⟨ta, va, h⟩ := h; exact h.2.2.2.2.1
theorem OneR.names {B : Nat} {w : World} {la r : Nat} {p : List OpD} (h : OneR B w la r p) : ∀ o ∈ p, o.name.size ≤ 9223372036854775807 := by obtain ⟨ta, va, h⟩ := h; exact h.2.2.2.2.2
end Go.Proofs.YtefhfoioeoijlaaGreat

/-! ### what an operation does that is behind all others -/
namespace Go.Proofs.YtefhfoioeoijlaaGreat
theorem ins_is {p : List OpD} {o : OpD} (hr : rightB o = true) (hh : hasL p o.at_ = false) : insL p o = insO p o := by
  unfold insL; rw [if_pos (by rw [hr, hh]; rfl)]
theorem stepL_len (p : List OpD) (s : GStep) : (stepL p s).length ≤ p.length + 1 := by
  unfold stepL; split
  · exact Nat.le_trans (remL_len p s.o.at_) (Nat.le_succ _)
  · exact insL_len p s.o
theorem foldS_len : ∀ (ss : List GStep) (p : List OpD), (ss.foldl stepL p).length ≤ p.length + ss.length
  | [], p => Nat.le_refl _
  | s :: ss, p => by
    have h1 := foldS_len ss (stepL p s)
    have h2 := stepL_len p s
    rw [List.foldl_cons, List.length_cons]; omega
theorem foldT_len (ss : List GStep) (k : Nat) : ((ss.take k).foldl stepL []).length ≤ ss.length := by
  have h1 := foldS_len (ss.take k) []
  have h2 : (ss.take k).length ≤ ss.length := by rw [List.length_take]; omega
  simp only [List.length_nil] at h1; omega
theorem foldS_next {ss : List GStep} {k : Nat} {x : GStep} (h : ss[k]? = some x) : stepL ((ss.take k).foldl stepL []) x = (ss.take (k + 1)).foldl stepL [] := by
  rw [List.take_add_one, h, List.foldl_append]; rfl
end Go.Proofs.YtefhfoioeoijlaaGreat

namespace Go.Proofs.YtefhfoioeoijlaaGreat
open Go Go.RowKit Go.Sort
theorem One.r {B : Nat} {w : World} {la : Nat} {p : List OpD} (h : One B w la p) : ∃ r, OneR B w la r p := by obtain ⟨ta, ra, va, h⟩ := h; exact ⟨ra, ta, va, h⟩
theorem TreeIs.to {B : Nat} {w : World} {tb r : Nat} {L M : List Item} (h : TreeIs B w tb r L) (e : L = M) : TreeIs B w tb r M := by subst e; exact h
end Go.Proofs.YtefhfoioeoijlaaGreat

namespace Go.Proofs.YtefhfoioeoijlaaGreat
open Go Go.RowKit Go.Sort
end Go.Proofs.YtefhfoioeoijlaaGreat

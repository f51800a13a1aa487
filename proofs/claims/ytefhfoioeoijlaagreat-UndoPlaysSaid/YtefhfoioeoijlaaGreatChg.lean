/- change, the closures of Insert and Remove, a log as it lies (one text of several) -/
import Derived.Test.YtefhfoioeoijlaaGreatPlain
import Derived.Test.YtefhfoioeoijlaaGreatStpR
import Derived.Test.YtefhfoioeoijlaaGreatGLB
set_option linter.unusedVariables false
set_option linter.unusedSimpArgs false
namespace Go.Proofs.YtefhfoioeoijlaaGreat
open Go Go.RowKit Go.Sort

theorem mod_bytes {X : List Nat} {B : Nat} {w w' : World} (m : Mod X w w') (hX : ∀ x ∈ X, B ≤ x ∧ NotU8 w x) : ∀ b, b < w.heap.size → (b < B ∨ ∃ cs fr, w.heap[b]? = some (.cells cs 5 fr)) → w'.heap[b]? = w.heap[b]? := by
  intro b hb h
  refine m.block b hb fun hm => ?_
  obtain ⟨h1, h2⟩ := hX b hm
  rcases h with h | ⟨cs, fr, h⟩
  · omega
  · exact h2 cs fr h
theorem Dat.mod {X : List Nat} {B : Nat} {w w' : World} {d : Value} {xs : List Int} (h : Dat B w d xs) (m : Mod X w w') (hX : ∀ x ∈ X, B ≤ x ∧ NotU8 w x) : Dat B w' d xs := h.keep m.size (mod_bytes m hX)
theorem TreeIs.mod {X : List Nat} {B : Nat} {w w' : World} {tb r : Nat} {L : List Item} (h : TreeIs B w tb r L) (m : Mod X w w') (hX : ∀ x ∈ X, B ≤ x ∧ NotU8 w x) (h1 : tb ∉ X) (h2 : r ∉ X) : TreeIs B w' tb r L :=
  ⟨md_ob m h1 h.1, h.2.1, h.2.2.1, h.2.2.2.1.keep m.size (m.block r h.2.2.2.1.lt h2) (mod_bytes m hX), h.2.2.2.2⟩
theorem PRow.mod {X : List Nat} {T : TypeId} {B base : Nat} {w w' : World} {v : Value} {L : List StepD} (h : PRow T B base w v L) (m : Mod X w w') (hX : ∀ x ∈ X, B ≤ x ∧ NotU8 w x) (hv : ∀ g, v.ownBlock = some g → g ∉ X) : PRow T B base w' v L := by
  obtain ⟨ds, hp, h1, h2⟩ := h
  refine ⟨ds, hp.mono (fun x d hd => ⟨hd.1.mod m hX, hd.2.mod m hX⟩), h1, ?_⟩
  rcases h2 with h2 | ⟨g, cap, cur, e, hb, hg, rest⟩
  · exact .inl h2
  · exact .inr ⟨g, cap, cur, e, hb, md_ob m (hv g (by rw [e]; rfl)) hg, rest⟩
def LogIs (B : Nat) (w : World) (lb tb r : Nat) (v : Value) (ops : List OpD) : Prop :=
  w.heap[lb]? = some (.cells #[v, .pointer (some ⟨tb, 0, none⟩)] 66 (0, 0)) ∧ TreeIs B w tb r (playA ops) ∧ PRow 73 B B w v (recAll [] ops) ∧ B ≤ lb ∧ SrtO ops ∧ ∀ o ∈ ops, o.name.size ≤ 9223372036854775807
def footL (lb tb r : Nat) (v : Value) : List Nat := lb :: tb :: r :: v.ownBlock.toList
theorem LogIs.mod {X : List Nat} {B : Nat} {w w' : World} {lb tb r : Nat} {v : Value} {ops : List OpD} (h : LogIs B w lb tb r v ops) (m : Mod X w w') (hX : ∀ x ∈ X, B ≤ x ∧ NotU8 w x) (hd : ∀ k ∈ footL lb tb r v, k ∉ X) : LogIs B w' lb tb r v ops := by
  obtain ⟨h1, h2, h3, h4⟩ := h
  exact ⟨md_ob m (hd lb (by simp [footL])) h1, h2.mod m hX (hd tb (by simp [footL])) (hd r (by simp [footL])), h3.mod m hX (fun g e => hd g (by simp [footL, e])), h4⟩
theorem LogIs.up {B : Nat} {w w' : World} {lb tb r : Nat} {v : Value} {ops : List OpD} (h : LogIs B w lb tb r v ops) (u : Up w w') : LogIs B w' lb tb r v ops := h.mod (X := []) (Mod.of_up u) (by simp) (by simp)
theorem LogIs.foot {B : Nat} {w : World} {lb tb r : Nat} {v : Value} {ops : List OpD} (h : LogIs B w lb tb r v ops) : ∀ k ∈ footL lb tb r v, B ≤ k ∧ NotU8 w k ∧ k < w.heap.size := by
  obtain ⟨h1, h2, h3, h4, _⟩ := h
  intro k hk
  simp only [footL, List.mem_cons] at hk
  rcases hk with rfl | rfl | rfl | hk
  · exact ⟨h4, NotU8.of h1 (by decide), lt_ob h1⟩
  · exact ⟨h2.2.1, NotU8.of h2.1 (by decide), lt_ob h2.1⟩
  · obtain ⟨es, cl, xs, hr, _⟩ := h2.2.2.2.1
    exact ⟨h2.2.2.1, NotU8.map hr, lt_ob hr⟩
  · have hv : v.ownBlock = some k := by simpa using hk
    obtain ⟨ds, hp, _, ⟨e, _⟩ | ⟨g, cap, cur, e, hb, hg, _⟩⟩ := h3
    · rw [e] at hv; cases hv
    · rw [e] at hv; injection hv with hv; subst hv
      exact ⟨hb, NotU8.of hg (by decide), lt_ob hg⟩
end Go.Proofs.YtefhfoioeoijlaaGreat

namespace Go.Proofs.YtefhfoioeoijlaaGreat
open Go Go.RowKit Go.Sort

def undoAt (S : List StepD) (i0 : Nat) (M : List Item) (xs : List Nat) : List Item := xs.foldl (fun L i => undoS L (S.getD (i0 + i) default)) M
theorem undoAt_all {S : List StepD} {i0 : Nat} (h : i0 ≤ S.length) (M : List Item) : undoAt S i0 M (List.range (S.length - i0)).reverse = (S.drop i0).reverse.foldl undoS M := by
  have : (List.range (S.length - i0)).map (fun i => S.getD (i0 + i) default) = S.drop i0 := by
    apply List.ext_getElem?
    intro k
    rw [List.getElem?_map, List.getElem?_drop]
    by_cases hk : k < S.length - i0
    · rw [List.getElem?_range hk]
      have : i0 + k < S.length := by omega
      simp [List.getD_eq_getElem?_getD, List.getElem?_eq_getElem this]
    · rw [List.getElem?_eq_none (by simpa using hk), List.getElem?_eq_none (by omega)]; rfl
  unfold undoAt
  rw [← this, ← List.map_reverse, List.foldl_map]
theorem r_sliceLoE {P : Program} {d : Option Tmp} {ty : TypeId} {pos : String} {af : Array Edge} {gd : Option (Nat × Bool)} {ρ : Operand → Value} {w : World} {t e : TypeId} {x lo : Operand} {A : Option Addr} {n c k sz : Nat} (hx : ρ x = .slice A n c) (hA : (A = none ∧ c = 0) ∨ ∃ g, A = some ⟨g, 0, none⟩) (hlo : ρ lo = .int .i64 (k : Int)) (hu : P.underlying t = some (.slice e)) (hsz : ∀ w, (sizeOf e).run P w = .ok sz w) (hk : k ≤ n) (hnc : n ≤ c) :
    ∃ Ad, (execOp ρ ⟨d, .slice t x (some lo) none none, ty, pos, af, gd⟩).run P w = .ok (.value (.slice Ad (n - k) (c - k))) w ∧ (k < n → ∃ g, A = some ⟨g, 0, none⟩ ∧ Ad = some ⟨g, k * sz, none⟩) := by
  by_cases hkc : k < c
  · rcases hA with ⟨rfl, h0⟩ | ⟨g, rfl⟩
    · omega
    · exact ⟨_, by rw [r_sliceLo hx hlo hu hsz hk hkc], fun _ => ⟨g, rfl, by simp⟩⟩
  · have h1 : (0 : Int) ≤ (k : Int) ∧ (k : Int) ≤ (n : Int) := by omega
    have h2 : c = k := by omega
    have h3 : n = k := by omega
    rcases hA with ⟨rfl, h0⟩ | ⟨g, rfl⟩
    · exact ⟨none, by simp [execOp, hx, hlo, Instr.sliceAt, Instr.slice, Instr.sliceBounds, Instr.sliceBound, asIntOf, run_underlying hu, hsz, h1, h2, h3, add_at], fun h => by omega⟩
    · exact ⟨some ⟨g, 0, none⟩, by simp [execOp, hx, hlo, Instr.sliceAt, Instr.slice, Instr.sliceBounds, Instr.sliceBound, asIntOf, run_underlying hu, hsz, h1, h2, h3, add_at], fun h => by omega⟩
theorem setT_len (it : Item) (th : Bool) (L : List Item) : (setT it th L).length ≤ L.length + 1 := by
  unfold setT
  split
  · exact putI_length
  · exact Nat.le_trans (delI_len _ _) (Nat.le_succ _)
theorem undoS_len (M : List Item) (s : StepD) : (undoS M s).length ≤ M.length + 1 := by
  unfold undoS
  split
  · exact setT_len _ _ _
  · exact Nat.le_succ _
theorem undoAt_app (S : List StepD) (i0 : Nat) (M : List Item) (xs : List Nat) (x : Nat) : undoAt S i0 M (xs ++ [x]) = undoS (undoAt S i0 M xs) (S.getD (i0 + x) default) := by unfold undoAt; rw [List.foldl_append]; rfl
theorem undoAt_len (S : List StepD) (i0 : Nat) : ∀ (xs : List Nat) (M : List Item), (undoAt S i0 M xs).length ≤ M.length + xs.length
  | [], M => Nat.le_refl _
  | x :: xs, M => by
    have h1 := undoAt_len S i0 xs (undoS M (S.getD (i0 + x) default))
    have h2 := undoS_len M (S.getD (i0 + x) default)
    show (undoAt S i0 (undoS M (S.getD (i0 + x) default)) xs).length ≤ _
    simp only [List.length_cons]; omega
/-- The operations from a place on. -/
def opsFrom (S : List StepD) (i0 : Nat) : List OpD := (S.drop i0).map (·.o)
theorem opsFrom_len (S : List StepD) (i0 : Nat) : (opsFrom S i0).length = S.length - i0 := by simp [opsFrom]
/-- The row while its steps are done again: k of them are done. -/
def redo (S : List StepD) (i0 : Nat) (M : List Item) (k : Nat) : List StepD := S.take i0 ++ recAll M ((opsFrom S i0).take k) ++ S.drop (i0 + k)
theorem redo_zero (S : List StepD) (i0 : Nat) (M : List Item) : redo S i0 M 0 = S := by simp [redo, recAll]
theorem redo_full {S : List StepD} {i0 k : Nat} (M : List Item) (h : S.length ≤ i0 + k) : redo S i0 M k = S.take i0 ++ recAll M (opsFrom S i0) := by
  unfold redo
  rw [List.drop_of_length_le h, List.append_nil, List.take_of_length_le (l := opsFrom S i0) (by rw [opsFrom_len]; omega)]
theorem redo_pre {S : List StepD} {i0 k : Nat} (M : List Item) (hi : i0 ≤ S.length) (hk : i0 + k ≤ S.length) : (S.take i0 ++ recAll M ((opsFrom S i0).take k)).length = i0 + k := by
  simp only [List.length_append, recAll_len, List.length_take, opsFrom_len, List.length_drop]; omega
theorem redo_get {S : List StepD} {i0 k : Nat} {s : StepD} (M : List Item) (hi : i0 ≤ S.length) (hs : S[i0 + k]? = some s) : (redo S i0 M k)[i0 + k]? = some s := by
  have hk := (List.getElem?_eq_some_iff.1 hs).1
  have hl := redo_pre (S := S) (i0 := i0) (k := k) M hi (by omega)
  unfold redo
  rw [List.getElem?_append_right (by omega), hl, Nat.sub_self, List.getElem?_drop, Nat.add_zero]
  exact hs
theorem opsFrom_take {S : List StepD} {i0 k : Nat} {s : StepD} (hs : S[i0 + k]? = some s) : (opsFrom S i0).take (k + 1) = (opsFrom S i0).take k ++ [s.o] := by
  unfold opsFrom; rw [List.take_add_one, List.getElem?_map, List.getElem?_drop, hs]; rfl
theorem redo_set {S : List StepD} {i0 k : Nat} {s : StepD} (M : List Item) (hi : i0 ≤ S.length) (hs : S[i0 + k]? = some s) : (redo S i0 M k).set (i0 + k) (recS (((opsFrom S i0).take k).foldl playI M) s.o) = redo S i0 M (k + 1) := by
  have hk := (List.getElem?_eq_some_iff.1 hs).1
  have hl := redo_pre (S := S) (i0 := i0) (k := k) M hi (by omega)
  have hd : S.drop (i0 + k) = s :: S.drop (i0 + (k + 1)) := by
    rw [List.drop_eq_getElem_cons hk]
    congr 1
    exact (List.getElem?_eq_some_iff.1 hs).2
  have h2 : recAll M ((opsFrom S i0).take (k + 1)) = recAll M ((opsFrom S i0).take k) ++ [recS (((opsFrom S i0).take k).foldl playI M) s.o] := by
    rw [opsFrom_take hs, recAll_app]; rfl
  show (S.take i0 ++ recAll M ((opsFrom S i0).take k) ++ S.drop (i0 + k)).set (i0 + k) _ = S.take i0 ++ recAll M ((opsFrom S i0).take (k + 1)) ++ S.drop (i0 + (k + 1))
  rw [List.set_append_right _ _ (by omega), hl, Nat.sub_self, hd, List.set_cons_zero, h2]
  simp [List.append_assoc]
theorem NotU8.obj {w : World} {b : Nat} {o : Obj} (h : w.heap[b]? = some o) (hc : o.isCells = false) : NotU8 w b := fun cs fr e => by rw [h] at e; cases e; cases hc
set_option maxHeartbeats 4000000 in
theorem change_at {B base : Nat} {w : World} {lb tb r pc i0 fk : Nat} {pA : Option Addr} {M : List Item} {S S' : List StepD} {caps : List Value} {X : List Nat}
    (hlb : w.heap[lb]? = some (.cells #[.slice pA S.length pc, .pointer (some ⟨tb, 0, none⟩)] 66 (0, 0))) (h : TreeIs B w tb r M) (hB : B ≤ w.heap.size) (hp : PRow 73 B base w (.slice pA S.length pc) S) (hBb : B ≤ base) (hi : i0 ≤ S.length) (hn : S.length ≤ 100000) (hdid : ∀ s ∈ S, s.did = true → stR s.was.node = true) (hML : M.length + S.length ≤ 300)
    (hEn : ∀ args w, (callFunc fk args).run Tryz.prog w = .ok (.enter fk args) w) (hXw : ∀ x ∈ X, x < w.heap.size) (hi' : i0 ≤ S'.length) (hn' : S'.length ≤ 100000) (hnm : ∀ s ∈ S', s.o.name.size ≤ 9223372036854775807)
    (hhow : ∀ W, W.heap[lb]? = some (.cells #[.slice pA S.length pc, .pointer (some ⟨tb, 0, none⟩)] 66 (0, 0)) → TreeIs B W tb r ((S.drop i0).reverse.foldl undoS M) → PRow 73 B base W (.slice pA S.length pc) S → Mod [r] w W →
      Calls Tryz.prog fk caps.toArray W fun e W' => e = .returned (.tuple #[]) ∧ ∃ A' c', W'.heap[lb]? = some (.cells #[.slice A' S'.length c', .pointer (some ⟨tb, 0, none⟩)] 66 (0, 0)) ∧ PRow 73 B base W' (.slice A' S'.length c') S' ∧ TreeIs B W' tb r ((S.drop i0).reverse.foldl undoS M) ∧ Mod X W W' ∧ ∀ g, Value.ownBlock (.slice A' S'.length c') = some g → g ∈ X ∨ W.heap.size ≤ g) :
    Calls Tryz.prog 36 #[trP lb, .int .i64 (i0 : Int), .func (.func fk) #[] caps.toArray] w fun e w' => e = .returned (.tuple #[]) ∧ ∃ A' c', w'.heap[lb]? = some (.cells #[.slice A' S'.length c', .pointer (some ⟨tb, 0, none⟩)] 66 (0, 0)) ∧
      TreeIs B w' tb r ((opsFrom S' i0).foldl playI ((S.drop i0).reverse.foldl undoS M)) ∧ PRow 73 B base w' (.slice A' S'.length c') (S'.take i0 ++ recAll ((S.drop i0).reverse.foldl undoS M) (opsFrom S' i0)) ∧ Mod (r :: X) w w' ∧ ∀ g, Value.ownBlock (.slice A' S'.length c') = some g → g ∈ X ∨ w.heap.size ≤ g := by
  obtain ⟨how, ehow⟩ : ∃ how : Value, how = .func (.func fk) #[] caps.toArray := ⟨_, rfl⟩
  obtain ⟨M0, eM0⟩ : ∃ M0, M0 = (S.drop i0).reverse.foldl undoS M := ⟨_, rfl⟩
  rw [← ehow]
  rw [← eM0] at hhow ⊢
  refine (callsIn_wide (n := 9)).1 (callsIn_of_wp_marks Tryz.func36 rfl trivial ?_)
  simp only [Tryz.ntmps36, List.size_toArray, List.length_cons, List.length_nil, Nat.reduceAdd, Nat.reduceSub, Array.replicate_succ, Array.replicate_zero, List.push_toArray, List.append_toArray, List.nil_append, List.cons_append]
  refine wpIn_wide.2 ?_
  refine wp_seq (rg_lit ?_)
  refine wl (sn rfl (cs := #[.pointer (some ⟨lb, 0, none⟩)]) (T := 25) (V := fun b => .pointer (some ⟨b, 0, none⟩)) (r_box (v := .pointer (some ⟨lb, 0, none⟩)) (by kernel_rfl) rfl) ?_)
  intro b1 w1 e1 h1 u1
  have hlb1 := up_ob u1 hlb
  refine wnil (then_n (wp_seq (wp_seq (rg_lit ?_))))
  refine wl (sv rfl (v := .pointer (some ⟨lb, 0, none⟩)) (r_load (k := 0) (by kernel_rfl) Ty.ag25 h1 (by kernel_rfl)) ?_)
  refine wl (sv rfl (v := .pointer (some ⟨lb, 0, none⟩)) (r_nilCheck (by kernel_rfl)) ?_)
  refine wl (sv rfl (v := .pointer (some ⟨lb, 0, none⟩)) (r_fieldAddr (u := .pointer (some ⟨lb, 0, none⟩)) (by kernel_rfl) (fun _ => (by kernel_rfl))) ?_)
  refine wl (sv rfl (v := .slice pA S.length pc) (r_load (k := 0) (by kernel_rfl) Ty.ag64 hlb1 (by kernel_rfl)) ?_)
  refine wmv (v := .int .i64 (i0 : Int)) ?_
  obtain ⟨hS1, hS2, hS3, hS4⟩ := PRow.addr hp
  obtain ⟨Ad, hrun, hAd⟩ := r_sliceLoE (P := Tryz.prog) (d := some 14) (ty := 64) (pos := "undo.go:54") (w := w1) (af := #[{ on := 3, ground := Ground.data }, { on := 4, ground := Ground.data }]) (gd := none) (ρ := Act.eval _) (x := .tmp 12) (lo := .tmp 13) (t := 64) (e := 73) (A := pA) (n := S.length) (c := pc) (k := i0) (sz := 22) (by kernel_rfl) (by rcases hS4 with h | ⟨g, _, h, _⟩; exact .inl h; exact .inr ⟨g, h⟩) (by kernel_rfl) Ty.un64 Ty.sz73 hi hS2
  refine wl (sv rfl hrun ?_)
  refine wl (sc rfl (r_callv (caps := []) (all := [.slice Ad (S.length - i0) (pc - i0)]) En.f60 (by kernel_rfl) (by kernel_rfl)) (backward_at Ad (S.length - i0) (pc - i0)) ?_)
  rintro _ w2 ⟨b2, rfl, e2, h2, u2⟩
  refine ⟨_, rfl, ?_⟩
  refine wnil (then_n (wp_block ?_))
  have hp2 := PRow.up (PRow.up hp u1) u2
  have ht2 := TreeIs.up (TreeIs.up h u1) u2
  have hlb2 := up_ob u2 hlb1
  have hb12 := up_ob u2 h1
  obtain ⟨dd, hdd, hd2⟩ := PRow.pick hp2
  obtain ⟨r_es, r_cl, r_xs, hr2, _⟩ := ht2.2.2.2.1
  have hlr : lb ≠ r := fun e => ht2.2.2.2.1.noCells _ _ _ (by rw [← e]; exact hlb2)
  have hbr : b1 ≠ r := fun e => ht2.2.2.2.1.noCells _ _ _ (by rw [← e]; exact hb12)
  have hBw : B ≤ w2.heap.size := Nat.le_trans hB (Nat.le_trans u1.size u2.size)
  refine wpIn_wide.1 (wpIn_rangeFunc_ownH (α := Nat) (F := Fence.wide) (n := 9) (gf := 75) (lb := #[.pointer (some ⟨b2, 0, none⟩)]) rfl (by omega) (by kernel_rfl) trivial En.f75
    (back_stops (n := 8) (Bm := b2) (m := S.length - i0) (c := pc - i0) (Ad := Ad) (vs := fun i => spC (S.getD (i0 + i) default) (dd (i0 + i)).d) (BI := Mod [r] w2) (w := w2) (by omega) (fun _ => rfl) ?hBm ?hrd (fun W hW => Mod.of_up hW))
    (fun h k x => k (h x)) (fun W l o o' hl hW _ _ hM => mod_put hM hl (lt_ob hW)) (Below.refl _ _) (fun _ => rfl)
    (fun pre W => Mod [r] w2 W ∧ TreeIs B W tb r (undoAt S i0 M pre)) (fun _ _ _ => False) ?hI (fun _ _ _ _ _ hs _ _ => hs) ⟨Mod.refl _ _, ht2⟩
    (fun x a' W => ∃ bS, w2.heap.size ≤ bS ∧ W.heap[bS]? = some (.cells (spC (S.getD (i0 + x) default) (dd (i0 + x)).d).toArray 73 (0, 0)) ∧ a' = ⟨#[.pointer (some ⟨lb, 0, none⟩), .int .i64 (i0 : Int), how, .pointer (some ⟨b1, 0, none⟩), undef, undef, undef, .pointer (some ⟨bS, 0, none⟩), undef, .pointer (some ⟨lb, 0, none⟩), .pointer (some ⟨lb, 0, none⟩), .pointer (some ⟨lb, 0, none⟩), .slice pA S.length pc, .int .i64 (i0 : Int), .slice Ad (S.length - i0) (pc - i0), .func (.func 75) #[] #[.pointer (some ⟨b2, 0, none⟩)], .int .i64 (x : Int), .agg (spC (S.getD (i0 + x) default) (dd (i0 + x)).d).toArray, undef, undef, undef, undef, undef, undef, undef, undef, undef, undef, undef, undef, undef, undef, undef, undef, undef, undef, undef, undef, undef, undef, undef, undef, undef, undef], []⟩) ?hAx ?assign ?body ?done ?stop)
  case hBm => exact fun W hM => md_ob hM (nin1 (fun e => ht2.2.2.2.1.noCells _ _ _ (by rw [← e]; exact h2))) h2
  case hrd =>
    intro W i hM hi'
    have hx : S[i0 + i]? = some (S.getD (i0 + i) default) := by simp [List.getD_eq_getElem?_getD, List.getElem?_eq_getElem (show i0 + i < S.length by omega)]
    obtain ⟨g, cur, hA, _, hg, he, _, _⟩ := hdd _ _ hx
    obtain ⟨g', hA', hAd'⟩ := hAd (by omega)
    have hgg : g = g' := congrArg (fun o : Option Addr => match o with | some a => a.block | none => 0) (hA.symm.trans hA')
    subst hgg
    exact ⟨g, i0 * 22, cur, hAd', md_ob hM (nin1 (fun e => ht2.2.2.2.1.noCells _ _ _ (by rw [← e]; exact hg))) hg, by rw [← Nat.add_mul]; exact he⟩
  case hI =>
    intro s X Y row hs hg hr
    refine ⟨Mod.trans' hs.1 hg (fun i hi => (hr i hi).1), ?_⟩
    cases row with
    | none => exact TreeIs.up hs.2 (up_none hg)
    | some k =>
      obtain ⟨hk, o, ho, hc⟩ := hr k rfl
      exact TreeIs.chgb hs.2 hg ⟨Nat.le_trans hBw hk, fun cs fr e => by rw [e] at ho; cases ho; cases hc⟩ (by have := ht2.lt; omega) (by have := lt_ob hr2; omega)
  case hAx =>
    intro x a' s X Y row hs hg hr
    obtain ⟨bS, k1, k2, k3⟩ := hs
    refine ⟨bS, k1, (hg.block bS (lt_ob k2) (fun e => ?_)).trans k2, k3⟩
    obtain ⟨_, o, ho, hc⟩ := hr bS e.symm
    rw [k2] at ho; cases ho; cases hc
  case assign =>
    rintro l pre x W K ⟨hM, hT⟩ hK
    refine rg_x (ro := some l) ?_
    refine xn rfl rfl (cs := #[.int .i64 0, .int .i64 0, .int .i64 0, .int .i64 0, .int .i64 0, .int .i64 0, .int .i64 0, .bool false, .string (⟨#[]⟩), .slice none 0 0, .int .i64 0, .int .i64 0, .int .i64 0, .int .i64 0, .string (⟨#[]⟩), .bool false, .bool false, .slice none 0 0, .int .i64 0, .int .i64 0, .bool false, .bool false]) (T := 73) (V := fun b => .pointer (some ⟨b, 0, none⟩)) (r_alloc Ty.zv73 rfl) ?_
    intro bS W3 e3 h3 u3
    refine xss rfl rfl (b := bS) (k := 0) (v := .agg (spC (S.getD (i0 + x) default) (dd (i0 + x)).d).toArray) (vs := spC (S.getD (i0 + x) default) (dd (i0 + x)).d) (cs' := spC (S.getD (i0 + x) default) (dd (i0 + x)).d) (by kernel_rfl) (by kernel_rfl) rfl (by rw [spC_length]; exact Ty.sz73) h3 (by rfl) (by rw [spC_length]; decide) (by rfl) ?_
    intro W4 h4 c4
    have uu : Up W W4 := up_chgn u3 c4 (by rw [e3]; exact Nat.le_refl _)
    refine xnil ?_
    exact hK _ W4 ⟨uu.size, fun k o _ hk _ => up_ob uu hk⟩ (fun hM => Mod.trans hM (Mod.of_up uu)) ⟨Mod.trans hM (Mod.of_up uu), TreeIs.up hT uu⟩ ⟨bS, by rw [e3]; exact hM.size, h4, by kernel_rfl⟩
  case body =>
    rintro l pre x a' W hl hrec ⟨hM, hT⟩ ⟨bS, k1, k2, rfl⟩ hlt
    have hlbW := md_ob hM (nin1 hlr) hlb2
    have hb1W := md_ob hM (nin1 hbr) hb12
    have hDW : Dat B W (dd (i0 + x)).d.2 (S.getD (i0 + x) default).was.data := (hd2 (i0 + x)).chg (Mod.chg hM) ⟨h.2.2.1, NotU8.map hr2⟩
    have hBW : B ≤ W.heap.size := Nat.le_trans hBw hM.size
    have hst : (S.getD (i0 + x) default).did = true → stR (S.getD (i0 + x) default).was.node = true := by
      intro hdd1
      rw [List.getD_eq_getElem?_getD] at hdd1 ⊢
      cases hx : S[i0 + x]? with
      | none => rw [hx] at hdd1; cases hdd1
      | some s => rw [hx] at hdd1; exact hdid s (List.mem_of_getElem? hx) hdd1
    have hlen : (undoS (undoAt S i0 M pre) (S.getD (i0 + x) default)).length ≤ 300 := by
      rw [← undoAt_app]
      have := undoAt_len S i0 (pre ++ [x]) M
      simp only [List.length_append, List.length_singleton] at this; omega
    refine wpIn_block (rg_x (ro := some l) ?_)
    refine xv rfl rfl (v := .pointer (some ⟨lb, 0, none⟩)) (r_load (k := 0) (by kernel_rfl) Ty.ag25 hb1W (by kernel_rfl)) ?_
    refine xv rfl rfl (v := .agg (spC (S.getD (i0 + x) default) (dd (i0 + x)).d).toArray) (r_loads (k := 0) (by kernel_rfl) Ty.ag73 (by rw [spC_length]; exact Ty.sz73) k2 (by rw [spC_length]; rfl)) ?_
    refine xc rfl rfl (r_callv (caps := []) (all := [.pointer (some ⟨lb, 0, none⟩), .agg (spC (S.getD (i0 + x) default) (dd (i0 + x)).d).toArray]) En.f61 (by kernel_rfl) (by kernel_rfl)) (undo1_at hlbW hT hBW (S.getD (i0 + x) default) _ _ _ _ _ _ hDW hst hlen) ?_
    rintro _ W2 ⟨rfl, hT2, hC2⟩
    refine ⟨_, rfl, ?_⟩
    refine xnil ?_
    exact ⟨KeepsFrom.of_grownBy hC2 (fun j e => by injection e with e; rw [← e]; exact lt_ob hr2), fun hM => Mod.trans hM (Mod.of_chg hC2 (by simp)), Mod.trans hM (Mod.of_chg hC2 (by simp)), by rw [undoAt_app]; exact hT2⟩
  case done =>
    rintro D xs W hD hS ⟨hM, hT⟩ hK
    rw [show xs = (List.range (S.length - i0)).reverse from hS, undoAt_all hi, ← eM0] at hT
    have hlbW := md_ob hM (nin1 hlr) hlb2
    have hb1W := md_ob hM (nin1 hbr) hb12
    have hpW := PRow.chgn hp2 (Mod.chg hM) ⟨h.2.2.1, NotU8.map hr2⟩ (fun e => by
      rcases hS4 with ⟨e1, _⟩ | ⟨g, cur, e1, _, hg, _⟩
      · rw [e1] at e; cases e
      · rw [e1] at e; injection e with e
        exact ht2.2.2.2.1.noCells _ _ _ (by rw [← e]; exact up_ob u2 (up_ob u1 hg)))
    have hrw : r < w.heap.size := by obtain ⟨_, _, _, hr0, _⟩ := h.2.2.2.1; exact lt_ob hr0
    have hMw : Mod [r] w W := Mod.trans (Mod.of_up (up_up u1 u2)) hM
    have hDw : w.heap.size ≤ D := Nat.le_trans (Nat.le_trans u1.size u2.size) hD
    refine inb_n (then_n (wp_seq (rg_lit ?_)))
    refine wmv (v := how) ?_
    subst ehow
    refine wl (sc rfl (r_callv (caps := caps) (all := caps) hEn (by kernel_rfl) (by kernel_rfl)) (hhow W hlbW hT hpW hMw) ?_)
    rintro _ W3 ⟨rfl, A', c', hlb3, hp3, hT3, hM3, hown⟩
    refine ⟨_, rfl, ?_⟩
    refine wnil (then_n (wp_seq (rg_lit ?_)))
    have hb1X : b1 ∉ X := fun hm => by have := hXw _ hm; rw [e1] at this; omega
    have hb13 := md_ob hM3 hb1X hb1W
    have hDX : D ∉ X := fun hm => by have := hXw _ hm; omega
    have hK3 := md_ob hM3 hDX hK
    obtain ⟨m, em⟩ : ∃ m, m = S'.length - i0 := ⟨_, rfl⟩
    obtain ⟨n', en'⟩ : ∃ n', n' = S'.length := ⟨_, rfl⟩
    rw [← en'] at hlb3 hp3 hown ⊢
    obtain ⟨hq1, hq2, hq3, hq4⟩ := PRow.addr hp3
    refine wl (sv rfl (v := .pointer (some ⟨lb, 0, none⟩)) (r_load (k := 0) (by kernel_rfl) Ty.ag25 hb13 (by kernel_rfl)) ?_)
    refine wl (sv rfl (v := .pointer (some ⟨lb, 0, none⟩)) (r_nilCheck (by kernel_rfl)) ?_)
    refine wl (sv rfl (v := .pointer (some ⟨lb, 0, none⟩)) (r_fieldAddr (u := .pointer (some ⟨lb, 0, none⟩)) (by kernel_rfl) (fun _ => (by kernel_rfl))) ?_)
    refine wl (sv rfl (v := .slice A' n' c') (r_load (k := 0) (by kernel_rfl) Ty.ag64 hlb3 (by kernel_rfl)) ?_)
    refine wmv (v := .int .i64 (i0 : Int)) ?_
    obtain ⟨Ad', hrun', _⟩ := r_sliceLoE (P := Tryz.prog) (d := some 28) (ty := 64) (pos := "undo.go:58") (w := W3) (af := #[{ on := 3, ground := Ground.data }, { on := 4, ground := Ground.data }]) (gd := none) (ρ := Act.eval _) (x := .tmp 26) (lo := .tmp 27) (t := 64) (e := 73) (A := A') (n := n') (c := c') (k := i0) (sz := 22) (by kernel_rfl) (by rcases hq4 with h | ⟨g, _, h, _⟩; exact .inl h; exact .inr ⟨g, h⟩) (by kernel_rfl) Ty.un64 Ty.sz73 (by omega) hq2
    refine wl (sv rfl hrun' ?_)
    refine wl (sv rfl (v := .int .i64 (m : Int)) (by rw [em, ← en']; exact r_len Ty.un64 (ad := Ad') (n := n' - i0) (c := c' - i0) (by kernel_rfl)) ?_)
    refine wmv (v := .int .i64 0) ?_
    refine wnil (then_n (wp_block ?_))
    obtain ⟨own', eown⟩ : ∃ o : List Nat, o = (Value.ownBlock (.slice A' n' c')).toList := ⟨_, rfl⟩
    have hownT : ∀ g ∈ own', ∃ cur, W3.heap[g]? = some (.cells cur 73 (0, 0)) := by
      rw [eown]
      intro g hg
      rcases hq4 with ⟨e, _⟩ | ⟨g', cur, e, _, hg', _⟩
      · subst e; cases hg
      · subst e
        have : g = g' := by simpa [Value.ownBlock] using hg
        subst this; exact ⟨cur, hg'⟩
    clear hq4 hS4
    have hlbo : lb ∉ own' := fun hm => by obtain ⟨cur, h0⟩ := hownT _ hm; rw [hlb3] at h0; injection h0 with h0; injection h0 with _ h0 _; exact absurd h0 (by decide)
    have hb1o : b1 ∉ own' := fun hm => by obtain ⟨cur, h0⟩ := hownT _ hm; rw [hb13] at h0; injection h0 with h0; injection h0 with _ h0 _; exact absurd h0 (by decide)
    have hDo : D ∉ own' := fun hm => by obtain ⟨cur, h0⟩ := hownT _ hm; rw [hK3] at h0; cases h0
    have hDr : D ≠ r := by omega
    refine lp (fun n a r1 => ∃ (k : Nat) (z8 z31 z32 z33 z34 z35 z36 z37 z38 z39 z40 z41 z42 z43 : Value), n = m - k ∧ a = ⟨#[.pointer (some ⟨lb, 0, none⟩), .int .i64 (i0 : Int), .func (.func fk) #[] caps.toArray, .pointer (some ⟨b1, 0, none⟩), undef, undef, undef, undef, z8, .pointer (some ⟨lb, 0, none⟩), .pointer (some ⟨lb, 0, none⟩), .pointer (some ⟨lb, 0, none⟩), .slice pA S.length pc, .int .i64 (i0 : Int), .slice Ad (S.length - i0) (pc - i0), .func (.func 75) #[] #[.pointer (some ⟨b2, 0, none⟩)], undef, undef, undef, undef, undef, .func (.func fk) #[] caps.toArray, .tuple #[], .pointer (some ⟨lb, 0, none⟩), .pointer (some ⟨lb, 0, none⟩), .pointer (some ⟨lb, 0, none⟩), .slice A' n' c', .int .i64 (i0 : Int), .slice Ad' (n' - i0) (c' - i0), .int .i64 (m : Int), .int .i64 (k : Int), z31, z32, z33, z34, z35, z36, z37, z38, z39, z40, z41, z42, z43], [{ target := .collected D, args := #[] }]⟩ ∧ k ≤ m ∧ TreeIs B r1 tb r (((opsFrom S' i0).take k).foldl playI M0) ∧ PRow 73 B base r1 (.slice A' n' c') (redo S' i0 M0 k) ∧ Mod (r :: own') W3 r1) ⟨_, 0, undef, undef, undef, undef, undef, undef, undef, undef, undef, undef, undef, undef, undef, undef, rfl, (by kernel_rfl), Nat.zero_le _, hT3, by rw [redo_zero]; exact hp3, Mod.refl _ _⟩ ?_
    rintro _ _ r1 ⟨k, z8, z31, z32, z33, z34, z35, z36, z37, z38, z39, z40, z41, z42, z43, rfl, rfl, hk, hT1, hp1, hM1⟩
    have hlbr := md_ob hM1 (ninc hlr hlbo) hlb3
    have hb1r := md_ob hM1 (ninc hbr hb1o) hb13
    have hKr := md_ob hM1 (ninc hDr hDo) hK3
    refine wp_seq (rg_lit ?_)
    refine wl (sb rfl (r_lt (k := .i64) (m := (k : Int)) (n := (m : Int)) (by kernel_rfl) (by kernel_rfl)) ?_)
    intro bb kb
    refine wnil (then_n (wp_seq ?_))
    refine bcase bb (fun vb => ?_) (fun vb => ?_)
    · have hkm : k = m := by have := of_decide_eq_false (kb.trans vb); omega
      refine wp_cond_false (ebool (b := bb) (by kernel_rfl) vb) ?_
      refine wp_exit (then_x (by nofun) (then_x (by nofun) (inb_hit ?_)))
      refine ⟨by simp, .inl ⟨_, _, rfl, run_takeDeferred hKr, ?_⟩⟩
      refine ⟨_, res0 rfl, ?_⟩
      have hg := grownBy_putObj' r1 D (.deferred none)
      have hDN : B ≤ D ∧ NotU8 r1 D := ⟨Nat.le_trans hB hDw, NotU8.obj hKr rfl⟩
      have htbD : tb ≠ D := by have := TreeIs.lt h; omega
      have hlbD : lb ≠ D := by have := lt_ob hlb; omega
      have m1 : Mod (r :: X) w W3 := Mod.trans (Mod.of_mod hMw (by simp)) (Mod.of_mod hM3 (fun y hy => List.mem_cons_of_mem _ hy))
      have m2 : Mod (r :: X) w r1 := Mod.thin m1 hM1 (fun y hy => by
        rcases List.mem_cons.1 hy with rfl | hy
        · exact .inl (List.mem_cons_self ..)
        · rcases hown y (by rw [eown] at hy; simpa using hy) with h | h
          · exact .inl (List.mem_cons_of_mem _ h)
          · exact .inr (Nat.le_trans hMw.size h))
      refine ⟨rfl, A', c', chg_ob hg hlbD hlbr, ?_, ?_, Mod.trans' m2 hg (fun i hi => by injection hi with hi; rw [← hi]; exact hDw), fun g hg => ?_⟩
      · have hT2 := TreeIs.chgb hT1 hg hDN htbD (Ne.symm hDr)
        rwa [List.take_of_length_le (by rw [opsFrom_len]; omega)] at hT2
      · have hp2 := PRow.chgn hp1 hg hDN (fun e => hDo (by rw [eown]; simp [e]))
        exact PRow.to hp2 (redo_full M0 (by omega))
      · rcases hown g hg with h | h
        · exact .inl h
        · exact .inr (Nat.le_trans hMw.size h)
    have hkm : k < m := by have := of_decide_eq_true (kb.trans vb); omega
    obtain ⟨s, hs⟩ : ∃ s, S'[i0 + k]? = some s := ⟨_, List.getElem?_eq_getElem (by omega)⟩
    obtain ⟨g, cur, rfl, hbg, hg, _⟩ : ∃ g cur, A' = some ⟨g, 0, none⟩ ∧ base ≤ g ∧ r1.heap[g]? = some (.cells cur 73 (0, 0)) ∧ cur.size = c' * 22 := by
      rcases (PRow.addr hp1).2.2.2 with ⟨_, h0⟩ | h
      · omega
      · exact h
    refine wp_cond_true (ebool (b := bb) (by kernel_rfl) vb) ?_
    refine wp_skip (then_n (wp_seq (wp_block (wp_seq (rg_lit ?_)))))
    refine wmv (v := .int .i64 (k : Int)) ?_
    refine was (v := .int .i64 (k : Int)) ?_
    refine wnil (then_n (rg_tail 9 (by kernel_rfl) (by kernel_rfl) rfl rfl ?_))
    refine qv rfl (v := .pointer (some ⟨lb, 0, none⟩)) (fun _ u => r_load (k := 0) (by kernel_rfl) Ty.ag25 (up_ob u hb1r) (by kernel_rfl)) ?_
    refine qv rfl (v := .pointer (some ⟨lb, 0, none⟩)) (fun _ u => r_load (k := 0) (by kernel_rfl) Ty.ag25 (up_ob u hb1r) (by kernel_rfl)) ?_
    refine qv rfl (v := .pointer (some ⟨lb, 0, none⟩)) (fun _ _ => r_nilCheck (by kernel_rfl)) ?_
    refine qv rfl (v := .pointer (some ⟨lb, 0, none⟩)) (fun _ _ => r_fieldAddr (u := .pointer (some ⟨lb, 0, none⟩)) (by kernel_rfl) (fun _ => (by kernel_rfl))) ?_
    refine qv rfl (v := .slice (some ⟨g, 0, none⟩) n' c') (fun _ u => r_load (k := 0) (by kernel_rfl) Ty.ag64 (up_ob u hlbr) (by kernel_rfl)) ?_
    refine qmv (v := .int .i64 (i0 : Int)) ?_
    refine qmv (v := .int .i64 (k : Int)) ?_
    refine qv rfl (v := .int .i64 ((i0 : Int) + (k : Int))) (fun _ _ => r_add (k := .i64) (m := (i0 : Int)) (n := (k : Int)) (c := (i0 : Int) + (k : Int)) (by kernel_rfl) (by kernel_rfl) (IntWalk.i64_in _ (by omega))) ?_
    refine qv rfl (v := .pointer (some ⟨g, (i0 + k) * 22, none⟩)) (fun _ _ => r_ixaddr' (A := some ⟨g, 0, none⟩) (b := g) (o := 0) (n := n') (c := c') (sz := 22) (j := (i0 : Int) + (k : Int)) (by kernel_rfl) rfl (by kernel_rfl) Ty.un64 Ty.sz73 (by omega) (by omega) (by omega)) ?_
    refine qnil ?_
    intro w5 u5
    have hBw5 : B ≤ w5.heap.size := Nat.le_trans hB (Nat.le_trans hMw.size (Nat.le_trans hM3.size (Nat.le_trans hM1.size u5.size)))
    refine wl (sc rfl (r_callv (caps := []) (all := [.pointer (some ⟨lb, 0, none⟩), .pointer (some ⟨g, (i0 + k) * 22, none⟩)]) En.f62 (by kernel_rfl) (by kernel_rfl)) (do1_at (up_ob u5 hlbr) (TreeIs.up hT1 u5) hBw5 (PRow.up hp1 u5) hBb (redo_get M0 hi' hs) (hnm s (List.mem_of_getElem? hs))) ?_)
    rintro _ w6 ⟨rfl, hT6, hp6, hM6⟩
    refine ⟨_, rfl, ?_⟩
    refine wnil (inb_n (then_n (rg_lit ?_)))
    refine wl (sv rfl (v := .int .i64 ((k + 1 : Nat) : Int)) (r_add (k := .i64) (m := (k : Int)) (n := 1) (c := ((k + 1 : Nat) : Int)) (by kernel_rfl) (by kernel_rfl) ((IntWalk.i64_in _ (by omega)).trans (by omega))) ?_)
    refine wmv (v := .int .i64 ((k + 1 : Nat) : Int)) ?_
    refine wnil (then_n ?_)
    refine ⟨m - (k + 1), by omega, k + 1, .int .i64 (k : Int), .bool bb, .int .i64 (k : Int), .pointer (some ⟨lb, 0, none⟩), .pointer (some ⟨lb, 0, none⟩), .pointer (some ⟨lb, 0, none⟩), .pointer (some ⟨lb, 0, none⟩), .slice (some ⟨g, 0, none⟩) n' c', .int .i64 (i0 : Int), .int .i64 (k : Int), .int .i64 ((i0 : Int) + (k : Int)), .pointer (some ⟨g, (i0 + k) * 22, none⟩), .tuple #[], .int .i64 ((k + 1 : Nat) : Int), rfl, (by kernel_rfl), by omega, ?_, ?_, ?_⟩
    · rw [opsFrom_take hs, List.foldl_append]; exact hT6
    · exact PRow.to hp6 (redo_set M0 hi' hs)
    · refine Mod.trans (Mod.trans hM1 (Mod.of_up u5)) (Mod.of_mod hM6 ?_)
      intro y hy
      simp only [List.mem_cons, List.not_mem_nil, or_false] at hy
      rcases hy with rfl | rfl
      · exact List.mem_cons_of_mem _ (by rw [eown]; simp [Value.ownBlock])
      · exact List.mem_cons_self ..
  case stop =>
    rintro D c pre W _ _ h _
    exact h.elim
end Go.Proofs.YtefhfoioeoijlaaGreat

namespace Go.Proofs.YtefhfoioeoijlaaGreat
open Go Go.RowKit Go.Sort
theorem PRow.neT {T T' : TypeId} {B base b : Nat} {w : World} {v : Value} {L : List StepD} {cs : Array Value} {fr : Nat × Nat} (h : PRow T B base w v L) (hb : w.heap[b]? = some (.cells cs T' fr)) (hT : T ≠ T') : v.ownBlock ≠ some b := by
  obtain ⟨ds, hp, _, ⟨e, _⟩ | ⟨g, cap, cur, e, _, hg, _⟩⟩ := h
  · rw [e]; exact fun h => by cases h
  · rw [e]
    intro h
    injection h with h
    subst h
    rw [hg] at hb
    injection hb with hb; injection hb with _ hb _
    exact hT hb
theorem ownB (A : Option Addr) (n c n' c' : Nat) : Value.ownBlock (.slice A n c) = Value.ownBlock (.slice A n' c') := by cases A <;> rfl
theorem mod_own {w w' : World} {q : Option Nat} (h : w.grownBy w' q) : Mod q.toList w w' := by
  cases q with
  | none => exact Mod.of_up (up_none h)
  | some k => exact Mod.of_chg h (by simp)
def newStep (o : OpD) : StepD := ⟨o, nilI, false, false⟩
set_option maxHeartbeats 4000000 in
theorem insC_at {B base : Nat} {w : World} {bl bi bo lb tb i n c dn dc : Nat} {A dA : Option Addr} {S : List StepD} {o : OpD} (hbl : w.heap[bl]? = some (.cells #[.pointer (some ⟨lb, 0, none⟩)] 25 (0, 0))) (hbi : w.heap[bi]? = some (.cells #[.int .i64 (i : Int)] 3 (0, 0))) (hbo : w.heap[bo]? = some (.cells (opC o (.slice dA dn dc)).toArray 38 (0, 0)))
    (hlb : w.heap[lb]? = some (.cells #[.slice A n c, .pointer (some ⟨tb, 0, none⟩)] 66 (0, 0))) (hp : PRow 73 B base w (.slice A n c) S) (hd : Dat B w (.slice dA dn dc) o.data) (hi : i ≤ S.length) (hlen : S.length ≤ 100000) (hBb : B ≤ base) (hbase : base ≤ w.heap.size) (hBl : B ≤ lb) :
    Calls Tryz.prog 37 #[.pointer (some ⟨bl, 0, none⟩), .pointer (some ⟨bi, 0, none⟩), .pointer (some ⟨bo, 0, none⟩)] w fun e w' => e = .returned (.tuple #[]) ∧ ∃ A' c', w'.heap[lb]? = some (.cells #[.slice A' (S.take i ++ [newStep o] ++ S.drop i).length c', .pointer (some ⟨tb, 0, none⟩)] 66 (0, 0)) ∧ PRow 73 B base w' (.slice A' (S.take i ++ [newStep o] ++ S.drop i).length c') (S.take i ++ [newStep o] ++ S.drop i) ∧ Mod (lb :: (Value.ownBlock (.slice A n c)).toList) w w' ∧ ∀ g, Value.ownBlock (.slice A' (S.take i ++ [newStep o] ++ S.drop i).length c') = some g → g ∈ lb :: (Value.ownBlock (.slice A n c)).toList ∨ w.heap.size ≤ g := by
  obtain ⟨own, eown⟩ : ∃ own, own = (Value.ownBlock (.slice A n c)).toList := ⟨_, rfl⟩
  rw [← eown]
  have hown : ∀ b cs T fr, w.heap[b]? = some (.cells cs T fr) → T ≠ 73 → b ∉ lb :: own → b ∉ lb :: own := fun _ _ _ _ _ _ h => h
  have hno : ∀ b cs T fr, w.heap[b]? = some (.cells cs T fr) → 73 ≠ T → b ∉ own := fun b cs T fr h hT hm => PRow.neT hp h hT (by rw [eown] at hm; simpa using hm)
  have hne : ∀ b cs T fr, w.heap[b]? = some (.cells cs T fr) → T ≠ 66 → b ≠ lb := fun b cs T fr h hT e => by rw [e, hlb] at h; injection h with h; injection h with _ h _; exact hT h.symm
  have n1 : bl ∉ lb :: own := ninc (hne _ _ _ _ hbl (by decide)) (hno _ _ _ _ hbl (by decide))
  have n2 : bi ∉ lb :: own := ninc (hne _ _ _ _ hbi (by decide)) (hno _ _ _ _ hbi (by decide))
  have n3 : bo ∉ lb :: own := ninc (hne _ _ _ _ hbo (by decide)) (hno _ _ _ _ hbo (by decide))
  have n4 : lb ∉ own := hno _ _ _ _ hlb (by decide)
  go_enter Tryz.func37, Tryz.ntmps37
  refine rg_held (lb :: own) (n := 13) (by kernel_rfl) rfl ?_
  intro w1 u1
  have hbl1 := up_ob u1 hbl
  have hbi1 := up_ob u1 hbi
  have hbo1 := up_ob u1 hbo
  have hlb1 := up_ob u1 hlb
  have hp1 := PRow.up hp u1
  have hd1 := hd.up u1
  refine hvq (i := 0) (fuel := 12) rfl (fun _ _ _ h => h) (Mod.refl _ _) rfl (v := .pointer (some ⟨lb, 0, none⟩)) (fun _ uz => r_load (k := 0) (by kernel_rfl) Ty.ag25 (md_ob uz n1 hbl1) (by kernel_rfl)) ?_
  refine hvq (i := 1) (fuel := 11) rfl (fun _ _ _ h => h) (Mod.refl _ _) rfl (v := .pointer (some ⟨lb, 0, none⟩)) (fun _ uz => r_load (k := 0) (by kernel_rfl) Ty.ag25 (md_ob uz n1 hbl1) (by kernel_rfl)) ?_
  refine hvq (i := 2) (fuel := 10) rfl (fun _ _ _ h => h) (Mod.refl _ _) rfl (v := .pointer (some ⟨lb, 0, none⟩)) (fun _ uz => r_nilCheck (by kernel_rfl)) ?_
  refine hvq (i := 3) (fuel := 9) rfl (fun _ _ _ h => h) (Mod.refl _ _) rfl (v := .pointer (some ⟨lb, 0, none⟩)) (fun _ uz => r_fieldAddr (u := .pointer (some ⟨lb, 0, none⟩)) (by kernel_rfl) (fun _ => (by kernel_rfl))) ?_
  refine hvq (i := 5) (fuel := 8) rfl (fun _ _ _ h => h) (Mod.refl _ _) rfl (v := .int .i64 (i : Int)) (fun _ uz => r_load (k := 0) (by kernel_rfl) Ty.ag3 (md_ob uz n2 hbi1) (by kernel_rfl)) ?_
  refine hvq (i := 6) (fuel := 7) rfl (fun _ _ _ h => h) (Mod.refl _ _) rfl (v := .agg (opC o (.slice dA dn dc)).toArray) (fun _ uz => r_loads (k := 0) (by kernel_rfl) Ty.ag38 Ty.sz38 (md_ob uz n3 hbo1) (by kernel_rfl)) ?_
  refine hvq (i := 7) (fuel := 6) rfl (fun _ _ _ h => h) (Mod.refl _ _) rfl (v := .agg (spC (newStep o) (.slice dA dn dc, .slice none 0 0)).toArray) (fun _ uz => r_build (ps := [(0, .agg (opC o (.slice dA dn dc)).toArray)]) (cs := (spC (newStep o) (.slice dA dn dc, .slice none 0 0))) Ty.un73 Ty.zv73 Ty.pl73 (by kernel_rfl) (by kernel_rfl)) ?_
  refine h2 (i := 4) (j := 8) (fuel := 5) (by kernel_rfl) rfl rfl ?_ ?_
  · refine sv rfl (v := .slice A n c) (r_load (k := 0) (by kernel_rfl) Ty.ag64 hlb1 (by kernel_rfl)) ?_
    refine hx (Y := lb :: own) (Mod.refl _ _) (fun y hy => .inl hy) ?_
    refine h1 (i := 8) (fuel := 4) (by kernel_rfl) rfl (sn rfl (cs := (spC (newStep o) (.slice dA dn dc, .slice none 0 0)).toArray) (T := 73) (V := fun b => .slice (some ⟨b, 0, none⟩) 1 1) (r_buildSlice (n := 1) (ps := [(0, .agg (spC (newStep o) (.slice dA dn dc, .slice none 0 0)).toArray)]) Ty.un64 Ty.sz73 Ty.zv73 (by decide) (by decide) (by kernel_rfl) (by kernel_rfl)) ?_)
    intro vb w2 e2 hv u2
    refine hx (Y := lb :: own) (Mod.of_up u2) (fun y hy => .inl hy) ?_
    refine h1 (i := 9) (fuel := 3) (by kernel_rfl) rfl (sc rfl (r_callv (caps := []) (all := [.slice A n c, .int .i64 (i : Int), .slice (some ⟨vb, 0, none⟩) 1 1]) En.f38 (by kernel_rfl) (by kernel_rfl)) (insert_at (x := newStep o) (dv := (.slice dA dn dc, .slice none 0 0)) (PRow.up hp1 u2) hv ⟨hd1.up u2, Dat.nil _ _⟩ hi hlen hBb (Nat.le_trans hbase (Nat.le_trans u1.size u2.size)) (fun g e h => by
        have := (hp1.own g (by rw [e]; rfl)).2
        omega)) ?_)
    rintro e w3 ⟨A', c', rfl, hp3, hg3, ho3⟩
    refine ⟨_, rfl, ?_⟩
    have hm3 : Mod own w2 w3 := by rw [eown]; exact mod_own hg3
    have hlb3 := md_ob hm3 n4 (up_ob u2 hlb1)
    refine hx (Y := lb :: own) (Mod.of_mod hm3 (fun y hy => List.mem_cons_of_mem _ hy)) (fun y hy => .inl hy) ?_
    refine hvq (i := 10) (fuel := 2) rfl (fun _ _ _ h => h) (Mod.refl _ _) rfl (v := .pointer (some ⟨lb, 0, none⟩)) (fun _ uz => r_nilCheck (by kernel_rfl)) ?_
    refine hvq (i := 11) (fuel := 1) rfl (fun _ _ _ h => h) (Mod.refl _ _) rfl (v := .pointer (some ⟨lb, 0, none⟩)) (fun _ uz => r_fieldAddr (u := .pointer (some ⟨lb, 0, none⟩)) (by kernel_rfl) (fun _ => (by kernel_rfl))) ?_
    refine h1 (i := 12) (fuel := 0) (by kernel_rfl) rfl (ss rfl (k := 0) (v := .slice A' (S.take i ++ [newStep o] ++ S.drop i).length c') (vs := [.slice A' (S.take i ++ [newStep o] ++ S.drop i).length c']) (cs' := [.slice A' (S.take i ++ [newStep o] ++ S.drop i).length c', .pointer (some ⟨tb, 0, none⟩)]) (by kernel_rfl) (by kernel_rfl) rfl Ty.sz64 hlb3 rfl (Nat.le_of_ble_eq_true rfl) rfl ?_)
    intro w4 hlb4 c4
    refine hx (Y := []) (Mod.of_chg c4 (by simp)) (by simp) ?_
    refine hend (by kernel_rfl) ?_
    refine bodyPost_end (v := .tuple #[]) (res0 rfl) (by kernel_rfl) ?_
    refine ⟨rfl, A', c', hlb4, PRow.chgn hp3 c4 ⟨hBl, NotU8.of hlb3 (by decide)⟩ (PRow.neT hp3 hlb3 (by decide)), ?_, ?_⟩
    · exact Mod.trans (Mod.of_up (up_up u1 u2)) (Mod.trans (Mod.of_mod hm3 (fun y hy => List.mem_cons_of_mem _ hy)) (Mod.of_chg c4 (by simp)))
    · intro g hg
      rcases ho3 g hg with h | h
      · left; rw [eown]; simp [h]
      · right; exact Nat.le_trans (Nat.le_trans u1.size u2.size) h
  · refine sn rfl (cs := (spC (newStep o) (.slice dA dn dc, .slice none 0 0)).toArray) (T := 73) (V := fun b => .slice (some ⟨b, 0, none⟩) 1 1) (r_buildSlice (n := 1) (ps := [(0, .agg (spC (newStep o) (.slice dA dn dc, .slice none 0 0)).toArray)]) Ty.un64 Ty.sz73 Ty.zv73 (by decide) (by decide) (by kernel_rfl) (by kernel_rfl)) ?_
    intro vb w2 e2 hv u2
    refine hx (Y := lb :: own) (Mod.of_up u2) (fun y hy => .inl hy) ?_
    refine h1 (i := 4) (fuel := 4) (by kernel_rfl) rfl (sv rfl (v := .slice A n c) (r_load (k := 0) (by kernel_rfl) Ty.ag64 (up_ob u2 hlb1) (by kernel_rfl)) ?_)
    refine hx (Y := lb :: own) (Mod.refl _ _) (fun y hy => .inl hy) ?_
    refine h1 (i := 9) (fuel := 3) (by kernel_rfl) rfl (sc rfl (r_callv (caps := []) (all := [.slice A n c, .int .i64 (i : Int), .slice (some ⟨vb, 0, none⟩) 1 1]) En.f38 (by kernel_rfl) (by kernel_rfl)) (insert_at (x := newStep o) (dv := (.slice dA dn dc, .slice none 0 0)) (PRow.up hp1 u2) hv ⟨hd1.up u2, Dat.nil _ _⟩ hi hlen hBb (Nat.le_trans hbase (Nat.le_trans u1.size u2.size)) (fun g e h => by
        have := (hp1.own g (by rw [e]; rfl)).2
        omega)) ?_)
    rintro e w3 ⟨A', c', rfl, hp3, hg3, ho3⟩
    refine ⟨_, rfl, ?_⟩
    have hm3 : Mod own w2 w3 := by rw [eown]; exact mod_own hg3
    have hlb3 := md_ob hm3 n4 (up_ob u2 hlb1)
    refine hx (Y := lb :: own) (Mod.of_mod hm3 (fun y hy => List.mem_cons_of_mem _ hy)) (fun y hy => .inl hy) ?_
    refine hvq (i := 10) (fuel := 2) rfl (fun _ _ _ h => h) (Mod.refl _ _) rfl (v := .pointer (some ⟨lb, 0, none⟩)) (fun _ uz => r_nilCheck (by kernel_rfl)) ?_
    refine hvq (i := 11) (fuel := 1) rfl (fun _ _ _ h => h) (Mod.refl _ _) rfl (v := .pointer (some ⟨lb, 0, none⟩)) (fun _ uz => r_fieldAddr (u := .pointer (some ⟨lb, 0, none⟩)) (by kernel_rfl) (fun _ => (by kernel_rfl))) ?_
    refine h1 (i := 12) (fuel := 0) (by kernel_rfl) rfl (ss rfl (k := 0) (v := .slice A' (S.take i ++ [newStep o] ++ S.drop i).length c') (vs := [.slice A' (S.take i ++ [newStep o] ++ S.drop i).length c']) (cs' := [.slice A' (S.take i ++ [newStep o] ++ S.drop i).length c', .pointer (some ⟨tb, 0, none⟩)]) (by kernel_rfl) (by kernel_rfl) rfl Ty.sz64 hlb3 rfl (Nat.le_of_ble_eq_true rfl) rfl ?_)
    intro w4 hlb4 c4
    refine hx (Y := []) (Mod.of_chg c4 (by simp)) (by simp) ?_
    refine hend (by kernel_rfl) ?_
    refine bodyPost_end (v := .tuple #[]) (res0 rfl) (by kernel_rfl) ?_
    refine ⟨rfl, A', c', hlb4, PRow.chgn hp3 c4 ⟨hBl, NotU8.of hlb3 (by decide)⟩ (PRow.neT hp3 hlb3 (by decide)), ?_, ?_⟩
    · exact Mod.trans (Mod.of_up (up_up u1 u2)) (Mod.trans (Mod.of_mod hm3 (fun y hy => List.mem_cons_of_mem _ hy)) (Mod.of_chg c4 (by simp)))
    · intro g hg
      rcases ho3 g hg with h | h
      · left; rw [eown]; simp [h]
      · right; exact Nat.le_trans (Nat.le_trans u1.size u2.size) h
set_option maxHeartbeats 4000000 in
theorem remC_at {B base : Nat} {w : World} {bl bi lb tb i n c : Nat} {A : Option Addr} {S : List StepD} (hbl : w.heap[bl]? = some (.cells #[.pointer (some ⟨lb, 0, none⟩)] 25 (0, 0))) (hbi : w.heap[bi]? = some (.cells #[.int .i64 (i : Int)] 3 (0, 0)))
    (hlb : w.heap[lb]? = some (.cells #[.slice A n c, .pointer (some ⟨tb, 0, none⟩)] 66 (0, 0))) (hp : PRow 73 B base w (.slice A n c) S) (hi : i < S.length) (hlen : S.length ≤ 100000) (hBb : B ≤ base) (hBl : B ≤ lb) :
    Calls Tryz.prog 40 #[.pointer (some ⟨bl, 0, none⟩), .pointer (some ⟨bi, 0, none⟩)] w fun e w' => e = .returned (.tuple #[]) ∧ ∃ A' c', w'.heap[lb]? = some (.cells #[.slice A' (S.take i ++ S.drop (i + 1)).length c', .pointer (some ⟨tb, 0, none⟩)] 66 (0, 0)) ∧ PRow 73 B base w' (.slice A' (S.take i ++ S.drop (i + 1)).length c') (S.take i ++ S.drop (i + 1)) ∧ Mod (lb :: (Value.ownBlock (.slice A n c)).toList) w w' ∧ ∀ g, Value.ownBlock (.slice A' (S.take i ++ S.drop (i + 1)).length c') = some g → g ∈ lb :: (Value.ownBlock (.slice A n c)).toList ∨ w.heap.size ≤ g := by
  obtain ⟨own, eown⟩ : ∃ own, own = (Value.ownBlock (.slice A n c)).toList := ⟨_, rfl⟩
  rw [← eown]
  have hl := (PRow.addr hp).1
  have hSl : (S.take i ++ S.drop (i + 1)).length = n - 1 := by simp; omega
  have hno : ∀ b cs T fr, w.heap[b]? = some (.cells cs T fr) → 73 ≠ T → b ∉ own := fun b cs T fr h hT hm => PRow.neT hp h hT (by rw [eown] at hm; simpa using hm)
  have hne : ∀ b cs T fr, w.heap[b]? = some (.cells cs T fr) → T ≠ 66 → b ≠ lb := fun b cs T fr h hT e => by rw [e, hlb] at h; injection h with h; injection h with _ h _; exact hT h.symm
  have n1 : bl ∉ lb :: own := ninc (hne _ _ _ _ hbl (by decide)) (hno _ _ _ _ hbl (by decide))
  have n2 : bi ∉ lb :: own := ninc (hne _ _ _ _ hbi (by decide)) (hno _ _ _ _ hbi (by decide))
  have n4 : lb ∉ own := hno _ _ _ _ hlb (by decide)
  go_enter Tryz.func40, Tryz.ntmps40
  refine rg_held (lb :: own) (n := 12) (by kernel_rfl) rfl ?_
  intro w1 u1
  have hbl1 := up_ob u1 hbl
  have hbi1 := up_ob u1 hbi
  have hlb1 := up_ob u1 hlb
  have hp1 := PRow.up hp u1
  refine hvq (i := 0) (fuel := 11) rfl (fun _ _ _ h => h) (Mod.refl _ _) rfl (v := .pointer (some ⟨lb, 0, none⟩)) (fun _ uz => r_load (k := 0) (by kernel_rfl) Ty.ag25 (md_ob uz n1 hbl1) (by kernel_rfl)) ?_
  refine hvq (i := 1) (fuel := 10) rfl (fun _ _ _ h => h) (Mod.refl _ _) rfl (v := .pointer (some ⟨lb, 0, none⟩)) (fun _ uz => r_load (k := 0) (by kernel_rfl) Ty.ag25 (md_ob uz n1 hbl1) (by kernel_rfl)) ?_
  refine hvq (i := 2) (fuel := 9) rfl (fun _ _ _ h => h) (Mod.refl _ _) rfl (v := .pointer (some ⟨lb, 0, none⟩)) (fun _ uz => r_nilCheck (by kernel_rfl)) ?_
  refine hvq (i := 3) (fuel := 8) rfl (fun _ _ _ h => h) (Mod.refl _ _) rfl (v := .pointer (some ⟨lb, 0, none⟩)) (fun _ uz => r_fieldAddr (u := .pointer (some ⟨lb, 0, none⟩)) (by kernel_rfl) (fun _ => (by kernel_rfl))) ?_
  refine hvq (i := 5) (fuel := 7) rfl (fun _ _ _ h => h) (Mod.refl _ _) rfl (v := .int .i64 (i : Int)) (fun _ uz => r_load (k := 0) (by kernel_rfl) Ty.ag3 (md_ob uz n2 hbi1) (by kernel_rfl)) ?_
  refine hvq (i := 6) (fuel := 6) rfl (fun _ _ _ h => h) (Mod.refl _ _) rfl (v := .int .i64 (i : Int)) (fun _ uz => r_load (k := 0) (by kernel_rfl) Ty.ag3 (md_ob uz n2 hbi1) (by kernel_rfl)) ?_
  refine hvq (i := 7) (fuel := 5) rfl (fun _ _ _ h => h) (Mod.refl _ _) rfl (v := .int .i64 ((i + 1 : Nat) : Int)) (fun _ uz => r_add (k := .i64) (m := (i : Int)) (n := 1) (c := ((i + 1 : Nat) : Int)) (by kernel_rfl) (by kernel_rfl) ((IntWalk.i64_in _ (by omega)).trans (by omega))) ?_
  refine h1 (i := 4) (fuel := 4) (by kernel_rfl) rfl (sv rfl (v := .slice A n c) (r_load (k := 0) (by kernel_rfl) Ty.ag64 hlb1 (by kernel_rfl)) ?_)
  refine hx (Y := lb :: own) (Mod.refl _ _) (fun y hy => .inl hy) ?_
  refine h1 (i := 8) (fuel := 3) (by kernel_rfl) rfl (sc rfl (r_callv (caps := []) (all := [.slice A n c, .int .i64 (i : Int), .int .i64 ((i + 1 : Nat) : Int)]) En.f41 (by kernel_rfl) (by kernel_rfl)) (delete_at hp1 hi hlen hBb) ?_)
  rintro e w3 ⟨rfl, hp3, hg3⟩
  refine ⟨_, rfl, ?_⟩
  have hm3 : Mod own w1 w3 := by rw [eown]; exact mod_own hg3
  have hlb3 := md_ob hm3 n4 hlb1
  refine hx (Y := lb :: own) (Mod.of_mod hm3 (fun y hy => List.mem_cons_of_mem _ hy)) (fun y hy => .inl hy) ?_
  refine hvq (i := 9) (fuel := 2) rfl (fun _ _ _ h => h) (Mod.refl _ _) rfl (v := .pointer (some ⟨lb, 0, none⟩)) (fun _ uz => r_nilCheck (by kernel_rfl)) ?_
  refine hvq (i := 10) (fuel := 1) rfl (fun _ _ _ h => h) (Mod.refl _ _) rfl (v := .pointer (some ⟨lb, 0, none⟩)) (fun _ uz => r_fieldAddr (u := .pointer (some ⟨lb, 0, none⟩)) (by kernel_rfl) (fun _ => (by kernel_rfl))) ?_
  refine h1 (i := 11) (fuel := 0) (by kernel_rfl) rfl (ss rfl (k := 0) (v := .slice A (n - 1) c) (vs := [.slice A (n - 1) c]) (cs' := [.slice A (n - 1) c, .pointer (some ⟨tb, 0, none⟩)]) (by kernel_rfl) (by kernel_rfl) rfl Ty.sz64 hlb3 rfl (Nat.le_of_ble_eq_true rfl) rfl ?_)
  intro w4 hlb4 c4
  refine hx (Y := []) (Mod.of_chg c4 (by simp)) (by simp) ?_
  refine hend (by kernel_rfl) ?_
  refine bodyPost_end (v := .tuple #[]) (res0 rfl) (by kernel_rfl) ?_
  refine ⟨rfl, A, c, by rw [hSl]; exact hlb4, by rw [hSl]; exact PRow.chgn hp3 c4 ⟨hBl, NotU8.of hlb3 (by decide)⟩ (PRow.neT hp3 hlb3 (by decide)), ?_, ?_⟩
  · exact Mod.trans (Mod.of_up u1) (Mod.trans (Mod.of_mod hm3 (fun y hy => List.mem_cons_of_mem _ hy)) (Mod.of_chg c4 (by simp)))
  · intro g hg
    left; rw [eown]
    have : Value.ownBlock (.slice A n c) = some g := (ownB _ _ _ _ _).trans hg
    simp [this]
end Go.Proofs.YtefhfoioeoijlaaGreat

namespace Go.Proofs.YtefhfoioeoijlaaGreat
open Go Go.RowKit Go.Sort
def LogStep (B : Nat) (w w' : World) (lb tb r : Nat) (v : Value) (ops : List OpD) : Prop :=
  ∃ v', LogIs B w' lb tb r v' ops ∧ Mod (r :: lb :: v.ownBlock.toList) w w' ∧ ∀ g, v'.ownBlock = some g → v.ownBlock = some g ∨ w.heap.size ≤ g
theorem LogStep.same {B : Nat} {w w' : World} {lb tb r : Nat} {v : Value} {ops ops' : List OpD} (h : LogIs B w lb tb r v ops) (u : Up w w') (e : ops' = ops) : LogStep B w w' lb tb r v ops' := by
  subst e; exact ⟨v, h.up u, Mod.of_up u, fun g hg => .inl hg⟩
theorem LogStep.up {B : Nat} {w w' w'' : World} {lb tb r : Nat} {v : Value} {ops : List OpD} (h : LogStep B w w' lb tb r v ops) (u : Up w' w'') : LogStep B w w'' lb tb r v ops := by
  obtain ⟨v', h1, h2, h3⟩ := h
  exact ⟨v', h1.up u, Mod.trans h2 (Mod.of_up u), h3⟩
def afterN (ops : List OpD) (m : Stamp) : Nat := (ops.filter fun x => ltS m x.at_).length
def ansI (ops : List OpD) (o : OpD) (nn kk : Int) : Prop := if rightB o = false then nn = 0 ∧ kk = 1 else if hasL ops o.at_ = true then nn = 0 ∧ kk = 8 else nn = (afterN ops o.at_ : Int) ∧ kk = 0
def ansR (ops : List OpD) (m : Stamp) (nn kk : Int) : Prop := if hasL ops m = true then nn = (afterN ops m : Int) ∧ kk = 0 else nn = 0 ∧ kk = 12
theorem ans_bad {ops : List OpD} {o : OpD} (h : rightB o = false) : ansI ops o 0 1 := by unfold ansI; rw [if_pos h]; exact ⟨rfl, rfl⟩
theorem ans_rep {ops : List OpD} {o : OpD} (h : rightB o = true) (k : hasL ops o.at_ = true) : ansI ops o 0 8 := by unfold ansI; rw [if_neg (by rw [h]; decide), if_pos k]; exact ⟨rfl, rfl⟩
theorem ans_not {ops : List OpD} {m : Stamp} (k : hasL ops m = false) : ansR ops m 0 12 := by unfold ansR; rw [if_neg (by rw [k]; decide)]; exact ⟨rfl, rfl⟩
theorem after_take {ops : List OpD} {m : Stamp} {i : Nat} (hs : SrtO ops) (h : Seek (recAll [] ops) m i i) : (ops.take i).filter (fun x => ltS m x.at_) = [] := by
  rw [List.filter_eq_nil_iff]
  intro x hx
  obtain ⟨j, hj⟩ := List.mem_iff_getElem?.1 hx
  rw [List.getElem?_take] at hj
  split at hj
  · have := seek_lt hs h (by assumption) hj
    rw [ltS_asymm this]; decide
  · cases hj
theorem after_cut (ops : List OpD) (m : Stamp) (i : Nat) : afterN ops m = ((ops.take i).filter (fun x => ltS m x.at_)).length + ((ops.drop i).filter (fun x => ltS m x.at_)).length := by
  unfold afterN
  rw [← List.length_append, ← List.filter_append, List.take_append_drop]
theorem after_in {ops : List OpD} {m : Stamp} {i : Nat} (hs : SrtO ops) (h : Found (recAll [] ops) m i false) : afterN ops m = ops.length - i := by
  have h2 : (ops.drop i).filter (fun x => ltS m x.at_) = ops.drop i := by
    rw [List.filter_eq_self]
    intro x hx
    obtain ⟨j, hj⟩ := List.mem_iff_getElem?.1 hx
    rw [List.getElem?_drop] at hj
    by_cases e : j = 0
    · subst e
      have hne := hasL_no.1 (found_no hs h) x (List.mem_of_getElem? hj)
      obtain ⟨_, _, _, h1 | ⟨s, h1, h2⟩⟩ := h.1
      · have := (List.getElem?_eq_some_iff.1 hj).1; rw [recAll_len] at h1; omega
      · have h3 := rec_at h1
        rw [show i + 0 = i by omega, h3] at hj; injection hj with hj
        rw [hj] at h2
        rcases hlt : ltS m x.at_ with _ | _
        · exact absurd (ltS_tri h2 hlt) hne
        · rfl
    · exact seek_ge hs h.1 (by omega) hj
  rw [after_cut ops m i, after_take hs h.1, h2]; simp
theorem after_out {ops : List OpD} {m : Stamp} {i : Nat} (hs : SrtO ops) (h : Found (recAll [] ops) m i true) : afterN ops m = ops.length - (i + 1) := by
  obtain ⟨x, hx, e⟩ := found_at h
  obtain ⟨hi, hx2⟩ := List.getElem?_eq_some_iff.1 hx
  have h2 : (ops.drop i).filter (fun x => ltS m x.at_) = ops.drop (i + 1) := by
    rw [List.drop_eq_getElem_cons hi, hx2, List.filter_cons, if_neg (by rw [e, ltS_irrefl]; decide), List.filter_eq_self]
    intro y hy
    obtain ⟨j, hj⟩ := List.mem_iff_getElem?.1 hy
    rw [List.getElem?_drop] at hj
    exact seek_ge hs h.1 (by omega) hj
  rw [after_cut ops m i, after_take hs h.1, h2]; simp
theorem ans_ok {ops : List OpD} {o : OpD} {i : Nat} {z : Int} (hr : rightB o = true) (hs : SrtO ops) (h : Found (recAll [] ops) o.at_ i false) (hz : z = ((recAll [] ops).length : Int) - (i : Int)) : ansI ops o z 0 := by
  have hi := found_le h
  have hl := recAll_len ops []
  unfold ansI
  rw [if_neg (by rw [hr]; decide), if_neg (by rw [found_no hs h]; decide)]
  rw [after_in hs h, hz]
  exact ⟨by omega, rfl⟩
theorem ans_gone {ops : List OpD} {m : Stamp} {i : Nat} {z : Int} {S2 : List StepD} (hs : SrtO ops) (h : Found (recAll [] ops) m i true) (e : S2 = (recAll [] ops).take i ++ (recAll [] ops).drop (i + 1)) (hz : z = (S2.length : Int) - (i : Int)) : ansR ops m z 0 := by
  obtain ⟨x, hx, _⟩ := found_at h
  have hi := (List.getElem?_eq_some_iff.1 hx).1
  have hl := recAll_len ops []
  unfold ansR
  rw [if_pos (found_has hs h).symm, after_out hs h, hz, e]
  refine ⟨?_, rfl⟩
  simp only [List.length_append, List.length_take, List.length_drop]; omega
theorem names_ins {ops : List OpD} {o : OpD} {i : Nat} (h : ∀ x ∈ ops, x.name.size ≤ 9223372036854775807) (ho : o.name.size ≤ 9223372036854775807) : ∀ s ∈ (recAll [] ops).take i ++ [newStep o] ++ (recAll [] ops).drop i, s.o.name.size ≤ 9223372036854775807 := by
  have hall : ∀ s ∈ recAll [] ops, s.o.name.size ≤ 9223372036854775807 := fun s hs => h s.o (by rw [← recAll_ops ops []]; exact List.mem_map.2 ⟨s, hs, rfl⟩)
  intro s hs
  simp only [List.mem_append, List.mem_singleton] at hs
  rcases hs with (hs | rfl) | hs
  · exact hall s (List.mem_of_mem_take hs)
  · exact ho
  · exact hall s (List.mem_of_mem_drop hs)
theorem names_rem {ops : List OpD} {i : Nat} (h : ∀ x ∈ ops, x.name.size ≤ 9223372036854775807) : ∀ s ∈ (recAll [] ops).take i ++ (recAll [] ops).drop (i + 1), s.o.name.size ≤ 9223372036854775807 := by
  have hall : ∀ s ∈ recAll [] ops, s.o.name.size ≤ 9223372036854775807 := fun s hs => h s.o (by rw [← recAll_ops ops []]; exact List.mem_map.2 ⟨s, hs, rfl⟩)
  intro s hs
  rcases List.mem_append.1 hs with hs | hs
  · exact hall s (List.mem_of_mem_take hs)
  · exact hall s (List.mem_of_mem_drop hs)
theorem foot_lt {T : TypeId} {B base : Nat} {w : World} {lb : Nat} {v : Value} {L : List StepD} {o : Obj} (h : w.heap[lb]? = some o) (hp : PRow T B base w v L) : ∀ x ∈ lb :: v.ownBlock.toList, x < w.heap.size := by
  intro x hx
  rcases List.mem_cons.1 hx with rfl | hx
  · exact lt_ob h
  · exact (hp.own x (by simpa using hx)).2
theorem foot_ok {B base tb r lb : Nat} {w : World} {v : Value} {M : List Item} {S : List StepD} {cs : Array Value} {fr : Nat × Nat} (hlb : w.heap[lb]? = some (.cells cs 66 fr)) (hT : TreeIs B w tb r M) (hp : PRow 73 B base w v S) (hBb : B ≤ base) (hBl : B ≤ lb) :
    (∀ x ∈ lb :: v.ownBlock.toList, B ≤ x ∧ NotU8 w x) ∧ tb ∉ lb :: v.ownBlock.toList ∧ r ∉ lb :: v.ownBlock.toList := by
  obtain ⟨es, cl, xs, hr, _⟩ := hT.2.2.2.1
  refine ⟨fun x hx => ?_, ninc (fun e => ?_) (fun hm => PRow.neT hp hT.1 (by decide) (by simpa using hm)), ninc (fun e => ?_) (fun hm => ?_)⟩
  · rcases List.mem_cons.1 hx with rfl | hx
    · exact ⟨hBl, NotU8.of hlb (by decide)⟩
    · have hx : v.ownBlock = some x := by simpa using hx
      obtain ⟨ds, _, _, ⟨e, _⟩ | ⟨g, cap, cur, e, hb, hg, _⟩⟩ := hp
      · rw [e] at hx; cases hx
      · rw [e] at hx; injection hx with hx; subst hx
        exact ⟨Nat.le_trans hBb hb, NotU8.of hg (by decide)⟩
  · have h0 := hT.1
    rw [e, hlb] at h0; injection h0 with h0; injection h0 with _ h0 _; exact absurd h0 (by decide)
  · rw [e, hlb] at hr; cases hr
  · have hx : v.ownBlock = some r := by simpa using hm
    obtain ⟨ds, _, _, ⟨e, _⟩ | ⟨g, cap, cur, e, hb, hg, _⟩⟩ := hp
    · rw [e] at hx; cases hx
    · rw [e] at hx; injection hx with hx; subst hx
      have hg : w.heap[g]? = some (.cells cur 73 (0, 0)) := hg
      exact absurd (hr.symm.trans hg) (by simp)
/-- What how() leaves alone: the tree. -/
theorem how_tree {P : Program} {B tb r lb fk n c : Nat} {A : Option Addr} {W : World} {args : Array Value} {M : List Item} {S S' : List StepD} (hlb : W.heap[lb]? = some (.cells #[.slice A n c, .pointer (some ⟨tb, 0, none⟩)] 66 (0, 0))) (hT : TreeIs B W tb r M) (hp : PRow 73 B B W (.slice A n c) S) (hBl : B ≤ lb)
    (h : Calls P fk args W fun e w' => e = .returned (.tuple #[]) ∧ ∃ A' c', w'.heap[lb]? = some (.cells #[.slice A' S'.length c', .pointer (some ⟨tb, 0, none⟩)] 66 (0, 0)) ∧ PRow 73 B B w' (.slice A' S'.length c') S' ∧ Mod (lb :: (Value.ownBlock (.slice A n c)).toList) W w' ∧ ∀ g, Value.ownBlock (.slice A' S'.length c') = some g → g ∈ lb :: (Value.ownBlock (.slice A n c)).toList ∨ W.heap.size ≤ g) :
    Calls P fk args W fun e w' => e = .returned (.tuple #[]) ∧ ∃ A' c', w'.heap[lb]? = some (.cells #[.slice A' S'.length c', .pointer (some ⟨tb, 0, none⟩)] 66 (0, 0)) ∧ PRow 73 B B w' (.slice A' S'.length c') S' ∧ TreeIs B w' tb r M ∧ Mod (lb :: (Value.ownBlock (.slice A n c)).toList) W w' ∧ ∀ g, Value.ownBlock (.slice A' S'.length c') = some g → g ∈ lb :: (Value.ownBlock (.slice A n c)).toList ∨ W.heap.size ≤ g := by
  obtain ⟨h1, h2, h3⟩ := foot_ok hlb hT hp (Nat.le_refl _) hBl
  exact h.mono fun e w' ⟨e1, A', c', k1, k2, k3, k4⟩ => ⟨e1, A', c', k1, k2, hT.mod k3 h1 h2 h3, k3, k4⟩
theorem doI_one (L : List Item) (o : OpD) : (doI L o).2.length ≤ L.length + 1 := by
  unfold doI
  split
  · exact Nat.le_succ _
  · split
    · exact Nat.le_succ _
    · show (if _ then _ else _ : List Item).length ≤ _
      split
      · exact putI_length
      · exact Nat.le_succ _
theorem play_one : ∀ (ops : List OpD) (L : List Item), (ops.foldl playI L).length ≤ L.length + ops.length
  | [], L => Nat.le_refl _
  | o :: ops, L => by
    have h1 := play_one ops (playI L o)
    have h2 : (playI L o).length ≤ L.length + 1 := doI_one L o
    rw [List.foldl_cons, List.length_cons]; omega
theorem rec_did : ∀ (ops : List OpD) (L : List Item), Srt L → ∀ s ∈ recAll L ops, s.did = true → stR s.was.node = true
  | [], _, _, s, hs, _ => by simp [recAll] at hs
  | o :: ops, L, hL, s, hs, hd => by
    simp only [recAll, List.mem_cons] at hs
    rcases hs with rfl | hs
    · have hk : (doI L o).1.2.2 = 0 := by simpa [recS] using hd
      obtain ⟨h1, h2, h3, _⟩ := undo_is hL hk
      have hr : stR o.node = true := by
        rcases hx : stR o.node with _ | _
        · rw [right_f2 o hx] at h3; cases h3
        · rfl
      unfold recS
      simp only
      split
      · rename_i h
        rw [h2, gotI_node (h1.symm.trans h)]; exact hr
      · exact hr
    · exact rec_did ops (playI L o) (doI_srt hL) s hs hd
theorem split_ins (ops : List OpD) (o : OpD) {i : Nat} (hi : i ≤ ops.length) :
    opsFrom ((recAll [] ops).take i ++ [newStep o] ++ (recAll [] ops).drop i) i = o :: ops.drop i ∧ ((recAll [] ops).take i ++ [newStep o] ++ (recAll [] ops).drop i).take i = recAll [] (ops.take i) := by
  have hl : ((recAll [] ops).take i).length = i := by rw [List.length_take, recAll_len]; omega
  constructor
  · unfold opsFrom
    rw [List.append_assoc, List.drop_append_of_le_length (by omega), List.drop_of_length_le (by omega)]
    simp only [List.nil_append, List.singleton_append, List.map_cons, List.map_drop, recAll_ops]
    rfl
  · rw [List.append_assoc, List.take_append_of_le_length (by omega), List.take_of_length_le (by omega), recAll_take]
theorem split_rem (ops : List OpD) {i : Nat} (hi : i < ops.length) :
    opsFrom ((recAll [] ops).take i ++ (recAll [] ops).drop (i + 1)) i = ops.drop (i + 1) ∧ ((recAll [] ops).take i ++ (recAll [] ops).drop (i + 1)).take i = recAll [] (ops.take i) := by
  have hl : ((recAll [] ops).take i).length = i := by rw [List.length_take, recAll_len]; omega
  constructor
  · unfold opsFrom
    rw [List.drop_append_of_le_length (by omega), List.drop_of_length_le (by omega)]
    simp only [List.nil_append, List.map_drop, recAll_ops]
  · rw [List.take_append_of_le_length (by omega), List.take_of_length_le (by omega), recAll_take]
theorem play_app (p q : List OpD) : q.foldl playI (playA p) = playA (p ++ q) := by unfold playA; rw [List.foldl_append]
theorem rec_app (p q : List OpD) : recAll [] p ++ recAll (playA p) q = recAll [] (p ++ q) := (recAll_app p q []).symm
theorem ins_end {B : Nat} {w w' : World} {lb tb r i : Nat} {v A' : Option Addr} {n c c' : Nat} {ops : List OpD} {o : OpD} (h : LogIs B w lb tb r (.slice v n c) ops) (hf : Found (recAll [] ops) o.at_ i false) (hr : rightB o = true) (hname : o.name.size ≤ 9223372036854775807) {S' : List StepD} (hS : S' = (recAll [] ops).take i ++ [newStep o] ++ (recAll [] ops).drop i)
    (k1 : w'.heap[lb]? = some (.cells #[.slice A' S'.length c', .pointer (some ⟨tb, 0, none⟩)] 66 (0, 0))) (k2 : TreeIs B w' tb r ((opsFrom S' i).foldl playI (((recAll [] ops).drop i).reverse.foldl undoS (playA ops))))
    (k3 : PRow 73 B B w' (.slice A' S'.length c') (S'.take i ++ recAll (((recAll [] ops).drop i).reverse.foldl undoS (playA ops)) (opsFrom S' i))) : LogIs B w' lb tb r (.slice A' S'.length c') (insL ops o) := by
  obtain ⟨_, _, _, hBl, hso, hnm⟩ := h
  have hi := found_le hf
  obtain ⟨e1, e2⟩ := split_ins ops o hi
  rw [undo_to ops i hi] at k2 k3
  have hins : insL ops o = ops.take i ++ (o :: ops.drop i) := by
    unfold insL
    rw [if_pos (by rw [hr, found_no hso hf]; rfl), found_ins hso hf]; simp
  have e3 : opsFrom S' i = o :: ops.drop i := by rw [hS]; exact e1
  have e4 : S'.take i = recAll [] (ops.take i) := by rw [hS]; exact e2
  rw [e3] at k2 k3
  rw [e4, rec_app] at k3
  rw [play_app] at k2
  have hs := insL_srt (o := o) hso
  rw [hins] at hs ⊢
  refine ⟨k1, k2, k3, hBl, hs, fun x hx => ?_⟩
  rcases List.mem_append.1 hx with hx | hx
  · exact hnm x (List.mem_of_mem_take hx)
  · rcases List.mem_cons.1 hx with rfl | hx
    · exact hname
    · exact hnm x (List.mem_of_mem_drop hx)
theorem rem_end {B : Nat} {w w' : World} {lb tb r i : Nat} {v A' : Option Addr} {n c c' : Nat} {ops : List OpD} {m : Stamp} (h : LogIs B w lb tb r (.slice v n c) ops) (hf : Found (recAll [] ops) m i true) {S' : List StepD} (hS : S' = (recAll [] ops).take i ++ (recAll [] ops).drop (i + 1))
    (k1 : w'.heap[lb]? = some (.cells #[.slice A' S'.length c', .pointer (some ⟨tb, 0, none⟩)] 66 (0, 0))) (k2 : TreeIs B w' tb r ((opsFrom S' i).foldl playI (((recAll [] ops).drop i).reverse.foldl undoS (playA ops))))
    (k3 : PRow 73 B B w' (.slice A' S'.length c') (S'.take i ++ recAll (((recAll [] ops).drop i).reverse.foldl undoS (playA ops)) (opsFrom S' i))) : LogIs B w' lb tb r (.slice A' S'.length c') (remL ops m) := by
  obtain ⟨_, _, _, hBl, hso, hnm⟩ := h
  obtain ⟨x, hx, _⟩ := found_at hf
  have hi := (List.getElem?_eq_some_iff.1 hx).1
  obtain ⟨e1, e2⟩ := split_rem ops hi
  rw [undo_to ops i (by omega)] at k2 k3
  have hrem := found_rem hso hf
  have e3 : opsFrom S' i = ops.drop (i + 1) := by rw [hS]; exact e1
  have e4 : S'.take i = recAll [] (ops.take i) := by rw [hS]; exact e2
  rw [e3] at k2 k3
  rw [e4, rec_app] at k3
  rw [play_app] at k2
  have hs := remL_srt (m := m) hso
  rw [hrem] at hs ⊢
  refine ⟨k1, k2, k3, hBl, hs, fun x hx => ?_⟩
  rcases List.mem_append.1 hx with hx | hx
  · exact hnm x (List.mem_of_mem_take hx)
  · exact hnm x (List.mem_of_mem_drop hx)
end Go.Proofs.YtefhfoioeoijlaaGreat

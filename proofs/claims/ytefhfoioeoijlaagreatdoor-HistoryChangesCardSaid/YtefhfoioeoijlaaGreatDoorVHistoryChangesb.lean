/- GRow, Doc, GA0, RefT -/
import Derived.BigQuiet
import Derived.Test.YtefhfoioeoijlaaGreatDoorVaa
import Derived.Test.YtefhfoioeoijlaaGreatDoorVab
import Derived.Test.YtefhfoioeoijlaaGreatDoorVac
import Derived.Test.YtefhfoioeoijlaaGreatDoorVad
import Derived.Test.YtefhfoioeoijlaaGreatDoorVae
import Derived.Test.YtefhfoioeoijlaaGreatDoorVaf
import Derived.Test.YtefhfoioeoijlaaGreatDoorVag
import Derived.Test.YtefhfoioeoijlaaGreatDoorVah
import Derived.Test.YtefhfoioeoijlaaGreatDoorVai
import Derived.Test.YtefhfoioeoijlaaGreatDoorVaj
import Derived.Test.YtefhfoioeoijlaaGreatDoorVak
import Derived.Test.YtefhfoioeoijlaaGreatDoorVal
import Derived.Test.YtefhfoioeoijlaaGreatDoorVam
import Derived.Test.YtefhfoioeoijlaaGreatDoorVan
import Derived.Test.YtefhfoioeoijlaaGreatDoorVao
import Derived.Test.YtefhfoioeoijlaaGreatDoorVap
import Derived.Test.YtefhfoioeoijlaaGreatDoorVaq
import Derived.Test.YtefhfoioeoijlaaGreatDoorVar
import Derived.Test.YtefhfoioeoijlaaGreatDoorVas
import Derived.Test.YtefhfoioeoijlaaGreatDoorVat
import Derived.Test.YtefhfoioeoijlaaGreatDoorVHistoryChangesa
set_option linter.unusedVariables false
set_option linter.unusedSimpArgs false
namespace Go.Proofs.YtefhfoioeoijlaaGreatDoor
open Go Go.RowKit Go.Sort
section
variable {α : Type} {f : α → List Value} {T : TypeId} {sz by_ : Nat}
def GRow (T : TypeId) (f : α → List Value) (sz base : Nat) (w : World) (v : Value) (L : List α) : Prop := w.ownsRow base T sz v L.length (L.flatMap f)
def GSub (f : α → List Value) (w : World) (v : Value) (L : List α) : Prop :=
  ∃ A c, v = .slice A L.length c ∧ (L ≠ [] → ∃ b o, A = some ⟨b, o, none⟩ ∧ b < w.heap.size ∧ ∀ (j : Nat) (u : Value), (L.flatMap f)[j]? = some u → w.cell? ⟨b, o + j, none⟩ = some u)
theorem GSub.up {w w' : World} {v : Value} {L : List α} (h : GSub f w v L) (u : Up w w') : GSub f w' v L := by
  obtain ⟨A, c, rfl, h1⟩ := h
  refine ⟨A, c, rfl, fun hL => ?_⟩
  obtain ⟨b, o, hA, hb, hc⟩ := h1 hL
  exact ⟨b, o, hA, Nat.lt_of_lt_of_le hb u.size, fun j v hj => (u.cell (p := ⟨b, o + j, none⟩) hb).trans (hc j v hj)⟩
theorem flatG_len (e : Enc T f sz by_) : ∀ (L : List α), (L.flatMap f).length = L.length * sz
  | [] => by simp
  | x :: L => by rw [List.flatMap_cons, List.length_append, e.len, flatG_len e L, List.length_cons, Nat.add_mul]; omega
theorem flatG_drop (e : Enc T f sz by_) : ∀ {L : List α} (k : Nat), (L.drop k).flatMap f = (L.flatMap f).drop (k * sz)
  | [], k => by simp
  | x :: L, 0 => by simp
  | x :: L, k + 1 => by
    have ih := flatG_drop e (L := L) k
    rw [List.drop_succ_cons, ih, List.flatMap_cons, show (k + 1) * sz = (f x).length + k * sz by rw [e.len, Nat.add_mul]; omega, List.drop_length_add_append]
theorem flatG_take (e : Enc T f sz by_) : ∀ {L : List α} (k : Nat), (L.take k).flatMap f = (L.flatMap f).take (k * sz)
  | [], k => by simp
  | x :: L, 0 => by simp
  | x :: L, k + 1 => by
    have ih := flatG_take e (L := L) k
    rw [List.take_succ_cons, List.flatMap_cons, ih, List.flatMap_cons, show (k + 1) * sz = (f x).length + k * sz by rw [e.len, Nat.add_mul]; omega, List.take_length_add_append]
theorem flatG_one (e : Enc T f sz by_) {L : List α} : ∀ u ∈ L.flatMap f, u.oneCell' = true := by
  intro u hu
  obtain ⟨x, _, hx⟩ := List.mem_flatMap.1 hu
  exact e.one x u hx
theorem GRow.keep {base : Nat} {w w' : World} {v : Value} {L : List α} (h : GRow T f sz base w v L) {q : Option Nat} (hg : w.grownBy w' q) (hv : v.ownBlock = none ∨ v.ownBlock ≠ q) : GRow T f sz base w' v L := World.ownsRow.kept h hg hv
theorem GRow.up {base : Nat} {w w' : World} {v : Value} {L : List α} (h : GRow T f sz base w v L) (hb : Up w w') : GRow T f sz base w' v L :=
  h.keep (q := none) ⟨hb.os, hb.tape, hb.output, hb.size, fun k hk _ => hb.block k hk⟩ (by cases hv : v.ownBlock <;> simp)
theorem GRow.own {base : Nat} {w : World} {v : Value} {L : List α} (h : GRow T f sz base w v L) : ∀ k, v.ownBlock = some k → base ≤ k ∧ k < w.heap.size := World.ownsRow.lt h
theorem GRow.to {base : Nat} {w : World} {v : Value} {L L' : List α} (h : GRow T f sz base w v L) (e : L = L') : GRow T f sz base w v L' := e ▸ h
theorem GRow.base {base base' : Nat} {w : World} {v : Value} {L : List α} (h : GRow T f sz base w v L) (hb : base' ≤ base) : GRow T f sz base' w v L := by
  obtain ⟨h1, h2⟩ := h
  refine ⟨h1, ?_⟩
  rcases h2 with hn | ⟨g, cap, cur, hv, hbg, rest⟩
  · exact .inl hn
  · exact .inr ⟨g, cap, cur, hv, Nat.le_trans hb hbg, rest⟩
theorem GRow.form {base : Nat} {w : World} {v : Value} {L : List α} (h : GRow T f sz base w v L) : ∃ A c, v = .slice A L.length c := by
  obtain ⟨_, ⟨rfl, h0⟩ | ⟨g, cap, cur, rfl, _⟩⟩ := h
  · exact ⟨none, 0, by rw [h0]⟩
  · exact ⟨_, cap, rfl⟩
theorem GRow.addr {base : Nat} {w : World} {A : Option Addr} {n c : Nat} {L : List α} (h : GRow T f sz base w (.slice A n c) L) : n = L.length ∧ n ≤ c ∧ (A = none ∧ c = 0 ∨ ∃ g, A = some ⟨g, 0, none⟩) := by
  obtain ⟨h1, ⟨e, h0⟩ | ⟨g, cap, cur, e, hb, hg, hc, hm, hcs, htk⟩⟩ := h
  · injection e with e1 e2 e3
    exact ⟨by omega, by omega, .inl ⟨e1, e3⟩⟩
  · injection e with e1 e2 e3
    exact ⟨by omega, by omega, .inr ⟨g, e1⟩⟩
theorem GRow.blk {base : Nat} {w : World} {g n c : Nat} {L : List α} (h : GRow T f sz base w (.slice (some ⟨g, 0, none⟩) n c) L) : n = L.length ∧ n ≤ c ∧ c ≤ maxLen ∧ ∃ cur : Array Value, w.heap[g]? = some (.cells cur T (0, 0)) ∧ cur.size = c * sz := by
  obtain ⟨h1, ⟨e, _⟩ | ⟨g', cap, cur, e, hb, hg, hc, hm, hcs, htk⟩⟩ := h
  · cases e
  · simp only [Value.slice.injEq, Option.some.injEq, Addr.mk.injEq, and_true, true_and] at e
    obtain ⟨rfl, rfl, rfl⟩ := e
    exact ⟨rfl, hc, hm, cur, hg, hcs⟩
theorem GRow.cells {base : Nat} {w : World} {A : Option Addr} {n c : Nat} {L : List α} (h : GRow T f sz base w (.slice A n c) L) (hL : L ≠ []) :
    ∃ g, A = some ⟨g, 0, none⟩ ∧ g < w.heap.size ∧ ∀ (j : Nat) (u : Value), (L.flatMap f)[j]? = some u → w.cell? ⟨g, j, none⟩ = some u := by
  obtain ⟨h1, ⟨e, h0⟩ | ⟨g, cap, cur, e, hb, hg, hc, hm, hcs, htk⟩⟩ := h
  · exact absurd (List.eq_nil_of_length_eq_zero h0) hL
  · injection e with e1 _ _
    refine ⟨g, e1, lt_ob hg, fun j u hj => ?_⟩
    rw [← htk, List.getElem?_take] at hj
    split at hj
    · rw [Array.getElem?_toList] at hj
      simp only [World.cell?, hg]; simpa using hj
    · cases hj
end
section
variable {P : Program} {α : Type} {f : α → List Value} {T : TypeId} {sz by_ : Nat}
theorem GRow.headCut (E : Enc T f sz by_) {base : Nat} {w : World} {A : Option Addr} {n c k : Nat} {L : List α} (h : GRow T f sz base w (.slice A n c) L) (hk : k ≤ n) (t e : TypeId) (hu : P.underlying t = some (.slice e)) (hsz : ∀ w, (sizeOf e).run P w = .ok sz w) :
    GSub f w (.slice A k c) (L.take k) ∧ ∀ (d : Option Tmp) (ty : TypeId) (pos : String) (af : Array Edge) (gd : Option (Nat × Bool)) (ρ : Operand → Value) (x hi : Operand) (W : World), ρ x = .slice A n c → ρ hi = .int .i64 (k : Int) → (execOp ρ ⟨d, .slice t x none (some hi) none, ty, pos, af, gd⟩).run P W = .ok (.value (.slice A k c)) W := by
  obtain ⟨hn, hnc, hA⟩ := h.addr
  refine ⟨⟨A, c, by rw [List.length_take, Nat.min_eq_left (by omega)], fun hL => ?_⟩, ?_⟩
  · have hL' : L ≠ [] := by rintro rfl; simp at hL
    obtain ⟨g, rfl, hg, hc⟩ := h.cells hL'
    refine ⟨g, 0, rfl, hg, fun j u hj => ?_⟩
    rw [flatG_take E k, List.getElem?_take] at hj
    split at hj
    · rw [Nat.zero_add]; exact hc j u hj
    · cases hj
  · intro d ty pos af gd ρ x hi W hx hhi
    have h1 : (0 : Int) ≤ (k : Int) ∧ (k : Int) ≤ (c : Int) := by omega
    rcases hA with ⟨rfl, rfl⟩ | ⟨g, rfl⟩
    · have : k = 0 := by omega
      subst this
      simp [execOp, hx, hhi, Instr.sliceAt, Instr.slice, Instr.sliceBounds, Instr.sliceBound, asIntOf, run_underlying hu, hsz]
    · exact r_sliceHi hx hhi hu hsz (by omega)
theorem GRow.tailCut (E : Enc T f sz by_) {base : Nat} {w : World} {A : Option Addr} {n c k : Nat} {L : List α} (h : GRow T f sz base w (.slice A n c) L) (hk : k ≤ n) (t e : TypeId) (hu : P.underlying t = some (.slice e)) (hsz : ∀ w, (sizeOf e).run P w = .ok sz w) :
    ∃ A', GSub f w (.slice A' (n - k) (c - k)) (L.drop k) ∧ ∀ (d : Option Tmp) (ty : TypeId) (pos : String) (af : Array Edge) (gd : Option (Nat × Bool)) (ρ : Operand → Value) (x lo : Operand) (W : World), ρ x = .slice A n c → ρ lo = .int .i64 (k : Int) → (execOp ρ ⟨d, .slice t x (some lo) none none, ty, pos, af, gd⟩).run P W = .ok (.value (.slice A' (n - k) (c - k))) W := by
  obtain ⟨hn, hnc, hA⟩ := h.addr
  have h1 : (0 : Int) ≤ (k : Int) ∧ (k : Int) ≤ (n : Int) := by omega
  by_cases hkc : k < c
  · rcases hA with ⟨rfl, rfl⟩ | ⟨g, rfl⟩
    · omega
    · refine ⟨some ⟨g, 0 + k * sz, none⟩, ⟨_, _, by rw [List.length_drop, hn], fun hL => ?_⟩, fun d ty pos af gd ρ x lo W hx hlo => r_sliceLo hx hlo hu hsz hk hkc⟩
      have hL' : L ≠ [] := by rintro rfl; simp at hL
      obtain ⟨g', e, hg, hc⟩ := h.cells hL'
      injection e with e; injection e with e _ _
      subst e
      refine ⟨g, 0 + k * sz, rfl, hg, fun j u hj => ?_⟩
      rw [flatG_drop E k, List.getElem?_drop] at hj
      rw [Nat.zero_add]; exact hc _ u hj
  · have hck : c = k := by omega
    refine ⟨A, ⟨_, _, by rw [List.length_drop, hn], fun hL => ?_⟩, fun d ty pos af gd ρ x lo W hx hlo => ?_⟩
    · exact absurd (List.drop_eq_nil_of_le (by omega)) hL
    · simp [execOp, hx, hlo, Instr.sliceAt, Instr.slice, Instr.sliceBounds, Instr.sliceBound, asIntOf, run_underlying hu, hsz, h1, hck, hk]
theorem GSub.one {w : World} {b : Nat} {x : α} {cs : Array Value} (hb : w.heap[b]? = some (.cells cs T (0, 0))) (hcs : cs.toList = f x) : GSub f w (.slice (some ⟨b, 0, none⟩) 1 1) [x] := by
  refine ⟨_, _, rfl, fun _ => ⟨b, 0, rfl, lt_ob hb, fun j u hj => ?_⟩⟩
  simp only [List.flatMap_cons, List.flatMap_nil, List.append_nil] at hj
  rw [← hcs, Array.getElem?_toList] at hj
  rw [Nat.zero_add]
  simp only [World.cell?, hb]; simpa using hj
end
section
variable {α : Type} {f : α → List Value} {T : TypeId} {sz by_ : Nat}
variable {ops : Array Oper} {Q : Exit → Act → World → Prop} {a : Act} {w : World} {J : Act → World → Prop} {d : Option Tmp} {ty : TypeId} {pos : String} {af : Array Edge} {gd : Option (Nat × Bool)} {base : Nat} {L M : List α} {t : TypeId}
theorem litG (hw : Region.wanted (⟨d, .buildSlice t 0 #[], ty, pos, af, gd⟩ : Oper) (yielded ops a.tmps) = true) (ht : Tryz.prog.underlying t = some (.slice T)) (hsz : ∀ w, (sizeOf T).run Tryz.prog w = .ok sz w) (hbase : base ≤ w.heap.size)
    (k : ∀ b w', b = w.heap.size → w'.heap[b]? = some (.cells #[] T (0, 0)) → GRow T f sz base w' (.slice (some ⟨b, 0, none⟩) 0 0) ([] : List α) → Up w w' → J (a.put d (.slice (some ⟨b, 0, none⟩) 0 0)) w') : St1 Tryz.prog ops Q ⟨d, .buildSlice t 0 #[], ty, pos, af, gd⟩ J a w := by
  have hrun : (execOp a.eval ⟨d, .buildSlice t 0 #[], ty, pos, af, gd⟩).run Tryz.prog w = .ok (.value (.slice (some ⟨w.heap.size, 0, none⟩) 0 0)) (w.alloc (.cells #[] T)) := by
    simp [execOp, Instr.buildSlice, run_underlying ht, hsz, Instr.fill, newRow, Array.range_zero']
  exact sv hw hrun (k _ _ rfl (heap_alloc_new w _) (World.ownsRow_lit w #[] 0 hbase (by unfold maxLen; omega) (by simp)) (up_alloc w _))
theorem apG (E : Enc T f sz by_) {s y : Operand} {b n c : Nat} {v : Value} (hw : Region.wanted (⟨d, .call ⟨.builtin .append, #[s, y], #[t, t]⟩, ty, pos, af, gd⟩ : Oper) (yielded ops a.tmps) = true) (hs : a.eval s = .slice (some ⟨b, 0, none⟩) n c) (hy : a.eval y = v)
    (h : GRow T f sz base w (.slice (some ⟨b, 0, none⟩) n c) L) (hM : GSub f w v M) (ht : Tryz.prog.underlying t = some (.slice T)) (hbase : base ≤ w.heap.size) (hlen : L.length + M.length ≤ 1000000)
    (k : ∀ b' n' c' w', n' = (L ++ M).length → GRow T f sz base w' (.slice (some ⟨b', 0, none⟩) n' c') (L ++ M) → base ≤ b' → Chg w w' b → J (a.put d (.slice (some ⟨b', 0, none⟩) n' c')) w') : St1 Tryz.prog ops Q ⟨d, .call ⟨.builtin .append, #[s, y], #[t, t]⟩, ty, pos, af, gd⟩ J a w := by
  obtain ⟨hn, hnc, _, cur, hg, _⟩ := h.blk
  obtain ⟨i, z, hi, hz, hsize, hby, hzs⟩ := E.info
  have ho : w.ownsRow base T sz (.slice (some ⟨b, 0, none⟩) n c) n (L.flatMap f) := by unfold GRow at h; rw [← hn] at h; exact h
  obtain ⟨A, c2, rfl, hM⟩ := hM
  by_cases hM0 : M = []
  · subst hM0
    have hrun : (Builtin.append_ #[t, t] ty #[.slice (some ⟨b, 0, none⟩) n c, .slice A 0 c2]).run Tryz.prog w = .ok (.slice (some ⟨b, 0, none⟩) n c) w := by
      cases A <;> simp [Builtin.append_, run_underlying ht, sizeOf, typeInfo, hi, Builtin.lenOf, Builtin.firstCells, hnc, storeCells, loadCells, loadCellsFrom]
    refine sv hw ?_ (k b n c w (by simpa using hn) (by rw [List.append_nil]; exact h) ?_ ⟨rfl, rfl, rfl, Nat.le_refl _, fun _ _ _ => rfl⟩)
    · simp only [List.length_nil] at hy
      simp [execOp, resolve, invoke, builtin, hs, hy, hrun]
    · exact (h.own b rfl).1
  · obtain ⟨g, o, rfl, hgl, hc⟩ := hM hM0
    have hE := E.small
    obtain ⟨v', w', h1, h2, h3, h4⟩ := run_append_own (P := Tryz.prog) w base t ty T i z sz by_ ht hi hz hsize hby hzs E.pos _ n (L.flatMap f) ho ⟨g, o, none⟩ M.length c2 (M.flatMap f) (flatG_len E M)
      (fun j u hj => by rw [add_at]; exact hc j u hj) (flatG_one E) (by unfold maxLen; omega) (Nat.le_trans (Nat.mul_le_mul (show n + M.length ≤ 1000000 by omega) hE) (by omega)) hbase
    have hnn : v' ≠ .slice none 0 0 := fun e => by have := (h4.1 e).1; cases this
    have hR : GRow T f sz base w' v' (L ++ M) := by unfold GRow; rw [List.flatMap_append, List.length_append, ← hn]; exact h2
    obtain ⟨A', c', rfl⟩ := hR.form
    rcases hR.addr.2.2 with ⟨rfl, rfl⟩ | ⟨b', rfl⟩
    · exfalso
      obtain ⟨_, ⟨e, h0⟩ | ⟨_, _, _, e, _⟩⟩ := hR
      · exact hnn e
      · cases e
    · refine sv hw ?_ (k b' _ c' w' rfl hR (hR.own b' rfl).1 h3)
      simp [execOp, resolve, invoke, builtin, hs, hy, h1]
end
theorem enc_st : Enc 24 stC 2 16 := ⟨fun x => by simp [stC], fun x u hu => by simp [stC] at hu; rcases hu with rfl | rfl <;> rfl, info_st, by omega, by omega⟩
theorem MRow.g {base : Nat} {w : World} {v : Value} {L : List Stamp} : MRow base w v L ↔ GRow 24 stC 2 base w v L := Iff.rfl
end Go.Proofs.YtefhfoioeoijlaaGreatDoor
set_option linter.unusedVariables false
set_option linter.unusedSimpArgs false
namespace Go.Proofs.YtefhfoioeoijlaaGreatDoor
open Go Go.RowKit Go.Sort
def decB (n : Int) : ByteArray := ⟨(Lib.itoa n).toArray⟩
def byteB (n : Int) : ByteArray := ⟨#[UInt8.ofNat n.toNat]⟩
theorem dec_small {n : Int} (h0 : 0 ≤ n) (h : n < 10) : decB n = byteB (48 + n) := by
  unfold decB byteB
  rw [itoa_pos h0, Lib.decDigits, dif_pos (by omega)]
  rw [show (48 + n).toNat = 48 + n.toNat by omega]
theorem dec_big {n : Int} (h0 : 0 ≤ n) (h : ¬ n < 10) : decB n = decB (n.tdiv 10) ++ byteB (48 + n.tmod 10) := by
  have e1 : n.tdiv 10 = ((n.toNat / 10 : Nat) : Int) := by rw [Int.tdiv_eq_ediv_of_nonneg h0]; omega
  have e2 : n.tmod 10 = ((n.toNat % 10 : Nat) : Int) := by rw [Int.tmod_eq_emod_of_nonneg h0]; omega
  unfold decB byteB
  rw [itoa_pos h0, Lib.decDigits, dif_neg (by omega), e1, e2, itoa_pos (by omega)]
  rw [show ((n.toNat / 10 : Nat) : Int).toNat = n.toNat / 10 by omega, show (48 + ((n.toNat % 10 : Nat) : Int)).toNat = 48 + n.toNat % 10 by omega]
  apply ByteArray.ext
  simp
theorem dec_parts {n : Int} (h0 : 0 ≤ n) : 0 ≤ n.tdiv 10 ∧ n.tdiv 10 ≤ n ∧ (10 ≤ n → n.tdiv 10 < n) ∧ 0 ≤ n.tmod 10 ∧ n.tmod 10 ≤ 9 := by
  have e1 : n.tdiv 10 = ((n.toNat / 10 : Nat) : Int) := by rw [Int.tdiv_eq_ediv_of_nonneg h0]; omega
  have e2 : n.tmod 10 = ((n.toNat % 10 : Nat) : Int) := by rw [Int.tmod_eq_emod_of_nonneg h0]; omega
  rw [e1, e2]; omega
section
variable {P : Program} {d : Option Tmp} {ty : TypeId} {pos : String} {af : Array Edge} {gd : Option (Nat × Bool)} {ρ : Operand → Value} {w : World}
theorem r_quo {t yt : TypeId} {x y : Operand} {m n : Int} (hx : ρ x = .int .i64 m) (hy : ρ y = .int .i64 n) (hn : n ≠ 0) (hr : -9223372036854775808 ≤ m.tdiv n ∧ m.tdiv n ≤ 9223372036854775807) : (execOp ρ ⟨d, .binOp .quo t x y yt, ty, pos, af, gd⟩).run P w = .ok (.value (.int .i64 (m.tdiv n))) w := by
  have hw := IntWalk.i64_in (m.tdiv n) (by omega)
  simp [execOp, hx, hy, eqGuard, binOp, Op.intArith, Op.intDiv, hn, hw]
theorem r_toB {x : Operand} {m : Int} (hx : ρ x = .int .i64 m) (h0 : 0 ≤ m) (h1 : m ≤ 255) : (execOp ρ ⟨d, .convert 2 5 x, ty, pos, af, gd⟩).run Tryz.prog w = .ok (.value (.int .u8 m)) w := by
  have h3 : Tryz.prog.underlying 2 = some (.int .i64) := by kernel_rfl
  have h5 : Tryz.prog.underlying 5 = some (.int .u8) := by kernel_rfl
  have hw : IntKind.u8.wrap m = m := by
    simp only [IntKind.wrap, IntKind.bits, IntKind.signed]
    simp; omega
  simp [execOp, hx, convert, run_underlying h3, run_underlying h5, Conv.intToInt, hw]
theorem r_conv1 {x : Operand} {b : Nat} {v : Int} (hx : ρ x = .slice (some ⟨b, 0, none⟩) 1 1) (hb : w.heap[b]? = some (.cells #[.int .u8 v] 5 (0, 0))) : (execOp ρ ⟨d, .convert 40 9 x, ty, pos, af, gd⟩).run Tryz.prog w = .ok (.value (.string (byteB v))) w := by
  have h33 : Tryz.prog.underlying 40 = some (.slice 5) := by kernel_rfl
  have h5 : Tryz.prog.underlying 5 = some (.int .u8) := by kernel_rfl
  have h9 : Tryz.prog.underlying 9 = some .string := by kernel_rfl
  have hr := run_convert_bytes_arg (P := Tryz.prog) w _ _ h33 h5 b 0 1 1 [v] rfl (fun i hi => by
    have : i = 0 := by omega
    subst this
    simp [World.cell?, hb]) _ h9
  have hs : strOfNums [v] = byteB v := rfl
  rw [hs] at hr
  simp [execOp, hx, hr]
end
theorem decB_len {n : Int} (h0 : 0 ≤ n) (h1 : n ≤ 9223372036854775807) : (decB n).size ≤ 21 := by
  have := Lib.itoa_length_le n (by omega) h1
  unfold decB; rw [ByteArray.size]; simpa using this
def nmAt (l : List Item) (i : Nat) (x : Item) : ByteArray := (entOf (namesI (l.take i)) x).name
theorem nm_yes {l : List Item} {i k : Nat} {x y : Item} (hk : k < i) (hy : l[k]? = some y) (e : y.name = x.name) : nmAt l i x = x.name ++ markB x.node := by
  unfold nmAt entOf
  have : metB (namesI (l.take i)) x.name = true := by
    rw [metB_iff, ← e]
    unfold namesI
    exact List.mem_map.2 ⟨y, List.mem_of_getElem? (i := k) (by rw [List.getElem?_take, if_pos hk]; exact hy), rfl⟩
  simp only [this, if_true]
theorem nm_no {l : List Item} {i : Nat} {x : Item} (h : Hid (∀ (j : Nat) (y : Item), j < i → l[j]? = some y → ¬ y.name = x.name)) : nmAt l i x = x.name := by
  unfold nmAt entOf
  have : metB (namesI (l.take i)) x.name = false := by
    rw [Bool.eq_false_iff, Ne, metB_iff]
    unfold namesI
    intro hm
    obtain ⟨y, hy, e⟩ := List.mem_map.1 hm
    obtain ⟨j, hj⟩ := List.mem_iff_getElem?.1 hy
    rw [List.getElem?_take] at hj
    split at hj
    · exact h.out j y (by assumption) hj e
    · cases hj
  simp only [this]; rfl
theorem ents_nm {l : List Item} {i : Nat} {x : Item} (h : l[i]? = some x) : ∃ y, (entsI l)[i]? = some y ∧ y.name = nmAt l i x ∧ y.node = x.node := ⟨_, entsI_get h, rfl, rfl⟩
theorem shownD_hit {L : List Item} {m : Stamp} {k : Nat} {x : Item} (hF : Fit L) (h1 : hasI L m = true) (h2 : hangsI L 301 m = true) (hx : (kidsI (gotI L m).parent L)[k]? = some x) (e : x.node = m) : shownB L m = nmAt (kidsI (gotI L m).parent L) k x ∧ shownK L m = 0 := by
  obtain ⟨y, hy, h3, h4⟩ := ents_nm hx
  rw [← h3]; exact shown_hit hF h1 h2 hy (h4.trans e)
theorem shownD_miss {L : List Item} {m : Stamp} {k : Nat} (hk : (kidsI (gotI L m).parent L).length ≤ k) (h : Hid (∀ (j : Nat) (y : Item), j < k → (kidsI (gotI L m).parent L)[j]? = some y → ¬ y.node = m)) : shownB L m = ⟨#[]⟩ ∧ shownK L m = 12 := by
  refine shown_miss fun j y hj => ?_
  obtain ⟨x, hx, e⟩ := entsI_at hj
  rw [e]
  exact h.out j x (by have := (List.getElem?_eq_some_iff.1 hx).1; omega) hx
theorem slashR (acc : List ByteArray) (x : ByteArray) : slashL (acc ++ [x]).reverse = ((⟨#[47]⟩ : ByteArray) ++ x) ++ slashL acc.reverse := by
  rw [List.reverse_append]; rfl
theorem slashR_e {acc : List ByteArray} (h : slashL acc.reverse = ⟨#[]⟩) : pathB acc = ⟨#[47]⟩ := by
  cases hr : acc.reverse with
  | nil => unfold pathB; rw [hr]; rfl
  | cons x l =>
    rw [hr] at h
    have := congrArg ByteArray.size h
    simp only [slashL, ByteArray.size_append] at this
    have h1 : (⟨#[47]⟩ : ByteArray).size = 1 := rfl
    have h2 : (⟨#[]⟩ : ByteArray).size = 0 := rfl
    omega
theorem slashR_n {acc : List ByteArray} (h : ¬ slashL acc.reverse = ⟨#[]⟩) : pathB acc = slashL acc.reverse := by
  unfold pathB
  rw [slashL_is (fun e => h (by rw [e]; rfl))]
theorem slashR_len {acc : List ByteArray} (h : Shorts acc) : (slashL acc.reverse).size ≤ acc.length * 101 := by
  induction acc with
  | nil => decide
  | cons x acc ih =>
    have h1 := ih fun y hy => h y (by simp [hy])
    have h2 := h x (by simp)
    rw [List.reverse_cons, slashL_snoc]
    simp only [ByteArray.size_append, List.length_cons]
    have h3 : (⟨#[47]⟩ : ByteArray).size = 1 := rfl
    have h4 : x.size = x.data.toList.length := by rw [ByteArray.size]; simp
    omega
theorem pairwise_split {R : Stamp → Stamp → Prop} {D : List Stamp} (h : D.Pairwise R) (k : Nat) : (D.take k).Pairwise R ∧ (D.drop k).Pairwise R ∧ ∀ a ∈ D.take k, ∀ b ∈ D.drop k, R a b := by
  rw [← List.take_append_drop k D, List.pairwise_append] at h
  exact h
theorem thn_ins {S D : List Stamp} {x : Stamp} {k : Nat} (h : Thn S D) (h1 : Hid (∀ (j : Nat) (y : Stamp), j < k → D[j]? = some y → ltS y x = true)) (h2 : k = D.length ∨ ∃ y, D[k]? = some y ∧ ltS y x = false ∧ y ≠ x) : Thn (S ++ [x]) (D.take k ++ [x] ++ D.drop k) := by
  obtain ⟨p1, p2, p3⟩ := pairwise_split h.srt k
  have hl : ∀ a ∈ D.take k, ltS a x = true := fun a ha => by
    obtain ⟨j, hj⟩ := List.mem_iff_getElem?.1 ha
    rw [List.getElem?_take] at hj
    split at hj
    · exact h1.out j a (by assumption) hj
    · cases hj
  have hr : ∀ b ∈ D.drop k, ltS x b = true := by
    rcases h2 with h2 | ⟨y, hy, h3, h4⟩
    · intro b hb; rw [List.drop_eq_nil_of_le (by omega)] at hb; cases hb
    · have hxy : ltS x y = true := by
        cases e : ltS x y with
        | true => rfl
        | false => exact absurd (ltS_tri h3 e) h4
      have hd : D.drop k = y :: D.drop (k + 1) := by
        have hk := (List.getElem?_eq_some_iff.1 hy).1
        rw [List.drop_eq_getElem_cons hk]
        rw [List.getElem?_eq_getElem hk] at hy
        injection hy with hy; rw [hy]
      intro b hb
      rw [hd] at hb p2
      rcases List.mem_cons.1 hb with rfl | hb
      · exact hxy
      · exact ltS_trans hxy ((List.pairwise_cons.1 p2).1 b hb)
  refine ⟨?_, fun z => ?_⟩
  · rw [List.append_assoc, List.pairwise_append]
    refine ⟨p1, ?_, ?_⟩
    · rw [List.singleton_append, List.pairwise_cons]; exact ⟨hr, p2⟩
    · intro a ha b hb
      rw [List.singleton_append, List.mem_cons] at hb
      rcases hb with rfl | hb
      · exact hl a ha
      · exact p3 a ha b hb
  · have := h.mem z
    rw [← List.take_append_drop k D] at this
    simp only [List.mem_append, List.mem_singleton] at this ⊢
    constructor
    · rintro ((hz | hz) | hz)
      · exact .inl (this.1 (.inl hz))
      · exact .inr hz
      · exact .inl (this.1 (.inr hz))
    · rintro (hz | hz)
      · rcases this.2 hz with hz | hz
        · exact .inl (.inl hz)
        · exact .inr hz
      · exact .inl (.inr hz)
theorem thn_skip {S D : List Stamp} {x y : Stamp} {k : Nat} (h : Thn S D) (hy : D[k]? = some y) (e : y = x) : Thn (S ++ [x]) D :=
  ⟨h.srt, fun z => (h.mem z).trans (by
    have hx : x ∈ S := (h.mem x).1 (by rw [← e]; exact List.mem_of_getElem? hy)
    simp only [List.mem_append, List.mem_singleton]
    exact ⟨.inl, fun hz => hz.elim id fun hz => by rw [hz]; exact hx⟩)⟩
theorem thn_nil : Thn [] [] := ⟨by simp, by simp⟩
theorem take_snocS {l : List Stamp} {k : Nat} {x : Stamp} (h : l[k]? = some x) : l.take (k + 1) = l.take k ++ [x] := by rw [List.take_add_one, h]; rfl
theorem chgD_of {La Lb : List Item} {D : List Stamp} {k : Nat} {y : Stamp} {i : Int} {f t : ByteArray} (h : D[k]? = some y) (hi : i ≠ 0) (hk : kindP (sideP La y) (sideP Lb y) = i) (hf : f = ofB La y) (ht : t = ofB Lb y) : chgs La Lb (D.take k) ++ [⟨i, y, f, t⟩] = chgs La Lb (D.take (k + 1)) := by
  have := chgs_yes (La := La) (Lb := Lb) h rfl rfl (by rw [hk]; exact hi)
  rw [hk] at this
  rw [hf, ht]; exact this
theorem nodes_app2 {La Lb : List Item} {k : Nat} {x : Item} (h : Lb[k]? = some x) : nodesI La ++ nodesI (Lb.take k) ++ [x.node] = nodesI La ++ nodesI (Lb.take (k + 1)) := by
  rw [List.append_assoc, nodes_next h]
theorem nodes_both (La Lb : List Item) : nodesI La ++ nodesI Lb = nodesI (La ++ Lb) := by simp [nodesI]
end Go.Proofs.YtefhfoioeoijlaaGreatDoor
namespace Go.Proofs.YtefhfoioeoijlaaGreatDoor
open Go Go.RowKit Go.Sort
theorem lt_nextS {D : List Stamp} {k : Nat} {x y : Stamp} (h : Hid (∀ (j : Nat) (y : Stamp), j < k → D[j]? = some y → ltS y x = true)) (hy : D[k]? = some y) (hl : ltS y x = true) : Hid (∀ (j : Nat) (y : Stamp), j < k + 1 → D[j]? = some y → ltS y x = true) := fun j z hj hz => by
  rcases Nat.lt_or_ge j k with h1 | h1
  · exact h.out j z h1 hz
  · obtain rfl : j = k := by omega
    rw [hy] at hz; injection hz with hz; subst hz; exact hl
end Go.Proofs.YtefhfoioeoijlaaGreatDoor
set_option linter.unusedVariables false
set_option linter.unusedSimpArgs false
namespace Go.Proofs.YtefhfoioeoijlaaGreatDoor
open Go Go.RowKit Go.Sort
theorem same_all {xs ys : List Int} (hl : xs.length = ys.length) (h : ∀ i, i < xs.length → xs.getD i 0 = ys.getD i 0) : xs = ys := by
  apply List.ext_getElem hl
  intro i h1 h2
  have := h i h1
  simpa [List.getD_eq_getElem?_getD, List.getElem?_eq_getElem h1, List.getElem?_eq_getElem h2] using this
theorem same_next {xs ys : List Int} {k : Nat} (h : Hid (∀ i, i < k → xs.getD i 0 = ys.getD i 0)) (e : ¬ xs.getD k 0 ≠ ys.getD k 0) : Hid (∀ i, i < k + 1 → xs.getD i 0 = ys.getD i 0) := fun i hi => by
  rcases Nat.lt_or_ge i k with h1 | h1
  · exact h.out i h1
  · obtain rfl : i = k := by omega
    exact Decidable.not_not.1 e
set_option maxHeartbeats 2000000 in
theorem r01same_sl {B B' : Nat} {w : World} {xA yA : Option Addr} {xn xc yn yc : Nat} {xs ys : List Int} (hx : Dat B w (.slice xA xn xc) xs) (hy : Dat B' w (.slice yA yn yc) ys) : Calls Tryz.prog 80 #[.slice xA xn xc, .slice yA yn yc] w fun r w' => r = .returned (.bool (decide (xs = ys))) ∧ Up w w' := by
  have hxl := hx.len
  have hyl := hy.len
  obtain ⟨hxl, hxm⟩ := hxl
  obtain ⟨hyl, hym⟩ := hyl
  go_enter Tryz.func80, Tryz.ntmps80
  refine wp_seq (rg_lit (was (v := B_ false) (wnil (then_n (wp_seq (wp_seq (rg_lit (wmv (v := .slice xA xn xc) (wlv (v := I_ xn) (ln xA xn xc Ty.un40) (wmv (v := .slice yA yn yc) (wlv (v := I_ yn) (ln yA yn yc Ty.un40) (wl (sb rfl (neI xn yn) fun b1 k2 => wnil (then_n ?_))))))))))))))
  refine bcd k2 (fun v3 p4 => ?_) (fun v3 p4 => ?_)
  ·
   refine wp_cond_false (eb v3) (wp_skip (then_n (wp_seq (wp_seq (rg_lit (was (v := I_ 0) (wnil (then_n (wp_block ?_)))))))))
   refine lp (fun n a r1 => ∃ (k : Nat), (n = xn - k) ∧ (HasFr a 26 [(0, .slice xA xn xc), (1, .slice yA yn yc), (5, I_ k), (10, B_ b1)] []) ∧ (Mod [] w r1) ∧ (k ≤ xn) ∧ (Hid (∀ i, i < k → xs.getD i 0 = ys.getD i 0))) ⟨_, 0, rfl, hmk, Mod.refl _ _, Nat.zero_le _, (fun i hi => absurd hi (Nat.not_lt_zero _))⟩ ?_
   rintro _ _ r1 ⟨k, rfl, h5, hM1, hF1_0, hF1_1⟩
   obtain ⟨Y1, rfl⟩ := h5
   have M6 := Mod.thin (Mod.refl [] w) hM1 (by simp)
   refine wp_seq (wp_seq (rg_lit (wmv (v := I_ k) (wmv (v := .slice xA xn xc) (wlv (v := I_ xn) (ln xA xn xc Ty.un40) (wl (sb rfl (ltI k xn) fun b7 k8 => wnil (then_n ?_))))))))
   refine bcd k8 (fun v9 p10 => ?_) (fun v9 p10 => ?_)
   ·
    refine wp_cond_false (eb v9) (wp_exit (then_x (by nofun) (then_x (by nofun) (inb_hit (then_n (wp_seq (rg_lit (was (v := B_ true) (wnil (then_n (wp_ret ?_)))))))))))
    refine br1 (v := B_ true) rfl ?_
    refine ⟨ret_bool (decide_eq_true ?_).symm, (Mod.up M6)⟩
    exact same_all (by omega) (fun i hi => hF1_1.out i (by omega))
   have q12 : k < xn := by omega
   have q13 : k < yn := by omega
   refine wp_cond_true (eb v9) (wp_skip (then_n (wp_seq (wp_block (wp_seq ?_)))))
   refine rg_all (by kernel_rfl) (by kernel_rfl) ?_
   refine qmv (v := .slice xA xn xc) (qmv (v := I_ k) ?_)
   have h14 := (Dat.up hx (Mod.up M6))
   obtain ⟨g15, o15, hA15, hl15, hc15⟩ := Dat.get h14 (i := k) q12
   refine qv rfl (v := pt g15 (o15 + k)) (fun _ _ => ixa xn xc 1 k hA15 Ty.un40 Ty.sz5) (qv rfl (v := .int .u8 (xs.getD k 0)) (fun _ uz => r_loadc (by kernel_rfl) Ty.ag5 ((uz.cell (p := ⟨g15, o15 + k, none⟩) hl15).trans hc15)) (qmv (v := .slice yA yn yc) (qmv (v := I_ k) ?_)))
   have h16 := (Dat.up hy (Mod.up M6))
   obtain ⟨g17, o17, hA17, hl17, hc17⟩ := Dat.get h16 (i := k) q13
   refine qv rfl (v := pt g17 (o17 + k)) (fun _ _ => ixa yn yc 1 k hA17 Ty.un40 Ty.sz5) (qv rfl (v := .int .u8 (ys.getD k 0)) (fun _ uz => r_loadc (by kernel_rfl) Ty.ag5 ((uz.cell (p := ⟨g17, o17 + k, none⟩) hl17).trans hc17)) ?_)
   refine qb rfl (fun _ _ => r_ne (k := .u8) (m := (xs.getD k 0)) (n := (ys.getD k 0)) (by kernel_rfl) (by kernel_rfl)) fun b18 k19 => ?_
   refine qnil fun w20 u21 => ?_
   have M22 := mtu M6 u21
   have M23 := mtu hM1 u21
   refine then_n ?_
   refine bcd k19 (fun v24 p25 => ?_) (fun v24 p25 => ?_)
   ·
    refine wp_cond_false (eb v24) (wp_skip (inb_n (then_n (rg_lit (wmv (v := I_ k) (wlv (v := I_ ((k : Int) + 1)) (adI k 1 (IntWalk.i64_in _ (by omega))) (was (v := I_ ((k : Int) + 1)) (wnil (then_n ?_)))))))))
    refine ⟨xn - (k + 1), ?_, (k + 1), rfl, hmk, M23, (by omega), (same_next hF1_1 p25)⟩
    · omega
   refine wp_cond_true (eb v24) (wp_seq (rg_lit (was (v := B_ false) (wnil (then_n (wp_ret (inb_r (then_x (by nofun) (then_x (by nofun) (inb_r (then_x (by nofun) ?_)))))))))))
   refine br1 (v := B_ false) rfl ?_
   refine ⟨ret_bool (decide_eq_false ?_).symm, (Mod.up M22)⟩
   intro e; rw [e] at p25; exact p25 rfl
  refine wp_cond_true (eb v3) (wp_seq (rg_lit (was (v := B_ false) (wnil (then_n (wp_ret (then_x (by nofun) ?_)))))))
  refine br1 (v := B_ false) rfl ?_
  refine ⟨ret_bool (decide_eq_false ?_).symm, (Mod.up (Mod.refl [] w))⟩
  intro e; have := congrArg List.length e; omega
theorem r01same_at {B B' : Nat} {w : World} {d e : Value} {xs ys : List Int} (hx : Dat B w d xs) (hy : Dat B' w e ys) : Calls Tryz.prog 80 #[d, e] w fun r w' => r = .returned (.bool (decide (xs = ys))) ∧ Up w w' := by
  obtain ⟨A, n, c, rfl⟩ := hx.form
  obtain ⟨A', n', c', rfl⟩ := hy.form
  exact r01same_sl hx hy
end Go.Proofs.YtefhfoioeoijlaaGreatDoor
set_option linter.unusedVariables false
set_option linter.unusedSimpArgs false
namespace Go.Proofs.YtefhfoioeoijlaaGreatDoor
open Go.RowKit Go.Sort
set_option maxRecDepth 4000 in
set_option maxHeartbeats 2000000 in
theorem rfind_at {B : Nat} {w : World} {ub : Nat} {L : List Item} (h : RIs B w ub L) (m1 m2 : Int) : Calls Tryz.prog 140 #[trP ub, .agg #[.int .i64 m1, .int .i64 m2]] w fun e w' => e = .returned (.int .i64 (placeI L ⟨m1, m2⟩)) ∧ Below w.heap.size w w' := by
  obtain ⟨_, v, hv, hR, _, hL⟩ := h
  obtain ⟨A, c, rfl⟩ := hR.form
  have hlt := (Array.getElem?_eq_some_iff.1 hv).1
  have hc : w.cell? ⟨ub, 0, none⟩ = some (.slice A L.length c) := by simp [World.cell?, hv]
  have HG := Lib.hid (fun (i : Nat) (x : Item) (hi : L[i]? = some x) => hR.get hi)
  have HP := Lib.hid (fun (k : Nat) (x : Item) hx e h => placeI_at (L := L) (n := ⟨m1, m2⟩) (k := k) (x := x) hx e h)
  have HN := Lib.hid (fun h => placeI_none (L := L) (n := ⟨m1, m2⟩) h)
  clear hR hv
  generalize placeI L ⟨m1, m2⟩ = res at *
  unfold trP
  go_enter Tryz.func140, Tryz.ntmps140
  go_wp2_with fail
  go_loopw [5] (fun i wr => ∃ (k n : Nat), k ≤ L.length ∧ i = .int .i64 k ∧ wr = (w.alloc (.cells #[.int .i64 m1, .int .i64 m2] 24)).drewN n ∧ Hid (∀ (j : Nat) (y : Item), j < k → L[j]? = some y → y.node ≠ ⟨m1, m2⟩)) (fun i _ => L.length - (intOf i).toNat)
  case atStart => exact ⟨0, 0, by omega, rfl, rfl, fun j y hj => by omega⟩
  case round =>
    obtain ⟨k, n, hk, rfl, rfl, H⟩ := hrel
    rcases Nat.lt_or_ge k L.length with hk1 | hk1
    · obtain ⟨g, cap, dA, dn, dc, hA, hcap, hgb, hglt, hD, hcell⟩ := HG.out k L[k] (List.getElem?_eq_getElem hk1)
      injection hA with hA1 hA2 hA3
      subst hA1
      have x0 := hcell 0 _ rfl
      have x1 := hcell 1 _ rfl
      clear hcell hD
      have HX := Lib.hid (List.getElem?_eq_getElem hk1)
      generalize L[k] = x at *
      obtain ⟨⟨i1, i2⟩, par, name, dir, gone, data, by_⟩ := x
      simp only at x0 x1
      rw [Nat.add_zero] at x0
      have hgs : g < w.heap.size + 1 := by omega
      have hul : ub < w.heap.size + 1 := by omega
      have hkI : (k : Int) < (L.length : Int) := by omega
      have hk0 : (0 : Int) ≤ (k : Int) := by omega
      clear HG
      rcases stamp_cases i1 i2 m1 m2 with ⟨h1, h2⟩ | ⟨h1, h2⟩ | h1
      · subst h1; subst h2
        go_wp2_with fail
        go_quiet (fail)
        go_wp2_with fail
        go_ret
        exact ⟨ret_int (HP.out k _ HX.out rfl H.out).symm, up_trans (up_alloc _ _) (by rw [World.drewN_drewN]; exact up_drewN _ _)⟩
      · subst h1
        go_wp2_with fail
        go_quiet (fail)
        go_wp2_with fail
        go_roundw
        case rel =>
          refine ⟨k + 1, n + nq, by omega, by go_num, rfl, fun j y hj hy => ?_⟩
          rcases Nat.lt_or_ge j k with h | h
          · exact H.out j y h hy
          · obtain rfl : j = k := by omega
            rw [HX.out] at hy
            injection hy with hy
            subst hy
            intro e
            injection e with e1 e2
            simp_all
        case measure => simp [intOf]; omega
      · skip
        go_wp2_with fail
        go_quiet (fail)
        go_wp2_with fail
        go_roundw
        case rel =>
          refine ⟨k + 1, n + nq, by omega, by go_num, rfl, fun j y hj hy => ?_⟩
          rcases Nat.lt_or_ge j k with h | h
          · exact H.out j y h hy
          · obtain rfl : j = k := by omega
            rw [HX.out] at hy
            injection hy with hy
            subst hy
            intro e
            injection e with e1 e2
            simp_all
        case measure => simp [intOf]; omega
    · have hk2 : k = L.length := by omega
      subst hk2
      go_wp2_with fail
      go_ret
      exact ⟨ret_int (HN.out fun j y hy => H.out j y (List.getElem?_eq_some_iff.1 hy).1 hy).symm, up_trans (up_alloc _ _) (up_drewN _ _)⟩
end Go.Proofs.YtefhfoioeoijlaaGreatDoor
namespace Go.Proofs.YtefhfoioeoijlaaGreatDoor
open Go.RowKit Go.Sort
theorem placeI_get {L : List Item} (n : Stamp) : (placeI L n = -1 ∧ getI L n = none) ∨ ∃ (k : Nat) (x : Item), placeI L n = k ∧ L[k]? = some x ∧ getI L n = some x := by
  unfold placeI
  by_cases h : idxI L n < L.length
  · rw [if_pos h]
    refine .inr ⟨idxI L n, L[idxI L n], rfl, List.getElem?_eq_getElem h, ?_⟩
    unfold getI idxI
    rw [List.find?_eq_some_iff_getElem]
    refine ⟨List.findIdx_getElem (w := h), _, h, rfl, fun j hj => ?_⟩
    have := List.not_of_lt_findIdx hj
    simpa using this
  · rw [if_neg h]
    refine .inl ⟨rfl, getI_none.2 fun x hx e => h ?_⟩
    exact List.findIdx_lt_length_of_exists ⟨x, hx, by simp [e]⟩
set_option maxRecDepth 4000 in
set_option maxHeartbeats 2000000 in
theorem rget_at {B : Nat} {w : World} {ub : Nat} {L : List Item} (h : RIs B w ub L) (m1 m2 : Int) : Calls Tryz.prog 79 #[trP ub, .agg #[.int .i64 m1, .int .i64 m2]] w fun e w' =>
    ∃ d, e = .returned (.tuple #[itV (gotI L ⟨m1, m2⟩) d, .bool (hasI L ⟨m1, m2⟩)]) ∧ Dat B w' d (gotI L ⟨m1, m2⟩).data ∧ Below w.heap.size w w' := by
  have HF := Lib.hid (fun (W : World) (hb : Below w.heap.size w W) => rfind_at (h.up hb) m1 m2)
  have hlt : ub < w.heap.size := by obtain ⟨_, v, hv, _⟩ := h; exact (Array.getElem?_eq_some_iff.1 hv).1
  unfold trP at HF ⊢
  rcases placeI_get (L := L) ⟨m1, m2⟩ with ⟨hp, hg⟩ | ⟨k, x, hp, hk, hg⟩
  · rw [show gotI L ⟨m1, m2⟩ = nilI by unfold gotI; rw [hg]; rfl, show hasI L ⟨m1, m2⟩ = false by unfold hasI; rw [hg]; rfl]
    rw [hp] at HF
    clear h hp hg
    go_enter Tryz.func79, Tryz.ntmps79
    go_wp2_with fail
    refine (HF.out _ (up_trans (up_alloc _ _) (up_alloc _ _))).mono ?_
    rintro e w1 ⟨rfl, hb1⟩
    have hbw := up_trans (up_trans (up_alloc w _) (up_alloc _ _)) hb1
    have hZ := (hb1.block (w.heap.size + 1) (by simp)).trans (alloc_get1 w _ _)
    obtain ⟨⟨m0, m1', m2', m3, m4, m5, m6, m7, m8, m9⟩, fm⟩ := item_cells hZ
    have ms7 : ∀ u, (w1.setCell ⟨w.heap.size + 1, 7, none⟩ u).cell? ⟨w.heap.size + 1, 7, none⟩ = some u := fun u => World.cell?_setCell_same _ _ _ m7
    go_wp2_with fail
    refine bodyPost_ret (v := .tuple #[itV nilI (.slice none 0 0), .bool false]) (by simp [results, Tryz.results24, go_sem, itV, nilI, nilS, m0, m1', m2', m3, m4, m5, m6, m7, m8, m9, ms7]) rfl ?_
    refine ⟨_, rfl, Dat.nil B _, ?_⟩
    ((repeat (first | (with_reducible exact hbw) | (with_reducible refine up_set ?_ ?_ _) | (with_reducible refine up_trans ?_ (up_drew _)))); all_goals ((try dsimp only); omega))
  · rw [show gotI L ⟨m1, m2⟩ = x by unfold gotI; rw [hg]; rfl, show hasI L ⟨m1, m2⟩ = true by unfold hasI; rw [hg]; rfl]
    rw [hp] at HF
    have HG := Lib.hid (fun (W : World) (hb : Below w.heap.size w W) => h.up hb)
    have hkl := (List.getElem?_eq_some_iff.1 hk).1
    have HK := Lib.hid hk
    clear h hp hg hk
    go_enter Tryz.func79, Tryz.ntmps79
    go_wp2_with fail
    refine (HF.out _ (up_trans (up_alloc _ _) (up_alloc _ _))).mono ?_
    rintro e w1 ⟨rfl, hb1⟩
    have hbw := up_trans (up_trans (up_alloc w _) (up_alloc _ _)) hb1
    have hZ := (hb1.block (w.heap.size + 1) (by simp)).trans (alloc_get1 w _ _)
    obtain ⟨⟨z0, z1, z2, z3, z4, z5, z6, z7, z8, z9⟩, fm⟩ := item_cells hZ
    have ms7 : ∀ u, (w1.setCell ⟨w.heap.size + 1, 7, none⟩ u).cell? ⟨w.heap.size + 1, 7, none⟩ = some u := fun u => World.cell?_setCell_same _ _ _ z7
    have NZ : NotU8 w1 (w.heap.size + 1) := NotU8.of hZ (by decide)
    obtain ⟨hub, v, hv, hR, _⟩ := HG.out w1 hbw
    obtain ⟨g, cap, dA, dn, dc, rfl, hcap, hgb, hglt, hD, hcell⟩ := hR.get HK.out
    have hcv : w1.cell? ⟨ub, 0, none⟩ = some (.slice (some ⟨g, 0, none⟩) L.length cap) := by simp [World.cell?, hv]
    obtain ⟨⟨i1, i2⟩, ⟨p1, p2⟩, name, dir, gone, data, ⟨b1, b2⟩⟩ := x
    have x0 := hcell 0 _ rfl
    have x1 := hcell 1 _ rfl
    have x2 := hcell 2 _ rfl
    have x3 := hcell 3 _ rfl
    have x4 := hcell 4 _ rfl
    have x5 := hcell 5 _ rfl
    have x6 := hcell 6 _ rfl
    have x7 := hcell 7 _ rfl
    have x8 := hcell 8 _ rfl
    have x9 := hcell 9 _ rfl
    rw [Nat.add_zero] at x0
    clear hcell HF HG hR hv hZ
    have hkI : (k : Int) < (L.length : Int) := by omega
    have hk0 : (0 : Int) ≤ (k : Int) := by omega
    have hkn : decide ((k : Int) < 0) = false := decide_eq_false (by omega)
    go_wp2_with fail
    refine bodyPost_ret (v := .tuple #[.agg #[.int .i64 i1, .int .i64 i2, .int .i64 p1, .int .i64 p2, .string name, .bool dir, .bool gone, .slice dA dn dc, .int .i64 b1, .int .i64 b2], .bool true]) (by simp [results, Tryz.results24, go_sem, z0, z1, z2, z3, z4, z5, z6, z7, z8, z9, ms7]) rfl ?_
    refine ⟨.slice dA dn dc, rfl, ?_, ?_⟩
    · ((repeat (first | (with_reducible exact hD) | (with_reducible refine Dat.set ?_ ?_ ?_ _))); all_goals first | ((try dsimp only); omega) | ((repeat (with_reducible refine NotU8.set ?_ _ _)); (with_reducible exact NZ)))
    · ((repeat (first | (with_reducible exact hbw) | (with_reducible refine up_set ?_ ?_ _) | (with_reducible refine up_trans ?_ (up_drew _)))); all_goals ((try dsimp only); omega))
end Go.Proofs.YtefhfoioeoijlaaGreatDoor
namespace Go.Proofs.YtefhfoioeoijlaaGreatDoor
open Go.RowKit Go.Sort
theorem cell_al {W : World} {p : Addr} {v : Value} (h : W.cell? p = some v) (o : Obj) : (W.alloc o).cell? p = some v := by
  rw [(up_alloc W o).cell (World.block_lt_of_cell? W p h)]; exact h
theorem frozen_al {W : World} {p : Addr} {b : Bool} (hlt : p.block < W.heap.size) (h : W.frozen? p = b) (o : Obj) : (W.alloc o).frozen? p = b := by
  rw [(up_alloc W o).frozen hlt]; exact h
set_option maxRecDepth 4000 in
set_option maxHeartbeats 2000000 in
theorem rwithin_at {B : Nat} {w : World} {ub : Nat} {L : List Item} (h : RIs B w ub L) (n1 n2 m1 m2 : Int) : Calls Tryz.prog 143 #[trP ub, .agg #[.int .i64 n1, .int .i64 n2], .agg #[.int .i64 m1, .int .i64 m2]] w fun e w' => e = .returned (.bool (withinI L ⟨n1, n2⟩ 301 ⟨m1, m2⟩)) ∧ Below w.heap.size w w' := by
  have HG := Lib.hid (fun (W : World) (hb : Below w.heap.size w W) a b => rget_at (h.up hb) a b)
  clear h
  unfold trP at HG ⊢
  go_enter Tryz.func143, Tryz.ntmps143
  go_wp2_with fail
  go_loopw [7] (fun i wr => ∃ (k : Nat) (a b : Int), k ≤ 301 ∧ i = .int .i64 k ∧ Below w.heap.size w wr ∧ w.heap.size + 1 < wr.heap.size ∧ wr.cell? ⟨w.heap.size, 0, none⟩ = some (.int .i64 n1) ∧ wr.cell? ⟨w.heap.size, 1, none⟩ = some (.int .i64 n2) ∧
    wr.cell? ⟨w.heap.size + 1, 0, none⟩ = some (.int .i64 a) ∧ wr.cell? ⟨w.heap.size + 1, 1, none⟩ = some (.int .i64 b) ∧ wr.frozen? ⟨w.heap.size + 1, 0, none⟩ = false ∧ wr.frozen? ⟨w.heap.size + 1, 1, none⟩ = false ∧
    Hid (withinI L ⟨n1, n2⟩ 301 ⟨m1, m2⟩ = withinI L ⟨n1, n2⟩ (301 - k) ⟨a, b⟩)) (fun i _ => 301 - (intOf i).toNat)
  case atStart => exact ⟨0, m1, m2, by omega, rfl, up_trans (up_alloc _ _) (up_alloc _ _), by simp, by go_simp, by go_simp, by go_simp, by go_simp, by go_simp, by go_simp, rfl⟩
  case round =>
    obtain ⟨k, a, b, hk, rfl, hb, hz, x0, x1, y0, y1, f0, f1, H⟩ := hrel
    rcases Nat.lt_or_ge k 301 with hk1 | hk1
    · have e0 : 301 - k = (300 - k) + 1 := by omega
      have H0 := H.out
      rw [e0] at H0
      have hle : decide ((k : Int) ≤ 300) = true := decide_eq_true (by omega)
      by_cases he : (⟨a, b⟩ : Stamp) = ⟨n1, n2⟩
      · have H' := Lib.hid (H0.trans (withinI_hit L _ _ _ he))
        clear H H0
        injection he with e1 e2
        subst e1; subst e2
        go_wp2_with fail
        go_ret
        exact ⟨ret_bool H'.out.symm, hb⟩
      · have HO := Lib.hid (fun hh => H0.trans (withinI_out L ⟨n1, n2⟩ ⟨a, b⟩ (300 - k) he hh))
        have HN := Lib.hid (fun hh => H0.trans (withinI_on L ⟨n1, n2⟩ ⟨a, b⟩ (300 - k) he hh))
        have HC := Lib.hid (HG.out wr hb a b)
        clear H H0
        generalize gotI L ⟨a, b⟩ = x at *
        generalize hasI L ⟨a, b⟩ = is at *
        obtain ⟨⟨i1, i2⟩, ⟨p1, p2⟩, name, dir, gone, data, ⟨b1, b2⟩⟩ := x
        unfold itV at HC
        simp only at HC HN
        have ht : (a = n1 ∧ (b == n2) = false) ∨ (a == n1) = false := by
          by_cases h1 : a = n1
          · refine .inl ⟨h1, beq_eq_false_iff_ne.2 ?_⟩
            intro h2; exact he (by rw [h1, h2])
          · exact .inr (beq_eq_false_iff_ne.2 h1)
        have HE := Lib.hid he
        clear he
        rcases ht with ⟨h1, h2⟩ | h1
        · subst h1
          go_wp2_with fail
          refine HC.out.mono ?_
          rintro e w2 ⟨d, rfl, hD, hb2⟩
          obtain ⟨dA, dn, dc, rfl⟩ := hD.form
          have hb3 := up_trans hb hb2
          have hz2 : w.heap.size + 1 < w2.heap.size := by have := hb2.size; omega
          have y0' : w2.cell? ⟨w.heap.size, 0, none⟩ = some (.int .i64 _) := (hb2.cell (p := ⟨w.heap.size, 0, none⟩) (by show w.heap.size < wr.heap.size; omega)).trans x0
          have y1' : w2.cell? ⟨w.heap.size, 1, none⟩ = some (.int .i64 n2) := (hb2.cell (p := ⟨w.heap.size, 1, none⟩) (by show w.heap.size < wr.heap.size; omega)).trans x1
          have z0' : w2.cell? ⟨w.heap.size + 1, 0, none⟩ = some (.int .i64 _) := (hb2.cell (p := ⟨w.heap.size + 1, 0, none⟩) hz).trans y0
          have z1' : w2.cell? ⟨w.heap.size + 1, 1, none⟩ = some (.int .i64 b) := (hb2.cell (p := ⟨w.heap.size + 1, 1, none⟩) hz).trans y1
          have g0 : w2.frozen? ⟨w.heap.size + 1, 0, none⟩ = false := (hb2.frozen (p := ⟨w.heap.size + 1, 0, none⟩) hz).trans f0
          have g1 : w2.frozen? ⟨w.heap.size + 1, 1, none⟩ = false := (hb2.frozen (p := ⟨w.heap.size + 1, 1, none⟩) hz).trans f1
          cases is
          · go_wp2_with fail
            go_ret
            exact ⟨ret_bool (HO.out (by simp)).symm, up_trans hb3 (up_alloc _ _)⟩
          · go_wp2_with fail
            go_roundw
            case rel =>
              refine ⟨k + 1, p1, p2, by omega, by go_num, ?_, ?_, cell_al (by go_simp) _, cell_al (by go_simp) _, cell_al (by go_simp) _, cell_al (by go_simp) _, frozen_al (by simp; omega) (by go_simp) _, frozen_al (by simp; omega) (by go_simp) _, ?_⟩
              · exact up_trans (up_set (up_set hb3 (by simp) _) (by simp) _) (up_alloc _ _)
              · simp; omega
              · have := HN.out (by simp)
                exact Lib.hid (by rw [this]; congr 1; omega)
            case measure => simp [intOf]; omega
        · skip
          go_wp2_with fail
          refine HC.out.mono ?_
          rintro e w2 ⟨d, rfl, hD, hb2⟩
          obtain ⟨dA, dn, dc, rfl⟩ := hD.form
          have hb3 := up_trans hb hb2
          have hz2 : w.heap.size + 1 < w2.heap.size := by have := hb2.size; omega
          have y0' : w2.cell? ⟨w.heap.size, 0, none⟩ = some (.int .i64 _) := (hb2.cell (p := ⟨w.heap.size, 0, none⟩) (by show w.heap.size < wr.heap.size; omega)).trans x0
          have y1' : w2.cell? ⟨w.heap.size, 1, none⟩ = some (.int .i64 n2) := (hb2.cell (p := ⟨w.heap.size, 1, none⟩) (by show w.heap.size < wr.heap.size; omega)).trans x1
          have z0' : w2.cell? ⟨w.heap.size + 1, 0, none⟩ = some (.int .i64 _) := (hb2.cell (p := ⟨w.heap.size + 1, 0, none⟩) hz).trans y0
          have z1' : w2.cell? ⟨w.heap.size + 1, 1, none⟩ = some (.int .i64 b) := (hb2.cell (p := ⟨w.heap.size + 1, 1, none⟩) hz).trans y1
          have g0 : w2.frozen? ⟨w.heap.size + 1, 0, none⟩ = false := (hb2.frozen (p := ⟨w.heap.size + 1, 0, none⟩) hz).trans f0
          have g1 : w2.frozen? ⟨w.heap.size + 1, 1, none⟩ = false := (hb2.frozen (p := ⟨w.heap.size + 1, 1, none⟩) hz).trans f1
          cases is
          · go_wp2_with fail
            go_ret
            exact ⟨ret_bool (HO.out (by simp)).symm, up_trans hb3 (up_alloc _ _)⟩
          · go_wp2_with fail
            go_roundw
            case rel =>
              refine ⟨k + 1, p1, p2, by omega, by go_num, ?_, ?_, cell_al (by go_simp) _, cell_al (by go_simp) _, cell_al (by go_simp) _, cell_al (by go_simp) _, frozen_al (by simp; omega) (by go_simp) _, frozen_al (by simp; omega) (by go_simp) _, ?_⟩
              · exact up_trans (up_set (up_set hb3 (by simp) _) (by simp) _) (up_alloc _ _)
              · simp; omega
              · have := HN.out (by simp)
                exact Lib.hid (by rw [this]; congr 1; omega)
            case measure => simp [intOf]; omega
    · have hk2 : k = 301 := by omega
      subst hk2
      go_wp2_with fail
      go_ret
      exact ⟨ret_bool H.out.symm, hb⟩
end Go.Proofs.YtefhfoioeoijlaaGreatDoor
namespace Go.Proofs.YtefhfoioeoijlaaGreatDoor
open Go.RowKit Go.Sort
theorem dirI_no {L : List Item} {n : Stamp} (h : decide (n = ⟨0, 0⟩) = false) (hh : hasI L n = false) : dirI L n = false := by
  unfold dirI
  rw [show decide (n = nilS) = false from h]
  unfold hasI at hh
  unfold gotI
  cases hg : getI L n with
  | none => rfl
  | some x => rw [hg] at hh; cases hh
theorem dirI_is {L : List Item} {n : Stamp} (h : decide (n = ⟨0, 0⟩) = false) : dirI L n = (gotI L n).dir := by
  unfold dirI
  rw [show decide (n = nilS) = false from h]
  rfl
set_option maxRecDepth 4000 in
set_option maxHeartbeats 2000000 in
theorem rdir_at {B : Nat} {w : World} {ub : Nat} {L : List Item} (h : RIs B w ub L) (m1 m2 : Int) : Calls Tryz.prog 142 #[trP ub, .agg #[.int .i64 m1, .int .i64 m2]] w fun e w' => e = .returned (.bool (dirI L ⟨m1, m2⟩)) ∧ Below w.heap.size w w' := by
  have HG := Lib.hid (fun (W : World) (hb : Below w.heap.size w W) => rget_at (h.up hb) m1 m2)
  have H0 := Lib.hid (fun h hh => dirI_no (L := L) (n := ⟨m1, m2⟩) h hh)
  have H1 := Lib.hid (fun h => dirI_is (L := L) (n := ⟨m1, m2⟩) h)
  clear h
  unfold trP at HG ⊢
  have HC : ∀ b, dirI L ⟨m1, m2⟩ = b → Hid (dirI L ⟨m1, m2⟩ = b) := fun b h => h
  rcases stamp_cases m1 m2 0 0 with ⟨h1, h2⟩ | ⟨h1, h2⟩ | h1
  · subst h1; subst h2
    rw [dirI_zero]
    clear H0 H1 HC
    generalize gotI L ⟨0, 0⟩ = x at *
    generalize hasI L ⟨0, 0⟩ = is at *
    obtain ⟨⟨i1, i2⟩, ⟨p1, p2⟩, name, dir, gone, data, ⟨b1, b2⟩⟩ := x
    unfold itV at HG
    simp only at HG
    go_enter Tryz.func142, Tryz.ntmps142
    go_wp2_with fail
    refine (HG.out _ (up_alloc _ _)).mono ?_
    rintro e w1 ⟨d, rfl, hD, hb1⟩
    obtain ⟨dA, dn, dc, rfl⟩ := hD.form
    have hb := up_trans (up_trans (up_alloc w _) hb1) (up_alloc w1 (.cells #[.int .i64 i1, .int .i64 i2, .int .i64 p1, .int .i64 p2, .string name, .bool dir, .bool gone, .slice dA dn dc, .int .i64 b1, .int .i64 b2] 127))
    obtain ⟨hc1, hf1⟩ := bcell hb1
    have hz := hb1.size
    have q0 : w1.cell? ⟨w.heap.size, 0, none⟩ = some (.int .i64 0) := by go_simp
    have q1 : w1.cell? ⟨w.heap.size, 1, none⟩ = some (.int .i64 0) := by go_simp
    have hzz : w.heap.size < w1.heap.size := by simp at hz; omega
    go_wp2_with fail
    go_ret
    exact ⟨rfl, hb⟩
  · subst h1
    have hne : decide ((⟨0, m2⟩ : Stamp) = ⟨0, 0⟩) = false := stamp_eq_ff2 _ _ h2
    have H0' := Lib.hid (H0.out hne)
    have H1' := Lib.hid (H1.out hne)
    clear H0 H1 HC hne
    generalize dirI L ⟨0, m2⟩ = res at *
    generalize gotI L ⟨0, m2⟩ = x at *
    generalize hasI L ⟨0, m2⟩ = is at *
    obtain ⟨⟨i1, i2⟩, ⟨p1, p2⟩, name, dir, gone, data, ⟨b1, b2⟩⟩ := x
    unfold itV at HG
    simp only at HG H1'
    go_enter Tryz.func142, Tryz.ntmps142
    go_wp2_with fail
    refine (HG.out _ (up_alloc _ _)).mono ?_
    rintro e w1 ⟨d, rfl, hD, hb1⟩
    obtain ⟨dA, dn, dc, rfl⟩ := hD.form
    have hb := up_trans (up_trans (up_alloc w _) hb1) (up_alloc w1 (.cells #[.int .i64 i1, .int .i64 i2, .int .i64 p1, .int .i64 p2, .string name, .bool dir, .bool gone, .slice dA dn dc, .int .i64 b1, .int .i64 b2] 127))
    obtain ⟨hc1, hf1⟩ := bcell hb1
    have hz := hb1.size
    have q0 : w1.cell? ⟨w.heap.size, 0, none⟩ = some (.int .i64 0) := by go_simp
    have q1 : w1.cell? ⟨w.heap.size, 1, none⟩ = some (.int .i64 m2) := by go_simp
    have hzz : w.heap.size < w1.heap.size := by simp at hz; omega
    cases is
    · have H2 := Lib.hid (H0'.out rfl)
      go_wp2_with fail
      go_ret
      exact ⟨ret_bool H2.out.symm, hb⟩
    · go_wp2_with fail
      go_ret
      exact ⟨ret_bool H1'.out.symm, hb⟩
  · skip
    have hne : decide ((⟨m1, m2⟩ : Stamp) = ⟨0, 0⟩) = false := stamp_eq_ff1 _ _ h1
    have H0' := Lib.hid (H0.out hne)
    have H1' := Lib.hid (H1.out hne)
    clear H0 H1 HC hne
    generalize dirI L ⟨m1, m2⟩ = res at *
    generalize gotI L ⟨m1, m2⟩ = x at *
    generalize hasI L ⟨m1, m2⟩ = is at *
    obtain ⟨⟨i1, i2⟩, ⟨p1, p2⟩, name, dir, gone, data, ⟨b1, b2⟩⟩ := x
    unfold itV at HG
    simp only at HG H1'
    go_enter Tryz.func142, Tryz.ntmps142
    go_wp2_with fail
    refine (HG.out _ (up_alloc _ _)).mono ?_
    rintro e w1 ⟨d, rfl, hD, hb1⟩
    obtain ⟨dA, dn, dc, rfl⟩ := hD.form
    have hb := up_trans (up_trans (up_alloc w _) hb1) (up_alloc w1 (.cells #[.int .i64 i1, .int .i64 i2, .int .i64 p1, .int .i64 p2, .string name, .bool dir, .bool gone, .slice dA dn dc, .int .i64 b1, .int .i64 b2] 127))
    obtain ⟨hc1, hf1⟩ := bcell hb1
    have hz := hb1.size
    have q0 : w1.cell? ⟨w.heap.size, 0, none⟩ = some (.int .i64 m1) := by go_simp
    have q1 : w1.cell? ⟨w.heap.size, 1, none⟩ = some (.int .i64 m2) := by go_simp
    have hzz : w.heap.size < w1.heap.size := by simp at hz; omega
    cases is
    · have H2 := Lib.hid (H0'.out rfl)
      go_wp2_with fail
      go_ret
      exact ⟨ret_bool H2.out.symm, hb⟩
    · go_wp2_with fail
      go_ret
      exact ⟨ret_bool H1'.out.symm, hb⟩
end Go.Proofs.YtefhfoioeoijlaaGreatDoor

/- The two logs side by side: what the document's log answers where the log's answer is known; the document's tree opened. (Numbers as in Plays.) -/
import Derived.Test.YtefhfoioeoijlaaGreatPlays
import Derived.Test.YtefhfoioeoijlaaGreatGPB
import Derived.Test.YtefhfoioeoijlaaGreatGPC
import Derived.Test.YtefhfoioeoijlaaGreatGS
import Derived.Test.YtefhfoioeoijlaaGreatGB
import Derived.Test.YtefhfoioeoijlaaGreatCopy
import Derived.Test.YtefhfoioeoijlaaGreatGV
set_option linter.unusedVariables false
namespace Go.Proofs.YtefhfoioeoijlaaGreat
open Go Go.RowKit Go.Sort
section
variable {ρ : Operand → Value} {P : Program} {d : Option Tmp} {ty : TypeId} {pos : String} {af : Array Edge} {g : Option (Nat × Bool)} {w : World}
/- these two stand in Rws and Step, too, but the pruned texts leave them out -/
theorem ne_same {o : Oper} {m : Int} (h : (execOp ρ o).run P w = .ok (.value (.bool (decide (m ≠ m)))) w) : (execOp ρ o).run P w = .ok (.value (.bool false)) w := by rw [h]; simp
theorem r_neb {t yt : TypeId} {x y : Operand} {a b : Bool} (ht : P.underlying t = some .bool) (hx : ρ x = .bool a) (hy : ρ y = .bool b) : (execOp ρ ⟨d, .binOp .neq t x y yt, ty, pos, af, g⟩).run P w = .ok (.value (.bool (!(a == b)))) w := by
  have h := run_equalIn_bool (P := P) w 9999 t a b ht
  simp [execOp, hx, hy, eqGuard, binOp, Op.equal, Op.maxDepth, h]
end
theorem One.srt {B : Nat} {w : World} {la : Nat} {p : List OpD} (h : One B w la p) : SrtO p := by obtain ⟨r, h⟩ := h.r; exact h.srt
theorem One.names {B : Nat} {w : World} {la : Nat} {p : List OpD} (h : One B w la p) : ∀ o ∈ p, o.name.size ≤ 9223372036854775807 := by obtain ⟨r, h⟩ := h.r; exact h.names
theorem rins_is {B : Nat} {w : World} {mb vc : Nat} {vA : Option Addr} {D : List OpD} (hmb : w.heap[mb]? = some (.cells #[.slice vA D.length vc] 30 (0, 0))) (hD : ORow 38 B (mb + 1) w (.slice vA D.length vc) D) (hn : D.length ≤ 10000) (hBm : B ≤ mb) (hBw : B ≤ w.heap.size) (hsD : SrtO D) (hnm : ∀ x ∈ D, x.name.size ≤ 9223372036854775807)
    (o : OpD) (oA : Option Addr) (on oc : Nat) (hdo : Dat B w (.slice oA on oc) o.data) (hno : o.name.size ≤ 9223372036854775807) {nn kk : Int} (ha : ansI D o nn kk) :
    Calls Tryz.prog 9 #[trP mb, opV o (.slice oA on oc)] w fun e w' => e = .returned (.tuple #[.int .i64 nn, .int .i64 kk]) ∧ RLog B (mb + 1) w' mb (insL D o) ∧ Chg w w' mb := by
  refine Calls.mono (rins_at hmb hD hn hBm (Nat.lt_succ_self _) (lt_ob hmb) hBw hsD hnm o oA on oc (Dat.len hdo).1 hdo hno) fun e w' he => ?_
  obtain ⟨n2, k2, h1, h2, h3, h4⟩ := he
  obtain ⟨rfl, rfl⟩ := ans_same h2 ha
  exact ⟨h1, h3, h4⟩
theorem rrem_is {B : Nat} {w : World} {mb vc : Nat} {vA : Option Addr} {D : List OpD} (hmb : w.heap[mb]? = some (.cells #[.slice vA D.length vc] 30 (0, 0))) (hD : ORow 38 B (mb + 1) w (.slice vA D.length vc) D) (hn : D.length ≤ 10000) (hBm : B ≤ mb) (hBw : B ≤ w.heap.size) (hsD : SrtO D) (hnm : ∀ x ∈ D, x.name.size ≤ 9223372036854775807)
    (m1 m2 : Int) {nn kk : Int} (ha : ansR D ⟨m1, m2⟩ nn kk) :
    Calls Tryz.prog 8 #[trP mb, .agg #[.int .i64 m1, .int .i64 m2]] w fun e w' => e = .returned (.tuple #[.int .i64 nn, .int .i64 kk]) ∧ RLog B (mb + 1) w' mb (remL D ⟨m1, m2⟩) ∧ Chg w w' mb := by
  refine Calls.mono (rrem_at hmb hD hn hBm (Nat.lt_succ_self _) (lt_ob hmb) hBw hsD hnm m1 m2) fun e w' he => ?_
  obtain ⟨n2, k2, h1, h2, h3, h4⟩ := he
  obtain ⟨rfl, rfl⟩ := ansR_same h2 ha
  exact ⟨h1, h3, h4⟩
theorem rbuild_open {B base : Nat} {w : World} {A : Option Addr} {c : Nat} {D : List OpD} (h : ORow 38 B base w (.slice A D.length c) D) (hs : SrtO D) (hnm : ∀ x ∈ D, x.name.size ≤ 9223372036854775807) (hB : B ≤ w.heap.size) (hn : D.length ≤ 10000) :
    Calls Tryz.prog 17 #[.slice A D.length c] w fun e w' => ∃ ub A' c', e = .returned (trP ub) ∧ w'.heap[ub]? = some (.cells #[.slice A' (playA D).length c'] 54 (0, 0)) ∧ IRow 76 B B w' (.slice A' (playA D).length c') (playA D) ∧ Up w w' := by
  refine Calls.mono (rbuild_at (ORow.ops h hnm) hB (by omega)) fun e w' he => ?_
  obtain ⟨ub, h1, ⟨_, v, h3, h4, _⟩, h6, _⟩ := he
  rw [buildI_srt hs] at h4
  obtain ⟨A', c', rfl⟩ := h4.form
  exact ⟨ub, A', c', h1, h3, h4, h6⟩
/-- Has a stamp come up among the first k? -/
theorem has_step {D : List OpD} {m : Stamp} {k : Nat} {x : OpD} {b : Bool} (hx : D[k]? = some x) (hb : b = hasL (D.take k) m) : (b || decide ((⟨x.at_.t, x.at_.w⟩ : Stamp) = ⟨m.t, m.w⟩)) = hasL (D.take (k + 1)) m := by
  have e : D.take (k + 1) = D.take k ++ [x] := by rw [List.take_add_one, hx]; rfl
  rw [hb, e]; unfold hasL; rw [List.any_append, List.any_cons, List.any_nil, Bool.or_false] <;> rfl
theorem has_end {D : List OpD} {m : Stamp} {k : Nat} {b : Bool} (h : b = hasL (D.take k) m) (hk : D.length ≤ k) : hasL D m = b := by rw [h, List.take_of_length_le hk]
theorem has_keep {D : List OpD} {m : Stamp} {k : Nat} {b : Bool} (h : b = hasL (D.take k) m) (e : b = true) : true = hasL (D.take (k + 1)) m := by
  rw [e] at h
  obtain ⟨x, hx, e2⟩ := hasL_iff.1 h.symm
  have e3 : D.take k = (D.take (k + 1)).take k := by rw [List.take_take, Nat.min_eq_left (by omega)]
  rw [e3] at hx
  exact (hasL_iff.2 ⟨x, List.mem_of_mem_take hx, e2⟩).symm
end Go.Proofs.YtefhfoioeoijlaaGreat

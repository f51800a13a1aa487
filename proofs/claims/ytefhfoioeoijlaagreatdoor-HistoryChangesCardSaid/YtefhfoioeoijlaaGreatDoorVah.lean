/- Ent, Short, GJ, GK -/
import Derived.Test.YtefhfoioeoijlaaGreatDoorVab
import Derived.Test.YtefhfoioeoijlaaGreatDoorVad
import Derived.Test.YtefhfoioeoijlaaGreatDoorVag
set_option linter.unusedVariables false
set_option linter.unusedSimpArgs false
namespace Go.Proofs.YtefhfoioeoijlaaGreatDoor
open Go Go.RowKit Go.Sort
structure EntD where
  name : ByteArray
  node : Stamp
  dir : Bool
  size : Int
def enC (e : EntD) : List Value := [.string e.name, .int .i64 e.node.t, .int .i64 e.node.w, .bool e.dir, .int .i64 e.size]
def flatE (L : List EntD) : List Value := L.flatMap enC
theorem flatE_cons (x : EntD) (L : List EntD) : flatE (x :: L) = enC x ++ flatE L := rfl
theorem flatE_snoc (x : EntD) (L : List EntD) : flatE (L ++ [x]) = flatE L ++ enC x := by simp [flatE]
theorem flatE_length : ∀ (L : List EntD), (flatE L).length = L.length * 5
  | [] => rfl
  | y :: L => by rw [flatE_cons, List.length_append, flatE_length L]; simp [enC]; omega
theorem flatE_get : ∀ {L : List EntD} {i k : Nat} {x : EntD}, L[i]? = some x → k < 5 → (flatE L)[i * 5 + k]? = (enC x)[k]?
  | y :: L, 0, k, x, h1, hk => by
    simp at h1; subst h1
    rw [flatE_cons, Nat.zero_mul, Nat.zero_add, List.getElem?_append_left (by simpa [enC] using hk)]
  | y :: L, i + 1, k, x, h1, hk => by
    rw [flatE_cons, List.getElem?_append_right (by simp [enC]; omega), show (i + 1) * 5 + k - (enC y).length = i * 5 + k by simp [enC]; omega]
    exact flatE_get (by simpa using h1) hk
def ERow (T : TypeId) (B base : Nat) (w : World) (v : Value) (L : List EntD) : Prop := w.ownsRow base T 5 v L.length (flatE L)
theorem ERow.nil (T : TypeId) (B base : Nat) (w : World) : ERow T B base w (.slice none 0 0) [] := World.ownsRow_nil w base _ 5
theorem ERow.keep {T : TypeId} {B base : Nat} {w w' : World} {v : Value} {L : List EntD} (h : ERow T B base w v L) {q : Option Nat} (hg : w.grownBy w' q) (hv : v.ownBlock = none ∨ v.ownBlock ≠ q) : ERow T B base w' v L := World.ownsRow.kept h hg hv
theorem ERow.up {T : TypeId} {B base : Nat} {w w' : World} {v : Value} {L : List EntD} (h : ERow T B base w v L) (hb : Up w w') : ERow T B base w' v L :=
  h.keep (q := none) ⟨hb.os, hb.tape, hb.output, hb.size, fun k hk _ => hb.block k hk⟩ (by cases hv : v.ownBlock <;> simp)
theorem ERow.form {T : TypeId} {B base : Nat} {w : World} {v : Value} {L : List EntD} (h : ERow T B base w v L) : ∃ A c, v = .slice A L.length c := by
  obtain ⟨_, ⟨rfl, h0⟩ | ⟨g, cap, cur, rfl, _⟩⟩ := h
  · exact ⟨none, 0, by rw [h0]⟩
  · exact ⟨_, cap, rfl⟩
theorem ERow.own {T : TypeId} {B base : Nat} {w : World} {v : Value} {L : List EntD} (h : ERow T B base w v L) : ∀ k, v.ownBlock = some k → base ≤ k ∧ k < w.heap.size := World.ownsRow.lt h
theorem ERow.to {T : TypeId} {B base : Nat} {w : World} {v : Value} {L L' : List EntD} (h : ERow T B base w v L) (e : L = L') : ERow T B base w v L' := e ▸ h
theorem ERow.elem {T : TypeId} {B base : Nat} {w : World} {g n c : Nat} {L : List EntD} (h : ERow T B base w (.slice (some ⟨g, 0, none⟩) n c) L) {i : Nat} {x : EntD} (hi : L[i]? = some x) :
    ∃ cur, w.heap[g]? = some (.cells cur T (0, 0)) ∧ (cur.toList.drop (i * 5)).take 5 = enC x := by
  have hil := (List.getElem?_eq_some_iff.1 hi).1
  obtain ⟨h1, ⟨e, _⟩ | ⟨g', cap, cur, e, hb, hg, hc, hm, hcs, htk⟩⟩ := h
  · cases e
  · simp only [Value.slice.injEq, Option.some.injEq, Addr.mk.injEq, and_true, true_and] at e
    obtain ⟨rfl, rfl, rfl⟩ := e
    refine ⟨cur, hg, ?_⟩
    have hl := flatE_length L
    apply List.ext_getElem?
    intro j
    by_cases hj : j < 5
    · rw [List.getElem?_take, if_pos hj, List.getElem?_drop, ← flatE_get hi hj, ← htk, List.getElem?_take, if_pos (by omega)]
    · rw [List.getElem?_eq_none (by simp; omega), List.getElem?_eq_none (by simp [enC]; omega)]
section
variable {ρ : Operand → Value} {P : Program} {w : World} {d : Option Tmp} {ty : TypeId} {pos : String} {af : Array Edge} {g : Option (Nat × Bool)}
theorem r_adds {t yt : TypeId} {x y : Operand} {m n : ByteArray} (hx : ρ x = .string m) (hy : ρ y = .string n) (h : m.size + n.size ≤ 9223372036854775807) : (execOp ρ ⟨d, .binOp .add t x y yt, ty, pos, af, g⟩).run P w = .ok (.value (.string (m ++ n))) w := by
  simp [execOp, hx, hy, eqGuard, binOp, Op.stringOp]; omega
end
end Go.Proofs.YtefhfoioeoijlaaGreatDoor
set_option linter.unusedVariables false
set_option linter.unusedSimpArgs false
namespace Go.Proofs.YtefhfoioeoijlaaGreatDoor
open Go Go.RowKit Go.Sort
abbrev I_ (n : Int) : Value := .int .i64 n
abbrev S_ (s : ByteArray) : Value := .string s
abbrev B_ (b : Bool) : Value := .bool b
abbrev pt (b k : Nat) : Value := .pointer (some ⟨b, k, none⟩)
abbrev sl (b o n c : Nat) : Value := .slice (some ⟨b, o, none⟩) n c
abbrev ud : Value := undef
section
variable {X : List Nat} {a b c : World}
theorem mtu (M : Mod X a b) (u : Up b c) : Mod X a c := Mod.trans M (Mod.of_up u)
theorem mtx {q : Nat} (M : Mod X a b) (k : Chg b c q) (h : q ∈ X := by simp) : Mod X a c := Mod.trans M (Mod.of_chg k h)
theorem mtn {q : Nat} (M : Mod X a b) (k : Chg b c q) (g : a.heap.size ≤ q) : Mod X a c := Mod.trans' M k (fun i hi => by injection hi with hi; rw [← hi]; exact g)
theorem gsz {n : Nat} (e : n = b.heap.size) (M : Mod X a b) : a.heap.size ≤ n := by rw [e]; exact M.size
theorem lsz {n x : Nat} {o : Obj} (e : n = b.heap.size) (h : b.heap[x]? = some o) : x < n := by rw [e]; exact lt_ob h
end
section
variable {P : Program} {ops : Array Oper} {Q : Exit → Act → World → Prop} {a : Act} {w w0 : World} {rest : List Oper} {o oi : Oper} {J : Act → World → Prop} {S : World → Prop} {X : List Nat} {fuel : Nat} {listed : Array Bool}
theorem hxu (u : Up w0 w) (k : HL P ops Q (Mod X w) fuel listed a w) : Mod X w0 w ∧ HL P ops Q (Mod X w0) fuel listed a w := hx (Mod.of_up u) (fun y hy => .inl hy) k
theorem hxy {n : Nat} (u : Up w0 w) (e : n = w0.heap.size) (k : HL P ops Q (Mod (n :: X) w) fuel listed a w) : Mod X w0 w ∧ HL P ops Q (Mod X w0) fuel listed a w := hx (Mod.of_up u) (ynew e) k
theorem hxc {q : Nat} (c : Chg w0 w q) (k : HL P ops Q (Mod X w) fuel listed a w) (h : q ∈ X := by simp) : Mod X w0 w ∧ HL P ops Q (Mod X w0) fuel listed a w := hx (Mod.of_chg c h) (fun y hy => .inl hy) k
theorem h1a (i fuel : Nat) (hi : ops[i]? = some oi) (k : St1 P ops Q oi (fun a' w' => S w' ∧ HL P ops Q S fuel (listed.setIfInBounds i true) a' w') a w) (hr : Region.ready .any ops listed = [i] := by kernel_rfl) : HL P ops Q S (fuel + 1) listed a w := h1 hr hi k
theorem h2a {oj : Oper} (i j fuel : Nat) (hi : ops[i]? = some oi) (hj : ops[j]? = some oj) (k : St1 P ops Q oi (fun a' w' => S w' ∧ HL P ops Q S fuel (listed.setIfInBounds i true) a' w') a w)
    (k2 : St1 P ops Q oj (fun a' w' => S w' ∧ HL P ops Q S fuel (listed.setIfInBounds j true) a' w') a w) (hr : Region.ready .any ops listed = [i, j] := by kernel_rfl) : HL P ops Q S (fuel + 1) listed a w := h2 hr hi hj k k2
theorem hqk {v : Value} (i fuel : Nat) (hi : ops[i]? = some oi) (hw : Region.wanted oi (yielded ops a.tmps) = true) (h : ∀ w', Mod X w w' → (execOp a.eval oi).run P w' = .ok (.value v) w')
    (k : HL P ops Q (Mod X w) fuel (listed.setIfInBounds i true) (a.put oi.dst v) w) (hQ : ∀ c a w, Q (.panic c) (a.put oi.dst v) w → Q (.panic c) a w := by exact fun _ _ _ h => h) (hs : Region.noSelect ops = true := by kernel_rfl) (hf : Region.free .any ops listed i = true := by kernel_rfl) (hr : (Region.ready .any ops listed).contains i = true := by kernel_rfl) :
    HL P ops Q (Mod X w) (fuel + 1) listed a w := hvq hi hQ (Mod.refl _ _) hw h k hs hf hr
theorem wlv {v : Value} {w' : World} (h : (execOp a.eval o).run P w = .ok (.value v) w') (k : WL P ops Q rest (a.put o.dst v) w') (hw : Region.wanted o (yielded ops a.tmps) = true := by rfl) : WL P ops Q (o :: rest) a w := wl (sv hw h k)
theorem eb {x : Value} {b c : Bool} (hb : b = c) (h : x = .bool b := by kernel_rfl) : x = .bool c := ebool h hb
end
section
variable {P : Program} {ops : Array Oper} {Q : Exit → Act → World → Prop} {a : Act} {w : World} {J : Act → World → Prop} {d : Option Tmp} {ty : TypeId} {pos : String} {af : Array Edge} {g : Option (Nat × Bool)}
theorem sca {f : FuncId} {x : Operand} {xs : List Operand} {ats : Array TypeId} {R : Ending → World → Prop} (all : List Value) (hf : ∀ args w, (callFunc f args).run P w = .ok (.enter f args) w) (hc : Calls P f all.toArray w R) (k : ∀ e w', R e w' → ∃ v, e = .returned v ∧ J (a.put d v) w')
    (hx : a.eval x = .func (.func f) #[] ([] : List Value).toArray := by kernel_rfl) (ha : xs.map a.eval ++ [] = all := by kernel_rfl) (hw : Region.wanted (⟨d, .call ⟨.value x, xs.toArray, ats⟩, ty, pos, af, g⟩ : Oper) (yielded ops a.tmps) = true := by rfl) : St1 P ops Q ⟨d, .call ⟨.value x, xs.toArray, ats⟩, ty, pos, af, g⟩ J a w :=
  sc hw (r_callv (caps := []) hf hx ha) hc k
end
section
variable {P : Program} {d : Option Tmp} {ty : TypeId} {pos : String} {af : Array Edge} {g : Option (Nat × Bool)} {ρ : Operand → Value} {w : World}
theorem ld {t : TypeId} {x : Operand} {b : Nat} {v : Value} {cs : Array Value} {T : TypeId} {fr : Nat × Nat} (k : Nat) (ht : ∀ w, (isAgg t).run P w = .ok false w) (hb : w.heap[b]? = some (.cells cs T fr))
    (hx : ρ x = .pointer (some ⟨b, k, none⟩) := by kernel_rfl) (hv : cs.toList[k]? = some v := by kernel_rfl) : (execOp ρ ⟨d, .load t x, ty, pos, af, g⟩).run P w = .ok (.value v) w := r_load hx ht hb hv
theorem lds {t : TypeId} {x : Operand} {b : Nat} {vs : List Value} {cs : Array Value} {T : TypeId} {fr : Nat × Nat} (k : Nat) (ht : ∀ w, (isAgg t).run P w = .ok true w) (hs : ∀ w, (sizeOf t).run P w = .ok vs.length w) (hb : w.heap[b]? = some (.cells cs T fr))
    (hx : ρ x = .pointer (some ⟨b, k, none⟩) := by kernel_rfl) (hv : (cs.toList.drop k).take vs.length = vs := by kernel_rfl) : (execOp ρ ⟨d, .load t x, ty, pos, af, g⟩).run P w = .ok (.value (.agg vs.toArray)) w := r_loads hx ht hs hb hv
theorem mv {x : Operand} {v : Value} (h : ρ x = v := by kernel_rfl) : (execOp ρ ⟨d, .move x, ty, pos, af, g⟩).run P w = .ok (.value v) w := r_move h
theorem fa {t : TypeId} {x : Operand} {i : Nat} {v : Value} (u : Value) (hx : ρ x = u := by kernel_rfl) (h : ∀ w, (Instr.fieldAt t u i).run P w = .ok v w := by intro _; kernel_rfl) : (execOp ρ ⟨d, .fieldAddr t x i, ty, pos, af, g⟩).run P w = .ok (.value v) w := r_fieldAddr hx h
theorem xt {x : Operand} {i : Nat} {v : Value} (vs : List Value) (hx : ρ x = .tuple vs.toArray := by kernel_rfl) (h : vs[i]? = some v := by rfl) : (execOp ρ ⟨d, .extract x i, ty, pos, af, g⟩).run P w = .ok (.value v) w := r_extract hx h
theorem ltI {t yt : TypeId} {x y : Operand} (m n : Int) (hx : ρ x = .int .i64 m := by kernel_rfl) (hy : ρ y = .int .i64 n := by kernel_rfl) : (execOp ρ ⟨d, .binOp .lss t x y yt, ty, pos, af, g⟩).run P w = .ok (.value (.bool (decide (m < n)))) w := r_lt hx hy
theorem eqI {t yt : TypeId} {x y : Operand} (m n : Int) (hx : ρ x = .int .i64 m := by kernel_rfl) (hy : ρ y = .int .i64 n := by kernel_rfl) : (execOp ρ ⟨d, .binOp .eql t x y yt, ty, pos, af, g⟩).run P w = .ok (.value (.bool (decide (m = n)))) w := r_eq hx hy
theorem neI {t yt : TypeId} {x y : Operand} (m n : Int) (hx : ρ x = .int .i64 m := by kernel_rfl) (hy : ρ y = .int .i64 n := by kernel_rfl) : (execOp ρ ⟨d, .binOp .neq t x y yt, ty, pos, af, g⟩).run P w = .ok (.value (.bool (decide (m ≠ n)))) w := r_ne hx hy
theorem adI {t yt : TypeId} {x y : Operand} {c : Int} (m n : Int) (h : IntKind.i64.wrap (m + n) = c) (hx : ρ x = .int .i64 m := by kernel_rfl) (hy : ρ y = .int .i64 n := by kernel_rfl) : (execOp ρ ⟨d, .binOp .add t x y yt, ty, pos, af, g⟩).run P w = .ok (.value (.int .i64 c)) w := r_add hx hy h
end
end Go.Proofs.YtefhfoioeoijlaaGreatDoor
namespace Go.Proofs.YtefhfoioeoijlaaGreatDoor
open Go Go.RowKit Go.Sort
def frL : Nat → Nat → List (Nat × Value) → (Nat → Value) → List Value
  | 0, _, _, _ => []
  | n + 1, i, [], Y => Y i :: frL n (i + 1) [] Y
  | n + 1, i, (k, v) :: kv, Y => bif Nat.beq i k then v :: frL n (i + 1) kv Y else Y i :: frL n (i + 1) ((k, v) :: kv) Y
def frA (n : Nat) (kv : List (Nat × Value)) (d : List Deferred) (Y : Nat → Value) : Act := ⟨(frL n 0 kv Y).toArray, d⟩
def HasFr (a : Act) (n : Nat) (kv : List (Nat × Value)) (d : List Deferred) : Prop := ∃ Y, a = frA n kv d Y
theorem hmk {a : Act} {n : Nat} {kv : List (Nat × Value)} {d : List Deferred} (h : a = frA n kv d (fun i => a.tmps.getD i undef) := by kernel_rfl) : HasFr a n kv d := ⟨_, h⟩
end Go.Proofs.YtefhfoioeoijlaaGreatDoor
namespace Go.Proofs.YtefhfoioeoijlaaGreatDoor
open Go Go.RowKit Go.Sort
section
variable {P : Program} {fn : Func} {R : Ending → World → Prop} {a : Act} {w : World}
theorem br1 {v : Value} {t : Tmp} (h : fn.results = #[.tmp t]) (hR : R (.returned v) w) (hv : a.tmps[t]?.getD undef = v := by kernel_rfl) (hd : a.defers = [] := by kernel_rfl) : bodyPost P fn R .ret a w := bodyPost_ret (res1 h (rv_t hv)) hd hR
theorem br2 {v u : Value} {t s : Tmp} (h : fn.results = #[.tmp t, .tmp s]) (hR : R (.returned (.tuple #[v, u])) w) (hv : a.tmps[t]?.getD undef = v := by kernel_rfl) (hu : a.tmps[s]?.getD undef = u := by kernel_rfl) (hd : a.defers = [] := by kernel_rfl) : bodyPost P fn R .ret a w := bodyPost_ret (res2 h (rv_t hv) (rv_t hu)) hd hR
end
section
variable {P : Program} {ops : Array Oper} {Q : Exit → Act → World → Prop} {a : Act} {w : World} {rest : List Oper} {o : Oper} {J : Act → World → Prop}
theorem wlw {v : Value} {w' : World} {j : Nat} {want b : Bool} (hg : o.guard = some (j, want)) (hb : b = want) (h : (execOp a.eval o).run P w = .ok (.value v) w') (k : WL P ops Q rest (a.put o.dst v) w') (hy : yielded ops a.tmps j = some b := by kernel_rfl) : WL P ops Q (o :: rest) a w := wl (sv (wt hg hy hb) h k)
theorem wls {j : Nat} {want b : Bool} (hg : o.guard = some (j, want)) (hb : b = !want) (k : WL P ops Q rest (a.put o.dst undef) w) (hy : yielded ops a.tmps j = some b := by kernel_rfl) : WL P ops Q (o :: rest) a w := wl (sp (wf hg hy hb) k)
theorem bcd {p : Prop} {q : Prop} [Decidable q] {b : Bool} (k : decide q = b) (f : b = false → ¬ q → p) (t : b = true → q → p) : p := by
  cases b with
  | false => exact f rfl (of_decide_eq_false k)
  | true => exact t rfl (of_decide_eq_true k)
end
end Go.Proofs.YtefhfoioeoijlaaGreatDoor
namespace Go.Proofs.YtefhfoioeoijlaaGreatDoor
open Go Go.RowKit Go.Sort
section
variable {P : Program} {d : Option Tmp} {ty : TypeId} {pos : String} {af : Array Edge} {g : Option (Nat × Bool)} {ρ : Operand → Value} {w : World}
theorem ixa {t e : TypeId} {x i : Operand} {A : Option Addr} {b o m : Nat} (n c sz : Nat) (j : Int) (hA : A = some ⟨b, o, none⟩) (hu : P.underlying t = some (.slice e)) (hsz : ∀ w, (sizeOf e).run P w = .ok sz w) (hx : ρ x = .slice A n c := by kernel_rfl) (hi : ρ i = .int .i64 j := by kernel_rfl)
    (h0 : 0 ≤ j := by omega) (h1 : j < n := by omega) (hm : o + j.toNat * sz = m := by first | omega | simp) : (execOp ρ ⟨d, .indexAddr t x i, ty, pos, af, g⟩).run P w = .ok (.value (.pointer (some ⟨b, m, none⟩))) w := by
  subst hA; exact r_ixaddr hx hi hu hsz h0 h1 hm
theorem nck {x : Operand} {p : Addr} (hx : ρ x = .pointer (some p) := by kernel_rfl) : (execOp ρ ⟨d, .nilCheck x, ty, pos, af, g⟩).run P w = .ok (.value (.pointer (some p))) w := r_nilCheck hx
theorem ln {t : TypeId} {x : Operand} {e : TypeId} (ad : Option Addr) (n c : Nat) (hu : P.underlying t = some (.slice e)) (hx : ρ x = .slice ad n c := by kernel_rfl) : (execOp ρ ⟨d, .call ⟨.builtin .len, #[x], #[t]⟩, ty, pos, af, g⟩).run P w = .ok (.value (.int .i64 n)) w := r_len hu hx
theorem pkT {c x y : Operand} {v : Value} (hc : ρ c = .bool true) (hx : ρ x = v := by kernel_rfl) : (execOp ρ ⟨d, .pick c x y, ty, pos, af, g⟩).run P w = .ok (.value v) w := r_pkT hc hx
theorem pkF {c x y : Operand} {v : Value} (hc : ρ c = .bool false) (hy : ρ y = v := by kernel_rfl) : (execOp ρ ⟨d, .pick c x y, ty, pos, af, g⟩).run P w = .ok (.value v) w := r_pkF hc hy
end
section
variable {P : Program} {ops : Array Oper} {C : World → Prop} {Qq : Act → Prop} {a : Act} {rest : List Oper} {o : Oper}
theorem qls {j : Nat} {want b : Bool} (hg : o.guard = some (j, want)) (hb : b = !want) (k : QL P ops C Qq rest (a.put o.dst undef)) (hy : yielded ops a.tmps j = some b := by kernel_rfl) : QL P ops C Qq (o :: rest) a := qp (wf hg hy hb) k
end
end Go.Proofs.YtefhfoioeoijlaaGreatDoor
set_option linter.unusedVariables false
set_option linter.unusedSimpArgs false
namespace Go.Proofs.YtefhfoioeoijlaaGreatDoor
open Go Go.RowKit Go.Sort
set_option maxHeartbeats 2000000 in
theorem opcompare_at {w : World} (o p : OpD) (oA pA : Option Addr) (on oc pn pc : Nat) :
    Calls Tryz.prog 115 #[opV o (.slice oA on oc), opV p (.slice pA pn pc)] w fun e w' => e = .returned (.int .i64 (cmpS o.at_ p.at_)) ∧ Up w w' := by
  go_enter Tryz.func115, Tryz.ntmps115
  refine wp_seq (rg_lit (wl (sn rfl (cs := (opC o (.slice oA on oc)).toArray) (T := 49) (V := fun b => pt b 0) (r_box (v := opV o (.slice oA on oc)) (by kernel_rfl) rfl) fun b1 w2 e3 h4 u5 => ?_)))
  have M7 := mtu (Mod.refl [] w) u5
  refine wl (sn rfl (cs := (opC p (.slice pA pn pc)).toArray) (T := 49) (V := fun b => pt b 0) (r_box (v := opV p (.slice pA pn pc)) (by kernel_rfl) rfl) fun b8 w9 e10 h11 u12 => ?_)
  have M15 := mtu M7 u12
  refine was (v := I_ 0) (wnil (then_n (wp_seq (rg_lit (wlv (v := pt b1 1) (fa (pt b1 0)) ?_)))))
  have h16 := (up_ob u12 h4)
  refine wlv (v := .agg #[I_ o.at_.t, I_ o.at_.w]) (lds 1 Ty.ag24 Ty.sz24 h16) (wlv (v := pt b8 1) (fa (pt b8 0)) (wlv (v := .agg #[I_ p.at_.t, I_ p.at_.w]) (lds 1 Ty.ag24 Ty.sz24 h11) (wl (sca [.agg #[I_ o.at_.t, I_ o.at_.w], .agg #[I_ p.at_.t, I_ p.at_.w]] En.f137 (scompare_ups ⟨o.at_.t, o.at_.w⟩ ⟨p.at_.t, p.at_.w⟩ _) ?_))))
  rintro e w17 ⟨rfl, u18⟩
  replace u18 := u18.below
  refine ⟨_, rfl, ?_⟩
  have M19 := mtu M15 u18
  refine was (v := I_ (cmpS ⟨o.at_.t, o.at_.w⟩ ⟨p.at_.t, p.at_.w⟩)) (wnil (then_n (wp_ret ?_)))
  refine br1 (v := I_ (cmpS ⟨o.at_.t, o.at_.w⟩ ⟨p.at_.t, p.at_.w⟩)) rfl ?_
  exact ⟨rfl, (Mod.up M19)⟩
set_option maxHeartbeats 2000000 in
theorem opsort1_at {w : World} (o p : OpD) (oA pA : Option Addr) (on oc pn pc : Nat) :
    Calls Tryz.prog 117 #[opV o (.slice oA on oc), opV p (.slice pA pn pc)] w fun e w' => e = .returned (.bool (decide (o.at_ = p.at_))) ∧ Up w w' := by
  go_enter Tryz.func117, Tryz.ntmps117
  refine wp_seq (rg_lit (wl (sn rfl (cs := (opC o (.slice oA on oc)).toArray) (T := 49) (V := fun b => pt b 0) (r_box (v := opV o (.slice oA on oc)) (by kernel_rfl) rfl) fun b1 w2 e3 h4 u5 => ?_)))
  have M7 := mtu (Mod.refl [] w) u5
  refine wl (sn rfl (cs := (opC p (.slice pA pn pc)).toArray) (T := 49) (V := fun b => pt b 0) (r_box (v := opV p (.slice pA pn pc)) (by kernel_rfl) rfl) fun b8 w9 e10 h11 u12 => ?_)
  have M15 := mtu M7 u12
  refine was (v := B_ false) (wnil (then_n (wp_seq (rg_lit (wlv (v := pt b1 1) (fa (pt b1 0)) ?_)))))
  have h16 := (up_ob u12 h4)
  refine wlv (v := .agg #[I_ o.at_.t, I_ o.at_.w]) (lds 1 Ty.ag24 Ty.sz24 h16) (wlv (v := pt b8 1) (fa (pt b8 0)) (wlv (v := .agg #[I_ p.at_.t, I_ p.at_.w]) (lds 1 Ty.ag24 Ty.sz24 h11) (wl (sb rfl (r_eqS (a := o.at_.t) (b := o.at_.w) (c := p.at_.t) (e := p.at_.w) (by kernel_rfl) (by kernel_rfl)) fun b17 k18 => was (v := B_ b17) (wnil (then_n (wp_ret ?_)))))))
  refine br1 (v := B_ b17) rfl ?_
  exact ⟨by rw [← k18], (Mod.up M15)⟩
set_option maxHeartbeats 2000000 in
theorem opown_at {B : Nat} {w : World} (o : OpD) (oA : Option Addr) (on oc : Nat) (hB : B ≤ w.heap.size) (hd : Dat B w (.slice oA on oc) o.data) :
    Calls Tryz.prog 113 #[opV o (.slice oA on oc)] w fun e w' => ∃ A n c, e = .returned (opV o (.slice A n c)) ∧ Dat B w' (.slice A n c) o.data ∧ Up w w' := by
  go_enter Tryz.func113, Tryz.ntmps113
  refine wp_seq (rg_lit (wl (sn rfl (cs := (opC o (.slice oA on oc)).toArray) (T := 49) (V := fun b => pt b 0) (r_box (v := opV o (.slice oA on oc)) (by kernel_rfl) rfl) fun b1 w2 e3 h4 u5 => ?_)))
  have g6 := gsz e3 (Mod.refl [] w)
  have M7 := mtu (Mod.refl [] w) u5
  refine wl (sn rfl (cs := #[I_ 0, I_ 0, I_ 0, I_ 0, I_ 0, I_ 0, I_ 0, B_ false, S_ (⟨#[]⟩), .slice none 0 0]) (T := 49) (V := fun b => pt b 0) (r_alloc Ty.zv49 rfl) fun b8 w9 e10 h11 u12 => ?_)
  have l13 := lsz e10 h4
  have g14 := gsz e10 M7
  have M15 := mtu M7 u12
  refine wnil (then_n (wp_seq (rg_lit (wlv (v := pt b1 9) (fa (pt b1 0)) ?_))))
  have h16 := (up_ob u12 h4)
  refine wlv (v := .slice oA on oc) (ld 9 Ty.ag40 h16) ?_
  have h17 := (Dat.up hd (Mod.up M15))
  refine wl (sca [.slice oA on oc] En.f122 (clone_sl h17) ?_)
  rintro e w18 ⟨A19, n20, c21, rfl, h22, u23⟩
  refine ⟨_, rfl, ?_⟩
  have M24 := mtu M15 u23
  refine wlv (v := pt b1 9) (fa (pt b1 0)) ?_
  have h25 := (up_ob u23 h16)
  refine wl (ss rfl (k := 9) (v := .slice A19 n20 c21) (vs := [.slice A19 n20 c21]) (cs' := (opC o (.slice A19 n20 c21))) (by kernel_rfl) (by kernel_rfl) rfl Ty.sz40 h25 rfl (Nat.le_of_ble_eq_true rfl) rfl fun w26 h27 c28 => ?_)
  have M29 := mtn M24 c28 g6
  refine wnil (then_n (wp_seq (rg_lit (wlv (v := opV o (.slice A19 n20 c21)) (lds 0 Ty.ag49 Ty.sz49 h27) ?_))))
  have h30 := (chg_ob c28 (Nat.ne_of_gt l13) (up_ob u23 h11))
  refine wl (ss rfl (k := 0) (v := opV o (.slice A19 n20 c21)) (vs := (opC o (.slice A19 n20 c21))) (cs' := (opC o (.slice A19 n20 c21))) (by kernel_rfl) (by kernel_rfl) rfl Ty.sz49 h30 rfl (Nat.le_of_ble_eq_true rfl) rfl fun w31 h32 c33 => ?_)
  have M34 := mtn M29 c33 g14
  refine wnil (then_n (wp_ret ?_))
  refine bodyPost_ret (v := opV o (.slice A19 n20 c21)) (res1 rfl (rv_c (p := ⟨b8, 0, none⟩) (by kernel_rfl) (run_loadVars (vs := (opC o (.slice A19 n20 c21))) Ty.ag49 Ty.sz49 h32 (by kernel_rfl)))) (by kernel_rfl) ?_
  have h35 := (Dat.chg (Dat.chg h22 c28 ⟨(Nat.le_trans hB g6), NotU8.of h25 (by decide)⟩) c33 ⟨(Nat.le_trans hB g14), NotU8.of h30 (by decide)⟩)
  exact ⟨_, _, _, rfl, h35, (Mod.up M34)⟩
end Go.Proofs.YtefhfoioeoijlaaGreatDoor
set_option linter.unusedVariables false
set_option linter.unusedSimpArgs false
namespace Go.Proofs.YtefhfoioeoijlaaGreatDoor
open Go Go.RowKit Go.Sort
set_option maxHeartbeats 2000000 in
theorem swapRange_at {B base : Nat} {w : World} {g nn c : Nat} {f : Nat → OpD} {pre X mid Y post : List Nat} (h : ORow 49 B base w (.slice (some ⟨g, 0, none⟩) nn c) ((pre ++ (X ++ (mid ++ (Y ++ post)))).map f)) (hBb : B ≤ base) (hn : nn ≤ 1000000) {ia ib q : Nat} (ha : pre.length = ia) (hb : ia + X.length + mid.length = ib) (hq : Y.length = q) (hXY : X.length = Y.length) :
    Calls Tryz.prog 251 #[.slice (some ⟨g, 0, none⟩) nn c, .int .i64 ia, .int .i64 ib, .int .i64 q, .func (.func 115) #[] #[]] w fun e w' => e = .returned (.tuple #[]) ∧ ORow 49 B base w' (.slice (some ⟨g, 0, none⟩) nn c) ((pre ++ (Y ++ (mid ++ (X ++ post)))).map f) ∧ Chg w w' g := by
  obtain ⟨hnL, hnc, hcm, cu0, hg, hcs0⟩ := ORow.blk h
  have hBg := ORow.ge h hBb
  have hn0 : nn = pre.length + (X.length + (mid.length + (Y.length + post.length))) := by simpa using hnL
  go_enter Tryz.func251, Tryz.ntmps251
  refine wp_seq (rg_lit (was (v := I_ 0) (wnil (then_n (wp_block ?_)))))
  refine lp (fun n a r1 => ∃ (I1 : List Nat) (kk : Nat), (n = q - kk) ∧ (HasFr a 38 [(0, sl g 0 nn c), (1, I_ ia), (2, I_ ib), (3, I_ q), (10, I_ kk)] []) ∧ (Mod [g] w r1) ∧ (SwI pre X mid Y post I1 kk) ∧ (kk ≤ q) ∧ (ORow 49 B base r1 (sl g 0 nn c) (I1.map f))) ⟨_, (pre ++ (X ++ (mid ++ (Y ++ post)))), 0, rfl, hmk, Mod.refl _ _, (SwI.first _ _ _ _ _), (Nat.zero_le _), h⟩ ?_
  rintro _ _ r1 ⟨I1, kk, rfl, h1, hM1, hF1_0, hF1_1, hF1_2⟩
  obtain ⟨Y9, rfl⟩ := h1
  have M2 := Mod.trans (Mod.of_mod (Y := [g]) (Mod.refl [] w) (by simp)) (Mod.of_mod (Y := [g]) hM1 (by simp))
  have hlI := SwI.len hF1_0
  obtain ⟨_, _, _, cg3, hg3, _⟩ := ORow.blk hF1_2
  refine wp_seq (wp_seq (rg_lit (wmv (v := I_ kk) (wmv (v := I_ q) (wl (sb rfl (ltI kk q) fun b4 k5 => wnil (then_n ?_)))))))
  refine bcd k5 (fun v6 p7 => ?_) (fun v6 p7 => ?_)
  ·
   refine wp_cond_false (eb v6) (wp_exit (then_x (by nofun) (then_x (by nofun) (inb_hit ?_))))
   refine bodyPost_end (v := .tuple #[]) (res0 rfl ) (by kernel_rfl) ?_
   exact ⟨rfl, ORow.to hF1_2 (by rw [SwI.fin hF1_0 hXY (by omega)]), (Mod.chg M2)⟩
  refine wp_cond_true (eb v6) (wp_skip (then_n (wp_seq (wp_block ?_))))
  refine rg_held [g] (n := 24) (by kernel_rfl) rfl ?_
  intro w10 u11
  have M12 := mtu M2 u11
  have M13 := mtu hM1 u11
  refine hqk 0 23 rfl rfl (v := sl g 0 nn c) (fun _ _ => mv) (hqk 1 22 rfl rfl (v := I_ ia) (fun _ _ => mv) (hqk 2 21 rfl rfl (v := I_ kk) (fun _ _ => mv) (hqk 3 20 rfl rfl (v := I_ ((ia + kk : Nat) : Int)) (fun _ _ => adI (c := ((ia + kk : Nat) : Int)) ia kk ((IntWalk.i64_in _ (by omega)).trans (by omega))) (hqk 4 19 rfl rfl (v := sl g 0 nn c) (fun _ _ => mv) (hqk 5 18 rfl rfl (v := I_ ib) (fun _ _ => mv) (hqk 6 17 rfl rfl (v := I_ kk) (fun _ _ => mv) (hqk 7 16 rfl rfl (v := I_ ((ib + kk : Nat) : Int)) (fun _ _ => adI (c := ((ib + kk : Nat) : Int)) ib kk ((IntWalk.i64_in _ (by omega)).trans (by omega))) (hqk 8 15 rfl rfl (v := sl g 0 nn c) (fun _ _ => mv) ?_))))))))
  refine hqk 9 14 rfl rfl (v := I_ ib) (fun _ _ => mv) (hqk 10 13 rfl rfl (v := I_ kk) (fun _ _ => mv) (hqk 11 12 rfl rfl (v := I_ ((ib + kk : Nat) : Int)) (fun _ _ => adI (c := ((ib + kk : Nat) : Int)) ib kk ((IntWalk.i64_in _ (by omega)).trans (by omega))) (hqk 12 11 rfl rfl (v := pt g ((ib + kk) * 10)) (fun _ _ => ixa (A := some ⟨g, 0, none⟩) nn c 10 ((ib + kk : Nat) : Int) rfl Ty.un22 Ty.sz49) (hqk 14 10 rfl rfl (v := sl g 0 nn c) (fun _ _ => mv) (hqk 15 9 rfl rfl (v := I_ ia) (fun _ _ => mv) (hqk 16 8 rfl rfl (v := I_ kk) (fun _ _ => mv) (hqk 17 7 rfl rfl (v := I_ ((ia + kk : Nat) : Int)) (fun _ _ => adI (c := ((ia + kk : Nat) : Int)) ia kk ((IntWalk.i64_in _ (by omega)).trans (by omega))) (hqk 18 6 rfl rfl (v := pt g ((ia + kk) * 10)) (fun _ _ => ixa (A := some ⟨g, 0, none⟩) nn c 10 ((ia + kk : Nat) : Int) rfl Ty.un22 Ty.sz49) ?_))))))))
  refine h2a 13 19 5 rfl rfl ?_ ?_
  ·
   have h14 := (ORow.up hF1_2 u11)
   obtain ⟨x15, hx15⟩ : ∃ x, I1[ib + kk]? = some x := ⟨_, List.getElem?_eq_getElem (by omega)⟩
   obtain ⟨cu16, dA16, dn16, dc16, hb16, he16, hD16⟩ := ORow.elem h14 (map_get' hx15)
   refine sv rfl (v := opV (f x15) (.slice dA16 dn16 dc16)) (r_loads (k := (ib + kk) * 10) (vs := (opC (f x15) (.slice dA16 dn16 dc16))) (by kernel_rfl) Ty.ag49 Ty.sz49 hb16 (el_sub0 he16 rfl)) ?_
   refine hx (Y := [g]) (Mod.refl _ _) (fun y hy => .inl hy) ?_
   obtain ⟨x17, hx17⟩ : ∃ x, I1[ia + kk]? = some x := ⟨_, List.getElem?_eq_getElem (by omega)⟩
   obtain ⟨cu18, dA18, dn18, dc18, hb18, he18, hD18⟩ := ORow.elem h14 (map_get' hx17)
   refine h1a 19 4 rfl (sv rfl (v := opV (f x17) (.slice dA18 dn18 dc18)) (r_loads (k := (ia + kk) * 10) (vs := (opC (f x17) (.slice dA18 dn18 dc18))) (by kernel_rfl) Ty.ag49 Ty.sz49 hb18 (el_sub0 he18 rfl)) ?_)
   refine hx (Y := [g]) (Mod.refl _ _) (fun y hy => .inl hy) ?_
   refine hqk 20 3 rfl rfl (v := pt g ((ia + kk) * 10)) (fun _ _ => ixa (A := some ⟨g, 0, none⟩) nn c 10 ((ia + kk : Nat) : Int) rfl Ty.un22 Ty.sz49) ?_
   obtain ⟨cu19, hb19, hk19, hp19⟩ := ORow.put (i := ia + kk) h14 (by simp; omega) hD16 (by decide) hBb
   refine h1a 21 2 rfl (ss rfl (k := (ia + kk) * 10) (v := opV (f x15) (.slice dA16 dn16 dc16)) (vs := (opC (f x15) (.slice dA16 dn16 dc16))) (cs' := _) (by kernel_rfl) (by kernel_rfl) rfl Ty.sz49 hb19 rfl hk19 rfl fun w20 h21 c22 => ?_)
   have hr19 := hp19 _ h21 c22
   rw [map_set'] at hr19
   have M23 := mtx M12 c22
   have M24 := mtx M13 c22
   obtain ⟨_, _, _, cg25, hg25, _⟩ := ORow.blk hr19
   refine hxc c22 (hqk 22 1 rfl rfl (v := pt g ((ib + kk) * 10)) (fun _ _ => ixa (A := some ⟨g, 0, none⟩) nn c 10 ((ib + kk : Nat) : Int) rfl Ty.un22 Ty.sz49) ?_)
   have h27 := (Dat.chg hD18 c22 ⟨hBg, NotU8.of hb19 (by decide)⟩)
   obtain ⟨cu26, hb26, hk26, hp26⟩ := ORow.put (i := ib + kk) hr19 (by simp; omega) h27 (by decide) hBb
   refine h1a 23 0 rfl (ss rfl (k := (ib + kk) * 10) (v := opV (f x17) (.slice dA18 dn18 dc18)) (vs := (opC (f x17) (.slice dA18 dn18 dc18))) (cs' := _) (by kernel_rfl) (by kernel_rfl) rfl Ty.sz49 hb26 rfl hk26 rfl fun w28 h29 c30 => ?_)
   have hr26 := hp26 _ h29 c30
   rw [map_set'] at hr26
   have M31 := mtx M23 c30
   have M32 := mtx M24 c30
   obtain ⟨_, _, _, cg33, hg33, _⟩ := ORow.blk hr26
   refine hxc c30 ?_
   refine hend (by kernel_rfl) ?_
   refine inb_n (then_n (rg_lit (wmv (v := I_ kk) (wlv (v := I_ ((kk + 1 : Nat) : Int)) (adI (c := ((kk + 1 : Nat) : Int)) kk 1 ((IntWalk.i64_in _ (by omega)).trans (by omega))) (was (v := I_ ((kk + 1 : Nat) : Int)) (wnil (then_n ?_)))))))
   refine ⟨q - (kk + 1), ?_, ((I1.set (ia + kk) x15).set (ib + kk) x17), (kk + 1), rfl, hmk, M32, (SwI.step hF1_0 hXY (by omega) ha hb hx17 hx15), (by omega), hr26⟩
   · omega
  ·
   have h14 := (ORow.up hF1_2 u11)
   obtain ⟨x15, hx15⟩ : ∃ x, I1[ia + kk]? = some x := ⟨_, List.getElem?_eq_getElem (by omega)⟩
   obtain ⟨cu16, dA16, dn16, dc16, hb16, he16, hD16⟩ := ORow.elem h14 (map_get' hx15)
   refine sv rfl (v := opV (f x15) (.slice dA16 dn16 dc16)) (r_loads (k := (ia + kk) * 10) (vs := (opC (f x15) (.slice dA16 dn16 dc16))) (by kernel_rfl) Ty.ag49 Ty.sz49 hb16 (el_sub0 he16 rfl)) ?_
   refine hx (Y := [g]) (Mod.refl _ _) (fun y hy => .inl hy) ?_
   obtain ⟨x17, hx17⟩ : ∃ x, I1[ib + kk]? = some x := ⟨_, List.getElem?_eq_getElem (by omega)⟩
   obtain ⟨cu18, dA18, dn18, dc18, hb18, he18, hD18⟩ := ORow.elem h14 (map_get' hx17)
   refine h1a 13 4 rfl (sv rfl (v := opV (f x17) (.slice dA18 dn18 dc18)) (r_loads (k := (ib + kk) * 10) (vs := (opC (f x17) (.slice dA18 dn18 dc18))) (by kernel_rfl) Ty.ag49 Ty.sz49 hb18 (el_sub0 he18 rfl)) ?_)
   refine hx (Y := [g]) (Mod.refl _ _) (fun y hy => .inl hy) ?_
   refine hqk 20 3 rfl rfl (v := pt g ((ia + kk) * 10)) (fun _ _ => ixa (A := some ⟨g, 0, none⟩) nn c 10 ((ia + kk : Nat) : Int) rfl Ty.un22 Ty.sz49) ?_
   obtain ⟨cu19, hb19, hk19, hp19⟩ := ORow.put (i := ia + kk) h14 (by simp; omega) hD18 (by decide) hBb
   refine h1a 21 2 rfl (ss rfl (k := (ia + kk) * 10) (v := opV (f x17) (.slice dA18 dn18 dc18)) (vs := (opC (f x17) (.slice dA18 dn18 dc18))) (cs' := _) (by kernel_rfl) (by kernel_rfl) rfl Ty.sz49 hb19 rfl hk19 rfl fun w20 h21 c22 => ?_)
   have hr19 := hp19 _ h21 c22
   rw [map_set'] at hr19
   have M23 := mtx M12 c22
   have M24 := mtx M13 c22
   obtain ⟨_, _, _, cg25, hg25, _⟩ := ORow.blk hr19
   refine hxc c22 (hqk 22 1 rfl rfl (v := pt g ((ib + kk) * 10)) (fun _ _ => ixa (A := some ⟨g, 0, none⟩) nn c 10 ((ib + kk : Nat) : Int) rfl Ty.un22 Ty.sz49) ?_)
   have h27 := (Dat.chg hD16 c22 ⟨hBg, NotU8.of hb19 (by decide)⟩)
   obtain ⟨cu26, hb26, hk26, hp26⟩ := ORow.put (i := ib + kk) hr19 (by simp; omega) h27 (by decide) hBb
   refine h1a 23 0 rfl (ss rfl (k := (ib + kk) * 10) (v := opV (f x15) (.slice dA16 dn16 dc16)) (vs := (opC (f x15) (.slice dA16 dn16 dc16))) (cs' := _) (by kernel_rfl) (by kernel_rfl) rfl Ty.sz49 hb26 rfl hk26 rfl fun w28 h29 c30 => ?_)
   have hr26 := hp26 _ h29 c30
   rw [map_set'] at hr26
   have M31 := mtx M23 c30
   have M32 := mtx M24 c30
   obtain ⟨_, _, _, cg33, hg33, _⟩ := ORow.blk hr26
   refine hxc c30 ?_
   refine hend (by kernel_rfl) ?_
   refine inb_n (then_n (rg_lit (wmv (v := I_ kk) (wlv (v := I_ ((kk + 1 : Nat) : Int)) (adI (c := ((kk + 1 : Nat) : Int)) kk 1 ((IntWalk.i64_in _ (by omega)).trans (by omega))) (was (v := I_ ((kk + 1 : Nat) : Int)) (wnil (then_n ?_)))))))
   refine ⟨q - (kk + 1), ?_, ((I1.set (ia + kk) x17).set (ib + kk) x15), (kk + 1), rfl, hmk, M32, (SwI.step hF1_0 hXY (by omega) ha hb hx15 hx17), (by omega), hr26⟩
   · omega
set_option maxHeartbeats 2000000 in
theorem insertion_at {B base : Nat} {w : World} {g nn c : Nat} {f : Nat → OpD} {pre X post : List Nat} (h : ORow 49 B base w (.slice (some ⟨g, 0, none⟩) nn c) ((pre ++ (X ++ post)).map f)) (hBb : B ≤ base) (hn : nn ≤ 1000000) {ia ib : Nat} (ha : pre.length = ia) (hb : ia + X.length = ib) (hX0 : X.Pairwise (· < ·)) :
    Calls Tryz.prog 200 #[.slice (some ⟨g, 0, none⟩) nn c, .int .i64 ia, .int .i64 ib, .func (.func 115) #[] #[]] w fun e w' => ∃ C, e = .returned (.tuple #[]) ∧ ORow 49 B base w' (.slice (some ⟨g, 0, none⟩) nn c) ((pre ++ (C ++ post)).map f) ∧ C.Pairwise (lx f) ∧ C.Perm X ∧ Chg w w' g := by
  obtain ⟨hnL, hnc, hcm, cu0, hg, hcs0⟩ := ORow.blk h
  have hBg := ORow.ge h hBb
  have hn0 : nn = pre.length + (X.length + post.length) := by simpa using hnL
  go_enter Tryz.func200, Tryz.ntmps200
  refine wp_seq (rg_lit (wmv (v := I_ ia) (wlv (v := I_ ((ia + 1 : Nat) : Int)) (adI (c := ((ia + 1 : Nat) : Int)) ia 1 ((IntWalk.i64_in _ (by omega)).trans (by omega))) (was (v := I_ ((ia + 1 : Nat) : Int)) (wnil (then_n (wp_block ?_)))))))
  refine lp (fun n a r1 => ∃ (I1 : List Nat) (ii : Nat), (n = ib - ii) ∧ (HasFr a 53 [(0, sl g 0 nn c), (1, I_ ia), (2, I_ ib), (3, .func (.func 115) #[] #[]), (8, I_ ii)] []) ∧ (Mod [g] w r1) ∧ (InsO f pre X post I1 ii) ∧ (ii ≤ nn + 1) ∧ (ORow 49 B base r1 (sl g 0 nn c) (I1.map f))) ⟨_, (pre ++ (X ++ post)), (ia + 1), rfl, hmk, Mod.refl _ _, (by rw [← ha]; exact InsO.first _ _ _), (by omega), h⟩ ?_
  rintro _ _ r1 ⟨I1, ii, rfl, h1, hM1, hF1_0, hF1_1, hF1_2⟩
  obtain ⟨Y10, rfl⟩ := h1
  have M2 := Mod.trans (Mod.of_mod (Y := [g]) (Mod.refl [] w) (by simp)) (Mod.of_mod (Y := [g]) hM1 (by simp))
  obtain ⟨_, _, _, cg3, hg3, _⟩ := ORow.blk hF1_2
  refine wp_seq (wp_seq (rg_lit (wmv (v := I_ ii) (wmv (v := I_ ib) (wl (sb rfl (ltI ii ib) fun b4 k5 => wnil (then_n ?_)))))))
  refine bcd k5 (fun v6 p7 => ?_) (fun v6 p7 => ?_)
  ·
   refine wp_cond_false (eb v6) (wp_exit (then_x (by nofun) (then_x (by nofun) (inb_hit ?_))))
   refine bodyPost_end (v := .tuple #[]) (res0 rfl ) (by kernel_rfl) ?_
   obtain ⟨C, hC1, hC2, hC3⟩ := InsO.fin hF1_0 (by omega)
   exact ⟨C, rfl, ORow.to hF1_2 (by rw [hC1]), hC2, hC3, (Mod.chg M2)⟩
  refine wp_cond_true (eb v6) (wp_skip (then_n (wp_seq (wp_block (wp_seq (rg_lit (wmv (v := I_ ii) (was (v := I_ ii) (wnil (then_n (wp_block ?_)))))))))))
  refine lp (fun n a r2 => ∃ (I2 : List Nat) (jj : Nat), (n = jj + 1) ∧ (HasFr a 53 [(0, sl g 0 nn c), (1, I_ ia), (2, I_ ib), (3, .func (.func 115) #[] #[]), (8, I_ ii), (9, I_ jj), (14, B_ b4)] []) ∧ (Mod [g] r1 r2) ∧ (InsI f pre X post I2 ii jj) ∧ (ORow 49 B base r2 (sl g 0 nn c) (I2.map f))) ⟨_, I1, ii, rfl, hmk, Mod.refl _ _, (InsO.toI hF1_0 (by omega)), hF1_2⟩ ?_
  rintro _ _ r2 ⟨I2, jj, rfl, h10, hM2, hF2_0, hF2_1⟩
  obtain ⟨Y11, rfl⟩ := h10
  have M11 := Mod.trans M2 (Mod.of_mod hM2 (by simp))
  have M12 := Mod.trans hM1 (Mod.of_mod hM2 (by simp))
  obtain ⟨hlI, hlj, hli⟩ := InsI.len hF2_0
  obtain ⟨_, _, _, cg13, hg13, _⟩ := ORow.blk hF2_1
  refine wp_seq (wp_seq ?_)
  refine rg_tail 14 (by kernel_rfl) (by kernel_rfl) rfl rfl ?_
  refine qmv (v := I_ jj) (qmv (v := I_ ia) ?_)
  refine qb rfl (fun _ _ => r_gt (k := .i64) (m := (jj : Int)) (n := (ia : Int)) (by kernel_rfl) (by kernel_rfl)) fun b14 k15 => ?_
  refine qmv (v := B_ b14) ?_
  refine bcd k15 (fun v16 p17 => ?_) (fun v16 p17 => ?_)
  ·
   iterate 10 refine qls rfl v16 ?_
   refine qnil fun w18 u19 => ?_
   have M21 := mtu M12 u19
   iterate 2 refine wls rfl v16 ?_
   refine wlv (v := B_ false) (pkF (eb v16)) (wnil (then_n (wp_cond_false (by kernel_rfl) (wp_exit (then_x (by nofun) (then_x (by nofun) (inb_hit (inb_n (then_n (rg_lit (wmv (v := I_ ii) (wlv (v := I_ ((ii + 1 : Nat) : Int)) (adI (c := ((ii + 1 : Nat) : Int)) ii 1 ((IntWalk.i64_in _ (by omega)).trans (by omega))) (was (v := I_ ((ii + 1 : Nat) : Int)) (wnil (then_n ?_)))))))))))))))
   have h23 := (ORow.up hF2_1 u19)
   refine ⟨ib - (ii + 1), ?_, I2, (ii + 1), rfl, hmk, M21, (InsI.done hF2_0 hX0 (.inl (by omega))), (by omega), h23⟩
   · omega
  refine qv (wt (b := b14) rfl (by kernel_rfl) v16) (v := .func (.func 115) #[] #[]) (fun _ _ => mv) (qv (wt (b := b14) rfl (by kernel_rfl) v16) (v := sl g 0 nn c) (fun _ _ => mv) (qv (wt (b := b14) rfl (by kernel_rfl) v16) (v := I_ jj) (fun _ _ => mv) (qv (wt (b := b14) rfl (by kernel_rfl) v16) (v := pt g (jj * 10)) (fun _ _ => ixa (A := some ⟨g, 0, none⟩) nn c 10 jj rfl Ty.un22 Ty.sz49) ?_)))
  obtain ⟨x18, hx18⟩ : ∃ x, I2[jj]? = some x := ⟨_, List.getElem?_eq_getElem (by omega)⟩
  obtain ⟨cu19, dA19, dn19, dc19, hb19, he19, hD19⟩ := ORow.elem hF2_1 (map_get' hx18)
  refine qv (wt (b := b14) rfl (by kernel_rfl) v16) (v := opV (f x18) (.slice dA19 dn19 dc19)) (fun _ uz => r_loads (k := jj * 10) (vs := (opC (f x18) (.slice dA19 dn19 dc19))) (by kernel_rfl) Ty.ag49 Ty.sz49 (up_ob uz hb19) (el_sub0 he19 rfl)) (qv (wt (b := b14) rfl (by kernel_rfl) v16) (v := sl g 0 nn c) (fun _ _ => mv) (qv (wt (b := b14) rfl (by kernel_rfl) v16) (v := I_ jj) (fun _ _ => mv) (qv (wt (b := b14) rfl (by kernel_rfl) v16) (v := I_ ((jj - 1 : Nat) : Int)) (fun _ _ => r_sub (k := .i64) (m := (jj : Int)) (n := 1) (c := ((jj - 1 : Nat) : Int)) (by kernel_rfl) (by kernel_rfl) ((IntWalk.i64_in _ (by omega)).trans (by omega))) (qv (wt (b := b14) rfl (by kernel_rfl) v16) (v := pt g ((jj - 1) * 10)) (fun _ _ => ixa (A := some ⟨g, 0, none⟩) nn c 10 ((jj - 1 : Nat) : Int) rfl Ty.un22 Ty.sz49) ?_))))
  obtain ⟨x20, hx20⟩ : ∃ x, I2[jj - 1]? = some x := ⟨_, List.getElem?_eq_getElem (by omega)⟩
  obtain ⟨cu21, dA21, dn21, dc21, hb21, he21, hD21⟩ := ORow.elem hF2_1 (map_get' hx20)
  refine qv (wt (b := b14) rfl (by kernel_rfl) v16) (v := opV (f x20) (.slice dA21 dn21 dc21)) (fun _ uz => r_loads (k := (jj - 1) * 10) (vs := (opC (f x20) (.slice dA21 dn21 dc21))) (by kernel_rfl) Ty.ag49 Ty.sz49 (up_ob uz hb21) (el_sub0 he21 rfl)) ?_
  refine qnil fun w22 u23 => ?_
  have M24 := mtu M11 u23
  have M25 := mtu M12 u23
  have M26 := mtu hM2 u23
  refine wl (sc (wt (b := b14) rfl (by kernel_rfl) v16) (r_callv (caps := []) (all := [opV (f x18) (.slice dA19 dn19 dc19), opV (f x20) (.slice dA21 dn21 dc21)]) En.f115 (by kernel_rfl) (by kernel_rfl)) (opcompare_at (f x18) (f x20) dA19 dA21 dn19 dc19 dn21 dc21) ?_)
  rintro e w27 ⟨rfl, u28⟩
  refine ⟨_, rfl, ?_⟩
  have M29 := mtu M24 u28
  have M30 := mtu M25 u28
  have M31 := mtu M26 u28
  refine wl (sb (wt (b := b14) rfl (by kernel_rfl) v16) (ltI (cmpS (f x18).at_ (f x20).at_) 0) fun b32 k33 => wlv (v := B_ b32) (pkT (eb v16)) (wnil (then_n ?_)))
  refine bcd k33 (fun v34 p35 => ?_) (fun v34 p35 => ?_)
  ·
   refine wp_cond_false (eb v34) (wp_exit (then_x (by nofun) (then_x (by nofun) (inb_hit (inb_n (then_n (rg_lit (wmv (v := I_ ii) (wlv (v := I_ ((ii + 1 : Nat) : Int)) (adI (c := ((ii + 1 : Nat) : Int)) ii 1 ((IntWalk.i64_in _ (by omega)).trans (by omega))) (was (v := I_ ((ii + 1 : Nat) : Int)) (wnil (then_n ?_))))))))))))
   have h36 := (ORow.up hF2_1 (up_up u23 u28))
   refine ⟨ib - (ii + 1), ?_, I2, (ii + 1), rfl, hmk, M30, (InsI.done hF2_0 hX0 (.inr ⟨_, _, hx18, hx20, cmpS_no p35⟩)), (by omega), h36⟩
   · omega
  refine wp_cond_true (eb v34) (wp_skip (then_n (wp_seq (wp_block ?_))))
  refine rg_held [g] (n := 18) (by kernel_rfl) rfl ?_
  intro w36 u37
  have M38 := mtu M29 u37
  have M39 := mtu M30 u37
  have M40 := mtu M31 u37
  refine hqk 0 17 rfl rfl (v := sl g 0 nn c) (fun _ _ => mv) (hqk 1 16 rfl rfl (v := I_ jj) (fun _ _ => mv) (hqk 2 15 rfl rfl (v := sl g 0 nn c) (fun _ _ => mv) (hqk 3 14 rfl rfl (v := I_ jj) (fun _ _ => mv) (hqk 4 13 rfl rfl (v := I_ ((jj - 1 : Nat) : Int)) (fun _ _ => r_sub (k := .i64) (m := (jj : Int)) (n := 1) (c := ((jj - 1 : Nat) : Int)) (by kernel_rfl) (by kernel_rfl) ((IntWalk.i64_in _ (by omega)).trans (by omega))) (hqk 5 12 rfl rfl (v := sl g 0 nn c) (fun _ _ => mv) (hqk 6 11 rfl rfl (v := I_ jj) (fun _ _ => mv) (hqk 7 10 rfl rfl (v := I_ ((jj - 1 : Nat) : Int)) (fun _ _ => r_sub (k := .i64) (m := (jj : Int)) (n := 1) (c := ((jj - 1 : Nat) : Int)) (by kernel_rfl) (by kernel_rfl) ((IntWalk.i64_in _ (by omega)).trans (by omega))) (hqk 8 9 rfl rfl (v := pt g ((jj - 1) * 10)) (fun _ _ => ixa (A := some ⟨g, 0, none⟩) nn c 10 ((jj - 1 : Nat) : Int) rfl Ty.un22 Ty.sz49) ?_))))))))
  refine hqk 10 8 rfl rfl (v := sl g 0 nn c) (fun _ _ => mv) (hqk 11 7 rfl rfl (v := I_ jj) (fun _ _ => mv) (hqk 12 6 rfl rfl (v := pt g (jj * 10)) (fun _ _ => ixa (A := some ⟨g, 0, none⟩) nn c 10 jj rfl Ty.un22 Ty.sz49) ?_))
  refine h2a 9 13 5 rfl rfl ?_ ?_
  ·
   have h41 := (ORow.up hF2_1 (up_up (up_up u23 u28) u37))
   obtain ⟨cu42, dA42, dn42, dc42, hb42, he42, hD42⟩ := ORow.elem h41 (map_get' hx20)
   refine sv rfl (v := opV (f x20) (.slice dA42 dn42 dc42)) (r_loads (k := (jj - 1) * 10) (vs := (opC (f x20) (.slice dA42 dn42 dc42))) (by kernel_rfl) Ty.ag49 Ty.sz49 hb42 (el_sub0 he42 rfl)) ?_
   refine hx (Y := [g]) (Mod.refl _ _) (fun y hy => .inl hy) ?_
   obtain ⟨cu43, dA43, dn43, dc43, hb43, he43, hD43⟩ := ORow.elem h41 (map_get' hx18)
   refine h1a 13 4 rfl (sv rfl (v := opV (f x18) (.slice dA43 dn43 dc43)) (r_loads (k := jj * 10) (vs := (opC (f x18) (.slice dA43 dn43 dc43))) (by kernel_rfl) Ty.ag49 Ty.sz49 hb43 (el_sub0 he43 rfl)) ?_)
   refine hx (Y := [g]) (Mod.refl _ _) (fun y hy => .inl hy) ?_
   refine hqk 14 3 rfl rfl (v := pt g (jj * 10)) (fun _ _ => ixa (A := some ⟨g, 0, none⟩) nn c 10 jj rfl Ty.un22 Ty.sz49) ?_
   obtain ⟨cu44, hb44, hk44, hp44⟩ := ORow.put (i := jj) h41 (by simp; omega) hD42 (by decide) hBb
   refine h1a 15 2 rfl (ss rfl (k := jj * 10) (v := opV (f x20) (.slice dA42 dn42 dc42)) (vs := (opC (f x20) (.slice dA42 dn42 dc42))) (cs' := _) (by kernel_rfl) (by kernel_rfl) rfl Ty.sz49 hb44 rfl hk44 rfl fun w45 h46 c47 => ?_)
   have hr44 := hp44 _ h46 c47
   rw [map_set'] at hr44
   have M48 := mtx M38 c47
   have M49 := mtx M39 c47
   have M50 := mtx M40 c47
   obtain ⟨_, _, _, cg51, hg51, _⟩ := ORow.blk hr44
   refine hxc c47 (hqk 16 1 rfl rfl (v := pt g ((jj - 1) * 10)) (fun _ _ => ixa (A := some ⟨g, 0, none⟩) nn c 10 ((jj - 1 : Nat) : Int) rfl Ty.un22 Ty.sz49) ?_)
   have h53 := (Dat.chg hD43 c47 ⟨hBg, NotU8.of hb44 (by decide)⟩)
   obtain ⟨cu52, hb52, hk52, hp52⟩ := ORow.put (i := jj - 1) hr44 (by simp; omega) h53 (by decide) hBb
   refine h1a 17 0 rfl (ss rfl (k := (jj - 1) * 10) (v := opV (f x18) (.slice dA43 dn43 dc43)) (vs := (opC (f x18) (.slice dA43 dn43 dc43))) (cs' := _) (by kernel_rfl) (by kernel_rfl) rfl Ty.sz49 hb52 rfl hk52 rfl fun w54 h55 c56 => ?_)
   have hr52 := hp52 _ h55 c56
   rw [map_set'] at hr52
   have M57 := mtx M48 c56
   have M58 := mtx M49 c56
   have M59 := mtx M50 c56
   obtain ⟨_, _, _, cg60, hg60, _⟩ := ORow.blk hr52
   refine hxc c56 ?_
   refine hend (by kernel_rfl) ?_
   refine inb_n (then_n (rg_lit (wmv (v := I_ jj) (wlv (v := I_ ((jj - 1 : Nat) : Int)) (r_sub (k := .i64) (m := (jj : Int)) (n := 1) (c := ((jj - 1 : Nat) : Int)) (by kernel_rfl) (by kernel_rfl) ((IntWalk.i64_in _ (by omega)).trans (by omega))) (was (v := I_ ((jj - 1 : Nat) : Int)) (wnil (then_n ?_)))))))
   refine ⟨(jj - 1) + 1, ?_, ((I2.set jj x20).set (jj - 1) x18), (jj - 1), rfl, hmk, M59, (InsI.swap hF2_0 (by omega) hx18 hx20 (cmpS_yes p35)), hr52⟩
   · omega
  ·
   have h41 := (ORow.up hF2_1 (up_up (up_up u23 u28) u37))
   obtain ⟨cu42, dA42, dn42, dc42, hb42, he42, hD42⟩ := ORow.elem h41 (map_get' hx18)
   refine sv rfl (v := opV (f x18) (.slice dA42 dn42 dc42)) (r_loads (k := jj * 10) (vs := (opC (f x18) (.slice dA42 dn42 dc42))) (by kernel_rfl) Ty.ag49 Ty.sz49 hb42 (el_sub0 he42 rfl)) ?_
   refine hx (Y := [g]) (Mod.refl _ _) (fun y hy => .inl hy) ?_
   obtain ⟨cu43, dA43, dn43, dc43, hb43, he43, hD43⟩ := ORow.elem h41 (map_get' hx20)
   refine h1a 9 4 rfl (sv rfl (v := opV (f x20) (.slice dA43 dn43 dc43)) (r_loads (k := (jj - 1) * 10) (vs := (opC (f x20) (.slice dA43 dn43 dc43))) (by kernel_rfl) Ty.ag49 Ty.sz49 hb43 (el_sub0 he43 rfl)) ?_)
   refine hx (Y := [g]) (Mod.refl _ _) (fun y hy => .inl hy) ?_
   refine hqk 14 3 rfl rfl (v := pt g (jj * 10)) (fun _ _ => ixa (A := some ⟨g, 0, none⟩) nn c 10 jj rfl Ty.un22 Ty.sz49) ?_
   obtain ⟨cu44, hb44, hk44, hp44⟩ := ORow.put (i := jj) h41 (by simp; omega) hD43 (by decide) hBb
   refine h1a 15 2 rfl (ss rfl (k := jj * 10) (v := opV (f x20) (.slice dA43 dn43 dc43)) (vs := (opC (f x20) (.slice dA43 dn43 dc43))) (cs' := _) (by kernel_rfl) (by kernel_rfl) rfl Ty.sz49 hb44 rfl hk44 rfl fun w45 h46 c47 => ?_)
   have hr44 := hp44 _ h46 c47
   rw [map_set'] at hr44
   have M48 := mtx M38 c47
   have M49 := mtx M39 c47
   have M50 := mtx M40 c47
   obtain ⟨_, _, _, cg51, hg51, _⟩ := ORow.blk hr44
   refine hxc c47 (hqk 16 1 rfl rfl (v := pt g ((jj - 1) * 10)) (fun _ _ => ixa (A := some ⟨g, 0, none⟩) nn c 10 ((jj - 1 : Nat) : Int) rfl Ty.un22 Ty.sz49) ?_)
   have h53 := (Dat.chg hD42 c47 ⟨hBg, NotU8.of hb44 (by decide)⟩)
   obtain ⟨cu52, hb52, hk52, hp52⟩ := ORow.put (i := jj - 1) hr44 (by simp; omega) h53 (by decide) hBb
   refine h1a 17 0 rfl (ss rfl (k := (jj - 1) * 10) (v := opV (f x18) (.slice dA42 dn42 dc42)) (vs := (opC (f x18) (.slice dA42 dn42 dc42))) (cs' := _) (by kernel_rfl) (by kernel_rfl) rfl Ty.sz49 hb52 rfl hk52 rfl fun w54 h55 c56 => ?_)
   have hr52 := hp52 _ h55 c56
   rw [map_set'] at hr52
   have M57 := mtx M48 c56
   have M58 := mtx M49 c56
   have M59 := mtx M50 c56
   obtain ⟨_, _, _, cg60, hg60, _⟩ := ORow.blk hr52
   refine hxc c56 ?_
   refine hend (by kernel_rfl) ?_
   refine inb_n (then_n (rg_lit (wmv (v := I_ jj) (wlv (v := I_ ((jj - 1 : Nat) : Int)) (r_sub (k := .i64) (m := (jj : Int)) (n := 1) (c := ((jj - 1 : Nat) : Int)) (by kernel_rfl) (by kernel_rfl) ((IntWalk.i64_in _ (by omega)).trans (by omega))) (was (v := I_ ((jj - 1 : Nat) : Int)) (wnil (then_n ?_)))))))
   refine ⟨(jj - 1) + 1, ?_, ((I2.set jj x20).set (jj - 1) x18), (jj - 1), rfl, hmk, M59, (InsI.swap hF2_0 (by omega) hx18 hx20 (cmpS_yes p35)), hr52⟩
   · omega
set_option maxHeartbeats 2000000 in
theorem rotate_at {B base : Nat} {w : World} {g nn c : Nat} {f : Nat → OpD} {pre A Bb post : List Nat} (h : ORow 49 B base w (.slice (some ⟨g, 0, none⟩) nn c) ((pre ++ (A ++ (Bb ++ post))).map f)) (hBb : B ≤ base) (hn : nn ≤ 1000000) {ia m ib : Nat} (ha : pre.length = ia) (hm : ia + A.length = m) (hb : m + Bb.length = ib) (hA0 : 0 < A.length) (hB0 : 0 < Bb.length) :
    Calls Tryz.prog 230 #[.slice (some ⟨g, 0, none⟩) nn c, .int .i64 ia, .int .i64 m, .int .i64 ib, .func (.func 115) #[] #[]] w fun e w' => e = .returned (.tuple #[]) ∧ ORow 49 B base w' (.slice (some ⟨g, 0, none⟩) nn c) ((pre ++ (Bb ++ (A ++ post))).map f) ∧ Chg w w' g := by
  obtain ⟨hnL, hnc, hcm, cu0, hg, hcs0⟩ := ORow.blk h
  have hBg := ORow.ge h hBb
  have hn0 : nn = pre.length + (A.length + (Bb.length + post.length)) := by simpa using hnL
  go_enter Tryz.func230, Tryz.ntmps230
  refine wp_seq (rg_lit (wmv (v := I_ m) (wmv (v := I_ ia) (wlv (v := I_ ((m - ia : Nat) : Int)) (r_sub (k := .i64) (m := (m : Int)) (n := (ia : Int)) (c := ((m - ia : Nat) : Int)) (by kernel_rfl) (by kernel_rfl) ((IntWalk.i64_in _ (by omega)).trans (by omega))) (was (v := I_ ((m - ia : Nat) : Int)) (wnil (then_n (wp_seq (rg_lit (wmv (v := I_ ib) (wmv (v := I_ m) (wlv (v := I_ ((ib - m : Nat) : Int)) (r_sub (k := .i64) (m := (ib : Int)) (n := (m : Int)) (c := ((ib - m : Nat) : Int)) (by kernel_rfl) (by kernel_rfl) ((IntWalk.i64_in _ (by omega)).trans (by omega))) ?_))))))))))))
  refine was (v := I_ ((ib - m : Nat) : Int)) (wnil (then_n (wp_seq (wp_block ?_))))
  refine lp (fun n a r1 => ∃ (I1 : List Nat) (ii : Nat) (jj : Nat), (n = ii + jj) ∧ (HasFr a 58 [(0, sl g 0 nn c), (1, I_ ia), (2, I_ m), (3, I_ ib), (4, .func (.func 115) #[] #[]), (10, I_ ii), (11, I_ jj)] []) ∧ (Mod [g] w r1) ∧ (RotI pre A Bb post I1 ii jj) ∧ (0 < ii) ∧ (0 < jj) ∧ (ORow 49 B base r1 (sl g 0 nn c) (I1.map f))) ⟨_, (pre ++ (A ++ (Bb ++ post))), (m - ia), (ib - m), rfl, hmk, Mod.refl _ _, (by rw [show m - ia = A.length by omega, show ib - m = Bb.length by omega]; exact RotI.first _ _ _ _), (by omega), (by omega), h⟩ ?_
  rintro _ _ r1 ⟨I1, ii, jj, rfl, h1, hM1, hF1_0, hF1_1, hF1_2, hF1_3⟩
  obtain ⟨Y12, rfl⟩ := h1
  have M2 := Mod.trans (Mod.of_mod (Y := [g]) (Mod.refl [] w) (by simp)) (Mod.of_mod (Y := [g]) hM1 (by simp))
  obtain ⟨hlI, hli, hlj⟩ := RotI.len hF1_0
  obtain ⟨_, _, _, cg3, hg3, _⟩ := ORow.blk hF1_3
  refine wp_seq (wp_seq (rg_lit (wmv (v := I_ ii) (wmv (v := I_ jj) (wl (sb rfl (neI ii jj) fun b4 k5 => wnil (then_n ?_)))))))
  refine bcd k5 (fun v6 p7 => ?_) (fun v6 p7 => ?_)
  ·
   refine wp_cond_false (eb v6) (wp_exit (then_x (by nofun) (then_x (by nofun) (inb_hit (then_n (rg_lit (wmv (v := sl g 0 nn c) (wmv (v := I_ m) (wmv (v := I_ ii) (wlv (v := I_ ((m - ii : Nat) : Int)) (r_sub (k := .i64) (m := (m : Int)) (n := (ii : Int)) (c := ((m - ii : Nat) : Int)) (by kernel_rfl) (by kernel_rfl) ((IntWalk.i64_in _ (by omega)).trans (by omega))) (wmv (v := I_ m) (wmv (v := I_ ii) (wmv (v := .func (.func 115) #[] #[]) ?_)))))))))))))
   have hq8 : RotI pre A Bb post I1 ii ii := by have h0 := hF1_0; rw [show jj = ii by omega] at h0; exact h0
   obtain ⟨p8, X8, Y8, q8, hI8, hXY8, hY8, hp8, hb8, hR8⟩ := RotI.eq hq8
   obtain ⟨M8, hM8⟩ : ∃ M : List Nat, M = [] := ⟨_, rfl⟩
   rw [← hM8] at hI8 hR8
   have hm8 : M8.length = 0 := by rw [hM8]; rfl
   have ho8 := ORow.to hF1_3 (congrArg (List.map f) hI8)
   refine wl (sca [sl g 0 nn c, I_ ((m - ii : Nat) : Int), I_ m, I_ ii, .func (.func 115) #[] #[]] En.f251 (swapRange_at ho8 hBb hn (by omega) (by omega) (by omega) hXY8) ?_)
   rintro e w9 ⟨rfl, h10, c11⟩
   refine ⟨_, rfl, ?_⟩
   have M12 := mtx M2 c11
   obtain ⟨_, _, _, cg14, hg14, _⟩ := ORow.blk h10
   refine wnil ?_
   refine bodyPost_end (v := .tuple #[]) (res0 rfl ) (by kernel_rfl) ?_
   exact ⟨rfl, ORow.to h10 (by rw [hR8]), (Mod.chg M12)⟩
  refine wp_cond_true (eb v6) (wp_skip (then_n (wp_block (wp_seq (rg_lit (wmv (v := I_ ii) (wmv (v := I_ jj) (wl (sb rfl (r_gt (k := .i64) (m := (ii : Int)) (n := (jj : Int)) (by kernel_rfl) (by kernel_rfl)) fun b8 k9 => wnil (then_n ?_))))))))))
  refine bcd k9 (fun v10 p11 => ?_) (fun v10 p11 => ?_)
  ·
   refine wp_cond_false (eb v10) (wp_seq (rg_lit (wmv (v := sl g 0 nn c) (wmv (v := I_ m) (wmv (v := I_ ii) (wlv (v := I_ ((m - ii : Nat) : Int)) (r_sub (k := .i64) (m := (m : Int)) (n := (ii : Int)) (c := ((m - ii : Nat) : Int)) (by kernel_rfl) (by kernel_rfl) ((IntWalk.i64_in _ (by omega)).trans (by omega))) (wmv (v := I_ m) (wmv (v := I_ jj) (wlv (v := I_ ((m + jj : Nat) : Int)) (adI (c := ((m + jj : Nat) : Int)) m jj ((IntWalk.i64_in _ (by omega)).trans (by omega))) ?_)))))))))
   refine wmv (v := I_ ii) (wlv (v := I_ ((m + jj - ii : Nat) : Int)) (r_sub (k := .i64) (m := ((m + jj : Nat) : Int)) (n := (ii : Int)) (c := ((m + jj - ii : Nat) : Int)) (by kernel_rfl) (by kernel_rfl) ((IntWalk.i64_in _ (by omega)).trans (by omega))) (wmv (v := I_ ii) (wmv (v := .func (.func 115) #[] #[]) ?_)))
   obtain ⟨p12, X12, M12, Y12, q12, hI12, hXY12, hY12, hp12, hb12, hR12⟩ := RotI.lt hF1_0 (by omega)
   have ho12 := ORow.to hF1_3 (congrArg (List.map f) hI12)
   refine wl (sca [sl g 0 nn c, I_ ((m - ii : Nat) : Int), I_ ((m + jj - ii : Nat) : Int), I_ ii, .func (.func 115) #[] #[]] En.f251 (swapRange_at ho12 hBb hn (by omega) (by omega) (by omega) hXY12) ?_)
   rintro e w13 ⟨rfl, h14, c15⟩
   refine ⟨_, rfl, ?_⟩
   have M16 := mtx M2 c15
   have M17 := mtx hM1 c15
   obtain ⟨_, _, _, cg18, hg18, _⟩ := ORow.blk h14
   refine wnil (then_n (rg_lit (wmv (v := I_ jj) (wmv (v := I_ ii) (wlv (v := I_ ((jj - ii : Nat) : Int)) (r_sub (k := .i64) (m := (jj : Int)) (n := (ii : Int)) (c := ((jj - ii : Nat) : Int)) (by kernel_rfl) (by kernel_rfl) ((IntWalk.i64_in _ (by omega)).trans (by omega))) (was (v := I_ ((jj - ii : Nat) : Int)) (wnil (inb_n (then_n ?_)))))))))
   refine ⟨ii + (jj - ii), ?_, (p12 ++ (Y12 ++ (M12 ++ (X12 ++ q12)))), ii, (jj - ii), rfl, hmk, M17, hR12, (by omega), (by omega), h14⟩
   · omega
  refine wp_cond_true (eb v10) (wp_seq (rg_lit (wmv (v := sl g 0 nn c) (wmv (v := I_ m) (wmv (v := I_ ii) (wlv (v := I_ ((m - ii : Nat) : Int)) (r_sub (k := .i64) (m := (m : Int)) (n := (ii : Int)) (c := ((m - ii : Nat) : Int)) (by kernel_rfl) (by kernel_rfl) ((IntWalk.i64_in _ (by omega)).trans (by omega))) (wmv (v := I_ m) (wmv (v := I_ jj) (wmv (v := .func (.func 115) #[] #[]) ?_)))))))))
  obtain ⟨p12, X12, M12, Y12, q12, hI12, hXY12, hY12, hp12, hb12, hR12⟩ := RotI.gt hF1_0 (by omega)
  have ho12 := ORow.to hF1_3 (congrArg (List.map f) hI12)
  refine wl (sca [sl g 0 nn c, I_ ((m - ii : Nat) : Int), I_ m, I_ jj, .func (.func 115) #[] #[]] En.f251 (swapRange_at ho12 hBb hn (by omega) (by omega) (by omega) hXY12) ?_)
  rintro e w13 ⟨rfl, h14, c15⟩
  refine ⟨_, rfl, ?_⟩
  have M16 := mtx M2 c15
  have M17 := mtx hM1 c15
  obtain ⟨_, _, _, cg18, hg18, _⟩ := ORow.blk h14
  refine wnil (then_n (rg_lit (wmv (v := I_ ii) (wmv (v := I_ jj) (wlv (v := I_ ((ii - jj : Nat) : Int)) (r_sub (k := .i64) (m := (ii : Int)) (n := (jj : Int)) (c := ((ii - jj : Nat) : Int)) (by kernel_rfl) (by kernel_rfl) ((IntWalk.i64_in _ (by omega)).trans (by omega))) (was (v := I_ ((ii - jj : Nat) : Int)) (wnil (inb_n (then_n ?_)))))))))
  refine ⟨(ii - jj) + jj, ?_, (p12 ++ (Y12 ++ (M12 ++ (X12 ++ q12)))), (ii - jj), jj, rfl, hmk, M17, hR12, (by omega), (by omega), h14⟩
  · omega
end Go.Proofs.YtefhfoioeoijlaaGreatDoor

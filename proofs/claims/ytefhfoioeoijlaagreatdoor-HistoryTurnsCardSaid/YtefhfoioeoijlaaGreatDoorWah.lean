/- Ent, GJ -/
import Derived.Test.YtefhfoioeoijlaaGreatDoorWab
import Derived.Test.YtefhfoioeoijlaaGreatDoorWag
set_option linter.unusedVariables false
set_option linter.unusedSimpArgs false
namespace Go.Proofs.YtefhfoioeoijlaaGreatDoor
open Go Go.RowKit Go.Sort
structure EntD where
  name : ByteArray
  node : Stamp
  dir : Bool
  size : Int
def enC (e : EntD) : List Value := [.string e.name, .int .i64 e.node.t, .int .i64 e.node.w, .bool e.dir, .int .i64 e.size]
def flatE (L : List EntD) : List Value := L.flatMap enC
theorem flatE_cons (x : EntD) (L : List EntD) : flatE (x :: L) = enC x ++ flatE L := rfl
theorem flatE_snoc (x : EntD) (L : List EntD) : flatE (L ++ [x]) = flatE L ++ enC x := by simp [flatE]
theorem flatE_length : ∀ (L : List EntD), (flatE L).length = L.length * 5
  | [] => rfl
  | y :: L => by rw [flatE_cons, List.length_append, flatE_length L]; simp [enC]; omega
theorem flatE_get : ∀ {L : List EntD} {i k : Nat} {x : EntD}, L[i]? = some x → k < 5 → (flatE L)[i * 5 + k]? = (enC x)[k]?
  | y :: L, 0, k, x, h1, hk => by
    simp at h1; subst h1
    rw [flatE_cons, Nat.zero_mul, Nat.zero_add, List.getElem?_append_left (by simpa [enC] using hk)]
  | y :: L, i + 1, k, x, h1, hk => by
    rw [flatE_cons, List.getElem?_append_right (by simp [enC]; omega), show (i + 1) * 5 + k - (enC y).length = i * 5 + k by simp [enC]; omega]
    exact flatE_get (by simpa using h1) hk
def ERow (T : TypeId) (B base : Nat) (w : World) (v : Value) (L : List EntD) : Prop := w.ownsRow base T 5 v L.length (flatE L)
theorem ERow.nil (T : TypeId) (B base : Nat) (w : World) : ERow T B base w (.slice none 0 0) [] := World.ownsRow_nil w base _ 5
theorem ERow.keep {T : TypeId} {B base : Nat} {w w' : World} {v : Value} {L : List EntD} (h : ERow T B base w v L) {q : Option Nat} (hg : w.grownBy w' q) (hv : v.ownBlock = none ∨ v.ownBlock ≠ q) : ERow T B base w' v L := World.ownsRow.kept h hg hv
theorem ERow.up {T : TypeId} {B base : Nat} {w w' : World} {v : Value} {L : List EntD} (h : ERow T B base w v L) (hb : Up w w') : ERow T B base w' v L :=
  h.keep (q := none) ⟨hb.os, hb.tape, hb.output, hb.size, fun k hk _ => hb.block k hk⟩ (by cases hv : v.ownBlock <;> simp)
theorem ERow.form {T : TypeId} {B base : Nat} {w : World} {v : Value} {L : List EntD} (h : ERow T B base w v L) : ∃ A c, v = .slice A L.length c := by
  obtain ⟨_, ⟨rfl, h0⟩ | ⟨g, cap, cur, rfl, _⟩⟩ := h
  · exact ⟨none, 0, by rw [h0]⟩
  · exact ⟨_, cap, rfl⟩
theorem ERow.own {T : TypeId} {B base : Nat} {w : World} {v : Value} {L : List EntD} (h : ERow T B base w v L) : ∀ k, v.ownBlock = some k → base ≤ k ∧ k < w.heap.size := World.ownsRow.lt h
theorem ERow.to {T : TypeId} {B base : Nat} {w : World} {v : Value} {L L' : List EntD} (h : ERow T B base w v L) (e : L = L') : ERow T B base w v L' := e ▸ h
theorem ERow.elem {T : TypeId} {B base : Nat} {w : World} {g n c : Nat} {L : List EntD} (h : ERow T B base w (.slice (some ⟨g, 0, none⟩) n c) L) {i : Nat} {x : EntD} (hi : L[i]? = some x) :
    ∃ cur, w.heap[g]? = some (.cells cur T (0, 0)) ∧ (cur.toList.drop (i * 5)).take 5 = enC x := by
  have hil := (List.getElem?_eq_some_iff.1 hi).1
  obtain ⟨h1, ⟨e, _⟩ | ⟨g', cap, cur, e, hb, hg, hc, hm, hcs, htk⟩⟩ := h
  · cases e
  · simp only [Value.slice.injEq, Option.some.injEq, Addr.mk.injEq, and_true, true_and] at e
    obtain ⟨rfl, rfl, rfl⟩ := e
    refine ⟨cur, hg, ?_⟩
    have hl := flatE_length L
    apply List.ext_getElem?
    intro j
    by_cases hj : j < 5
    · rw [List.getElem?_take, if_pos hj, List.getElem?_drop, ← flatE_get hi hj, ← htk, List.getElem?_take, if_pos (by omega)]
    · rw [List.getElem?_eq_none (by simp; omega), List.getElem?_eq_none (by simp [enC]; omega)]
section
variable {ρ : Operand → Value} {P : Program} {w : World} {d : Option Tmp} {ty : TypeId} {pos : String} {af : Array Edge} {g : Option (Nat × Bool)}
theorem r_adds {t yt : TypeId} {x y : Operand} {m n : ByteArray} (hx : ρ x = .string m) (hy : ρ y = .string n) (h : m.size + n.size ≤ 9223372036854775807) : (execOp ρ ⟨d, .binOp .add t x y yt, ty, pos, af, g⟩).run P w = .ok (.value (.string (m ++ n))) w := by
  simp [execOp, hx, hy, eqGuard, binOp, Op.stringOp]; omega
end
end Go.Proofs.YtefhfoioeoijlaaGreatDoor
set_option linter.unusedVariables false
set_option linter.unusedSimpArgs false
namespace Go.Proofs.YtefhfoioeoijlaaGreatDoor
open Go Go.RowKit Go.Sort
set_option maxHeartbeats 2000000 in
theorem opcompare_at {w : World} (o p : OpD) (oA pA : Option Addr) (on oc pn pc : Nat) :
    Calls Tryz.prog 115 #[opV o (.slice oA on oc), opV p (.slice pA pn pc)] w fun e w' => e = .returned (.int .i64 (cmpS o.at_ p.at_)) ∧ Up w w' := by
  go_enter Tryz.func115, Tryz.ntmps115
  refine wp_seq (rg_lit ?_)
  refine wl (sn rfl (cs := (opC o (.slice oA on oc)).toArray) (T := 49) (V := fun b => .pointer (some ⟨b, 0, none⟩)) (r_box (v := opV o (.slice oA on oc)) (by kernel_rfl) rfl) ?_)
  intro b1 w2 e3 h4 u5
  have g6 : w.heap.size ≤ b1 := by rw [e3]; exact (Mod.refl [] w).size
  have M7 := Mod.trans (Mod.refl [] w) (Mod.of_up u5)
  refine wl (sn rfl (cs := (opC p (.slice pA pn pc)).toArray) (T := 49) (V := fun b => .pointer (some ⟨b, 0, none⟩)) (r_box (v := opV p (.slice pA pn pc)) (by kernel_rfl) rfl) ?_)
  intro b8 w9 e10 h11 u12
  have l13 : b1 < b8 := by rw [e10]; exact lt_ob h4
  have g14 : w.heap.size ≤ b8 := by rw [e10]; exact M7.size
  have M15 := Mod.trans M7 (Mod.of_up u12)
  refine was (v := .int .i64 0) ?_
  refine wnil (then_n (wp_seq (rg_lit ?_)))
  refine wl (sv rfl (v := .pointer (some ⟨b1, 1, none⟩)) (r_fieldAddr (u := .pointer (some ⟨b1, 0, none⟩)) (by kernel_rfl) (fun _ => (by kernel_rfl))) ?_)
  have h16 := (up_ob u12 h4)
  refine wl (sv rfl (v := .agg #[.int .i64 o.at_.t, .int .i64 o.at_.w]) (r_loads (k := 1) (by kernel_rfl) Ty.ag24 Ty.sz24 h16 (by kernel_rfl)) ?_)
  refine wl (sv rfl (v := .pointer (some ⟨b8, 1, none⟩)) (r_fieldAddr (u := .pointer (some ⟨b8, 0, none⟩)) (by kernel_rfl) (fun _ => (by kernel_rfl))) ?_)
  refine wl (sv rfl (v := .agg #[.int .i64 p.at_.t, .int .i64 p.at_.w]) (r_loads (k := 1) (by kernel_rfl) Ty.ag24 Ty.sz24 h11 (by kernel_rfl)) ?_)
  refine wl (sc rfl (r_callv (caps := []) (all := [.agg #[.int .i64 o.at_.t, .int .i64 o.at_.w], .agg #[.int .i64 p.at_.t, .int .i64 p.at_.w]]) En.f137 (by kernel_rfl) (by kernel_rfl)) (scompare_ups ⟨o.at_.t, o.at_.w⟩ ⟨p.at_.t, p.at_.w⟩ _) ?_)
  rintro e w17 ⟨rfl, u18⟩
  replace u18 := u18.below
  refine ⟨.int .i64 (cmpS ⟨o.at_.t, o.at_.w⟩ ⟨p.at_.t, p.at_.w⟩), rfl, ?_⟩
  have M19 := Mod.trans M15 (Mod.of_up u18)
  refine was (v := .int .i64 (cmpS ⟨o.at_.t, o.at_.w⟩ ⟨p.at_.t, p.at_.w⟩)) ?_
  refine wnil (then_n (wp_ret ?_))
  refine bodyPost_ret (v := .int .i64 (cmpS ⟨o.at_.t, o.at_.w⟩ ⟨p.at_.t, p.at_.w⟩)) (res1 rfl (rv_t (by kernel_rfl))) (by kernel_rfl) ?_
  exact ⟨rfl, (Mod.up M19)⟩
set_option maxHeartbeats 2000000 in
theorem opsort1_at {w : World} (o p : OpD) (oA pA : Option Addr) (on oc pn pc : Nat) :
    Calls Tryz.prog 117 #[opV o (.slice oA on oc), opV p (.slice pA pn pc)] w fun e w' => e = .returned (.bool (decide (o.at_ = p.at_))) ∧ Up w w' := by
  go_enter Tryz.func117, Tryz.ntmps117
  refine wp_seq (rg_lit ?_)
  refine wl (sn rfl (cs := (opC o (.slice oA on oc)).toArray) (T := 49) (V := fun b => .pointer (some ⟨b, 0, none⟩)) (r_box (v := opV o (.slice oA on oc)) (by kernel_rfl) rfl) ?_)
  intro b1 w2 e3 h4 u5
  have g6 : w.heap.size ≤ b1 := by rw [e3]; exact (Mod.refl [] w).size
  have M7 := Mod.trans (Mod.refl [] w) (Mod.of_up u5)
  refine wl (sn rfl (cs := (opC p (.slice pA pn pc)).toArray) (T := 49) (V := fun b => .pointer (some ⟨b, 0, none⟩)) (r_box (v := opV p (.slice pA pn pc)) (by kernel_rfl) rfl) ?_)
  intro b8 w9 e10 h11 u12
  have l13 : b1 < b8 := by rw [e10]; exact lt_ob h4
  have g14 : w.heap.size ≤ b8 := by rw [e10]; exact M7.size
  have M15 := Mod.trans M7 (Mod.of_up u12)
  refine was (v := .bool false) ?_
  refine wnil (then_n (wp_seq (rg_lit ?_)))
  refine wl (sv rfl (v := .pointer (some ⟨b1, 1, none⟩)) (r_fieldAddr (u := .pointer (some ⟨b1, 0, none⟩)) (by kernel_rfl) (fun _ => (by kernel_rfl))) ?_)
  have h16 := (up_ob u12 h4)
  refine wl (sv rfl (v := .agg #[.int .i64 o.at_.t, .int .i64 o.at_.w]) (r_loads (k := 1) (by kernel_rfl) Ty.ag24 Ty.sz24 h16 (by kernel_rfl)) ?_)
  refine wl (sv rfl (v := .pointer (some ⟨b8, 1, none⟩)) (r_fieldAddr (u := .pointer (some ⟨b8, 0, none⟩)) (by kernel_rfl) (fun _ => (by kernel_rfl))) ?_)
  refine wl (sv rfl (v := .agg #[.int .i64 p.at_.t, .int .i64 p.at_.w]) (r_loads (k := 1) (by kernel_rfl) Ty.ag24 Ty.sz24 h11 (by kernel_rfl)) ?_)
  refine wl (sb rfl (r_eqS (a := o.at_.t) (b := o.at_.w) (c := p.at_.t) (e := p.at_.w) (by kernel_rfl) (by kernel_rfl)) ?_)
  intro b17 k18
  refine was (v := .bool b17) ?_
  refine wnil (then_n (wp_ret ?_))
  refine bodyPost_ret (v := .bool b17) (res1 rfl (rv_t (by kernel_rfl))) (by kernel_rfl) ?_
  exact ⟨by rw [← k18], (Mod.up M15)⟩
set_option maxHeartbeats 2000000 in
theorem opown_at {B : Nat} {w : World} (o : OpD) (oA : Option Addr) (on oc : Nat) (hB : B ≤ w.heap.size) (hd : Dat B w (.slice oA on oc) o.data) :
    Calls Tryz.prog 113 #[opV o (.slice oA on oc)] w fun e w' => ∃ A n c, e = .returned (opV o (.slice A n c)) ∧ Dat B w' (.slice A n c) o.data ∧ Up w w' := by
  go_enter Tryz.func113, Tryz.ntmps113
  refine wp_seq (rg_lit ?_)
  refine wl (sn rfl (cs := (opC o (.slice oA on oc)).toArray) (T := 49) (V := fun b => .pointer (some ⟨b, 0, none⟩)) (r_box (v := opV o (.slice oA on oc)) (by kernel_rfl) rfl) ?_)
  intro b1 w2 e3 h4 u5
  have g6 : w.heap.size ≤ b1 := by rw [e3]; exact (Mod.refl [] w).size
  have M7 := Mod.trans (Mod.refl [] w) (Mod.of_up u5)
  refine wl (sn rfl (cs := #[.int .i64 0, .int .i64 0, .int .i64 0, .int .i64 0, .int .i64 0, .int .i64 0, .int .i64 0, .bool false, .string (⟨#[]⟩), .slice none 0 0]) (T := 49) (V := fun b => .pointer (some ⟨b, 0, none⟩)) (r_alloc Ty.zv49 rfl) ?_)
  intro b8 w9 e10 h11 u12
  have l13 : b1 < b8 := by rw [e10]; exact lt_ob h4
  have g14 : w.heap.size ≤ b8 := by rw [e10]; exact M7.size
  have M15 := Mod.trans M7 (Mod.of_up u12)
  refine wnil (then_n (wp_seq (rg_lit ?_)))
  refine wl (sv rfl (v := .pointer (some ⟨b1, 9, none⟩)) (r_fieldAddr (u := .pointer (some ⟨b1, 0, none⟩)) (by kernel_rfl) (fun _ => (by kernel_rfl))) ?_)
  have h16 := (up_ob u12 h4)
  refine wl (sv rfl (v := .slice oA on oc) (r_load (k := 9) (by kernel_rfl) Ty.ag40 h16 (by kernel_rfl)) ?_)
  have h17 := (Dat.up hd (Mod.up M15))
  refine wl (sc rfl (r_callv (caps := []) (all := [.slice oA on oc]) En.f122 (by kernel_rfl) (by kernel_rfl)) (clone_sl h17) ?_)
  rintro e w18 ⟨A19, n20, c21, rfl, h22, u23⟩
  refine ⟨.slice A19 n20 c21, rfl, ?_⟩
  have M24 := Mod.trans M15 (Mod.of_up u23)
  refine wl (sv rfl (v := .pointer (some ⟨b1, 9, none⟩)) (r_fieldAddr (u := .pointer (some ⟨b1, 0, none⟩)) (by kernel_rfl) (fun _ => (by kernel_rfl))) ?_)
  have h25 := (up_ob u23 h16)
  refine wl (ss rfl (k := 9) (v := .slice A19 n20 c21) (vs := [.slice A19 n20 c21]) (cs' := (opC o (.slice A19 n20 c21))) (by kernel_rfl) (by kernel_rfl) rfl Ty.sz40 h25 rfl (Nat.le_of_ble_eq_true rfl) rfl ?_)
  intro w26 h27 c28
  have M29 := Mod.trans' M24 c28 (fun i hi => by injection hi with hi; rw [← hi]; exact g6)
  refine wnil (then_n (wp_seq (rg_lit ?_)))
  refine wl (sv rfl (v := opV o (.slice A19 n20 c21)) (r_loads (k := 0) (by kernel_rfl) Ty.ag49 Ty.sz49 h27 (by kernel_rfl)) ?_)
  have h30 := (chg_ob c28 (Nat.ne_of_gt l13) (up_ob u23 h11))
  refine wl (ss rfl (k := 0) (v := opV o (.slice A19 n20 c21)) (vs := (opC o (.slice A19 n20 c21))) (cs' := (opC o (.slice A19 n20 c21))) (by kernel_rfl) (by kernel_rfl) rfl Ty.sz49 h30 rfl (Nat.le_of_ble_eq_true rfl) rfl ?_)
  intro w31 h32 c33
  have M34 := Mod.trans' M29 c33 (fun i hi => by injection hi with hi; rw [← hi]; exact g14)
  refine wnil (then_n (wp_ret ?_))
  refine bodyPost_ret (v := opV o (.slice A19 n20 c21)) (res1 rfl (rv_c (p := ⟨b8, 0, none⟩) (by kernel_rfl) (run_loadVars (vs := (opC o (.slice A19 n20 c21))) Ty.ag49 Ty.sz49 h32 (by kernel_rfl)))) (by kernel_rfl) ?_
  have h35 := (Dat.chg (Dat.chg h22 c28 ⟨(Nat.le_trans hB g6), NotU8.of h25 (by decide)⟩) c33 ⟨(Nat.le_trans hB g14), NotU8.of h30 (by decide)⟩)
  exact ⟨_, _, _, rfl, h35, (Mod.up M34)⟩
end Go.Proofs.YtefhfoioeoijlaaGreatDoor

/- Vst, HV, Vsk, HW, Vgt -/
import Derived.Laws.BytesArg
import Derived.Test.YtefhfoioeoijlaaGreatDoorWau
set_option linter.unusedVariables false
set_option linter.unusedSimpArgs false
namespace Go.Proofs.YtefhfoioeoijlaaGreatDoor
open Go Go.RowKit Go.Sort
def hitV (o : OpD) (L : List Item) (m : Stamp) : Bool := rightB o && decide (o.kind = 4) && decide (o.node = m) && decide ((gotI L m).by_ = o.at_)
def VOne (B : Nat) (w : World) (b4 : Nat) (xs : List Int) : Prop :=
  ∃ g c dA dn dc, w.heap[b4]? = some (.cells #[.slice (some ⟨g, 0, none⟩) 1 c] 112 (0, 0)) ∧ b4 ≠ g ∧ g < w.heap.size ∧ (∃ cs, w.heap[g]? = some (.cells cs 116 (0, 0))) ∧ w.cell? ⟨g, 2, none⟩ = some (.slice dA dn dc) ∧ Dat B w (.slice dA dn dc) xs ∧ 1 ≤ c
theorem VOne.up {B b4 : Nat} {w w' : World} {xs : List Int} (h : VOne B w b4 xs) (u : Up w w') : VOne B w' b4 xs := by
  obtain ⟨g, c, dA, dn, dc, h1, h2, h3, ⟨cs, h4⟩, h5, h6, h7⟩ := h
  exact ⟨g, c, dA, dn, dc, up_ob u h1, h2, Nat.lt_of_lt_of_le h3 u.size, ⟨cs, up_ob u h4⟩, (u.cell (p := ⟨g, 2, none⟩) h3).trans h5, h6.up u, h7⟩
theorem VOne.chg {B b4 r : Nat} {w w' : World} {xs : List Int} (h : VOne B w b4 xs) (c : Chg w w' r) (hd : B ≤ r ∧ NotU8 w r) (h4 : b4 ≠ r) (hm : ∀ cs T fr, w.heap[r]? ≠ some (.cells cs T fr)) : VOne B w' b4 xs := by
  obtain ⟨g, c', dA, dn, dc, h1, h2, h3, ⟨cs, h5⟩, h6, h7, h8⟩ := h
  have hg : g ≠ r := fun e => hm _ _ _ (e ▸ h5)
  have hg' := chg_ob c hg h5
  refine ⟨g, c', dA, dn, dc, chg_ob c h4 h1, h2, Nat.lt_of_lt_of_le h3 c.size, ⟨cs, hg'⟩, ?_, h7.chg c hd, h8⟩
  simp only [World.cell?, h5] at h6
  simp only [World.cell?, hg']; exact h6
def VSt (B : Nat) (w : World) (b4 : Nat) (one : Bool) : Prop := match one with | false => w.heap[b4]? = some (.cells #[.slice none 0 0] 112 (0, 0)) | true => VOne B w b4 [120]
theorem VSt.up {B b4 : Nat} {w w' : World} {j : Bool} (h : VSt B w b4 j) (u : Up w w') : VSt B w' b4 j := by
  cases j
  · exact up_ob u h
  · exact VOne.up h u
theorem VSt.chg {B b4 r : Nat} {w w' : World} {j : Bool} (h : VSt B w b4 j) (c : Chg w w' r) (hd : B ≤ r ∧ NotU8 w r) (h4 : b4 ≠ r) (hm : ∀ cs T fr, w.heap[r]? ≠ some (.cells cs T fr)) : VSt B w' b4 j := by
  cases j
  · exact chg_ob c h4 h
  · exact VOne.chg h c hd h4 hm
theorem VSt.lt {B b4 : Nat} {w : World} {j : Bool} (h : VSt B w b4 j) : b4 < w.heap.size ∧ NotU8 w b4 := by
  cases j
  · exact ⟨lt_ob h, NotU8.of h (by decide)⟩
  · obtain ⟨_, _, _, _, _, h1, _⟩ := h; exact ⟨lt_ob h1, NotU8.of h1 (by decide)⟩
theorem info_vs : ∃ i z, Tryz.prog.info? 116 = some i ∧ i.zero = some z ∧ i.size = 3 ∧ i.bytes = 40 ∧ z.cells.size = 3 := by
  have h : (Tryz.prog.info? 116).map (fun i => (i.zero.map (·.cells.size), i.size, i.bytes)) = some (some 3, 3, 40) := by kernel_rfl
  cases hi : Tryz.prog.info? 116 with
  | none => rw [hi] at h; cases h
  | some i =>
    rw [hi] at h; simp at h
    obtain ⟨⟨z, hz, h1⟩, h2, h3⟩ := h
    exact ⟨i, z, rfl, hz, h2, h3, h1⟩
theorem snV {ops : Array Oper} {Q : Exit → Act → World → Prop} {a : Act} {w : World} {J : Act → World → Prop} {d : Option Tmp} {ty : TypeId} {pos : String} {af : Array Edge} {gd : Option (Nat × Bool)}
    {t : TypeId} {s p : Operand} {b : Nat} {x y : Int} {dA : Option Addr} {dn dc : Nat}
    (hw : Region.wanted (⟨d, .call ⟨.builtin .append, #[s, p], #[t, t]⟩, ty, pos, af, gd⟩ : Oper) (yielded ops a.tmps) = true) (hs : a.eval s = .slice none 0 0) (hy : a.eval p = .slice (some ⟨b, 0, none⟩) 1 1)
    (ht : Tryz.prog.underlying t = some (.slice 116)) (hb : w.heap[b]? = some (.cells #[.int .i64 x, .int .i64 y, .slice dA dn dc] 116 (0, 0)))
    (k : ∀ g c w', w.heap.size ≤ g → g < w'.heap.size → (∃ cs, w'.heap[g]? = some (.cells cs 116 (0, 0))) → w'.cell? ⟨g, 2, none⟩ = some (.slice dA dn dc) → 1 ≤ c → Up w w' → J (a.put d (.slice (some ⟨g, 0, none⟩) 1 c)) w') : St1 Tryz.prog ops Q ⟨d, .call ⟨.builtin .append, #[s, p], #[t, t]⟩, ty, pos, af, gd⟩ J a w := by
  obtain ⟨i, z, hi, hz, hsize, hby, hzs⟩ := info_vs
  have h0 : w.ownsRow w.heap.size 116 3 (.slice none 0 0) 0 [] := World.ownsRow_nil w _ _ 3
  obtain ⟨v', w', h1, h2, h3, h4⟩ := run_append_own (P := Tryz.prog) w w.heap.size t ty _ i z 3 40 ht hi hz hsize hby hzs (by decide) (.slice none 0 0) 0 [] h0 ⟨b, 0, none⟩ 1 1 [.int .i64 x, .int .i64 y, .slice dA dn dc] (by simp)
    (fun j u hj => by
      rw [add_at, Nat.zero_add]
      simp only [World.cell?, hb]; simpa using hj) (by intro u hu; simp at hu; rcases hu with rfl | rfl | rfl <;> rfl) (by unfold maxLen; omega) (by omega) (Nat.le_refl _)
  have hu : Up w w' := ⟨h3.os, h3.tape, h3.output, h3.size, fun k hk => h3.block k hk (by simp [Value.ownBlock])⟩
  obtain ⟨hl, ⟨e, h0⟩ | ⟨g, cap, cur, e, hbg, hg, hc, hm, hcs, htk⟩⟩ := h2
  · cases h0
  · subst e
    have hcell : w'.cell? ⟨g, 2, none⟩ = some (.slice dA dn dc) := by
      have h9 : (cur.toList.take ((0 + 1) * 3))[2]? = some (.slice dA dn dc) := by rw [htk]; simp
      rw [List.getElem?_take, if_pos (by decide), Array.getElem?_toList] at h9
      simp only [World.cell?, hg]; exact h9
    refine sv hw ?_ (k g cap w' hbg (lt_ob hg) ⟨_, hg⟩ hcell (by omega) hu)
    simp [execOp, resolve, invoke, builtin, hs, hy, h1]
end Go.Proofs.YtefhfoioeoijlaaGreatDoor
set_option linter.unusedVariables false
set_option linter.unusedSimpArgs false
namespace Go.Proofs.YtefhfoioeoijlaaGreatDoor
open Go Go.RowKit Go.Sort
set_option maxHeartbeats 2000000 in
theorem vers1_at {B : Nat} {w : World} {tb r b3 b4 : Nat} {L : List Item} {m : Stamp} (h : TreeIs B w tb r L) (o : OpD) (oA : Option Addr) (on oc : Nat) (hd : Dat B w (.slice oA on oc) o.data) (hon : o.data.length = on) (hname : o.name.size ≤ 9223372036854775807)
    (hb3 : w.heap[b3]? = some (.cells #[.int .i64 m.t, .int .i64 m.w] 24 (0, 0))) (hb4 : w.heap[b4]? = some (.cells #[.slice none 0 0] 112 (0, 0))) (h34 : b3 ≠ b4) (hB4 : B ≤ b4) :
    Calls Tryz.prog 128 #[opV o (.slice oA on oc), trP tb, .pointer (some ⟨b3, 0, none⟩), .pointer (some ⟨b4, 0, none⟩)] w fun e w' => e = .returned (.tuple #[]) ∧ (hitV o L m = false ∧ Up w w' ∨ hitV o L m = true ∧ VOne B w' b4 o.data ∧ Chg w w' b4) := by
  go_enter Tryz.func128, Tryz.ntmps128
  refine wp_seq (rg_lit ?_)
  refine wl (sn rfl (cs := (opC o (.slice oA on oc)).toArray) (T := 49) (V := fun b => .pointer (some ⟨b, 0, none⟩)) (r_box (v := opV o (.slice oA on oc)) (by kernel_rfl) rfl) ?_)
  intro pb w1 e2 h3 u4
  have l5 : b3 < pb := by rw [e2]; exact lt_ob hb3
  have l6 : b4 < pb := by rw [e2]; exact lt_ob hb4
  have g7 : w.heap.size ≤ pb := by rw [e2]; exact (Mod.refl [] w).size
  have M8 := Mod.trans (Mod.refl [] w) (Mod.of_up u4)
  refine wnil (then_n (wp_seq (rg_lit ?_)))
  refine wmv (v := .pointer (some ⟨tb, 0, none⟩)) ?_
  have h9 := md_ob M8 nin0 hb3
  refine wl (sv rfl (v := .agg #[.int .i64 m.t, .int .i64 m.w]) (r_loads (k := 0) (by kernel_rfl) Ty.ag24 Ty.sz24 h9 (by kernel_rfl)) ?_)
  have h10 := (TreeIs.up h (Mod.up M8))
  refine wl (sc rfl (r_callv (caps := []) (all := [.pointer (some ⟨tb, 0, none⟩), .agg #[.int .i64 m.t, .int .i64 m.w]]) En.f20 (by kernel_rfl) (by kernel_rfl)) (get_x h10 ⟨m.t, m.w⟩ (x := (gotI L ⟨m.t, m.w⟩)) (b := (hasI L ⟨m.t, m.w⟩)) rfl rfl) ?_)
  rintro e w11 ⟨A12, n13, c14, rfl, h15, u16⟩
  refine ⟨.tuple #[itV (gotI L ⟨m.t, m.w⟩) (.slice A12 n13 c14), .bool (hasI L ⟨m.t, m.w⟩)], rfl, ?_⟩
  have M17 := Mod.trans M8 (Mod.of_up u16)
  refine wmv (v := .tuple #[itV (gotI L ⟨m.t, m.w⟩) (.slice A12 n13 c14), .bool (hasI L ⟨m.t, m.w⟩)]) ?_
  refine wl (sv rfl (v := itV (gotI L ⟨m.t, m.w⟩) (.slice A12 n13 c14)) (r_extract (vs := [itV (gotI L ⟨m.t, m.w⟩) (.slice A12 n13 c14), .bool (hasI L ⟨m.t, m.w⟩)]) (by kernel_rfl) rfl) ?_)
  refine wl (sv rfl (v := .bool (hasI L ⟨m.t, m.w⟩)) (r_extract (vs := [itV (gotI L ⟨m.t, m.w⟩) (.slice A12 n13 c14), .bool (hasI L ⟨m.t, m.w⟩)]) (by kernel_rfl) rfl) ?_)
  refine wl (sn rfl (cs := #[.int .i64 0, .int .i64 0, .int .i64 0, .int .i64 0, .string (⟨#[]⟩), .bool false, .bool false, .slice none 0 0, .int .i64 0, .int .i64 0]) (T := 42) (V := fun b => .pointer (some ⟨b, 0, none⟩)) (r_alloc Ty.zv42 rfl) ?_)
  intro b18 w19 e20 h21 u22
  have h23 := md_ob M17 nin0 hb3
  have l24 : b3 < b18 := by rw [e20]; exact lt_ob h23
  have h25 := md_ob M17 nin0 hb4
  have l26 : b4 < b18 := by rw [e20]; exact lt_ob h25
  have h27 := (up_ob u16 h3)
  have l28 : pb < b18 := by rw [e20]; exact lt_ob h27
  have g29 : w.heap.size ≤ b18 := by rw [e20]; exact M17.size
  have M30 := Mod.trans M17 (Mod.of_up u22)
  refine wl (ss rfl (k := 0) (v := itV (gotI L ⟨m.t, m.w⟩) (.slice A12 n13 c14)) (vs := (itC (gotI L ⟨m.t, m.w⟩) (.slice A12 n13 c14))) (cs' := (itC (gotI L ⟨m.t, m.w⟩) (.slice A12 n13 c14))) (by kernel_rfl) (by kernel_rfl) rfl Ty.sz42 h21 rfl (Nat.le_of_ble_eq_true rfl) rfl ?_)
  intro w31 h32 c33
  have M34 := Mod.trans' M30 c33 (fun i hi => by injection hi with hi; rw [← hi]; exact g29)
  refine was (v := .bool (hasI L ⟨m.t, m.w⟩)) ?_
  refine wnil (then_n (wp_seq (rg_lit ?_)))
  have h35 := (chg_ob c33 (Nat.ne_of_lt l28) (up_ob u22 h27))
  refine wl (sv rfl (v := opV o (.slice oA on oc)) (r_loads (k := 0) (by kernel_rfl) Ty.ag49 Ty.sz49 h35 (by kernel_rfl)) ?_)
  refine wl (sc rfl (r_callv (caps := []) (all := [opV o (.slice oA on oc)]) En.f66 (by kernel_rfl) (by kernel_rfl)) (opright_any o oA on oc hon hname _) ?_)
  rintro e w36 ⟨rfl, u37⟩
  refine ⟨.bool (rightB o), rfl, ?_⟩
  have M38 := Mod.trans M34 (Mod.of_up u37)
  refine wmv (v := .bool (rightB o)) ?_
  refine bcase (rightB o) (fun v39 => ?_) (fun v39 => ?_)
  ·
   refine wl (sp (wf (b := (rightB o)) rfl (by kernel_rfl) v39) ?_)
   refine wl (sp (wf (b := (rightB o)) rfl (by kernel_rfl) v39) ?_)
   refine wl (sp (wf (b := (rightB o)) rfl (by kernel_rfl) v39) ?_)
   refine wl (sv rfl (v := .bool false) (r_pkF (ebool (b := (rightB o)) (by kernel_rfl) v39) (by kernel_rfl)) ?_)
   refine wmv (v := .bool false) ?_
   refine wsp ?_
   refine wsp ?_
   refine wsp ?_
   refine wsp ?_
   refine wl (sv rfl (v := .bool false) (r_pkF (by kernel_rfl) (by kernel_rfl)) ?_)
   refine wmv (v := .bool false) ?_
   refine wsp ?_
   refine wsp ?_
   refine wsp ?_
   refine wsp ?_
   refine wsp ?_
   refine wl (sv rfl (v := .bool false) (r_pkF (by kernel_rfl) (by kernel_rfl)) ?_)
   refine wnil (then_n ?_)
   refine wp_cond_false (by kernel_rfl) ?_
   refine wp_skip ?_
   refine bodyPost_end (v := .tuple #[]) (res0 rfl ) (by kernel_rfl) ?_
   have zr : rightB o = false := v39
   have v40 : hitV o L m = false := by simp [hitV, zr]
   exact ⟨rfl, .inl ⟨v40, (Mod.up M38)⟩⟩
  refine wl (sv (wt (b := (rightB o)) rfl (by kernel_rfl) v39) (v := .pointer (some ⟨pb, 0, none⟩)) (r_fieldAddr (u := .pointer (some ⟨pb, 0, none⟩)) (by kernel_rfl) (fun _ => (by kernel_rfl))) ?_)
  have h40 := (up_ob u37 h35)
  refine wl (sv (wt (b := (rightB o)) rfl (by kernel_rfl) v39) (v := .int .i64 o.kind) (r_load (k := 0) (by kernel_rfl) Ty.ag3 h40 (by kernel_rfl)) ?_)
  refine wl (sb (wt (b := (rightB o)) rfl (by kernel_rfl) v39) (r_eq (k := .i64) (m := o.kind) (n := 4) (by kernel_rfl) (by kernel_rfl)) ?_)
  intro b41 k42
  refine wl (sv rfl (v := .bool b41) (r_pkT (ebool (b := (rightB o)) (by kernel_rfl) v39) (by kernel_rfl)) ?_)
  refine wmv (v := .bool b41) ?_
  refine bcase b41 (fun v43 => ?_) (fun v43 => ?_)
  ·
   have p44 := of_decide_eq_false (k42.trans v43)
   refine wl (sp (wf (b := b41) rfl (by kernel_rfl) v43) ?_)
   refine wl (sp (wf (b := b41) rfl (by kernel_rfl) v43) ?_)
   refine wl (sp (wf (b := b41) rfl (by kernel_rfl) v43) ?_)
   refine wl (sp (wf (b := b41) rfl (by kernel_rfl) v43) ?_)
   refine wl (sv rfl (v := .bool false) (r_pkF (ebool (b := b41) (by kernel_rfl) v43) (by kernel_rfl)) ?_)
   refine wmv (v := .bool false) ?_
   refine wsp ?_
   refine wsp ?_
   refine wsp ?_
   refine wsp ?_
   refine wsp ?_
   refine wl (sv rfl (v := .bool false) (r_pkF (by kernel_rfl) (by kernel_rfl)) ?_)
   refine wnil (then_n ?_)
   refine wp_cond_false (by kernel_rfl) ?_
   refine wp_skip ?_
   refine bodyPost_end (v := .tuple #[]) (res0 rfl ) (by kernel_rfl) ?_
   have zr : rightB o = true := v39
   have zk : ¬ o.kind = 4 := p44
   have v45 : hitV o L m = false := by simp [hitV, zr, zk]
   exact ⟨rfl, .inl ⟨v45, (Mod.up M38)⟩⟩
  have p44 := of_decide_eq_true (k42.trans v43)
  refine wl (sv (wt (b := b41) rfl (by kernel_rfl) v43) (v := .pointer (some ⟨pb, 3, none⟩)) (r_fieldAddr (u := .pointer (some ⟨pb, 0, none⟩)) (by kernel_rfl) (fun _ => (by kernel_rfl))) ?_)
  refine wl (sv (wt (b := b41) rfl (by kernel_rfl) v43) (v := .agg #[.int .i64 o.node.t, .int .i64 o.node.w]) (r_loads (k := 3) (by kernel_rfl) Ty.ag24 Ty.sz24 h40 (by kernel_rfl)) ?_)
  have h45 := md_ob M38 nin0 hb3
  refine wl (sv (wt (b := b41) rfl (by kernel_rfl) v43) (v := .agg #[.int .i64 m.t, .int .i64 m.w]) (r_loads (k := 0) (by kernel_rfl) Ty.ag24 Ty.sz24 h45 (by kernel_rfl)) ?_)
  refine wl (sb (wt (b := b41) rfl (by kernel_rfl) v43) (r_eqS (a := o.node.t) (b := o.node.w) (c := m.t) (e := m.w) (by kernel_rfl) (by kernel_rfl)) ?_)
  intro b46 k47
  refine wl (sv rfl (v := .bool b46) (r_pkT (ebool (b := b41) (by kernel_rfl) v43) (by kernel_rfl)) ?_)
  refine wmv (v := .bool b46) ?_
  refine bcase b46 (fun v48 => ?_) (fun v48 => ?_)
  ·
   have p49 := of_decide_eq_false (k47.trans v48)
   refine wl (sp (wf (b := b46) rfl (by kernel_rfl) v48) ?_)
   refine wl (sp (wf (b := b46) rfl (by kernel_rfl) v48) ?_)
   refine wl (sp (wf (b := b46) rfl (by kernel_rfl) v48) ?_)
   refine wl (sp (wf (b := b46) rfl (by kernel_rfl) v48) ?_)
   refine wl (sp (wf (b := b46) rfl (by kernel_rfl) v48) ?_)
   refine wl (sv rfl (v := .bool false) (r_pkF (ebool (b := b46) (by kernel_rfl) v48) (by kernel_rfl)) ?_)
   refine wnil (then_n ?_)
   refine wp_cond_false (by kernel_rfl) ?_
   refine wp_skip ?_
   refine bodyPost_end (v := .tuple #[]) (res0 rfl ) (by kernel_rfl) ?_
   have zr : rightB o = true := v39
   have zk : o.kind = 4 := p44
   have zn : ¬ o.node = m := p49
   have v50 : hitV o L m = false := by simp [hitV, zr, zk, zn]
   exact ⟨rfl, .inl ⟨v50, (Mod.up M38)⟩⟩
  have p49 := of_decide_eq_true (k47.trans v48)
  refine wl (sv (wt (b := b46) rfl (by kernel_rfl) v48) (v := .pointer (some ⟨b18, 8, none⟩)) (r_fieldAddr (u := .pointer (some ⟨b18, 0, none⟩)) (by kernel_rfl) (fun _ => (by kernel_rfl))) ?_)
  have h50 := (up_ob u37 h32)
  refine wl (sv (wt (b := b46) rfl (by kernel_rfl) v48) (v := .agg #[.int .i64 ((gotI L ⟨m.t, m.w⟩).by_.t), .int .i64 ((gotI L ⟨m.t, m.w⟩).by_.w)]) (r_loads (k := 8) (by kernel_rfl) Ty.ag24 Ty.sz24 h50 (by kernel_rfl)) ?_)
  refine wl (sv (wt (b := b46) rfl (by kernel_rfl) v48) (v := .pointer (some ⟨pb, 1, none⟩)) (r_fieldAddr (u := .pointer (some ⟨pb, 0, none⟩)) (by kernel_rfl) (fun _ => (by kernel_rfl))) ?_)
  refine wl (sv (wt (b := b46) rfl (by kernel_rfl) v48) (v := .agg #[.int .i64 o.at_.t, .int .i64 o.at_.w]) (r_loads (k := 1) (by kernel_rfl) Ty.ag24 Ty.sz24 h40 (by kernel_rfl)) ?_)
  refine wl (sb (wt (b := b46) rfl (by kernel_rfl) v48) (r_eqS (a := ((gotI L ⟨m.t, m.w⟩).by_.t)) (b := ((gotI L ⟨m.t, m.w⟩).by_.w)) (c := o.at_.t) (e := o.at_.w) (by kernel_rfl) (by kernel_rfl)) ?_)
  intro b51 k52
  refine wl (sv rfl (v := .bool b51) (r_pkT (ebool (b := b46) (by kernel_rfl) v48) (by kernel_rfl)) ?_)
  refine wnil (then_n ?_)
  refine bcase b51 (fun v53 => ?_) (fun v53 => ?_)
  ·
   have p54 := of_decide_eq_false (k52.trans v53)
   refine wp_cond_false (ebool (b := b51) (by kernel_rfl) v53) ?_
   refine wp_skip ?_
   refine bodyPost_end (v := .tuple #[]) (res0 rfl ) (by kernel_rfl) ?_
   have zr : rightB o = true := v39
   have zk : o.kind = 4 := p44
   have zn : o.node = m := p49
   have zb : ¬ (gotI L m).by_ = o.at_ := p54
   have v55 : hitV o L m = false := by simp [hitV, zr, zk, zn, zb]
   exact ⟨rfl, .inl ⟨v55, (Mod.up M38)⟩⟩
  have p54 := of_decide_eq_true (k52.trans v53)
  refine wp_cond_true (ebool (b := b51) (by kernel_rfl) v53) ?_
  refine rg_held [b4] (n := 10) (by kernel_rfl) rfl ?_
  intro w55 u56
  have M57 := Mod.trans M38 (Mod.of_up u56)
  refine hvq (i := 1) (fuel := 9) rfl (fun _ _ _ h => h) (Mod.refl _ _) rfl (v := .pointer (some ⟨pb, 1, none⟩)) (fun _ _ => r_fieldAddr (u := .pointer (some ⟨pb, 0, none⟩)) (by kernel_rfl) (fun _ => (by kernel_rfl))) ?_
  have h58 := (up_ob u56 h40)
  refine hvq (i := 2) (fuel := 8) rfl (fun _ _ _ h => h) (Mod.refl _ _) rfl (v := .agg #[.int .i64 o.at_.t, .int .i64 o.at_.w]) (fun _ uz => r_loads (k := 1) (by kernel_rfl) Ty.ag24 Ty.sz24 (md_ob uz (nin1 (Nat.ne_of_gt l6)) h58) (by kernel_rfl)) ?_
  refine hvq (i := 3) (fuel := 7) rfl (fun _ _ _ h => h) (Mod.refl _ _) rfl (v := .pointer (some ⟨pb, 9, none⟩)) (fun _ _ => r_fieldAddr (u := .pointer (some ⟨pb, 0, none⟩)) (by kernel_rfl) (fun _ => (by kernel_rfl))) ?_
  refine hvq (i := 4) (fuel := 6) rfl (fun _ _ _ h => h) (Mod.refl _ _) rfl (v := .slice oA on oc) (fun _ uz => r_load (k := 9) (by kernel_rfl) Ty.ag40 (md_ob uz (nin1 (Nat.ne_of_gt l6)) h58) (by kernel_rfl)) ?_
  refine h2 (i := 0) (j := 5) (fuel := 5) (by kernel_rfl) rfl rfl ?_ ?_
  ·
   have h59 := md_ob M57 nin0 hb4
   refine sv rfl (v := .slice none 0 0) (r_load (k := 0) (by kernel_rfl) Ty.ag112 h59 (by kernel_rfl)) ?_
   refine hx (Y := [b4]) (Mod.refl _ _) (fun y hy => .inl hy) ?_
   have h60 := (Dat.up hd (Mod.up M57))
   refine h1 (i := 5) (fuel := 4) (by kernel_rfl) rfl (sc rfl (r_callv (caps := []) (all := [.slice oA on oc]) En.f122 (by kernel_rfl) (by kernel_rfl)) (clone_sl h60) ?_)
   rintro e w61 ⟨A62, n63, c64, rfl, h65, u66⟩
   refine ⟨.slice A62 n63 c64, rfl, ?_⟩
   have M67 := Mod.trans M57 (Mod.of_up u66)
   refine hx (Y := [b4]) (Mod.of_up u66) (fun y hy => .inl hy) ?_
   refine hvq (i := 6) (fuel := 3) rfl (fun _ _ _ h => h) (Mod.refl _ _) rfl (v := .agg #[.int .i64 o.at_.t, .int .i64 o.at_.w, .slice A62 n63 c64]) (fun _ _ => r_build (ps := [(0, .agg #[.int .i64 o.at_.t, .int .i64 o.at_.w]), (1, .slice A62 n63 c64)]) (cs := [.int .i64 o.at_.t, .int .i64 o.at_.w, .slice A62 n63 c64]) Ty.un116 Ty.zv116 Ty.pl116 (by kernel_rfl) (by kernel_rfl)) ?_
   refine h1 (i := 7) (fuel := 2) (by kernel_rfl) rfl (sn rfl (cs := #[.int .i64 o.at_.t, .int .i64 o.at_.w, .slice A62 n63 c64]) (T := 116) (V := fun b => .slice (some ⟨b, 0, none⟩) 1 1) (r_buildSlice (n := 1) (ps := [(0, .agg #[.int .i64 o.at_.t, .int .i64 o.at_.w, .slice A62 n63 c64])]) Ty.un112 Ty.sz116 Ty.zv116 (by decide) (by decide) (by kernel_rfl) (by kernel_rfl)) ?_)
   intro b68 w69 e70 h71 u72
   have h73 := md_ob M67 nin0 hb3
   have l74 : b3 < b68 := by rw [e70]; exact lt_ob h73
   have h75 := md_ob M67 nin0 hb4
   have l76 : b4 < b68 := by rw [e70]; exact lt_ob h75
   have h77 := (up_ob u66 h58)
   have l78 : pb < b68 := by rw [e70]; exact lt_ob h77
   have h79 := (up_ob u66 (up_ob u56 h50))
   have l80 : b18 < b68 := by rw [e70]; exact lt_ob h79
   have g81 : w.heap.size ≤ b68 := by rw [e70]; exact M67.size
   have M82 := Mod.trans M67 (Mod.of_up u72)
   refine hx (Y := [b4]) (Mod.of_up u72) (fun y hy => .inl hy) ?_
   refine h1 (i := 8) (fuel := 1) (by kernel_rfl) rfl (snV rfl (b := b68) (x := o.at_.t) (y := o.at_.w) (dA := A62) (dn := n63) (dc := c64) (by kernel_rfl) (by kernel_rfl) Ty.un112 h71 ?_)
   intro g83 c84 w85 h86 h87 h88 h89 h90 u91
   have h93 := md_ob M82 nin0 hb4
   have l92 : b4 ≠ g83 := Nat.ne_of_lt (Nat.lt_of_lt_of_le (lt_ob h93) h86)
   have M94 := Mod.trans M82 (Mod.of_up u91)
   refine hx (Y := [b4]) (Mod.of_up u91) (fun y hy => .inl hy) ?_
   have h95 := md_ob M94 nin0 hb4
   have hN4_b4 := NotU8.of h95 (by decide)
   refine h1 (i := 9) (fuel := 0) (by kernel_rfl) rfl (ss rfl (k := 0) (v := .slice (some ⟨g83, 0, none⟩) 1 c84) (vs := [.slice (some ⟨g83, 0, none⟩) 1 c84]) (cs' := [.slice (some ⟨g83, 0, none⟩) 1 c84]) (by kernel_rfl) (by kernel_rfl) rfl Ty.sz112 h95 rfl (Nat.le_of_ble_eq_true rfl) rfl ?_)
   intro w97 h98 c99
   have M100 := md_old M94 c99
   obtain ⟨cg96, hcg96⟩ := h88
   have hog96 := chg_ob c99 (Ne.symm l92) hcg96
   have hcl96 : w97.cell? ⟨g83, 2, none⟩ = some (.slice A62 n63 c64) := by simp only [World.cell?, hcg96] at h89; simp only [World.cell?, hog96]; exact h89
   refine hx (Y := [b4]) (Mod.of_chg c99 (by simp)) (fun y hy => .inl hy) ?_
   refine hend (by kernel_rfl) ?_
   refine bodyPost_end (v := .tuple #[]) (res0 rfl ) (by kernel_rfl) ?_
   have h102 := (Dat.chg (Dat.up h65 (up_up u72 u91)) c99 ⟨hB4, hN4_b4⟩)
   have zr : rightB o = true := v39
   have zk : o.kind = 4 := p44
   have zn : o.node = m := p49
   have zb : (gotI L m).by_ = o.at_ := p54
   have v101 : hitV o L m = true := by simp [hitV, zr, zk, zn, zb]
   exact ⟨rfl, .inr ⟨v101, ⟨g83, c84, _, _, _, h98, l92, (lt_ob hog96), ⟨_, hog96⟩, hcl96, h102, h90⟩, (Mod.chg M100)⟩⟩
  ·
   have h59 := (Dat.up hd (Mod.up M57))
   refine sc rfl (r_callv (caps := []) (all := [.slice oA on oc]) En.f122 (by kernel_rfl) (by kernel_rfl)) (clone_sl h59) ?_
   rintro e w60 ⟨A61, n62, c63, rfl, h64, u65⟩
   refine ⟨.slice A61 n62 c63, rfl, ?_⟩
   have M66 := Mod.trans M57 (Mod.of_up u65)
   refine hx (Y := [b4]) (Mod.of_up u65) (fun y hy => .inl hy) ?_
   refine hvq (i := 6) (fuel := 4) rfl (fun _ _ _ h => h) (Mod.refl _ _) rfl (v := .agg #[.int .i64 o.at_.t, .int .i64 o.at_.w, .slice A61 n62 c63]) (fun _ _ => r_build (ps := [(0, .agg #[.int .i64 o.at_.t, .int .i64 o.at_.w]), (1, .slice A61 n62 c63)]) (cs := [.int .i64 o.at_.t, .int .i64 o.at_.w, .slice A61 n62 c63]) Ty.un116 Ty.zv116 Ty.pl116 (by kernel_rfl) (by kernel_rfl)) ?_
   refine h2 (i := 0) (j := 7) (fuel := 3) (by kernel_rfl) rfl rfl ?_ ?_
   ·
    have h67 := md_ob M66 nin0 hb4
    refine sv rfl (v := .slice none 0 0) (r_load (k := 0) (by kernel_rfl) Ty.ag112 h67 (by kernel_rfl)) ?_
    refine hx (Y := [b4]) (Mod.refl _ _) (fun y hy => .inl hy) ?_
    refine h1 (i := 7) (fuel := 2) (by kernel_rfl) rfl (sn rfl (cs := #[.int .i64 o.at_.t, .int .i64 o.at_.w, .slice A61 n62 c63]) (T := 116) (V := fun b => .slice (some ⟨b, 0, none⟩) 1 1) (r_buildSlice (n := 1) (ps := [(0, .agg #[.int .i64 o.at_.t, .int .i64 o.at_.w, .slice A61 n62 c63])]) Ty.un112 Ty.sz116 Ty.zv116 (by decide) (by decide) (by kernel_rfl) (by kernel_rfl)) ?_)
    intro b68 w69 e70 h71 u72
    have h73 := md_ob M66 nin0 hb3
    have l74 : b3 < b68 := by rw [e70]; exact lt_ob h73
    have l75 : b4 < b68 := by rw [e70]; exact lt_ob h67
    have h76 := (up_ob u65 h58)
    have l77 : pb < b68 := by rw [e70]; exact lt_ob h76
    have h78 := (up_ob u65 (up_ob u56 h50))
    have l79 : b18 < b68 := by rw [e70]; exact lt_ob h78
    have g80 : w.heap.size ≤ b68 := by rw [e70]; exact M66.size
    have M81 := Mod.trans M66 (Mod.of_up u72)
    refine hx (Y := [b4]) (Mod.of_up u72) (fun y hy => .inl hy) ?_
    refine h1 (i := 8) (fuel := 1) (by kernel_rfl) rfl (snV rfl (b := b68) (x := o.at_.t) (y := o.at_.w) (dA := A61) (dn := n62) (dc := c63) (by kernel_rfl) (by kernel_rfl) Ty.un112 h71 ?_)
    intro g82 c83 w84 h85 h86 h87 h88 h89 u90
    have h92 := md_ob M81 nin0 hb4
    have l91 : b4 ≠ g82 := Nat.ne_of_lt (Nat.lt_of_lt_of_le (lt_ob h92) h85)
    have M93 := Mod.trans M81 (Mod.of_up u90)
    refine hx (Y := [b4]) (Mod.of_up u90) (fun y hy => .inl hy) ?_
    have h94 := md_ob M93 nin0 hb4
    have hN4_b4 := NotU8.of h94 (by decide)
    refine h1 (i := 9) (fuel := 0) (by kernel_rfl) rfl (ss rfl (k := 0) (v := .slice (some ⟨g82, 0, none⟩) 1 c83) (vs := [.slice (some ⟨g82, 0, none⟩) 1 c83]) (cs' := [.slice (some ⟨g82, 0, none⟩) 1 c83]) (by kernel_rfl) (by kernel_rfl) rfl Ty.sz112 h94 rfl (Nat.le_of_ble_eq_true rfl) rfl ?_)
    intro w96 h97 c98
    have M99 := md_old M93 c98
    obtain ⟨cg95, hcg95⟩ := h87
    have hog95 := chg_ob c98 (Ne.symm l91) hcg95
    have hcl95 : w96.cell? ⟨g82, 2, none⟩ = some (.slice A61 n62 c63) := by simp only [World.cell?, hcg95] at h88; simp only [World.cell?, hog95]; exact h88
    refine hx (Y := [b4]) (Mod.of_chg c98 (by simp)) (fun y hy => .inl hy) ?_
    refine hend (by kernel_rfl) ?_
    refine bodyPost_end (v := .tuple #[]) (res0 rfl ) (by kernel_rfl) ?_
    have h101 := (Dat.chg (Dat.up h64 (up_up u72 u90)) c98 ⟨hB4, hN4_b4⟩)
    have zr : rightB o = true := v39
    have zk : o.kind = 4 := p44
    have zn : o.node = m := p49
    have zb : (gotI L m).by_ = o.at_ := p54
    have v100 : hitV o L m = true := by simp [hitV, zr, zk, zn, zb]
    exact ⟨rfl, .inr ⟨v100, ⟨g82, c83, _, _, _, h97, l91, (lt_ob hog95), ⟨_, hog95⟩, hcl95, h101, h89⟩, (Mod.chg M99)⟩⟩
   ·
    refine sn rfl (cs := #[.int .i64 o.at_.t, .int .i64 o.at_.w, .slice A61 n62 c63]) (T := 116) (V := fun b => .slice (some ⟨b, 0, none⟩) 1 1) (r_buildSlice (n := 1) (ps := [(0, .agg #[.int .i64 o.at_.t, .int .i64 o.at_.w, .slice A61 n62 c63])]) Ty.un112 Ty.sz116 Ty.zv116 (by decide) (by decide) (by kernel_rfl) (by kernel_rfl)) ?_
    intro b67 w68 e69 h70 u71
    have h72 := md_ob M66 nin0 hb3
    have l73 : b3 < b67 := by rw [e69]; exact lt_ob h72
    have h74 := md_ob M66 nin0 hb4
    have l75 : b4 < b67 := by rw [e69]; exact lt_ob h74
    have h76 := (up_ob u65 h58)
    have l77 : pb < b67 := by rw [e69]; exact lt_ob h76
    have h78 := (up_ob u65 (up_ob u56 h50))
    have l79 : b18 < b67 := by rw [e69]; exact lt_ob h78
    have g80 : w.heap.size ≤ b67 := by rw [e69]; exact M66.size
    have M81 := Mod.trans M66 (Mod.of_up u71)
    refine hx (Y := [b4]) (Mod.of_up u71) (fun y hy => .inl hy) ?_
    have h82 := md_ob M81 nin0 hb4
    refine h1 (i := 0) (fuel := 2) (by kernel_rfl) rfl (sv rfl (v := .slice none 0 0) (r_load (k := 0) (by kernel_rfl) Ty.ag112 h82 (by kernel_rfl)) ?_)
    refine hx (Y := [b4]) (Mod.refl _ _) (fun y hy => .inl hy) ?_
    refine h1 (i := 8) (fuel := 1) (by kernel_rfl) rfl (snV rfl (b := b67) (x := o.at_.t) (y := o.at_.w) (dA := A61) (dn := n62) (dc := c63) (by kernel_rfl) (by kernel_rfl) Ty.un112 h70 ?_)
    intro g83 c84 w85 h86 h87 h88 h89 h90 u91
    have l92 : b4 ≠ g83 := Nat.ne_of_lt (Nat.lt_of_lt_of_le (lt_ob h82) h86)
    have M93 := Mod.trans M81 (Mod.of_up u91)
    refine hx (Y := [b4]) (Mod.of_up u91) (fun y hy => .inl hy) ?_
    have h94 := md_ob M93 nin0 hb4
    have hN4_b4 := NotU8.of h94 (by decide)
    refine h1 (i := 9) (fuel := 0) (by kernel_rfl) rfl (ss rfl (k := 0) (v := .slice (some ⟨g83, 0, none⟩) 1 c84) (vs := [.slice (some ⟨g83, 0, none⟩) 1 c84]) (cs' := [.slice (some ⟨g83, 0, none⟩) 1 c84]) (by kernel_rfl) (by kernel_rfl) rfl Ty.sz112 h94 rfl (Nat.le_of_ble_eq_true rfl) rfl ?_)
    intro w96 h97 c98
    have M99 := md_old M93 c98
    obtain ⟨cg95, hcg95⟩ := h88
    have hog95 := chg_ob c98 (Ne.symm l92) hcg95
    have hcl95 : w96.cell? ⟨g83, 2, none⟩ = some (.slice A61 n62 c63) := by simp only [World.cell?, hcg95] at h89; simp only [World.cell?, hog95]; exact h89
    refine hx (Y := [b4]) (Mod.of_chg c98 (by simp)) (fun y hy => .inl hy) ?_
    refine hend (by kernel_rfl) ?_
    refine bodyPost_end (v := .tuple #[]) (res0 rfl ) (by kernel_rfl) ?_
    have h101 := (Dat.chg (Dat.up h64 (up_up u71 u91)) c98 ⟨hB4, hN4_b4⟩)
    have zr : rightB o = true := v39
    have zk : o.kind = 4 := p44
    have zn : o.node = m := p49
    have zb : (gotI L m).by_ = o.at_ := p54
    have v100 : hitV o L m = true := by simp [hitV, zr, zk, zn, zb]
    exact ⟨rfl, .inr ⟨v100, ⟨g83, c84, _, _, _, h97, l92, (lt_ob hog95), ⟨_, hog95⟩, hcl95, h101, h90⟩, (Mod.chg M99)⟩⟩
set_option maxHeartbeats 2000000 in
theorem vers0_at {B : Nat} {w : World} {tb r b3 b4 : Nat} {L : List Item} {m : Stamp} (h : TreeIs B w tb r L) (o : OpD) (oA : Option Addr) (on oc : Nat) (hon : o.data.length = on) (hname : o.name.size ≤ 9223372036854775807)
    (hb3 : w.heap[b3]? = some (.cells #[.int .i64 m.t, .int .i64 m.w] 24 (0, 0))) (hz : hitV o L m = false) :
    Calls Tryz.prog 128 #[opV o (.slice oA on oc), trP tb, .pointer (some ⟨b3, 0, none⟩), .pointer (some ⟨b4, 0, none⟩)] w fun e w' => e = .returned (.tuple #[]) ∧ Up w w' := by
  go_enter Tryz.func128, Tryz.ntmps128
  refine wp_seq (rg_lit ?_)
  refine wl (sn rfl (cs := (opC o (.slice oA on oc)).toArray) (T := 49) (V := fun b => .pointer (some ⟨b, 0, none⟩)) (r_box (v := opV o (.slice oA on oc)) (by kernel_rfl) rfl) ?_)
  intro pb w1 e2 h3 u4
  have l5 : b3 < pb := by rw [e2]; exact lt_ob hb3
  have g6 : w.heap.size ≤ pb := by rw [e2]; exact (Mod.refl [] w).size
  have M7 := Mod.trans (Mod.refl [] w) (Mod.of_up u4)
  refine wnil (then_n (wp_seq (rg_lit ?_)))
  refine wmv (v := .pointer (some ⟨tb, 0, none⟩)) ?_
  have h8 := md_ob M7 nin0 hb3
  refine wl (sv rfl (v := .agg #[.int .i64 m.t, .int .i64 m.w]) (r_loads (k := 0) (by kernel_rfl) Ty.ag24 Ty.sz24 h8 (by kernel_rfl)) ?_)
  have h9 := (TreeIs.up h (Mod.up M7))
  refine wl (sc rfl (r_callv (caps := []) (all := [.pointer (some ⟨tb, 0, none⟩), .agg #[.int .i64 m.t, .int .i64 m.w]]) En.f20 (by kernel_rfl) (by kernel_rfl)) (get_x h9 ⟨m.t, m.w⟩ (x := (gotI L ⟨m.t, m.w⟩)) (b := (hasI L ⟨m.t, m.w⟩)) rfl rfl) ?_)
  rintro e w10 ⟨A11, n12, c13, rfl, h14, u15⟩
  refine ⟨.tuple #[itV (gotI L ⟨m.t, m.w⟩) (.slice A11 n12 c13), .bool (hasI L ⟨m.t, m.w⟩)], rfl, ?_⟩
  have M16 := Mod.trans M7 (Mod.of_up u15)
  refine wmv (v := .tuple #[itV (gotI L ⟨m.t, m.w⟩) (.slice A11 n12 c13), .bool (hasI L ⟨m.t, m.w⟩)]) ?_
  refine wl (sv rfl (v := itV (gotI L ⟨m.t, m.w⟩) (.slice A11 n12 c13)) (r_extract (vs := [itV (gotI L ⟨m.t, m.w⟩) (.slice A11 n12 c13), .bool (hasI L ⟨m.t, m.w⟩)]) (by kernel_rfl) rfl) ?_)
  refine wl (sv rfl (v := .bool (hasI L ⟨m.t, m.w⟩)) (r_extract (vs := [itV (gotI L ⟨m.t, m.w⟩) (.slice A11 n12 c13), .bool (hasI L ⟨m.t, m.w⟩)]) (by kernel_rfl) rfl) ?_)
  refine wl (sn rfl (cs := #[.int .i64 0, .int .i64 0, .int .i64 0, .int .i64 0, .string (⟨#[]⟩), .bool false, .bool false, .slice none 0 0, .int .i64 0, .int .i64 0]) (T := 42) (V := fun b => .pointer (some ⟨b, 0, none⟩)) (r_alloc Ty.zv42 rfl) ?_)
  intro b17 w18 e19 h20 u21
  have h22 := md_ob M16 nin0 hb3
  have l23 : b3 < b17 := by rw [e19]; exact lt_ob h22
  have h24 := (up_ob u15 h3)
  have l25 : pb < b17 := by rw [e19]; exact lt_ob h24
  have g26 : w.heap.size ≤ b17 := by rw [e19]; exact M16.size
  have M27 := Mod.trans M16 (Mod.of_up u21)
  refine wl (ss rfl (k := 0) (v := itV (gotI L ⟨m.t, m.w⟩) (.slice A11 n12 c13)) (vs := (itC (gotI L ⟨m.t, m.w⟩) (.slice A11 n12 c13))) (cs' := (itC (gotI L ⟨m.t, m.w⟩) (.slice A11 n12 c13))) (by kernel_rfl) (by kernel_rfl) rfl Ty.sz42 h20 rfl (Nat.le_of_ble_eq_true rfl) rfl ?_)
  intro w28 h29 c30
  have M31 := Mod.trans' M27 c30 (fun i hi => by injection hi with hi; rw [← hi]; exact g26)
  refine was (v := .bool (hasI L ⟨m.t, m.w⟩)) ?_
  refine wnil (then_n (wp_seq (rg_lit ?_)))
  have h32 := (chg_ob c30 (Nat.ne_of_lt l25) (up_ob u21 h24))
  refine wl (sv rfl (v := opV o (.slice oA on oc)) (r_loads (k := 0) (by kernel_rfl) Ty.ag49 Ty.sz49 h32 (by kernel_rfl)) ?_)
  refine wl (sc rfl (r_callv (caps := []) (all := [opV o (.slice oA on oc)]) En.f66 (by kernel_rfl) (by kernel_rfl)) (opright_any o oA on oc hon hname _) ?_)
  rintro e w33 ⟨rfl, u34⟩
  refine ⟨.bool (rightB o), rfl, ?_⟩
  have M35 := Mod.trans M31 (Mod.of_up u34)
  refine wmv (v := .bool (rightB o)) ?_
  refine bcase (rightB o) (fun v36 => ?_) (fun v36 => ?_)
  ·
   refine wl (sp (wf (b := (rightB o)) rfl (by kernel_rfl) v36) ?_)
   refine wl (sp (wf (b := (rightB o)) rfl (by kernel_rfl) v36) ?_)
   refine wl (sp (wf (b := (rightB o)) rfl (by kernel_rfl) v36) ?_)
   refine wl (sv rfl (v := .bool false) (r_pkF (ebool (b := (rightB o)) (by kernel_rfl) v36) (by kernel_rfl)) ?_)
   refine wmv (v := .bool false) ?_
   refine wsp ?_
   refine wsp ?_
   refine wsp ?_
   refine wsp ?_
   refine wl (sv rfl (v := .bool false) (r_pkF (by kernel_rfl) (by kernel_rfl)) ?_)
   refine wmv (v := .bool false) ?_
   refine wsp ?_
   refine wsp ?_
   refine wsp ?_
   refine wsp ?_
   refine wsp ?_
   refine wl (sv rfl (v := .bool false) (r_pkF (by kernel_rfl) (by kernel_rfl)) ?_)
   refine wnil (then_n ?_)
   refine wp_cond_false (by kernel_rfl) ?_
   refine wp_skip ?_
   refine bodyPost_end (v := .tuple #[]) (res0 rfl ) (by kernel_rfl) ?_
   exact ⟨rfl, (Mod.up M35)⟩
  refine wl (sv (wt (b := (rightB o)) rfl (by kernel_rfl) v36) (v := .pointer (some ⟨pb, 0, none⟩)) (r_fieldAddr (u := .pointer (some ⟨pb, 0, none⟩)) (by kernel_rfl) (fun _ => (by kernel_rfl))) ?_)
  have h37 := (up_ob u34 h32)
  refine wl (sv (wt (b := (rightB o)) rfl (by kernel_rfl) v36) (v := .int .i64 o.kind) (r_load (k := 0) (by kernel_rfl) Ty.ag3 h37 (by kernel_rfl)) ?_)
  refine wl (sb (wt (b := (rightB o)) rfl (by kernel_rfl) v36) (r_eq (k := .i64) (m := o.kind) (n := 4) (by kernel_rfl) (by kernel_rfl)) ?_)
  intro b38 k39
  refine wl (sv rfl (v := .bool b38) (r_pkT (ebool (b := (rightB o)) (by kernel_rfl) v36) (by kernel_rfl)) ?_)
  refine wmv (v := .bool b38) ?_
  refine bcase b38 (fun v40 => ?_) (fun v40 => ?_)
  ·
   have p41 := of_decide_eq_false (k39.trans v40)
   refine wl (sp (wf (b := b38) rfl (by kernel_rfl) v40) ?_)
   refine wl (sp (wf (b := b38) rfl (by kernel_rfl) v40) ?_)
   refine wl (sp (wf (b := b38) rfl (by kernel_rfl) v40) ?_)
   refine wl (sp (wf (b := b38) rfl (by kernel_rfl) v40) ?_)
   refine wl (sv rfl (v := .bool false) (r_pkF (ebool (b := b38) (by kernel_rfl) v40) (by kernel_rfl)) ?_)
   refine wmv (v := .bool false) ?_
   refine wsp ?_
   refine wsp ?_
   refine wsp ?_
   refine wsp ?_
   refine wsp ?_
   refine wl (sv rfl (v := .bool false) (r_pkF (by kernel_rfl) (by kernel_rfl)) ?_)
   refine wnil (then_n ?_)
   refine wp_cond_false (by kernel_rfl) ?_
   refine wp_skip ?_
   refine bodyPost_end (v := .tuple #[]) (res0 rfl ) (by kernel_rfl) ?_
   exact ⟨rfl, (Mod.up M35)⟩
  have p41 := of_decide_eq_true (k39.trans v40)
  refine wl (sv (wt (b := b38) rfl (by kernel_rfl) v40) (v := .pointer (some ⟨pb, 3, none⟩)) (r_fieldAddr (u := .pointer (some ⟨pb, 0, none⟩)) (by kernel_rfl) (fun _ => (by kernel_rfl))) ?_)
  refine wl (sv (wt (b := b38) rfl (by kernel_rfl) v40) (v := .agg #[.int .i64 o.node.t, .int .i64 o.node.w]) (r_loads (k := 3) (by kernel_rfl) Ty.ag24 Ty.sz24 h37 (by kernel_rfl)) ?_)
  have h42 := md_ob M35 nin0 hb3
  refine wl (sv (wt (b := b38) rfl (by kernel_rfl) v40) (v := .agg #[.int .i64 m.t, .int .i64 m.w]) (r_loads (k := 0) (by kernel_rfl) Ty.ag24 Ty.sz24 h42 (by kernel_rfl)) ?_)
  refine wl (sb (wt (b := b38) rfl (by kernel_rfl) v40) (r_eqS (a := o.node.t) (b := o.node.w) (c := m.t) (e := m.w) (by kernel_rfl) (by kernel_rfl)) ?_)
  intro b43 k44
  refine wl (sv rfl (v := .bool b43) (r_pkT (ebool (b := b38) (by kernel_rfl) v40) (by kernel_rfl)) ?_)
  refine wmv (v := .bool b43) ?_
  refine bcase b43 (fun v45 => ?_) (fun v45 => ?_)
  ·
   have p46 := of_decide_eq_false (k44.trans v45)
   refine wl (sp (wf (b := b43) rfl (by kernel_rfl) v45) ?_)
   refine wl (sp (wf (b := b43) rfl (by kernel_rfl) v45) ?_)
   refine wl (sp (wf (b := b43) rfl (by kernel_rfl) v45) ?_)
   refine wl (sp (wf (b := b43) rfl (by kernel_rfl) v45) ?_)
   refine wl (sp (wf (b := b43) rfl (by kernel_rfl) v45) ?_)
   refine wl (sv rfl (v := .bool false) (r_pkF (ebool (b := b43) (by kernel_rfl) v45) (by kernel_rfl)) ?_)
   refine wnil (then_n ?_)
   refine wp_cond_false (by kernel_rfl) ?_
   refine wp_skip ?_
   refine bodyPost_end (v := .tuple #[]) (res0 rfl ) (by kernel_rfl) ?_
   exact ⟨rfl, (Mod.up M35)⟩
  have p46 := of_decide_eq_true (k44.trans v45)
  refine wl (sv (wt (b := b43) rfl (by kernel_rfl) v45) (v := .pointer (some ⟨b17, 8, none⟩)) (r_fieldAddr (u := .pointer (some ⟨b17, 0, none⟩)) (by kernel_rfl) (fun _ => (by kernel_rfl))) ?_)
  have h47 := (up_ob u34 h29)
  refine wl (sv (wt (b := b43) rfl (by kernel_rfl) v45) (v := .agg #[.int .i64 ((gotI L ⟨m.t, m.w⟩).by_.t), .int .i64 ((gotI L ⟨m.t, m.w⟩).by_.w)]) (r_loads (k := 8) (by kernel_rfl) Ty.ag24 Ty.sz24 h47 (by kernel_rfl)) ?_)
  refine wl (sv (wt (b := b43) rfl (by kernel_rfl) v45) (v := .pointer (some ⟨pb, 1, none⟩)) (r_fieldAddr (u := .pointer (some ⟨pb, 0, none⟩)) (by kernel_rfl) (fun _ => (by kernel_rfl))) ?_)
  refine wl (sv (wt (b := b43) rfl (by kernel_rfl) v45) (v := .agg #[.int .i64 o.at_.t, .int .i64 o.at_.w]) (r_loads (k := 1) (by kernel_rfl) Ty.ag24 Ty.sz24 h37 (by kernel_rfl)) ?_)
  refine wl (sb (wt (b := b43) rfl (by kernel_rfl) v45) (r_eqS (a := ((gotI L ⟨m.t, m.w⟩).by_.t)) (b := ((gotI L ⟨m.t, m.w⟩).by_.w)) (c := o.at_.t) (e := o.at_.w) (by kernel_rfl) (by kernel_rfl)) ?_)
  intro b48 k49
  refine wl (sv rfl (v := .bool b48) (r_pkT (ebool (b := b43) (by kernel_rfl) v45) (by kernel_rfl)) ?_)
  refine wnil (then_n ?_)
  refine bcase b48 (fun v50 => ?_) (fun v50 => ?_)
  ·
   have p51 := of_decide_eq_false (k49.trans v50)
   refine wp_cond_false (ebool (b := b48) (by kernel_rfl) v50) ?_
   refine wp_skip ?_
   refine bodyPost_end (v := .tuple #[]) (res0 rfl ) (by kernel_rfl) ?_
   exact ⟨rfl, (Mod.up M35)⟩
  have p51 := of_decide_eq_true (k49.trans v50)
  exfalso
  have zr : rightB o = true := v36
  have zk : o.kind = 4 := p41
  have zn : o.node = m := p46
  have zb : (gotI L m).by_ = o.at_ := p51
  simp [hitV, zr, zk, zn, zb] at hz
end Go.Proofs.YtefhfoioeoijlaaGreatDoor
set_option linter.unusedVariables false
set_option linter.unusedSimpArgs false
namespace Go.Proofs.YtefhfoioeoijlaaGreatDoor
open Go Go.RowKit Go.Sort
theorem hit_1 : hitV vo1 ((vos.take 1).foldl playI []) ⟨1, 1⟩ = false := by kernel_rfl
theorem hit_2 : hitV vo2 ((vos.take 2).foldl playI []) ⟨1, 1⟩ = true := by kernel_rfl
theorem hit_3 : hitV vo3 ((vos.take 3).foldl playI []) ⟨1, 1⟩ = false := by kernel_rfl
theorem versK_at {B : Nat} {w : World} {tb r b3 b4 k : Nat} {o : OpD} (hk : vos[k]? = some o) (h : TreeIs B w tb r ((vos.take (k + 1)).foldl playI [])) (oA : Option Addr) (on oc : Nat) (hd : Dat B w (.slice oA on oc) o.data)
    (hb3 : w.heap[b3]? = some (.cells #[.int .i64 1, .int .i64 1] 24 (0, 0))) (hst : VSt B w b4 (decide (1 < k))) (h34 : b3 ≠ b4) (hB4 : B ≤ b4) :
    Calls Tryz.prog 128 #[opV o (.slice oA on oc), trP tb, .pointer (some ⟨b3, 0, none⟩), .pointer (some ⟨b4, 0, none⟩)] w fun e w' => e = .returned (.tuple #[]) ∧ VSt B w' b4 (decide (1 < k + 1)) ∧ Chg w w' b4 := by
  have hn := vos_names o (List.mem_of_getElem? hk)
  match k, hk with
  | 0, hk =>
    simp [vos] at hk; subst hk
    refine (vers0_at (m := ⟨1, 1⟩) h vo1 oA on oc (Dat.len hd).1 hn hb3 hit_1).mono fun e w' ⟨h1, u⟩ => ⟨h1, VSt.up hst u, to_chg u b4⟩
  | 1, hk =>
    simp [vos] at hk; subst hk
    refine (vers1_at (m := ⟨1, 1⟩) h vo2 oA on oc hd (Dat.len hd).1 hn hb3 hst h34 hB4).mono fun e w' ⟨h1, h2⟩ => ?_
    rcases h2 with ⟨h2, _⟩ | ⟨_, h3, c⟩
    · rw [show ((vos.take (1 + 1)).foldl playI []) = ((vos.take 2).foldl playI []) from rfl, hit_2] at h2; cases h2
    · exact ⟨h1, h3, c⟩
  | 2, hk =>
    simp [vos] at hk; subst hk
    refine (vers0_at (m := ⟨1, 1⟩) h vo3 oA on oc (Dat.len hd).1 hn hb3 hit_3).mono fun e w' ⟨h1, u⟩ => ⟨h1, VSt.up hst u, to_chg u b4⟩
  | k + 3, hk => simp [vos] at hk
theorem vsort_at {B : Nat} {w : World} {lA : Option Addr} {lc : Nat} (h : OpRow B w lA vos) (hB : B ≤ w.heap.size) :
    Calls Tryz.prog 56 #[.slice lA 3 lc] w fun e w' => ∃ A c, e = .returned (.slice A 3 c) ∧ ORow 49 B w.heap.size w' (.slice A 3 c) vos ∧ Up w w' := by
  have h1 := orow_sl (opsort_at (os := vos) (lc := lc) h hB (by decide))
  rw [vos_sort] at h1
  exact h1
theorem TreeIs.mapr {B : Nat} {w : World} {tb r : Nat} {L : List Item} (h : TreeIs B w tb r L) : ∀ cs T fr, w.heap[r]? ≠ some (.cells cs T fr) := by
  obtain ⟨es, cl, xs, hr, _⟩ := h.2.2.2.1
  intro cs T fr e
  rw [hr] at e; cases e
theorem tree_next {B : Nat} {w : World} {tb r k : Nat} {o : OpD} (hk : vos[k]? = some o) (h : TreeIs B w tb r (playI ((vos.take k).foldl playI []) o)) : TreeIs B w tb r ((vos.take (k + 1)).foldl playI []) := by
  rw [tkO hk, List.foldl_append]; exact h
theorem TreeIs.chgV {B : Nat} {w w' : World} {tb r b : Nat} {L : List Item} (h : TreeIs B w tb r L) (c : Chg w w' b) (hc : B ≤ b ∧ NotU8 w b) (h1 : tb ≠ b) (h2 : r ≠ b) : TreeIs B w' tb r L := by
  obtain ⟨k1, k2, k3, k4, k5⟩ := h
  exact ⟨chg_ob c h1 k1, k2, k3, k4.grown c hc.1 h2 hc.2, k5⟩
end Go.Proofs.YtefhfoioeoijlaaGreatDoor
set_option linter.unusedVariables false
set_option linter.unusedSimpArgs false
namespace Go.Proofs.YtefhfoioeoijlaaGreatDoor
open Go Go.RowKit Go.Sort
set_option maxHeartbeats 2000000 in
theorem each_at {B : Nat} {w : World} {lA : Option Addr} {lc b3 b4 : Nat} (h : OpRow B w lA vos) (hB : B ≤ w.heap.size) (hb3 : w.heap[b3]? = some (.cells #[.int .i64 1, .int .i64 1] 24 (0, 0))) (hst : VSt B w b4 false) (h34 : b3 ≠ b4) (hB4 : B ≤ b4) :
    Calls Tryz.prog 127 #[.slice lA 3 lc, .func (.func 128) #[] #[.pointer (some ⟨b3, 0, none⟩), .pointer (some ⟨b4, 0, none⟩)]] w fun e w' => ∃ v, e = .returned v ∧ VSt B w' b4 true ∧ Chg w w' b4 := by
  go_enter Tryz.func127, Tryz.ntmps127
  refine wp_seq (rg_lit ?_)
  refine was (v := .pointer none) ?_
  refine wnil (then_n (wp_seq (rg_lit ?_)))
  refine wl (sc rfl (r_callv (caps := []) (all := []) En.f30 (by kernel_rfl) (by kernel_rfl)) (tnew_any (Nat.le_trans hB (Mod.refl [] w).size)) ?_)
  rintro e w1 ⟨tb, r, rfl, h2, u3, z4, z5⟩
  refine ⟨.pointer (some ⟨tb, 0, none⟩), rfl, ?_⟩
  have hgr : w.heap.size ≤ r := Nat.le_trans (Mod.refl [] w).size z5
  have hgt : w.heap.size ≤ tb := Nat.le_trans (Mod.refl [] w).size z4
  have hl4r : b4 < r := Nat.lt_of_lt_of_le hst.lt.1 hgr
  have hl4t : b4 < tb := Nat.lt_of_lt_of_le hst.lt.1 hgt
  have M6 := Mod.trans (Mod.refl [] w) (Mod.of_up u3)
  refine was (v := .pointer (some ⟨tb, 0, none⟩)) ?_
  refine wnil (then_n (wp_seq (wp_seq (rg_lit ?_))))
  refine wmv (v := .slice lA 3 lc) ?_
  have h7 := (OpRow.up h (Mod.up M6))
  have hlr : r < w1.heap.size := by obtain ⟨_, _, _, hx, _⟩ := h2.2.2.2.1; exact lt_ob hx
  have hl4 : b4 < w1.heap.size := Nat.lt_of_lt_of_le hst.lt.1 M6.size
  refine wl (sc rfl (r_callv (caps := []) (all := [.slice lA 3 lc]) En.f56 (by kernel_rfl) (by kernel_rfl)) (vsort_at h7 (Nat.le_trans hB M6.size)) ?_)
  rintro e w8 ⟨sA, sCp, rfl, h11, u12⟩
  refine ⟨.slice sA 3 sCp, rfl, ?_⟩
  have M14 := Mod.trans M6 (Mod.of_up u12)
  refine wl (sv rfl (v := .int .i64 3) (r_len Ty.un22 (ad := sA) (n := 3) (c := sCp) (by kernel_rfl)) ?_)
  refine wmv (v := .int .i64 0) ?_
  refine wnil (then_n (wp_block ?_))
  have h15 := md_ob M14 nin0 hb3
  have h16 := (TreeIs.up h2 u12)
  have h17 := (VSt.up hst (up_up u3 u12))
  refine lp (fun n a r1 => ∃ (kk : Nat) (z7 z13 z14 z15 z16 z17 z18 z19 z20 z21 z22 z23 : Value), (n = 3 - kk) ∧ (a = ⟨#[.slice lA 3 lc, .func (.func 128) #[] #[.pointer (some ⟨b3, 0, none⟩), .pointer (some ⟨b4, 0, none⟩)], undef, undef, .pointer none, .pointer (some ⟨tb, 0, none⟩), undef, z7, .pointer (some ⟨tb, 0, none⟩), .slice lA 3 lc, .slice sA 3 sCp, .int .i64 3, .int .i64 (kk : Int), z13, z14, z15, z16, z17, z18, z19, z20, z21, z22, z23, undef], []⟩) ∧ (Mod [b4] w r1) ∧ (kk ≤ 3) ∧ (TreeIs B r1 tb r ((vos.take kk).foldl playI [])) ∧ (ORow 49 B w1.heap.size r1 (.slice sA 3 sCp) vos) ∧ (VSt B r1 b4 (decide (1 < kk))) ∧ (r1.heap[b3]? = some (.cells #[.int .i64 1, .int .i64 1] 24 (0, 0)))) ⟨_, 0, undef, undef, undef, undef, undef, undef, undef, undef, undef, undef, undef, undef, rfl, (by kernel_rfl), (Mod.of_up (X := [b4]) (Mod.up M14)), (Nat.zero_le _), h16, h11, h17, h15⟩ ?_
  rintro _ _ r1 ⟨kk, z7, z13, z14, z15, z16, z17, z18, z19, z20, z21, z22, z23, rfl, rfl, hU1, hF1_0, hF1_1, hF1_2, hF1_3, hF1_4⟩
  obtain ⟨eshr18, clhr18, xshr18, hr18, _⟩ := hF1_1.2.2.2.1
  refine wp_seq (rg_lit ?_)
  refine wl (sb rfl (r_lt (k := .i64) (m := (kk : Int)) (n := 3) (by kernel_rfl) (by kernel_rfl)) ?_)
  intro b19 k20
  refine wnil (then_n (wp_seq ?_))
  refine bcase b19 (fun v21 => ?_) (fun v21 => ?_)
  ·
   have p22 := of_decide_eq_false (k20.trans v21)
   refine wp_cond_false (ebool (b := b19) (by kernel_rfl) v21) ?_
   refine wp_exit (then_x (by nofun) (then_x (by nofun) (inb_hit (then_n (wp_seq (rg_lit ?_))))))
   refine wmv (v := .pointer (some ⟨tb, 0, none⟩)) ?_
   refine was (v := .pointer (some ⟨tb, 0, none⟩)) ?_
   refine wnil (then_n (wp_ret ?_))
   refine bodyPost_ret (v := .pointer (some ⟨tb, 0, none⟩)) (res1 rfl (rv_t (by kernel_rfl))) (by kernel_rfl) ?_
   obtain rfl : kk = 3 := by omega
   exact ⟨_, rfl, hF1_3, (Mod.chg hU1)⟩
  have p22 := of_decide_eq_true (k20.trans v21)
  refine wp_cond_true (ebool (b := b19) (by kernel_rfl) v21) ?_
  refine wp_skip (then_n (wp_seq (wp_block (wp_seq (rg_lit ?_)))))
  obtain ⟨o23, ho23⟩ : ∃ x, vos[kk]? = some x := ⟨_, List.getElem?_eq_getElem (show kk < 3 by omega)⟩
  obtain ⟨g23, cp23, cu23, dA23, dn23, dc23, hA23, hg23, hb23, he23, hD23⟩ := ORow.get hF1_2 ho23
  injection hA23 with hA23 _ _
  replace he23 : (cu23.toList.drop (0 + kk * 10)).take 10 = opC o23 (.slice dA23 dn23 dc23) := by rw [Nat.zero_add]; exact he23
  refine wl (sv rfl (v := .pointer (some ⟨g23, 0 + kk * 10, none⟩)) (r_ixaddr' (A := sA) (b := g23) (o := 0) (n := 3) (c := sCp) (sz := 10) (j := (kk : Int)) (by kernel_rfl) hA23 (by kernel_rfl) Ty.un22 Ty.sz49 (by omega) (by omega) (by simp)) ?_)
  refine wl (sv rfl (v := opV o23 (.slice dA23 dn23 dc23)) (r_loads (k := 0 + kk * 10) (by kernel_rfl) Ty.ag49 Ty.sz49 hb23 (el_sub0 he23 rfl)) ?_)
  refine wl (sn rfl (cs := #[.int .i64 0, .int .i64 0, .int .i64 0, .int .i64 0, .int .i64 0, .int .i64 0, .int .i64 0, .bool false, .string (⟨#[]⟩), .slice none 0 0]) (T := 49) (V := fun b => .pointer (some ⟨b, 0, none⟩)) (r_alloc Ty.zv49 rfl) ?_)
  intro b24 w25 e26 h27 u28
  have l29 : r < b24 := by rw [e26]; exact lt_ob hr18
  have l30 : b3 < b24 := by rw [e26]; exact lt_ob hF1_4
  have l31 : g23 < b24 := by rw [e26]; exact lt_ob hb23
  have g32 : w.heap.size ≤ b24 := by rw [e26]; exact hU1.size
  have M33 := Mod.trans hU1 (Mod.of_up u28)
  refine wl (ss rfl (k := 0) (v := opV o23 (.slice dA23 dn23 dc23)) (vs := (opC o23 (.slice dA23 dn23 dc23))) (cs' := (opC o23 (.slice dA23 dn23 dc23))) (by kernel_rfl) (by kernel_rfl) rfl Ty.sz49 h27 rfl (Nat.le_of_ble_eq_true rfl) rfl ?_)
  intro w34 h35 c36
  have M37 := Mod.trans' M33 c36 (fun i hi => by injection hi with hi; rw [← hi]; exact g32)
  refine wnil (then_n (wp_seq (rg_lit ?_)))
  refine wmv (v := .pointer (some ⟨tb, 0, none⟩)) ?_
  refine wl (sv rfl (v := opV o23 (.slice dA23 dn23 dc23)) (r_loads (k := 0) (by kernel_rfl) Ty.ag49 Ty.sz49 h35 (by kernel_rfl)) ?_)
  have h38 := (TreeIs.up hF1_1 (up_chgn u28 c36 (by rw [e26]; exact Nat.le_refl _)))
  have h39 := (Dat.up hD23 (up_chgn u28 c36 (by rw [e26]; exact Nat.le_refl _)))
  have h47 := (chg_ob c36 (Nat.ne_of_lt l29) (up_ob u28 hr18))
  have h48 := (chg_ob c36 (Nat.ne_of_lt l30) (up_ob u28 hF1_4))
  refine wl (sc rfl (r_callv (caps := []) (all := [.pointer (some ⟨tb, 0, none⟩), opV o23 (.slice dA23 dn23 dc23)]) En.f22 (by kernel_rfl) (by kernel_rfl)) (do_x (L' := (playI ((vos.take kk).foldl playI []) o23)) h38 (Nat.le_trans hB M37.size) o23 dA23 dn23 dc23 h39 (vos_names _ (List.mem_of_getElem? ho23)) rfl) ?_)
  rintro e w40 ⟨A41, n42, c43, rfl, h44, h45, u46⟩
  refine ⟨.tuple #[.agg #[.int .i64 ((doI ((vos.take kk).foldl playI []) o23).1.1.node.t), .int .i64 ((doI ((vos.take kk).foldl playI []) o23).1.1.node.w), .int .i64 ((doI ((vos.take kk).foldl playI []) o23).1.1.parent.t), .int .i64 ((doI ((vos.take kk).foldl playI []) o23).1.1.parent.w), .string ((doI ((vos.take kk).foldl playI []) o23).1.1.name), .bool ((doI ((vos.take kk).foldl playI []) o23).1.1.dir), .bool ((doI ((vos.take kk).foldl playI []) o23).1.1.gone), .slice A41 n42 c43, .int .i64 ((doI ((vos.take kk).foldl playI []) o23).1.1.by_.t), .int .i64 ((doI ((vos.take kk).foldl playI []) o23).1.1.by_.w)], .bool ((doI ((vos.take kk).foldl playI []) o23).1.2.1), .int .i64 ((doI ((vos.take kk).foldl playI []) o23).1.2.2)], rfl, ?_⟩
  have M50 := Mod.trans' M37 u46 (fun i hi => by injection hi with hi; rw [← hi]; exact hgr)
  have h51 := tree_next ho23 h45
  obtain ⟨eshr52, clhr52, xshr52, hr52, _⟩ := h51.2.2.2.1
  refine wnil (then_n (rg_lit ?_))
  refine wmv (v := .func (.func 128) #[] #[.pointer (some ⟨b3, 0, none⟩), .pointer (some ⟨b4, 0, none⟩)]) ?_
  have h53 := (chg_ob u46 (Nat.ne_of_gt l29) h35)
  refine wl (sv rfl (v := opV o23 (.slice dA23 dn23 dc23)) (r_loads (k := 0) (by kernel_rfl) Ty.ag49 Ty.sz49 h53 (by kernel_rfl)) ?_)
  refine wmv (v := .pointer (some ⟨tb, 0, none⟩)) ?_
  have h54 := (Dat.chg h39 u46 ⟨h38.2.2.1, NotU8.map h47⟩)
  have h55 := (VSt.chg (VSt.up hF1_3 (up_chgn u28 c36 (by rw [e26]; exact Nat.le_refl _))) u46 ⟨h38.2.2.1, NotU8.map h47⟩ (Nat.ne_of_lt hl4r) h38.mapr)
  have h56 := (chg_ob u46 (Nat.ne_of_lt (Nat.lt_of_lt_of_le (lt_ob hb3) hgr)) h48)
  have n60 := h55.lt.2
  refine wl (sc rfl (r_callv (caps := [.pointer (some ⟨b3, 0, none⟩), .pointer (some ⟨b4, 0, none⟩)]) (all := [opV o23 (.slice dA23 dn23 dc23), .pointer (some ⟨tb, 0, none⟩), .pointer (some ⟨b3, 0, none⟩), .pointer (some ⟨b4, 0, none⟩)]) En.f128 (by kernel_rfl) (by kernel_rfl)) (versK_at ho23 h51 dA23 dn23 dc23 h54 h56 h55 h34 hB4) ?_)
  rintro e w57 ⟨rfl, h58, u59⟩
  refine ⟨.tuple #[], rfl, ?_⟩
  have M61 := Mod.trans M50 (Mod.of_chg u59 (by simp))
  refine wnil (inb_n (then_n (rg_lit ?_)))
  refine wl (sv rfl (v := .int .i64 ((kk + 1 : Nat) : Int)) (r_add (k := .i64) (m := (kk : Int)) (n := 1) (c := ((kk + 1 : Nat) : Int)) (by kernel_rfl) (by kernel_rfl) ((IntWalk.i64_in _ (by omega)).trans (by omega))) ?_)
  refine wmv (v := .int .i64 ((kk + 1 : Nat) : Int)) ?_
  refine wnil (then_n ?_)
  have h62 := (TreeIs.chgV h51 u59 ⟨hB4, n60⟩ (Nat.ne_of_gt hl4t) (Nat.ne_of_gt hl4r))
  have h63 := (ORow.chgn (ORow.chgn (ORow.up hF1_2 (up_chgn u28 c36 (by rw [e26]; exact Nat.le_refl _))) u46 ⟨h38.2.2.1, NotU8.map h47⟩ (ORow.ne_old (ORow.up hF1_2 (up_chgn u28 c36 (by rw [e26]; exact Nat.le_refl _))) hlr)) u59 ⟨hB4, n60⟩ (ORow.ne_old (ORow.chgn (ORow.up hF1_2 (up_chgn u28 c36 (by rw [e26]; exact Nat.le_refl _))) u46 ⟨h38.2.2.1, NotU8.map h47⟩ (ORow.ne_old (ORow.up hF1_2 (up_chgn u28 c36 (by rw [e26]; exact Nat.le_refl _))) hlr)) hl4))
  have h64 := (chg_ob u59 h34 h56)
  refine ⟨3 - (kk + 1), ?_, (kk + 1), .pointer (some ⟨b24, 0, none⟩), .bool b19, .pointer (some ⟨g23, 0 + kk * 10, none⟩), opV o23 (.slice dA23 dn23 dc23), .pointer (some ⟨tb, 0, none⟩), opV o23 (.slice dA23 dn23 dc23), .tuple #[.agg #[.int .i64 ((doI ((vos.take kk).foldl playI []) o23).1.1.node.t), .int .i64 ((doI ((vos.take kk).foldl playI []) o23).1.1.node.w), .int .i64 ((doI ((vos.take kk).foldl playI []) o23).1.1.parent.t), .int .i64 ((doI ((vos.take kk).foldl playI []) o23).1.1.parent.w), .string ((doI ((vos.take kk).foldl playI []) o23).1.1.name), .bool ((doI ((vos.take kk).foldl playI []) o23).1.1.dir), .bool ((doI ((vos.take kk).foldl playI []) o23).1.1.gone), .slice A41 n42 c43, .int .i64 ((doI ((vos.take kk).foldl playI []) o23).1.1.by_.t), .int .i64 ((doI ((vos.take kk).foldl playI []) o23).1.1.by_.w)], .bool ((doI ((vos.take kk).foldl playI []) o23).1.2.1), .int .i64 ((doI ((vos.take kk).foldl playI []) o23).1.2.2)], .func (.func 128) #[] #[.pointer (some ⟨b3, 0, none⟩), .pointer (some ⟨b4, 0, none⟩)], opV o23 (.slice dA23 dn23 dc23), .pointer (some ⟨tb, 0, none⟩), undef, .int .i64 ((kk + 1 : Nat) : Int), rfl, (by kernel_rfl), M61, (by omega), h62, h63, h58, h64⟩
  · omega
end Go.Proofs.YtefhfoioeoijlaaGreatDoor
set_option linter.unusedVariables false
set_option linter.unusedSimpArgs false
namespace Go.Proofs.YtefhfoioeoijlaaGreatDoor
open Go Go.RowKit Go.Sort
def VGot (B : Nat) (w : World) (g : Nat) : Prop := ∃ dA dn dc, (∃ cs, w.heap[g]? = some (.cells cs 116 (0, 0))) ∧ w.cell? ⟨g, 2, none⟩ = some (.slice dA dn dc) ∧ Dat B w (.slice dA dn dc) [120]
theorem VGot.up {B g : Nat} {w w' : World} (h : VGot B w g) (u : Up w w') : VGot B w' g := by
  obtain ⟨dA, dn, dc, ⟨cs, h1⟩, h2, h3⟩ := h
  exact ⟨dA, dn, dc, ⟨cs, up_ob u h1⟩, (u.cell (p := ⟨g, 2, none⟩) (lt_ob h1)).trans h2, h3.up u⟩
theorem VOne.got {B b4 : Nat} {w : World} (h : VOne B w b4 [120]) : ∃ g c, w.heap[b4]? = some (.cells #[.slice (some ⟨g, 0, none⟩) 1 c] 112 (0, 0)) ∧ VGot B w g ∧ b4 ≠ g ∧ 1 ≤ c := by
  obtain ⟨g, c, dA, dn, dc, h1, h2, h3, h4, h5, h6, h7⟩ := h
  exact ⟨g, c, h1, ⟨dA, dn, dc, h4, h5, h6⟩, h2, h7⟩
theorem VGot.chg {B g b : Nat} {w w' : World} (h : VGot B w g) (c : Chg w w' b) (hd : B ≤ b ∧ NotU8 w b) (hg : b ≠ g) : VGot B w' g := by
  obtain ⟨dA, dn, dc, ⟨cs, h1⟩, h2, h3⟩ := h
  have h4 := chg_ob c (Ne.symm hg) h1
  refine ⟨dA, dn, dc, ⟨cs, h4⟩, ?_, h3.chg c hd⟩
  simp only [World.cell?, h1] at h2
  simp only [World.cell?, h4]; exact h2
theorem Dat.ats {B : Nat} {w : World} {A : Option Addr} {n c : Nat} {xs : List Int} (h : Dat B w (.slice A n c) xs) (h0 : 0 < xs.length) : xs.length = n ∧ ∃ b o, A = some ⟨b, o, none⟩ ∧ ∀ i, i < n → w.cell? ⟨b, o + i, none⟩ = some (.int .u8 (xs.getD i 0)) := by
  obtain ⟨A', n', c', e, h1, h2, h3, h4, h5⟩ := h
  injection e with e1 e2 e3
  subst e1 e2 e3
  obtain ⟨b, o, e, _, _, hc⟩ := h5 (by omega)
  exact ⟨h1, b, o, e, hc⟩
theorem r_convD {ρ : Operand → Value} {w : World} {d : Option Tmp} {ty : TypeId} {pos : String} {af : Array Edge} {gd : Option (Nat × Bool)} {t t2 : TypeId} {x : Operand} {B : Nat} {A : Option Addr} {n c : Nat} {xs : List Int} {s : ByteArray} (hx : ρ x = .slice A n c) (h : Dat B w (.slice A n c) xs) (h0 : 0 < xs.length) (hs : strOfNums xs = s)
    (ht : Tryz.prog.underlying t = some (.slice 5)) (ht2 : Tryz.prog.underlying t2 = some .string) : (execOp ρ ⟨d, .convert t t2 x, ty, pos, af, gd⟩).run Tryz.prog w = .ok (.value (.string s)) w := by
  obtain ⟨h1, b, o, e, hc⟩ := h.ats h0
  have hr := run_convert_bytes_arg (P := Tryz.prog) w t 5 ht (by kernel_rfl) b o n c xs h1 hc t2 ht2
  rw [hs] at hr
  rw [e] at hx
  simp [execOp, hx, hr]
theorem OpRow.chgV {B : Nat} {w w' : World} {g b : Nat} {os : List OpD} (h : OpRow B w (some ⟨g, 0, none⟩) os) (c : Chg w w' b) (hd : B ≤ b ∧ NotU8 w b) (hne : g ≠ b) : OpRow B w' (some ⟨g, 0, none⟩) os := fun i o ho => by
  obtain ⟨g', f, oA, on, oc, hA, hg, hc, hD, hs⟩ := h i o ho
  have hA2 := hA
  injection hA with hA
  injection hA with e1 e2 _
  subst e1 e2
  exact ⟨g, 0, oA, on, oc, rfl, Nat.lt_of_lt_of_le hg c.size, fun j v hj => by
    have h1 := hc j v hj
    simp only [World.cell?] at h1 ⊢
    rw [c.block g hg (fun e => hne (Option.some.inj e))]; exact h1, hD.chg c hd, hs⟩
theorem sFz {ops : Array Oper} {Q : Exit → Act → World → Prop} {a : Act} {w : World} {J : Act → World → Prop} {d : Option Tmp} {ty : TypeId} {pos : String} {af : Array Edge} {gd : Option (Nat × Bool)} {t : TypeId} {x : Operand} {b n c : Nat} {C : Array Value}
    (hw : Region.wanted (⟨d, .convert t t x, ty, pos, af, gd⟩ : Oper) (yielded ops a.tmps) = true) (hx : a.eval x = .slice (some ⟨b, 0, none⟩) n c) (ht : Tryz.prog.underlying t = some (.slice 5)) (hb : w.heap[b]? = some (.cells C 5 (0, 0)))
    (k : ∀ w', w'.heap[b]? = some (.cells C 5 (C.size, C.size + 1)) → Chg w w' b → J (a.put d (.slice (some ⟨b, 0, none⟩) n c)) w') : St1 Tryz.prog ops Q ⟨d, .convert t t x, ty, pos, af, gd⟩ J a w := by
  have hsh : w.shape? b = some (5, C.size) := by unfold World.shape?; rw [hb]
  have he : Tryz.prog.underlying 5 = some (.int .u8) := by kernel_rfl
  refine sv hw (w' := w.freeze ⟨b, C.size, none⟩ 1) ?_ (k _ ?_ ?_)
  · simp [execOp, hx, convert, run_underlying ht, run_underlying he, markStringish, hsh]
  · unfold World.freeze
    rw [if_neg (by decide)]
    simp only [Array.getElem?_modify, if_pos, hb]; rfl
  · unfold World.freeze
    rw [if_neg (by decide)]
    refine ⟨rfl, rfl, rfl, by simp, fun j hj hn => ?_⟩
    simp only [Array.getElem?_modify]
    rw [if_neg (fun e => hn (by rw [← e]))]
theorem v_has : hasI (buildI [vo1, vo2]) ⟨1, 1⟩ = true := by kernel_rfl
theorem v_name : (gotI (buildI [vo1, vo2]) ⟨1, 1⟩).name = ⟨#[97]⟩ := by kernel_rfl
theorem v_bytes : ((bytesI (buildI vos) (buildI vos) : Nat) : Int) = 1 := by kernel_rfl
end Go.Proofs.YtefhfoioeoijlaaGreatDoor

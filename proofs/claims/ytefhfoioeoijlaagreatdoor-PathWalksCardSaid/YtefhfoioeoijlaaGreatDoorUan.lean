/- TreeJ -/
import Derived.Deep.DeepCutAuto
import Derived.Test.YtefhfoioeoijlaaGreatDoorUaf
set_option linter.unusedVariables false
set_option linter.unusedSimpArgs false
namespace Go.Proofs.YtefhfoioeoijlaaGreatDoor
open Go.RowKit Go.Sort
def DoPost (B : Nat) (w : World) (tb r : Nat) (L : List Item) (res : (Item × Bool × Int) × List Item) (e : Ending) (w' : World) : Prop :=
  ∃ d, e = .returned (.tuple #[itV res.1.1 d, .bool res.1.2.1, .int .i64 res.1.2.2]) ∧ Dat B w' d res.1.1.data ∧ TreeIs B w' tb r res.2 ∧ w.grownBy w' (some r)
theorem Below.to_grown {w w' : World} (h : Below w.heap.size w w') (q : Option Nat) : w.grownBy w' q := ⟨h.os, h.tape, h.output, h.size, fun k hk _ => h.block k hk⟩
theorem grown_trans {a b c : World} {q : Option Nat} (h : a.grownBy b q) (k : b.grownBy c q) : a.grownBy c q :=
  ⟨k.os.trans h.os, k.tape.trans h.tape, k.output.trans h.output, Nat.le_trans h.size k.size, fun i hi hne => (k.block i (Nat.lt_of_lt_of_le hi h.size) hne).trans (h.block i hi hne)⟩
theorem grown_set {a b : World} {q : Option Nat} (h : a.grownBy b q) {p : Addr} (hp : a.heap.size ≤ p.block) (u : Value) : a.grownBy (b.setCell p u) q :=
  ⟨h.os, h.tape, h.output, by simpa [World.setCell] using h.size, fun k hk hne => (Below.heap_setCell _ _ _ _ (by omega)).trans (h.block k hk hne)⟩
theorem setCell_grown (w : World) (p : Addr) (u : Value) : w.grownBy (w.setCell p u) (some p.block) :=
  ⟨rfl, rfl, rfl, by simp [World.setCell], fun k hk hne => Below.heap_setCell _ _ _ _ (fun e => hne (by rw [e]))⟩
theorem TreeIs.set {B : Nat} {w : World} {tb r : Nat} {L : List Item} (h : TreeIs B w tb r L) {p : Addr} (h1 : tb ≠ p.block) (h2 : r ≠ p.block) (hB : B ≤ p.block) (hn : NotU8 w p.block) (u : Value) : TreeIs B (w.setCell p u) tb r L :=
  ⟨(Below.heap_setCell _ _ _ _ h1).trans h.1, h.2.1, h.2.2.1, h.2.2.2.1.grown (setCell_grown w p u) hB h2 hn, h.2.2.2.2⟩
theorem kind_cases (k : Int) : k = 1 ∨ k = 2 ∨ k = 3 ∨ ((k == 1) = false ∧ (k == 2) = false ∧ (k == 3) = false) := by
  by_cases h1 : k = 1
  · exact .inl h1
  · by_cases h2 : k = 2
    · exact .inr (.inl h2)
    · by_cases h3 : k = 3
      · exact .inr (.inr (.inl h3))
      · exact .inr (.inr (.inr ⟨beq_eq_false_iff_ne.2 h1, beq_eq_false_iff_ne.2 h2, beq_eq_false_iff_ne.2 h3⟩))
theorem does_other {k : Int} (h1 : (k == 1) = false) (h2 : (k == 2) = false) (h3 : (k == 3) = false) : 67 = if k = 1 then 68 else if k = 2 then 69 else if k = 3 then 70 else 67 := by
  rw [if_neg (beq_eq_false_iff_ne.1 h1), if_neg (beq_eq_false_iff_ne.1 h2), if_neg (beq_eq_false_iff_ne.1 h3)]
theorem doI_1 {L : List Item} {o : OpD} (h : rightB o = false) : doI L o = ((nilI, false, 1), L) := by unfold doI; rw [if_pos h]
theorem doI_3 {L : List Item} {o : OpD} (h : rightB o = true) (h1 : (nowI L (gotI L o.node) o).2 = true) (h2 : hasI L o.node = false) (h3 : 300 ≤ L.length) : doI L o = ((nilI, false, 3), L) := by
  unfold doI; rw [if_neg (by rw [h]; simp), if_pos ⟨h1, h2, h3⟩]
theorem doI_4 {L : List Item} {o : OpD} (h : rightB o = true) (h1 : (nowI L (gotI L o.node) o).2 = true) (h2 : hasI L o.node = true ∨ L.length < 300) : doI L o = ((gotI L o.node, hasI L o.node, 0), putI (nowI L (gotI L o.node) o).1 L) := by
  unfold doI; rw [if_neg (by rw [h]; simp), if_neg, if_pos h1]
  rintro ⟨_, h3, h4⟩
  rcases h2 with h2 | h2
  · rw [h2] at h3; cases h3
  · omega
theorem doI_5 {L : List Item} {o : OpD} (h : rightB o = true) (h1 : (nowI L (gotI L o.node) o).2 = false) : doI L o = ((gotI L o.node, hasI L o.node, 0), L) := by
  unfold doI; rw [if_neg (by rw [h]; simp), if_neg, if_neg (by rw [h1]; simp)]
  rintro ⟨h2, _⟩
  rw [h1] at h2; cases h2
theorem putI_length {it : Item} : ∀ {L : List Item}, (putI it L).length ≤ L.length + 1
  | [] => by simp [putI]
  | y :: L => by
    simp only [putI]
    split
    · simp
    · split
      · simp
      · simp; exact putI_length
theorem putI_length_old {it : Item} {L : List Item} (hs : Srt L) (h : hasI L it.node = true) : (putI it L).length = L.length := by
  unfold hasI at h
  cases hg : getI L it.node with
  | none => rw [hg] at h; cases h
  | some x =>
    obtain ⟨hm, hn⟩ := getI_some hg
    obtain ⟨k, hk⟩ := List.mem_iff_getElem?.1 hm
    rw [putI_old hs hk hn]; simp
set_option maxRecDepth 2000 in
set_option maxHeartbeats 8000000 in
theorem do_at {B : Nat} {w : World} {tb r : Nat} {L : List Item} (h : TreeIs B w tb r L) (hB : B ≤ w.heap.size) (o : OpD) (oA : Option Addr) (on oc : Nat) (hDo : Dat B w (.slice oA on oc) o.data) (hs : o.name.size ≤ 9223372036854775807) :
    Calls Tryz.prog 22 #[trP tb, opV o (.slice oA on oc)] w (DoPost B w tb r L (doI L o)) := by
  have hn : o.data.length = on := by obtain ⟨A, n, c, e, h1, _⟩ := hDo; injection e with _ e2 _; rw [e2]; exact h1
  have HR := Lib.hid (fun (W : World) => opright_any o oA on oc hn hs W)
  have hlt := h.lt
  have hc := h.cell
  have hrl := h.2.2.2.1.lt
  have hNT := NotU8.of h.1 (by decide)
  obtain ⟨d0, hd0, hlk⟩ := h.2.2.2.1.look o.node
  obtain ⟨xA, xn, xc, rfl⟩ := hd0.form
  have E1 := Lib.hid (fun h => doI_1 (L := L) (o := o) h)
  have E3 := Lib.hid (fun h h1 h2 h3 => doI_3 (L := L) (o := o) h h1 h2 h3)
  have E4 := Lib.hid (fun h h1 h2 => doI_4 (L := L) (o := o) h h1 h2)
  have E5 := Lib.hid (fun h h1 => doI_5 (L := L) (o := o) h h1)
  have EN := Lib.hid (fun h1 => nowI_node (L := L) (x := gotI L o.node) (o := o) h1)
  have HDD := Lib.hid (fun (F : Nat) hF (W : World) (hW : Below w.heap.size w W) => does_at (h.up hW) (by have := hW.size; omega) o oA on oc (hDo.up hW) (gotI L o.node) xA xn xc (hd0.up hW) F hF)
  have HOW := Lib.hid (fun (W : World) (hz : B ≤ W.heap.size) (hD : Dat B W (.slice xA xn xc) (gotI L o.node).data) => own_any hz hD)
  have HL := Lib.hid (fun h1 => putI_length_old (it := (nowI L (gotI L o.node) o).1) h.2.2.2.1.srt h1)
  have HT := Lib.hid h
  have HX := Lib.hid hd0
  clear h hDo hn hs hd0
  generalize doI L o = D at *
  generalize nowI L (gotI L o.node) o = Y at *
  generalize gotI L o.node = x at *
  generalize hth : hasI L o.node = there at *
  have HTH := Lib.hid hth
  clear hth
  obtain ⟨y, ok⟩ := Y
  generalize rightB o = R at *
  obtain ⟨kind, ⟨a1, a2⟩, ⟨n1, n2⟩, ⟨q1, q2⟩, odir, oname, odata⟩ := o
  obtain ⟨⟨i1, i2⟩, ⟨p1, p2⟩, name, dir, gone, data, ⟨b1, b2⟩⟩ := x
  unfold trP at HDD ⊢
  unfold opV at HDD HR ⊢
  unfold itV at HDD HOW
  unfold itV stV at hlk
  simp only at HTH HDD HOW E1 E3 E4 E5 EN HL HR hlk HX ⊢
  go_enter Tryz.func22, Tryz.ntmps22
  go_wp2_with fail
  refine (HR.out _).mono ?_
  rintro e w1 ⟨rfl, hb1⟩
  have hbw := up_trans (up_trans (up_alloc w _) (up_alloc _ _)) hb1
  have hX := (hb1.block w.heap.size (by simp; omega)).trans (((up_alloc (w.alloc _) _).block w.heap.size (by simp)).trans (alloc_get0 w _))
  have hZ := (hb1.block (w.heap.size + 1) (by simp)).trans (alloc_get1 w _ _)
  have hz1 : w.heap.size + 2 ≤ w1.heap.size := by have := hb1.size; simp at this; omega
  obtain ⟨⟨x0, x1, x2, x3, x4, x5, x6, x7, x8, x9⟩, fx⟩ := item_cells hX
  obtain ⟨⟨z0, z1, z2, z3, z4, z5, z6, z7, z8, z9⟩, fz⟩ := item_cells hZ
  cases R
  · go_wp2_with fail
    refine bodyPost_ret (v := .tuple #[itV nilI (.slice none 0 0), .bool false, .int .i64 1]) (by simp [results, Tryz.results15, go_sem, itV, nilI, nilS, *]) rfl ?_
    rw [E1.out (by simp)]
    refine ⟨_, rfl, Dat.nil B _, HT.out.up ?_, Below.to_grown ?_ _⟩
    · ((repeat (first | (with_reducible exact hbw) | (with_reducible refine up_set ?_ ?_ _) | (with_reducible refine up_trans ?_ (up_drew _)))); all_goals ((try dsimp only); omega))
    · ((repeat (first | (with_reducible exact hbw) | (with_reducible refine up_set ?_ ?_ _) | (with_reducible refine up_trans ?_ (up_drew _)))); all_goals ((try dsimp only); omega))
  · have HL0 := (hlk w1.drew ((up_trans hbw (up_drew _)).block r hrl)).1
    have HL1 := fun (o : Obj) => (hlk (w1.alloc o).drew ((up_trans (up_trans hbw (up_alloc _ _)) (up_drew _)).block r hrl)).1
    have HC0 : w1.drew.cell? ⟨tb, 0, none⟩ = some (.map (some r)) := by rw [(up_trans hbw (up_drew _)).cell (p := ⟨tb, 0, none⟩) hlt]; exact hc
    have HC1 : ∀ o : Obj, (w1.alloc o).drew.cell? ⟨tb, 0, none⟩ = some (.map (some r)) := fun o => by rw [(up_trans (up_trans hbw (up_alloc _ _)) (up_drew _)).cell (p := ⟨tb, 0, none⟩) hlt]; exact hc
    clear hlk
    have hz2 : w.heap.size < w1.heap.size := by omega
    have hz3 : w.heap.size + 1 < w1.heap.size := by omega
    go_wp2_with fail
    go_region
    have hb5 := fun o => up_trans (up_trans hbw (up_alloc w1 o)) (up_drew _)
    have hb6 := hb5 (.cells #[.int .i64 i1, .int .i64 i2, .int .i64 p1, .int .i64 p2, .string name, .bool dir, .bool gone, .slice xA xn xc, .int .i64 b1, .int .i64 b2] 42)
    have HK : ∃ F, F = if kind = 1 then 68 else if kind = 2 then 69 else if kind = 3 then 70 else 67 := ⟨_, rfl⟩
    rcases kind_cases kind with hk | hk | hk | ⟨k1, k2, k3⟩
    · subst hk
      go_wp2_with fail
      refine (HDD.out _ (by simp) _ hb6).mono ?_
      rintro e w2 ⟨dA, dn, dc, rfl, hD2, hb2⟩
      have hb7 := up_trans hb6 hb2
      have hbV := up_trans (up_trans (up_alloc w1 (.cells #[.int .i64 i1, .int .i64 i2, .int .i64 p1, .int .i64 p2, .string name, .bool dir, .bool gone, .slice xA xn xc, .int .i64 b1, .int .i64 b2] 42)) (up_drew _)) hb2
      have hsz := hbV.size
      have hV : w2.heap[w1.heap.size]? = some (.cells #[.int .i64 i1, .int .i64 i2, .int .i64 p1, .int .i64 p2, .string name, .bool dir, .bool gone, .slice xA xn xc, .int .i64 b1, .int .i64 b2] 42 (0, 0)) := ((up_trans (up_drew _) hb2).block w1.heap.size (by show _ < (w1.alloc _).heap.size; simp)).trans (alloc_get0 w1 _)
      have hV2 : w1.heap.size < w2.heap.size := (Array.getElem?_eq_some_iff.1 hV).1
      have hZ2 := (hbV.block (w.heap.size + 1) hz3).trans hZ
      have hX2 := (hbV.block w.heap.size hz2).trans hX
      have hT2 := HT.out.up hb7
      obtain ⟨⟨v0, v1, v2, v3, v4, v5, v6, v7, v8, v9⟩, fv⟩ := item_cells hV
      obtain ⟨⟨u0, u1, u2, u3, u4, u5, u6, u7, u8, u9⟩, fu⟩ := item_cells hX2
      obtain ⟨⟨t0, t1, t2, t3, t4, t5, t6, t7, t8, t9⟩, ft⟩ := item_cells hZ2
      have HX2 := HX.out.up hb7
      have hcT : w2.cell? ⟨tb, 0, none⟩ = some (.map (some r)) := hT2.cell
      have hltT : tb < w2.heap.size := hT2.lt
      have hltR : r < w2.heap.size := hT2.2.2.2.1.lt
      have hzw : w.heap.size < w2.heap.size := by omega
      have hzw1 : w.heap.size + 1 < w2.heap.size := by omega
      clear HR HL0 HL1 HC0 HC1 HDD HK
      clear x0 x1 x2 x3 x4 x5 x6 x7 x8 x9 fx z0 z1 z2 z3 z4 z5 z6 z7 z8 z9 fz
      obtain ⟨⟨y1, y2⟩, ⟨s1, s2⟩, yname, ydir, ygone, ydata, ⟨c1, c2⟩⟩ := y
      simp only at hD2 E4 EN HL
      cases ok
      · go_wp2_with fail
        have hbA := fun o => up_trans hb7 (up_alloc w2 o)
        refine (HOW.out _ ?_ (HX2.up (up_alloc _ _))).mono ?_
        · have := (hbA (.cells #[.int .i64 y1, .int .i64 y2, .int .i64 s1, .int .i64 s2, .string yname, .bool ydir, .bool ygone, .slice dA dn dc, .int .i64 c1, .int .i64 c2] 42)).size; omega
        rintro e w4 ⟨d4, rfl, hD4, hb4⟩
        obtain ⟨kA, kn, kc, rfl⟩ := hD4.form
        have hb8 := up_trans (hbA _) hb4
        have hZ4 := ((up_trans (up_alloc w2 _) hb4).block (w.heap.size + 1) hzw1).trans hZ2
        obtain ⟨⟨m0, m1, m2, m3, m4, m5, m6, m7, m8, m9⟩, fm⟩ := item_cells hZ4
        have ms7 : ∀ u, (w4.setCell ⟨w.heap.size + 1, 7, none⟩ u).cell? ⟨w.heap.size + 1, 7, none⟩ = some u := fun u => World.cell?_setCell_same _ _ _ m7
        have NZ : NotU8 w4 (w.heap.size + 1) := NotU8.of hZ4 (by decide)
        go_wp2_with fail
        refine bodyPost_ret (v := .tuple #[.agg #[.int .i64 i1, .int .i64 i2, .int .i64 p1, .int .i64 p2, .string name, .bool dir, .bool gone, .slice kA kn kc, .int .i64 b1, .int .i64 b2], .bool there, .int .i64 0]) (by simp [results, Tryz.results15, go_sem, m0, m1, m2, m3, m4, m5, m6, m7, m8, m9, ms7]) rfl ?_
        rw [E5.out (by simp) (by simp)]
        refine ⟨.slice kA kn kc, rfl, ?_, HT.out.up ?_, Below.to_grown ?_ _⟩
        · ((repeat (first | (with_reducible exact hD4) | (with_reducible refine Dat.set ?_ ?_ ?_ _))); all_goals first | ((try dsimp only); omega) | ((repeat (with_reducible refine NotU8.set ?_ _ _)); (with_reducible exact NZ)))
        · ((repeat (first | (with_reducible exact hb8) | (with_reducible refine up_set ?_ ?_ _) | (with_reducible refine up_trans ?_ (up_drew _)))); all_goals ((try dsimp only); omega))
        · ((repeat (first | (with_reducible exact hb8) | (with_reducible refine up_set ?_ ?_ _) | (with_reducible refine up_trans ?_ (up_drew _)))); all_goals ((try dsimp only); omega))
      · have hlen : (there = true ∨ L.length < 300) ∨ (there = false ∧ 300 ≤ L.length) := by
          cases there
          · rcases Nat.lt_or_ge L.length 300 with h | h
            · exact .inl (.inr h)
            · exact .inr ⟨rfl, h⟩
          · exact .inl (.inl rfl)
        have hlb := HT.out.2.2.2.2
        obtain ⟨es, clock, hmr, hes⟩ := hT2.2.2.2.1.len
        have hl : ∀ (o : Obj) ty, (Builtin.len_ #[106] ty #[.map (some r)]).run Tryz.prog (w2.alloc o) = .ok (.int .i64 L.length) (w2.alloc o) := fun o ty => by
          rw [run_len_map (w2.alloc o) 106 ty r es clock (by kernel_rfl) (((up_alloc w2 o).block r hltR).trans hmr), hes]; rfl
        clear hmr hes
        have hyn := EN.out (by simp)
        injection hyn with hy1 hy2
        subst hy1; subst hy2
        rcases hlen with hgo | ⟨hno, h3⟩
        · have hst : ∃ w3, (Instr.mapUpdate 106 (.map (some r)) (.agg #[.int .i64 y1, .int .i64 y2]) (.agg #[.int .i64 y1, .int .i64 y2, .int .i64 s1, .int .i64 s2, .string yname, .bool ydir, .bool ygone, .slice dA dn dc, .int .i64 c1, .int .i64 c2])).run Tryz.prog (w2.alloc (.cells #[.int .i64 y1, .int .i64 y2, .int .i64 s1, .int .i64 s2, .string yname, .bool ydir, .bool ygone, .slice dA dn dc, .int .i64 c1, .int .i64 c2] 42)).drew = .ok () w3 ∧ (w2.alloc (.cells #[.int .i64 y1, .int .i64 y2, .int .i64 s1, .int .i64 s2, .string yname, .bool ydir, .bool ygone, .slice dA dn dc, .int .i64 c1, .int .i64 c2] 42)).drew.grownBy w3 (some r) ∧ MapIs B w3 r (putI ⟨⟨y1, y2⟩, ⟨s1, s2⟩, yname, ydir, ygone, ydata, ⟨c1, c2⟩⟩ L) :=
            ((hT2.up (up_trans (up_alloc w2 (.cells #[.int .i64 y1, .int .i64 y2, .int .i64 s1, .int .i64 s2, .string yname, .bool ydir, .bool ygone, .slice dA dn dc, .int .i64 c1, .int .i64 c2] 42)) (up_drew _))).2.2.2.1).store hT2.2.2.1 ⟨⟨y1, y2⟩, ⟨s1, s2⟩, yname, ydir, ygone, ydata, ⟨c1, c2⟩⟩ (.slice dA dn dc) (hD2.up (up_trans (up_alloc _ _) (up_drew _)))
          obtain ⟨w3, hrun, hg3, hM3⟩ := hst
          have hbD := up_trans (up_alloc w2 (.cells #[.int .i64 y1, .int .i64 y2, .int .i64 s1, .int .i64 s2, .string yname, .bool ydir, .bool ygone, .slice dA dn dc, .int .i64 c1, .int .i64 c2] 42)) (up_drew _)
          have hsz3 := hg3.size
          have hszD := hbD.size
          have hV3 := (hg3.block w1.heap.size (by omega) (by intro e; injection e with e; omega)).trans ((hbD.block w1.heap.size hV2).trans hV)
          have hZ3 := (hg3.block (w.heap.size + 1) (by omega) (by intro e; injection e with e; omega)).trans ((hbD.block (w.heap.size + 1) hzw1).trans hZ2)
          have htr : tb ≠ r := by
            intro e
            have h1 := hT2.1
            rw [e] at h1
            exact hT2.2.2.2.1.noCells _ _ _ h1
          have hT3 := (hg3.block tb (by omega) (by intro e; injection e with e; exact htr e)).trans ((hbD.block tb hltT).trans hT2.1)
          have HX3 := (HX2.up hbD).grown hg3 hT2.2.2.1 (fun cs fr => (hT2.up hbD).2.2.2.1.noCells cs _ fr)
          have hlen3 : (putI ⟨⟨y1, y2⟩, ⟨s1, s2⟩, yname, ydir, ygone, ydata, ⟨c1, c2⟩⟩ L).length ≤ 300 := by
            rcases hgo with h | h
            · rw [HL.out (HTH.out.trans h)]; exact hlb
            · have := putI_length (it := ⟨⟨y1, y2⟩, ⟨s1, s2⟩, yname, ydir, ygone, ydata, ⟨c1, c2⟩⟩) (L := L); omega
          have hTT : TreeIs B w3 tb r (putI ⟨⟨y1, y2⟩, ⟨s1, s2⟩, yname, ydir, ygone, ydata, ⟨c1, c2⟩⟩ L) := ⟨hT3, hT2.2.1, hT2.2.2.1, hM3, hlen3⟩
          have hDo := E4.out (by simp) (by simp) hgo
          have hgt : there = true ∨ (there = false ∧ decide ((300 : Int) ≤ (L.length : Int)) = false) := by
            cases there
            · refine .inr ⟨rfl, decide_eq_false ?_⟩
              rcases hgo with h | h
              · cases h
              · omega
            · exact .inl rfl
          obtain ⟨⟨v0', v1', v2', v3', v4', v5', v6', v7', v8', v9'⟩, fv'⟩ := item_cells hV3
          have HGO := Lib.hid hgo
          clear hgo hlb
          rcases hgt with hgt | ⟨hgt, hgd⟩
          · subst hgt
            go_wp2_with fail
            go_region
            go_wp2_with fail
            refine (HOW.out _ ?_ HX3).mono ?_
            · omega
            rintro e w4 ⟨d4, rfl, hD4, hb4⟩
            obtain ⟨kA, kn, kc, rfl⟩ := hD4.form
            have hZ4 := (hb4.block (w.heap.size + 1) (by omega)).trans hZ3
            obtain ⟨⟨m0, m1, m2, m3, m4, m5, m6, m7, m8, m9⟩, fm⟩ := item_cells hZ4
            have ms7 : ∀ u, (w4.setCell ⟨w.heap.size + 1, 7, none⟩ u).cell? ⟨w.heap.size + 1, 7, none⟩ = some u := fun u => World.cell?_setCell_same _ _ _ m7
            have NZ : NotU8 w4 (w.heap.size + 1) := NotU8.of hZ4 (by decide)
            have hTF := hTT.up hb4
            have hGF := grown_trans (grown_trans (Below.to_grown (up_trans hb7 hbD) (some r)) hg3) (Below.to_grown hb4 (some r))
            go_wp2_with fail
            refine bodyPost_ret (v := .tuple #[.agg #[.int .i64 i1, .int .i64 i2, .int .i64 p1, .int .i64 p2, .string name, .bool dir, .bool gone, .slice kA kn kc, .int .i64 b1, .int .i64 b2], .bool true, .int .i64 0]) (by simp [results, Tryz.results15, go_sem, m0, m1, m2, m3, m4, m5, m6, m7, m8, m9, ms7]) rfl ?_
            rw [hDo]
            refine ⟨.slice kA kn kc, rfl, ?_, ?_, ?_⟩
            · ((repeat (first | (with_reducible exact hD4) | (with_reducible refine Dat.set ?_ ?_ ?_ _))); all_goals first | ((try dsimp only); omega) | ((repeat (with_reducible refine NotU8.set ?_ _ _)); (with_reducible exact NZ)))
            · ((repeat (first | (with_reducible exact hTF) | (with_reducible refine TreeIs.set ?_ ?_ ?_ ?_ ?_ _))); all_goals first | ((try dsimp only); omega) | ((repeat (with_reducible refine NotU8.set ?_ _ _)); (with_reducible exact NZ)))
            · ((repeat (first | (with_reducible exact hGF) | (with_reducible refine grown_set ?_ ?_ _))); all_goals ((try dsimp only); omega))
          · subst hgt
            go_wp2_with fail
            go_region
            go_wp2_with fail
            refine (HOW.out _ ?_ HX3).mono ?_
            · omega
            rintro e w4 ⟨d4, rfl, hD4, hb4⟩
            obtain ⟨kA, kn, kc, rfl⟩ := hD4.form
            have hZ4 := (hb4.block (w.heap.size + 1) (by omega)).trans hZ3
            obtain ⟨⟨m0, m1, m2, m3, m4, m5, m6, m7, m8, m9⟩, fm⟩ := item_cells hZ4
            have ms7 : ∀ u, (w4.setCell ⟨w.heap.size + 1, 7, none⟩ u).cell? ⟨w.heap.size + 1, 7, none⟩ = some u := fun u => World.cell?_setCell_same _ _ _ m7
            have NZ : NotU8 w4 (w.heap.size + 1) := NotU8.of hZ4 (by decide)
            have hTF := hTT.up hb4
            have hGF := grown_trans (grown_trans (Below.to_grown (up_trans hb7 hbD) (some r)) hg3) (Below.to_grown hb4 (some r))
            go_wp2_with fail
            refine bodyPost_ret (v := .tuple #[.agg #[.int .i64 i1, .int .i64 i2, .int .i64 p1, .int .i64 p2, .string name, .bool dir, .bool gone, .slice kA kn kc, .int .i64 b1, .int .i64 b2], .bool false, .int .i64 0]) (by simp [results, Tryz.results15, go_sem, m0, m1, m2, m3, m4, m5, m6, m7, m8, m9, ms7]) rfl ?_
            rw [hDo]
            refine ⟨.slice kA kn kc, rfl, ?_, ?_, ?_⟩
            · ((repeat (first | (with_reducible exact hD4) | (with_reducible refine Dat.set ?_ ?_ ?_ _))); all_goals first | ((try dsimp only); omega) | ((repeat (with_reducible refine NotU8.set ?_ _ _)); (with_reducible exact NZ)))
            · ((repeat (first | (with_reducible exact hTF) | (with_reducible refine TreeIs.set ?_ ?_ ?_ ?_ ?_ _))); all_goals first | ((try dsimp only); omega) | ((repeat (with_reducible refine NotU8.set ?_ _ _)); (with_reducible exact NZ)))
            · ((repeat (first | (with_reducible exact hGF) | (with_reducible refine grown_set ?_ ?_ _))); all_goals ((try dsimp only); omega))
        · obtain rfl := hno
          have hgd : decide ((300 : Int) ≤ (L.length : Int)) = true := decide_eq_true (by omega)
          have H3 := Lib.hid h3
          clear h3 hlb HOW HX hT2 HX2 hD2 E4 E5 EN HL HTH
          have hZ5 := fun o => ((up_alloc w2 o).block (w.heap.size + 1) hzw1).trans hZ2
          have hbA := fun o => up_trans hb7 (up_alloc w2 o)
          go_upto_region 16 with (fail)
          have hZ6 := hZ5 (.cells #[.int .i64 y1, .int .i64 y2, .int .i64 s1, .int .i64 s2, .string yname, .bool ydir, .bool ygone, .slice dA dn dc, .int .i64 c1, .int .i64 c2] 42)
          have hbB := hbA (.cells #[.int .i64 y1, .int .i64 y2, .int .i64 s1, .int .i64 s2, .string yname, .bool ydir, .bool ygone, .slice dA dn dc, .int .i64 c1, .int .i64 c2] 42)
          generalize w2.alloc (.cells #[.int .i64 y1, .int .i64 y2, .int .i64 s1, .int .i64 s2, .string yname, .bool ydir, .bool ygone, .slice dA dn dc, .int .i64 c1, .int .i64 c2] 42) = w5 at hZ6 hbB ⊢
          clear hZ5 hbA hl u0 u1 u2 u3 u4 u5 u6 u7 u8 u9 v0 v1 v2 v3 v4 v5 v6 v7 v8 v9 fu fv t0 t1 t2 t3 t4 t5 t6 t7 t8 t9 ft
          obtain ⟨⟨m0, m1, m2, m3, m4, m5, m6, m7, m8, m9⟩, fm⟩ := item_cells hZ6
          have ms7 : ∀ u, (w5.setCell ⟨w.heap.size + 1, 7, none⟩ u).cell? ⟨w.heap.size + 1, 7, none⟩ = some u := fun u => World.cell?_setCell_same _ _ _ m7
          go_wp2_with fail
          refine bodyPost_ret (v := .tuple #[itV nilI (.slice none 0 0), .bool false, .int .i64 3]) (by simp [results, Tryz.results15, go_sem, itV, nilI, nilS, m0, m1, m2, m3, m4, m5, m6, m7, m8, m9, ms7]) rfl ?_
          rw [E3.out (by simp) (by simp) (by simp) H3.out]
          refine ⟨_, rfl, Dat.nil B _, HT.out.up ?_, Below.to_grown ?_ _⟩
          · ((repeat (first | (with_reducible exact hbB) | (with_reducible refine up_set ?_ ?_ _) | (with_reducible refine up_trans ?_ (up_drew _)))); all_goals ((try dsimp only); omega))
          · ((repeat (first | (with_reducible exact hbB) | (with_reducible refine up_set ?_ ?_ _) | (with_reducible refine up_trans ?_ (up_drew _)))); all_goals ((try dsimp only); omega))
    · subst hk
      go_wp2_with fail
      refine (HDD.out _ (by simp) _ hb6).mono ?_
      rintro e w2 ⟨dA, dn, dc, rfl, hD2, hb2⟩
      have hb7 := up_trans hb6 hb2
      have hbV := up_trans (up_trans (up_alloc w1 (.cells #[.int .i64 i1, .int .i64 i2, .int .i64 p1, .int .i64 p2, .string name, .bool dir, .bool gone, .slice xA xn xc, .int .i64 b1, .int .i64 b2] 42)) (up_drew _)) hb2
      have hsz := hbV.size
      have hV : w2.heap[w1.heap.size]? = some (.cells #[.int .i64 i1, .int .i64 i2, .int .i64 p1, .int .i64 p2, .string name, .bool dir, .bool gone, .slice xA xn xc, .int .i64 b1, .int .i64 b2] 42 (0, 0)) := ((up_trans (up_drew _) hb2).block w1.heap.size (by show _ < (w1.alloc _).heap.size; simp)).trans (alloc_get0 w1 _)
      have hV2 : w1.heap.size < w2.heap.size := (Array.getElem?_eq_some_iff.1 hV).1
      have hZ2 := (hbV.block (w.heap.size + 1) hz3).trans hZ
      have hX2 := (hbV.block w.heap.size hz2).trans hX
      have hT2 := HT.out.up hb7
      obtain ⟨⟨v0, v1, v2, v3, v4, v5, v6, v7, v8, v9⟩, fv⟩ := item_cells hV
      obtain ⟨⟨u0, u1, u2, u3, u4, u5, u6, u7, u8, u9⟩, fu⟩ := item_cells hX2
      obtain ⟨⟨t0, t1, t2, t3, t4, t5, t6, t7, t8, t9⟩, ft⟩ := item_cells hZ2
      have HX2 := HX.out.up hb7
      have hcT : w2.cell? ⟨tb, 0, none⟩ = some (.map (some r)) := hT2.cell
      have hltT : tb < w2.heap.size := hT2.lt
      have hltR : r < w2.heap.size := hT2.2.2.2.1.lt
      have hzw : w.heap.size < w2.heap.size := by omega
      have hzw1 : w.heap.size + 1 < w2.heap.size := by omega
      clear HR HL0 HL1 HC0 HC1 HDD HK
      clear x0 x1 x2 x3 x4 x5 x6 x7 x8 x9 fx z0 z1 z2 z3 z4 z5 z6 z7 z8 z9 fz
      obtain ⟨⟨y1, y2⟩, ⟨s1, s2⟩, yname, ydir, ygone, ydata, ⟨c1, c2⟩⟩ := y
      simp only at hD2 E4 EN HL
      cases ok
      · go_wp2_with fail
        have hbA := fun o => up_trans hb7 (up_alloc w2 o)
        refine (HOW.out _ ?_ (HX2.up (up_alloc _ _))).mono ?_
        · have := (hbA (.cells #[.int .i64 y1, .int .i64 y2, .int .i64 s1, .int .i64 s2, .string yname, .bool ydir, .bool ygone, .slice dA dn dc, .int .i64 c1, .int .i64 c2] 42)).size; omega
        rintro e w4 ⟨d4, rfl, hD4, hb4⟩
        obtain ⟨kA, kn, kc, rfl⟩ := hD4.form
        have hb8 := up_trans (hbA _) hb4
        have hZ4 := ((up_trans (up_alloc w2 _) hb4).block (w.heap.size + 1) hzw1).trans hZ2
        obtain ⟨⟨m0, m1, m2, m3, m4, m5, m6, m7, m8, m9⟩, fm⟩ := item_cells hZ4
        have ms7 : ∀ u, (w4.setCell ⟨w.heap.size + 1, 7, none⟩ u).cell? ⟨w.heap.size + 1, 7, none⟩ = some u := fun u => World.cell?_setCell_same _ _ _ m7
        have NZ : NotU8 w4 (w.heap.size + 1) := NotU8.of hZ4 (by decide)
        go_wp2_with fail
        refine bodyPost_ret (v := .tuple #[.agg #[.int .i64 i1, .int .i64 i2, .int .i64 p1, .int .i64 p2, .string name, .bool dir, .bool gone, .slice kA kn kc, .int .i64 b1, .int .i64 b2], .bool there, .int .i64 0]) (by simp [results, Tryz.results15, go_sem, m0, m1, m2, m3, m4, m5, m6, m7, m8, m9, ms7]) rfl ?_
        rw [E5.out (by simp) (by simp)]
        refine ⟨.slice kA kn kc, rfl, ?_, HT.out.up ?_, Below.to_grown ?_ _⟩
        · ((repeat (first | (with_reducible exact hD4) | (with_reducible refine Dat.set ?_ ?_ ?_ _))); all_goals first | ((try dsimp only); omega) | ((repeat (with_reducible refine NotU8.set ?_ _ _)); (with_reducible exact NZ)))
        · ((repeat (first | (with_reducible exact hb8) | (with_reducible refine up_set ?_ ?_ _) | (with_reducible refine up_trans ?_ (up_drew _)))); all_goals ((try dsimp only); omega))
        · ((repeat (first | (with_reducible exact hb8) | (with_reducible refine up_set ?_ ?_ _) | (with_reducible refine up_trans ?_ (up_drew _)))); all_goals ((try dsimp only); omega))
      · have hlen : (there = true ∨ L.length < 300) ∨ (there = false ∧ 300 ≤ L.length) := by
          cases there
          · rcases Nat.lt_or_ge L.length 300 with h | h
            · exact .inl (.inr h)
            · exact .inr ⟨rfl, h⟩
          · exact .inl (.inl rfl)
        have hlb := HT.out.2.2.2.2
        obtain ⟨es, clock, hmr, hes⟩ := hT2.2.2.2.1.len
        have hl : ∀ (o : Obj) ty, (Builtin.len_ #[106] ty #[.map (some r)]).run Tryz.prog (w2.alloc o) = .ok (.int .i64 L.length) (w2.alloc o) := fun o ty => by
          rw [run_len_map (w2.alloc o) 106 ty r es clock (by kernel_rfl) (((up_alloc w2 o).block r hltR).trans hmr), hes]; rfl
        clear hmr hes
        have hyn := EN.out (by simp)
        injection hyn with hy1 hy2
        subst hy1; subst hy2
        rcases hlen with hgo | ⟨hno, h3⟩
        · have hst : ∃ w3, (Instr.mapUpdate 106 (.map (some r)) (.agg #[.int .i64 y1, .int .i64 y2]) (.agg #[.int .i64 y1, .int .i64 y2, .int .i64 s1, .int .i64 s2, .string yname, .bool ydir, .bool ygone, .slice dA dn dc, .int .i64 c1, .int .i64 c2])).run Tryz.prog (w2.alloc (.cells #[.int .i64 y1, .int .i64 y2, .int .i64 s1, .int .i64 s2, .string yname, .bool ydir, .bool ygone, .slice dA dn dc, .int .i64 c1, .int .i64 c2] 42)).drew = .ok () w3 ∧ (w2.alloc (.cells #[.int .i64 y1, .int .i64 y2, .int .i64 s1, .int .i64 s2, .string yname, .bool ydir, .bool ygone, .slice dA dn dc, .int .i64 c1, .int .i64 c2] 42)).drew.grownBy w3 (some r) ∧ MapIs B w3 r (putI ⟨⟨y1, y2⟩, ⟨s1, s2⟩, yname, ydir, ygone, ydata, ⟨c1, c2⟩⟩ L) :=
            ((hT2.up (up_trans (up_alloc w2 (.cells #[.int .i64 y1, .int .i64 y2, .int .i64 s1, .int .i64 s2, .string yname, .bool ydir, .bool ygone, .slice dA dn dc, .int .i64 c1, .int .i64 c2] 42)) (up_drew _))).2.2.2.1).store hT2.2.2.1 ⟨⟨y1, y2⟩, ⟨s1, s2⟩, yname, ydir, ygone, ydata, ⟨c1, c2⟩⟩ (.slice dA dn dc) (hD2.up (up_trans (up_alloc _ _) (up_drew _)))
          obtain ⟨w3, hrun, hg3, hM3⟩ := hst
          have hbD := up_trans (up_alloc w2 (.cells #[.int .i64 y1, .int .i64 y2, .int .i64 s1, .int .i64 s2, .string yname, .bool ydir, .bool ygone, .slice dA dn dc, .int .i64 c1, .int .i64 c2] 42)) (up_drew _)
          have hsz3 := hg3.size
          have hszD := hbD.size
          have hV3 := (hg3.block w1.heap.size (by omega) (by intro e; injection e with e; omega)).trans ((hbD.block w1.heap.size hV2).trans hV)
          have hZ3 := (hg3.block (w.heap.size + 1) (by omega) (by intro e; injection e with e; omega)).trans ((hbD.block (w.heap.size + 1) hzw1).trans hZ2)
          have htr : tb ≠ r := by
            intro e
            have h1 := hT2.1
            rw [e] at h1
            exact hT2.2.2.2.1.noCells _ _ _ h1
          have hT3 := (hg3.block tb (by omega) (by intro e; injection e with e; exact htr e)).trans ((hbD.block tb hltT).trans hT2.1)
          have HX3 := (HX2.up hbD).grown hg3 hT2.2.2.1 (fun cs fr => (hT2.up hbD).2.2.2.1.noCells cs _ fr)
          have hlen3 : (putI ⟨⟨y1, y2⟩, ⟨s1, s2⟩, yname, ydir, ygone, ydata, ⟨c1, c2⟩⟩ L).length ≤ 300 := by
            rcases hgo with h | h
            · rw [HL.out (HTH.out.trans h)]; exact hlb
            · have := putI_length (it := ⟨⟨y1, y2⟩, ⟨s1, s2⟩, yname, ydir, ygone, ydata, ⟨c1, c2⟩⟩) (L := L); omega
          have hTT : TreeIs B w3 tb r (putI ⟨⟨y1, y2⟩, ⟨s1, s2⟩, yname, ydir, ygone, ydata, ⟨c1, c2⟩⟩ L) := ⟨hT3, hT2.2.1, hT2.2.2.1, hM3, hlen3⟩
          have hDo := E4.out (by simp) (by simp) hgo
          have hgt : there = true ∨ (there = false ∧ decide ((300 : Int) ≤ (L.length : Int)) = false) := by
            cases there
            · refine .inr ⟨rfl, decide_eq_false ?_⟩
              rcases hgo with h | h
              · cases h
              · omega
            · exact .inl rfl
          obtain ⟨⟨v0', v1', v2', v3', v4', v5', v6', v7', v8', v9'⟩, fv'⟩ := item_cells hV3
          have HGO := Lib.hid hgo
          clear hgo hlb
          rcases hgt with hgt | ⟨hgt, hgd⟩
          · subst hgt
            go_wp2_with fail
            go_region
            go_wp2_with fail
            refine (HOW.out _ ?_ HX3).mono ?_
            · omega
            rintro e w4 ⟨d4, rfl, hD4, hb4⟩
            obtain ⟨kA, kn, kc, rfl⟩ := hD4.form
            have hZ4 := (hb4.block (w.heap.size + 1) (by omega)).trans hZ3
            obtain ⟨⟨m0, m1, m2, m3, m4, m5, m6, m7, m8, m9⟩, fm⟩ := item_cells hZ4
            have ms7 : ∀ u, (w4.setCell ⟨w.heap.size + 1, 7, none⟩ u).cell? ⟨w.heap.size + 1, 7, none⟩ = some u := fun u => World.cell?_setCell_same _ _ _ m7
            have NZ : NotU8 w4 (w.heap.size + 1) := NotU8.of hZ4 (by decide)
            have hTF := hTT.up hb4
            have hGF := grown_trans (grown_trans (Below.to_grown (up_trans hb7 hbD) (some r)) hg3) (Below.to_grown hb4 (some r))
            go_wp2_with fail
            refine bodyPost_ret (v := .tuple #[.agg #[.int .i64 i1, .int .i64 i2, .int .i64 p1, .int .i64 p2, .string name, .bool dir, .bool gone, .slice kA kn kc, .int .i64 b1, .int .i64 b2], .bool true, .int .i64 0]) (by simp [results, Tryz.results15, go_sem, m0, m1, m2, m3, m4, m5, m6, m7, m8, m9, ms7]) rfl ?_
            rw [hDo]
            refine ⟨.slice kA kn kc, rfl, ?_, ?_, ?_⟩
            · ((repeat (first | (with_reducible exact hD4) | (with_reducible refine Dat.set ?_ ?_ ?_ _))); all_goals first | ((try dsimp only); omega) | ((repeat (with_reducible refine NotU8.set ?_ _ _)); (with_reducible exact NZ)))
            · ((repeat (first | (with_reducible exact hTF) | (with_reducible refine TreeIs.set ?_ ?_ ?_ ?_ ?_ _))); all_goals first | ((try dsimp only); omega) | ((repeat (with_reducible refine NotU8.set ?_ _ _)); (with_reducible exact NZ)))
            · ((repeat (first | (with_reducible exact hGF) | (with_reducible refine grown_set ?_ ?_ _))); all_goals ((try dsimp only); omega))
          · subst hgt
            go_wp2_with fail
            go_region
            go_wp2_with fail
            refine (HOW.out _ ?_ HX3).mono ?_
            · omega
            rintro e w4 ⟨d4, rfl, hD4, hb4⟩
            obtain ⟨kA, kn, kc, rfl⟩ := hD4.form
            have hZ4 := (hb4.block (w.heap.size + 1) (by omega)).trans hZ3
            obtain ⟨⟨m0, m1, m2, m3, m4, m5, m6, m7, m8, m9⟩, fm⟩ := item_cells hZ4
            have ms7 : ∀ u, (w4.setCell ⟨w.heap.size + 1, 7, none⟩ u).cell? ⟨w.heap.size + 1, 7, none⟩ = some u := fun u => World.cell?_setCell_same _ _ _ m7
            have NZ : NotU8 w4 (w.heap.size + 1) := NotU8.of hZ4 (by decide)
            have hTF := hTT.up hb4
            have hGF := grown_trans (grown_trans (Below.to_grown (up_trans hb7 hbD) (some r)) hg3) (Below.to_grown hb4 (some r))
            go_wp2_with fail
            refine bodyPost_ret (v := .tuple #[.agg #[.int .i64 i1, .int .i64 i2, .int .i64 p1, .int .i64 p2, .string name, .bool dir, .bool gone, .slice kA kn kc, .int .i64 b1, .int .i64 b2], .bool false, .int .i64 0]) (by simp [results, Tryz.results15, go_sem, m0, m1, m2, m3, m4, m5, m6, m7, m8, m9, ms7]) rfl ?_
            rw [hDo]
            refine ⟨.slice kA kn kc, rfl, ?_, ?_, ?_⟩
            · ((repeat (first | (with_reducible exact hD4) | (with_reducible refine Dat.set ?_ ?_ ?_ _))); all_goals first | ((try dsimp only); omega) | ((repeat (with_reducible refine NotU8.set ?_ _ _)); (with_reducible exact NZ)))
            · ((repeat (first | (with_reducible exact hTF) | (with_reducible refine TreeIs.set ?_ ?_ ?_ ?_ ?_ _))); all_goals first | ((try dsimp only); omega) | ((repeat (with_reducible refine NotU8.set ?_ _ _)); (with_reducible exact NZ)))
            · ((repeat (first | (with_reducible exact hGF) | (with_reducible refine grown_set ?_ ?_ _))); all_goals ((try dsimp only); omega))
        · obtain rfl := hno
          have hgd : decide ((300 : Int) ≤ (L.length : Int)) = true := decide_eq_true (by omega)
          have H3 := Lib.hid h3
          clear h3 hlb HOW HX hT2 HX2 hD2 E4 E5 EN HL HTH
          have hZ5 := fun o => ((up_alloc w2 o).block (w.heap.size + 1) hzw1).trans hZ2
          have hbA := fun o => up_trans hb7 (up_alloc w2 o)
          go_upto_region 16 with (fail)
          have hZ6 := hZ5 (.cells #[.int .i64 y1, .int .i64 y2, .int .i64 s1, .int .i64 s2, .string yname, .bool ydir, .bool ygone, .slice dA dn dc, .int .i64 c1, .int .i64 c2] 42)
          have hbB := hbA (.cells #[.int .i64 y1, .int .i64 y2, .int .i64 s1, .int .i64 s2, .string yname, .bool ydir, .bool ygone, .slice dA dn dc, .int .i64 c1, .int .i64 c2] 42)
          generalize w2.alloc (.cells #[.int .i64 y1, .int .i64 y2, .int .i64 s1, .int .i64 s2, .string yname, .bool ydir, .bool ygone, .slice dA dn dc, .int .i64 c1, .int .i64 c2] 42) = w5 at hZ6 hbB ⊢
          clear hZ5 hbA hl u0 u1 u2 u3 u4 u5 u6 u7 u8 u9 v0 v1 v2 v3 v4 v5 v6 v7 v8 v9 fu fv t0 t1 t2 t3 t4 t5 t6 t7 t8 t9 ft
          obtain ⟨⟨m0, m1, m2, m3, m4, m5, m6, m7, m8, m9⟩, fm⟩ := item_cells hZ6
          have ms7 : ∀ u, (w5.setCell ⟨w.heap.size + 1, 7, none⟩ u).cell? ⟨w.heap.size + 1, 7, none⟩ = some u := fun u => World.cell?_setCell_same _ _ _ m7
          go_wp2_with fail
          refine bodyPost_ret (v := .tuple #[itV nilI (.slice none 0 0), .bool false, .int .i64 3]) (by simp [results, Tryz.results15, go_sem, itV, nilI, nilS, m0, m1, m2, m3, m4, m5, m6, m7, m8, m9, ms7]) rfl ?_
          rw [E3.out (by simp) (by simp) (by simp) H3.out]
          refine ⟨_, rfl, Dat.nil B _, HT.out.up ?_, Below.to_grown ?_ _⟩
          · ((repeat (first | (with_reducible exact hbB) | (with_reducible refine up_set ?_ ?_ _) | (with_reducible refine up_trans ?_ (up_drew _)))); all_goals ((try dsimp only); omega))
          · ((repeat (first | (with_reducible exact hbB) | (with_reducible refine up_set ?_ ?_ _) | (with_reducible refine up_trans ?_ (up_drew _)))); all_goals ((try dsimp only); omega))
    · subst hk
      go_wp2_with fail
      refine (HDD.out _ (by simp) _ hb6).mono ?_
      rintro e w2 ⟨dA, dn, dc, rfl, hD2, hb2⟩
      have hb7 := up_trans hb6 hb2
      have hbV := up_trans (up_trans (up_alloc w1 (.cells #[.int .i64 i1, .int .i64 i2, .int .i64 p1, .int .i64 p2, .string name, .bool dir, .bool gone, .slice xA xn xc, .int .i64 b1, .int .i64 b2] 42)) (up_drew _)) hb2
      have hsz := hbV.size
      have hV : w2.heap[w1.heap.size]? = some (.cells #[.int .i64 i1, .int .i64 i2, .int .i64 p1, .int .i64 p2, .string name, .bool dir, .bool gone, .slice xA xn xc, .int .i64 b1, .int .i64 b2] 42 (0, 0)) := ((up_trans (up_drew _) hb2).block w1.heap.size (by show _ < (w1.alloc _).heap.size; simp)).trans (alloc_get0 w1 _)
      have hV2 : w1.heap.size < w2.heap.size := (Array.getElem?_eq_some_iff.1 hV).1
      have hZ2 := (hbV.block (w.heap.size + 1) hz3).trans hZ
      have hX2 := (hbV.block w.heap.size hz2).trans hX
      have hT2 := HT.out.up hb7
      obtain ⟨⟨v0, v1, v2, v3, v4, v5, v6, v7, v8, v9⟩, fv⟩ := item_cells hV
      obtain ⟨⟨u0, u1, u2, u3, u4, u5, u6, u7, u8, u9⟩, fu⟩ := item_cells hX2
      obtain ⟨⟨t0, t1, t2, t3, t4, t5, t6, t7, t8, t9⟩, ft⟩ := item_cells hZ2
      have HX2 := HX.out.up hb7
      have hcT : w2.cell? ⟨tb, 0, none⟩ = some (.map (some r)) := hT2.cell
      have hltT : tb < w2.heap.size := hT2.lt
      have hltR : r < w2.heap.size := hT2.2.2.2.1.lt
      have hzw : w.heap.size < w2.heap.size := by omega
      have hzw1 : w.heap.size + 1 < w2.heap.size := by omega
      clear HR HL0 HL1 HC0 HC1 HDD HK
      clear x0 x1 x2 x3 x4 x5 x6 x7 x8 x9 fx z0 z1 z2 z3 z4 z5 z6 z7 z8 z9 fz
      obtain ⟨⟨y1, y2⟩, ⟨s1, s2⟩, yname, ydir, ygone, ydata, ⟨c1, c2⟩⟩ := y
      simp only at hD2 E4 EN HL
      cases ok
      · go_wp2_with fail
        have hbA := fun o => up_trans hb7 (up_alloc w2 o)
        refine (HOW.out _ ?_ (HX2.up (up_alloc _ _))).mono ?_
        · have := (hbA (.cells #[.int .i64 y1, .int .i64 y2, .int .i64 s1, .int .i64 s2, .string yname, .bool ydir, .bool ygone, .slice dA dn dc, .int .i64 c1, .int .i64 c2] 42)).size; omega
        rintro e w4 ⟨d4, rfl, hD4, hb4⟩
        obtain ⟨kA, kn, kc, rfl⟩ := hD4.form
        have hb8 := up_trans (hbA _) hb4
        have hZ4 := ((up_trans (up_alloc w2 _) hb4).block (w.heap.size + 1) hzw1).trans hZ2
        obtain ⟨⟨m0, m1, m2, m3, m4, m5, m6, m7, m8, m9⟩, fm⟩ := item_cells hZ4
        have ms7 : ∀ u, (w4.setCell ⟨w.heap.size + 1, 7, none⟩ u).cell? ⟨w.heap.size + 1, 7, none⟩ = some u := fun u => World.cell?_setCell_same _ _ _ m7
        have NZ : NotU8 w4 (w.heap.size + 1) := NotU8.of hZ4 (by decide)
        go_wp2_with fail
        refine bodyPost_ret (v := .tuple #[.agg #[.int .i64 i1, .int .i64 i2, .int .i64 p1, .int .i64 p2, .string name, .bool dir, .bool gone, .slice kA kn kc, .int .i64 b1, .int .i64 b2], .bool there, .int .i64 0]) (by simp [results, Tryz.results15, go_sem, m0, m1, m2, m3, m4, m5, m6, m7, m8, m9, ms7]) rfl ?_
        rw [E5.out (by simp) (by simp)]
        refine ⟨.slice kA kn kc, rfl, ?_, HT.out.up ?_, Below.to_grown ?_ _⟩
        · ((repeat (first | (with_reducible exact hD4) | (with_reducible refine Dat.set ?_ ?_ ?_ _))); all_goals first | ((try dsimp only); omega) | ((repeat (with_reducible refine NotU8.set ?_ _ _)); (with_reducible exact NZ)))
        · ((repeat (first | (with_reducible exact hb8) | (with_reducible refine up_set ?_ ?_ _) | (with_reducible refine up_trans ?_ (up_drew _)))); all_goals ((try dsimp only); omega))
        · ((repeat (first | (with_reducible exact hb8) | (with_reducible refine up_set ?_ ?_ _) | (with_reducible refine up_trans ?_ (up_drew _)))); all_goals ((try dsimp only); omega))
      · have hlen : (there = true ∨ L.length < 300) ∨ (there = false ∧ 300 ≤ L.length) := by
          cases there
          · rcases Nat.lt_or_ge L.length 300 with h | h
            · exact .inl (.inr h)
            · exact .inr ⟨rfl, h⟩
          · exact .inl (.inl rfl)
        have hlb := HT.out.2.2.2.2
        obtain ⟨es, clock, hmr, hes⟩ := hT2.2.2.2.1.len
        have hl : ∀ (o : Obj) ty, (Builtin.len_ #[106] ty #[.map (some r)]).run Tryz.prog (w2.alloc o) = .ok (.int .i64 L.length) (w2.alloc o) := fun o ty => by
          rw [run_len_map (w2.alloc o) 106 ty r es clock (by kernel_rfl) (((up_alloc w2 o).block r hltR).trans hmr), hes]; rfl
        clear hmr hes
        have hyn := EN.out (by simp)
        injection hyn with hy1 hy2
        subst hy1; subst hy2
        rcases hlen with hgo | ⟨hno, h3⟩
        · have hst : ∃ w3, (Instr.mapUpdate 106 (.map (some r)) (.agg #[.int .i64 y1, .int .i64 y2]) (.agg #[.int .i64 y1, .int .i64 y2, .int .i64 s1, .int .i64 s2, .string yname, .bool ydir, .bool ygone, .slice dA dn dc, .int .i64 c1, .int .i64 c2])).run Tryz.prog (w2.alloc (.cells #[.int .i64 y1, .int .i64 y2, .int .i64 s1, .int .i64 s2, .string yname, .bool ydir, .bool ygone, .slice dA dn dc, .int .i64 c1, .int .i64 c2] 42)).drew = .ok () w3 ∧ (w2.alloc (.cells #[.int .i64 y1, .int .i64 y2, .int .i64 s1, .int .i64 s2, .string yname, .bool ydir, .bool ygone, .slice dA dn dc, .int .i64 c1, .int .i64 c2] 42)).drew.grownBy w3 (some r) ∧ MapIs B w3 r (putI ⟨⟨y1, y2⟩, ⟨s1, s2⟩, yname, ydir, ygone, ydata, ⟨c1, c2⟩⟩ L) :=
            ((hT2.up (up_trans (up_alloc w2 (.cells #[.int .i64 y1, .int .i64 y2, .int .i64 s1, .int .i64 s2, .string yname, .bool ydir, .bool ygone, .slice dA dn dc, .int .i64 c1, .int .i64 c2] 42)) (up_drew _))).2.2.2.1).store hT2.2.2.1 ⟨⟨y1, y2⟩, ⟨s1, s2⟩, yname, ydir, ygone, ydata, ⟨c1, c2⟩⟩ (.slice dA dn dc) (hD2.up (up_trans (up_alloc _ _) (up_drew _)))
          obtain ⟨w3, hrun, hg3, hM3⟩ := hst
          have hbD := up_trans (up_alloc w2 (.cells #[.int .i64 y1, .int .i64 y2, .int .i64 s1, .int .i64 s2, .string yname, .bool ydir, .bool ygone, .slice dA dn dc, .int .i64 c1, .int .i64 c2] 42)) (up_drew _)
          have hsz3 := hg3.size
          have hszD := hbD.size
          have hV3 := (hg3.block w1.heap.size (by omega) (by intro e; injection e with e; omega)).trans ((hbD.block w1.heap.size hV2).trans hV)
          have hZ3 := (hg3.block (w.heap.size + 1) (by omega) (by intro e; injection e with e; omega)).trans ((hbD.block (w.heap.size + 1) hzw1).trans hZ2)
          have htr : tb ≠ r := by
            intro e
            have h1 := hT2.1
            rw [e] at h1
            exact hT2.2.2.2.1.noCells _ _ _ h1
          have hT3 := (hg3.block tb (by omega) (by intro e; injection e with e; exact htr e)).trans ((hbD.block tb hltT).trans hT2.1)
          have HX3 := (HX2.up hbD).grown hg3 hT2.2.2.1 (fun cs fr => (hT2.up hbD).2.2.2.1.noCells cs _ fr)
          have hlen3 : (putI ⟨⟨y1, y2⟩, ⟨s1, s2⟩, yname, ydir, ygone, ydata, ⟨c1, c2⟩⟩ L).length ≤ 300 := by
            rcases hgo with h | h
            · rw [HL.out (HTH.out.trans h)]; exact hlb
            · have := putI_length (it := ⟨⟨y1, y2⟩, ⟨s1, s2⟩, yname, ydir, ygone, ydata, ⟨c1, c2⟩⟩) (L := L); omega
          have hTT : TreeIs B w3 tb r (putI ⟨⟨y1, y2⟩, ⟨s1, s2⟩, yname, ydir, ygone, ydata, ⟨c1, c2⟩⟩ L) := ⟨hT3, hT2.2.1, hT2.2.2.1, hM3, hlen3⟩
          have hDo := E4.out (by simp) (by simp) hgo
          have hgt : there = true ∨ (there = false ∧ decide ((300 : Int) ≤ (L.length : Int)) = false) := by
            cases there
            · refine .inr ⟨rfl, decide_eq_false ?_⟩
              rcases hgo with h | h
              · cases h
              · omega
            · exact .inl rfl
          obtain ⟨⟨v0', v1', v2', v3', v4', v5', v6', v7', v8', v9'⟩, fv'⟩ := item_cells hV3
          have HGO := Lib.hid hgo
          clear hgo hlb
          rcases hgt with hgt | ⟨hgt, hgd⟩
          · subst hgt
            go_wp2_with fail
            go_region
            go_wp2_with fail
            refine (HOW.out _ ?_ HX3).mono ?_
            · omega
            rintro e w4 ⟨d4, rfl, hD4, hb4⟩
            obtain ⟨kA, kn, kc, rfl⟩ := hD4.form
            have hZ4 := (hb4.block (w.heap.size + 1) (by omega)).trans hZ3
            obtain ⟨⟨m0, m1, m2, m3, m4, m5, m6, m7, m8, m9⟩, fm⟩ := item_cells hZ4
            have ms7 : ∀ u, (w4.setCell ⟨w.heap.size + 1, 7, none⟩ u).cell? ⟨w.heap.size + 1, 7, none⟩ = some u := fun u => World.cell?_setCell_same _ _ _ m7
            have NZ : NotU8 w4 (w.heap.size + 1) := NotU8.of hZ4 (by decide)
            have hTF := hTT.up hb4
            have hGF := grown_trans (grown_trans (Below.to_grown (up_trans hb7 hbD) (some r)) hg3) (Below.to_grown hb4 (some r))
            go_wp2_with fail
            refine bodyPost_ret (v := .tuple #[.agg #[.int .i64 i1, .int .i64 i2, .int .i64 p1, .int .i64 p2, .string name, .bool dir, .bool gone, .slice kA kn kc, .int .i64 b1, .int .i64 b2], .bool true, .int .i64 0]) (by simp [results, Tryz.results15, go_sem, m0, m1, m2, m3, m4, m5, m6, m7, m8, m9, ms7]) rfl ?_
            rw [hDo]
            refine ⟨.slice kA kn kc, rfl, ?_, ?_, ?_⟩
            · ((repeat (first | (with_reducible exact hD4) | (with_reducible refine Dat.set ?_ ?_ ?_ _))); all_goals first | ((try dsimp only); omega) | ((repeat (with_reducible refine NotU8.set ?_ _ _)); (with_reducible exact NZ)))
            · ((repeat (first | (with_reducible exact hTF) | (with_reducible refine TreeIs.set ?_ ?_ ?_ ?_ ?_ _))); all_goals first | ((try dsimp only); omega) | ((repeat (with_reducible refine NotU8.set ?_ _ _)); (with_reducible exact NZ)))
            · ((repeat (first | (with_reducible exact hGF) | (with_reducible refine grown_set ?_ ?_ _))); all_goals ((try dsimp only); omega))
          · subst hgt
            go_wp2_with fail
            go_region
            go_wp2_with fail
            refine (HOW.out _ ?_ HX3).mono ?_
            · omega
            rintro e w4 ⟨d4, rfl, hD4, hb4⟩
            obtain ⟨kA, kn, kc, rfl⟩ := hD4.form
            have hZ4 := (hb4.block (w.heap.size + 1) (by omega)).trans hZ3
            obtain ⟨⟨m0, m1, m2, m3, m4, m5, m6, m7, m8, m9⟩, fm⟩ := item_cells hZ4
            have ms7 : ∀ u, (w4.setCell ⟨w.heap.size + 1, 7, none⟩ u).cell? ⟨w.heap.size + 1, 7, none⟩ = some u := fun u => World.cell?_setCell_same _ _ _ m7
            have NZ : NotU8 w4 (w.heap.size + 1) := NotU8.of hZ4 (by decide)
            have hTF := hTT.up hb4
            have hGF := grown_trans (grown_trans (Below.to_grown (up_trans hb7 hbD) (some r)) hg3) (Below.to_grown hb4 (some r))
            go_wp2_with fail
            refine bodyPost_ret (v := .tuple #[.agg #[.int .i64 i1, .int .i64 i2, .int .i64 p1, .int .i64 p2, .string name, .bool dir, .bool gone, .slice kA kn kc, .int .i64 b1, .int .i64 b2], .bool false, .int .i64 0]) (by simp [results, Tryz.results15, go_sem, m0, m1, m2, m3, m4, m5, m6, m7, m8, m9, ms7]) rfl ?_
            rw [hDo]
            refine ⟨.slice kA kn kc, rfl, ?_, ?_, ?_⟩
            · ((repeat (first | (with_reducible exact hD4) | (with_reducible refine Dat.set ?_ ?_ ?_ _))); all_goals first | ((try dsimp only); omega) | ((repeat (with_reducible refine NotU8.set ?_ _ _)); (with_reducible exact NZ)))
            · ((repeat (first | (with_reducible exact hTF) | (with_reducible refine TreeIs.set ?_ ?_ ?_ ?_ ?_ _))); all_goals first | ((try dsimp only); omega) | ((repeat (with_reducible refine NotU8.set ?_ _ _)); (with_reducible exact NZ)))
            · ((repeat (first | (with_reducible exact hGF) | (with_reducible refine grown_set ?_ ?_ _))); all_goals ((try dsimp only); omega))
        · obtain rfl := hno
          have hgd : decide ((300 : Int) ≤ (L.length : Int)) = true := decide_eq_true (by omega)
          have H3 := Lib.hid h3
          clear h3 hlb HOW HX hT2 HX2 hD2 E4 E5 EN HL HTH
          have hZ5 := fun o => ((up_alloc w2 o).block (w.heap.size + 1) hzw1).trans hZ2
          have hbA := fun o => up_trans hb7 (up_alloc w2 o)
          go_upto_region 16 with (fail)
          have hZ6 := hZ5 (.cells #[.int .i64 y1, .int .i64 y2, .int .i64 s1, .int .i64 s2, .string yname, .bool ydir, .bool ygone, .slice dA dn dc, .int .i64 c1, .int .i64 c2] 42)
          have hbB := hbA (.cells #[.int .i64 y1, .int .i64 y2, .int .i64 s1, .int .i64 s2, .string yname, .bool ydir, .bool ygone, .slice dA dn dc, .int .i64 c1, .int .i64 c2] 42)
          generalize w2.alloc (.cells #[.int .i64 y1, .int .i64 y2, .int .i64 s1, .int .i64 s2, .string yname, .bool ydir, .bool ygone, .slice dA dn dc, .int .i64 c1, .int .i64 c2] 42) = w5 at hZ6 hbB ⊢
          clear hZ5 hbA hl u0 u1 u2 u3 u4 u5 u6 u7 u8 u9 v0 v1 v2 v3 v4 v5 v6 v7 v8 v9 fu fv t0 t1 t2 t3 t4 t5 t6 t7 t8 t9 ft
          obtain ⟨⟨m0, m1, m2, m3, m4, m5, m6, m7, m8, m9⟩, fm⟩ := item_cells hZ6
          have ms7 : ∀ u, (w5.setCell ⟨w.heap.size + 1, 7, none⟩ u).cell? ⟨w.heap.size + 1, 7, none⟩ = some u := fun u => World.cell?_setCell_same _ _ _ m7
          go_wp2_with fail
          refine bodyPost_ret (v := .tuple #[itV nilI (.slice none 0 0), .bool false, .int .i64 3]) (by simp [results, Tryz.results15, go_sem, itV, nilI, nilS, m0, m1, m2, m3, m4, m5, m6, m7, m8, m9, ms7]) rfl ?_
          rw [E3.out (by simp) (by simp) (by simp) H3.out]
          refine ⟨_, rfl, Dat.nil B _, HT.out.up ?_, Below.to_grown ?_ _⟩
          · ((repeat (first | (with_reducible exact hbB) | (with_reducible refine up_set ?_ ?_ _) | (with_reducible refine up_trans ?_ (up_drew _)))); all_goals ((try dsimp only); omega))
          · ((repeat (first | (with_reducible exact hbB) | (with_reducible refine up_set ?_ ?_ _) | (with_reducible refine up_trans ?_ (up_drew _)))); all_goals ((try dsimp only); omega))
    · skip
      go_wp2_with fail
      refine (HDD.out _ (does_other k1 k2 k3) _ hb6).mono ?_
      rintro e w2 ⟨dA, dn, dc, rfl, hD2, hb2⟩
      have hb7 := up_trans hb6 hb2
      have hbV := up_trans (up_trans (up_alloc w1 (.cells #[.int .i64 i1, .int .i64 i2, .int .i64 p1, .int .i64 p2, .string name, .bool dir, .bool gone, .slice xA xn xc, .int .i64 b1, .int .i64 b2] 42)) (up_drew _)) hb2
      have hsz := hbV.size
      have hV : w2.heap[w1.heap.size]? = some (.cells #[.int .i64 i1, .int .i64 i2, .int .i64 p1, .int .i64 p2, .string name, .bool dir, .bool gone, .slice xA xn xc, .int .i64 b1, .int .i64 b2] 42 (0, 0)) := ((up_trans (up_drew _) hb2).block w1.heap.size (by show _ < (w1.alloc _).heap.size; simp)).trans (alloc_get0 w1 _)
      have hV2 : w1.heap.size < w2.heap.size := (Array.getElem?_eq_some_iff.1 hV).1
      have hZ2 := (hbV.block (w.heap.size + 1) hz3).trans hZ
      have hX2 := (hbV.block w.heap.size hz2).trans hX
      have hT2 := HT.out.up hb7
      obtain ⟨⟨v0, v1, v2, v3, v4, v5, v6, v7, v8, v9⟩, fv⟩ := item_cells hV
      obtain ⟨⟨u0, u1, u2, u3, u4, u5, u6, u7, u8, u9⟩, fu⟩ := item_cells hX2
      obtain ⟨⟨t0, t1, t2, t3, t4, t5, t6, t7, t8, t9⟩, ft⟩ := item_cells hZ2
      have HX2 := HX.out.up hb7
      have hcT : w2.cell? ⟨tb, 0, none⟩ = some (.map (some r)) := hT2.cell
      have hltT : tb < w2.heap.size := hT2.lt
      have hltR : r < w2.heap.size := hT2.2.2.2.1.lt
      have hzw : w.heap.size < w2.heap.size := by omega
      have hzw1 : w.heap.size + 1 < w2.heap.size := by omega
      clear HR HL0 HL1 HC0 HC1 HDD HK
      clear x0 x1 x2 x3 x4 x5 x6 x7 x8 x9 fx z0 z1 z2 z3 z4 z5 z6 z7 z8 z9 fz
      obtain ⟨⟨y1, y2⟩, ⟨s1, s2⟩, yname, ydir, ygone, ydata, ⟨c1, c2⟩⟩ := y
      simp only at hD2 E4 EN HL
      cases ok
      · go_wp2_with fail
        have hbA := fun o => up_trans hb7 (up_alloc w2 o)
        refine (HOW.out _ ?_ (HX2.up (up_alloc _ _))).mono ?_
        · have := (hbA (.cells #[.int .i64 y1, .int .i64 y2, .int .i64 s1, .int .i64 s2, .string yname, .bool ydir, .bool ygone, .slice dA dn dc, .int .i64 c1, .int .i64 c2] 42)).size; omega
        rintro e w4 ⟨d4, rfl, hD4, hb4⟩
        obtain ⟨kA, kn, kc, rfl⟩ := hD4.form
        have hb8 := up_trans (hbA _) hb4
        have hZ4 := ((up_trans (up_alloc w2 _) hb4).block (w.heap.size + 1) hzw1).trans hZ2
        obtain ⟨⟨m0, m1, m2, m3, m4, m5, m6, m7, m8, m9⟩, fm⟩ := item_cells hZ4
        have ms7 : ∀ u, (w4.setCell ⟨w.heap.size + 1, 7, none⟩ u).cell? ⟨w.heap.size + 1, 7, none⟩ = some u := fun u => World.cell?_setCell_same _ _ _ m7
        have NZ : NotU8 w4 (w.heap.size + 1) := NotU8.of hZ4 (by decide)
        go_wp2_with fail
        refine bodyPost_ret (v := .tuple #[.agg #[.int .i64 i1, .int .i64 i2, .int .i64 p1, .int .i64 p2, .string name, .bool dir, .bool gone, .slice kA kn kc, .int .i64 b1, .int .i64 b2], .bool there, .int .i64 0]) (by simp [results, Tryz.results15, go_sem, m0, m1, m2, m3, m4, m5, m6, m7, m8, m9, ms7]) rfl ?_
        rw [E5.out (by simp) (by simp)]
        refine ⟨.slice kA kn kc, rfl, ?_, HT.out.up ?_, Below.to_grown ?_ _⟩
        · ((repeat (first | (with_reducible exact hD4) | (with_reducible refine Dat.set ?_ ?_ ?_ _))); all_goals first | ((try dsimp only); omega) | ((repeat (with_reducible refine NotU8.set ?_ _ _)); (with_reducible exact NZ)))
        · ((repeat (first | (with_reducible exact hb8) | (with_reducible refine up_set ?_ ?_ _) | (with_reducible refine up_trans ?_ (up_drew _)))); all_goals ((try dsimp only); omega))
        · ((repeat (first | (with_reducible exact hb8) | (with_reducible refine up_set ?_ ?_ _) | (with_reducible refine up_trans ?_ (up_drew _)))); all_goals ((try dsimp only); omega))
      · have hlen : (there = true ∨ L.length < 300) ∨ (there = false ∧ 300 ≤ L.length) := by
          cases there
          · rcases Nat.lt_or_ge L.length 300 with h | h
            · exact .inl (.inr h)
            · exact .inr ⟨rfl, h⟩
          · exact .inl (.inl rfl)
        have hlb := HT.out.2.2.2.2
        obtain ⟨es, clock, hmr, hes⟩ := hT2.2.2.2.1.len
        have hl : ∀ (o : Obj) ty, (Builtin.len_ #[106] ty #[.map (some r)]).run Tryz.prog (w2.alloc o) = .ok (.int .i64 L.length) (w2.alloc o) := fun o ty => by
          rw [run_len_map (w2.alloc o) 106 ty r es clock (by kernel_rfl) (((up_alloc w2 o).block r hltR).trans hmr), hes]; rfl
        clear hmr hes
        have hyn := EN.out (by simp)
        injection hyn with hy1 hy2
        subst hy1; subst hy2
        rcases hlen with hgo | ⟨hno, h3⟩
        · have hst : ∃ w3, (Instr.mapUpdate 106 (.map (some r)) (.agg #[.int .i64 y1, .int .i64 y2]) (.agg #[.int .i64 y1, .int .i64 y2, .int .i64 s1, .int .i64 s2, .string yname, .bool ydir, .bool ygone, .slice dA dn dc, .int .i64 c1, .int .i64 c2])).run Tryz.prog (w2.alloc (.cells #[.int .i64 y1, .int .i64 y2, .int .i64 s1, .int .i64 s2, .string yname, .bool ydir, .bool ygone, .slice dA dn dc, .int .i64 c1, .int .i64 c2] 42)).drew = .ok () w3 ∧ (w2.alloc (.cells #[.int .i64 y1, .int .i64 y2, .int .i64 s1, .int .i64 s2, .string yname, .bool ydir, .bool ygone, .slice dA dn dc, .int .i64 c1, .int .i64 c2] 42)).drew.grownBy w3 (some r) ∧ MapIs B w3 r (putI ⟨⟨y1, y2⟩, ⟨s1, s2⟩, yname, ydir, ygone, ydata, ⟨c1, c2⟩⟩ L) :=
            ((hT2.up (up_trans (up_alloc w2 (.cells #[.int .i64 y1, .int .i64 y2, .int .i64 s1, .int .i64 s2, .string yname, .bool ydir, .bool ygone, .slice dA dn dc, .int .i64 c1, .int .i64 c2] 42)) (up_drew _))).2.2.2.1).store hT2.2.2.1 ⟨⟨y1, y2⟩, ⟨s1, s2⟩, yname, ydir, ygone, ydata, ⟨c1, c2⟩⟩ (.slice dA dn dc) (hD2.up (up_trans (up_alloc _ _) (up_drew _)))
          obtain ⟨w3, hrun, hg3, hM3⟩ := hst
          have hbD := up_trans (up_alloc w2 (.cells #[.int .i64 y1, .int .i64 y2, .int .i64 s1, .int .i64 s2, .string yname, .bool ydir, .bool ygone, .slice dA dn dc, .int .i64 c1, .int .i64 c2] 42)) (up_drew _)
          have hsz3 := hg3.size
          have hszD := hbD.size
          have hV3 := (hg3.block w1.heap.size (by omega) (by intro e; injection e with e; omega)).trans ((hbD.block w1.heap.size hV2).trans hV)
          have hZ3 := (hg3.block (w.heap.size + 1) (by omega) (by intro e; injection e with e; omega)).trans ((hbD.block (w.heap.size + 1) hzw1).trans hZ2)
          have htr : tb ≠ r := by
            intro e
            have h1 := hT2.1
            rw [e] at h1
            exact hT2.2.2.2.1.noCells _ _ _ h1
          have hT3 := (hg3.block tb (by omega) (by intro e; injection e with e; exact htr e)).trans ((hbD.block tb hltT).trans hT2.1)
          have HX3 := (HX2.up hbD).grown hg3 hT2.2.2.1 (fun cs fr => (hT2.up hbD).2.2.2.1.noCells cs _ fr)
          have hlen3 : (putI ⟨⟨y1, y2⟩, ⟨s1, s2⟩, yname, ydir, ygone, ydata, ⟨c1, c2⟩⟩ L).length ≤ 300 := by
            rcases hgo with h | h
            · rw [HL.out (HTH.out.trans h)]; exact hlb
            · have := putI_length (it := ⟨⟨y1, y2⟩, ⟨s1, s2⟩, yname, ydir, ygone, ydata, ⟨c1, c2⟩⟩) (L := L); omega
          have hTT : TreeIs B w3 tb r (putI ⟨⟨y1, y2⟩, ⟨s1, s2⟩, yname, ydir, ygone, ydata, ⟨c1, c2⟩⟩ L) := ⟨hT3, hT2.2.1, hT2.2.2.1, hM3, hlen3⟩
          have hDo := E4.out (by simp) (by simp) hgo
          have hgt : there = true ∨ (there = false ∧ decide ((300 : Int) ≤ (L.length : Int)) = false) := by
            cases there
            · refine .inr ⟨rfl, decide_eq_false ?_⟩
              rcases hgo with h | h
              · cases h
              · omega
            · exact .inl rfl
          obtain ⟨⟨v0', v1', v2', v3', v4', v5', v6', v7', v8', v9'⟩, fv'⟩ := item_cells hV3
          have HGO := Lib.hid hgo
          clear hgo hlb
          rcases hgt with hgt | ⟨hgt, hgd⟩
          · subst hgt
            go_wp2_with fail
            go_region
            go_wp2_with fail
            refine (HOW.out _ ?_ HX3).mono ?_
            · omega
            rintro e w4 ⟨d4, rfl, hD4, hb4⟩
            obtain ⟨kA, kn, kc, rfl⟩ := hD4.form
            have hZ4 := (hb4.block (w.heap.size + 1) (by omega)).trans hZ3
            obtain ⟨⟨m0, m1, m2, m3, m4, m5, m6, m7, m8, m9⟩, fm⟩ := item_cells hZ4
            have ms7 : ∀ u, (w4.setCell ⟨w.heap.size + 1, 7, none⟩ u).cell? ⟨w.heap.size + 1, 7, none⟩ = some u := fun u => World.cell?_setCell_same _ _ _ m7
            have NZ : NotU8 w4 (w.heap.size + 1) := NotU8.of hZ4 (by decide)
            have hTF := hTT.up hb4
            have hGF := grown_trans (grown_trans (Below.to_grown (up_trans hb7 hbD) (some r)) hg3) (Below.to_grown hb4 (some r))
            go_wp2_with fail
            refine bodyPost_ret (v := .tuple #[.agg #[.int .i64 i1, .int .i64 i2, .int .i64 p1, .int .i64 p2, .string name, .bool dir, .bool gone, .slice kA kn kc, .int .i64 b1, .int .i64 b2], .bool true, .int .i64 0]) (by simp [results, Tryz.results15, go_sem, m0, m1, m2, m3, m4, m5, m6, m7, m8, m9, ms7]) rfl ?_
            rw [hDo]
            refine ⟨.slice kA kn kc, rfl, ?_, ?_, ?_⟩
            · ((repeat (first | (with_reducible exact hD4) | (with_reducible refine Dat.set ?_ ?_ ?_ _))); all_goals first | ((try dsimp only); omega) | ((repeat (with_reducible refine NotU8.set ?_ _ _)); (with_reducible exact NZ)))
            · ((repeat (first | (with_reducible exact hTF) | (with_reducible refine TreeIs.set ?_ ?_ ?_ ?_ ?_ _))); all_goals first | ((try dsimp only); omega) | ((repeat (with_reducible refine NotU8.set ?_ _ _)); (with_reducible exact NZ)))
            · ((repeat (first | (with_reducible exact hGF) | (with_reducible refine grown_set ?_ ?_ _))); all_goals ((try dsimp only); omega))
          · subst hgt
            go_wp2_with fail
            go_region
            go_wp2_with fail
            refine (HOW.out _ ?_ HX3).mono ?_
            · omega
            rintro e w4 ⟨d4, rfl, hD4, hb4⟩
            obtain ⟨kA, kn, kc, rfl⟩ := hD4.form
            have hZ4 := (hb4.block (w.heap.size + 1) (by omega)).trans hZ3
            obtain ⟨⟨m0, m1, m2, m3, m4, m5, m6, m7, m8, m9⟩, fm⟩ := item_cells hZ4
            have ms7 : ∀ u, (w4.setCell ⟨w.heap.size + 1, 7, none⟩ u).cell? ⟨w.heap.size + 1, 7, none⟩ = some u := fun u => World.cell?_setCell_same _ _ _ m7
            have NZ : NotU8 w4 (w.heap.size + 1) := NotU8.of hZ4 (by decide)
            have hTF := hTT.up hb4
            have hGF := grown_trans (grown_trans (Below.to_grown (up_trans hb7 hbD) (some r)) hg3) (Below.to_grown hb4 (some r))
            go_wp2_with fail
            refine bodyPost_ret (v := .tuple #[.agg #[.int .i64 i1, .int .i64 i2, .int .i64 p1, .int .i64 p2, .string name, .bool dir, .bool gone, .slice kA kn kc, .int .i64 b1, .int .i64 b2], .bool false, .int .i64 0]) (by simp [results, Tryz.results15, go_sem, m0, m1, m2, m3, m4, m5, m6, m7, m8, m9, ms7]) rfl ?_
            rw [hDo]
            refine ⟨.slice kA kn kc, rfl, ?_, ?_, ?_⟩
            · ((repeat (first | (with_reducible exact hD4) | (with_reducible refine Dat.set ?_ ?_ ?_ _))); all_goals first | ((try dsimp only); omega) | ((repeat (with_reducible refine NotU8.set ?_ _ _)); (with_reducible exact NZ)))
            · ((repeat (first | (with_reducible exact hTF) | (with_reducible refine TreeIs.set ?_ ?_ ?_ ?_ ?_ _))); all_goals first | ((try dsimp only); omega) | ((repeat (with_reducible refine NotU8.set ?_ _ _)); (with_reducible exact NZ)))
            · ((repeat (first | (with_reducible exact hGF) | (with_reducible refine grown_set ?_ ?_ _))); all_goals ((try dsimp only); omega))
        · obtain rfl := hno
          have hgd : decide ((300 : Int) ≤ (L.length : Int)) = true := decide_eq_true (by omega)
          have H3 := Lib.hid h3
          clear h3 hlb HOW HX hT2 HX2 hD2 E4 E5 EN HL HTH
          have hZ5 := fun o => ((up_alloc w2 o).block (w.heap.size + 1) hzw1).trans hZ2
          have hbA := fun o => up_trans hb7 (up_alloc w2 o)
          go_upto_region 16 with (fail)
          have hZ6 := hZ5 (.cells #[.int .i64 y1, .int .i64 y2, .int .i64 s1, .int .i64 s2, .string yname, .bool ydir, .bool ygone, .slice dA dn dc, .int .i64 c1, .int .i64 c2] 42)
          have hbB := hbA (.cells #[.int .i64 y1, .int .i64 y2, .int .i64 s1, .int .i64 s2, .string yname, .bool ydir, .bool ygone, .slice dA dn dc, .int .i64 c1, .int .i64 c2] 42)
          generalize w2.alloc (.cells #[.int .i64 y1, .int .i64 y2, .int .i64 s1, .int .i64 s2, .string yname, .bool ydir, .bool ygone, .slice dA dn dc, .int .i64 c1, .int .i64 c2] 42) = w5 at hZ6 hbB ⊢
          clear hZ5 hbA hl u0 u1 u2 u3 u4 u5 u6 u7 u8 u9 v0 v1 v2 v3 v4 v5 v6 v7 v8 v9 fu fv t0 t1 t2 t3 t4 t5 t6 t7 t8 t9 ft
          obtain ⟨⟨m0, m1, m2, m3, m4, m5, m6, m7, m8, m9⟩, fm⟩ := item_cells hZ6
          have ms7 : ∀ u, (w5.setCell ⟨w.heap.size + 1, 7, none⟩ u).cell? ⟨w.heap.size + 1, 7, none⟩ = some u := fun u => World.cell?_setCell_same _ _ _ m7
          go_wp2_with fail
          refine bodyPost_ret (v := .tuple #[itV nilI (.slice none 0 0), .bool false, .int .i64 3]) (by simp [results, Tryz.results15, go_sem, itV, nilI, nilS, m0, m1, m2, m3, m4, m5, m6, m7, m8, m9, ms7]) rfl ?_
          rw [E3.out (by simp) (by simp) (by simp) H3.out]
          refine ⟨_, rfl, Dat.nil B _, HT.out.up ?_, Below.to_grown ?_ _⟩
          · ((repeat (first | (with_reducible exact hbB) | (with_reducible refine up_set ?_ ?_ _) | (with_reducible refine up_trans ?_ (up_drew _)))); all_goals ((try dsimp only); omega))
          · ((repeat (first | (with_reducible exact hbB) | (with_reducible refine up_set ?_ ?_ _) | (with_reducible refine up_trans ?_ (up_drew _)))); all_goals ((try dsimp only); omega))
end Go.Proofs.YtefhfoioeoijlaaGreatDoor

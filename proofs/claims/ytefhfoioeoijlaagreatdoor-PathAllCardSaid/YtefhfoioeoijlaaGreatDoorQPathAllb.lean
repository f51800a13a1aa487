/- Pth6, Pth7, Pth8, Met, PI -/
import Derived.ArgAppend
import Derived.Test.YtefhfoioeoijlaaGreatDoorQaa
import Derived.Test.YtefhfoioeoijlaaGreatDoorQab
import Derived.Test.YtefhfoioeoijlaaGreatDoorQac
import Derived.Test.YtefhfoioeoijlaaGreatDoorQad
import Derived.Test.YtefhfoioeoijlaaGreatDoorQae
import Derived.Test.YtefhfoioeoijlaaGreatDoorQaf
import Derived.Test.YtefhfoioeoijlaaGreatDoorQag
import Derived.Test.YtefhfoioeoijlaaGreatDoorQah
import Derived.Test.YtefhfoioeoijlaaGreatDoorQai
import Derived.Test.YtefhfoioeoijlaaGreatDoorQaj
import Derived.Test.YtefhfoioeoijlaaGreatDoorQak
import Derived.Test.YtefhfoioeoijlaaGreatDoorQal
import Derived.Test.YtefhfoioeoijlaaGreatDoorQam
import Derived.Test.YtefhfoioeoijlaaGreatDoorQan
import Derived.Test.YtefhfoioeoijlaaGreatDoorQao
import Derived.Test.YtefhfoioeoijlaaGreatDoorQap
import Derived.Test.YtefhfoioeoijlaaGreatDoorQaq
import Derived.Test.YtefhfoioeoijlaaGreatDoorQar
import Derived.Test.YtefhfoioeoijlaaGreatDoorQas
import Derived.Test.YtefhfoioeoijlaaGreatDoorQat
import Derived.Test.YtefhfoioeoijlaaGreatDoorQau
import Derived.Test.YtefhfoioeoijlaaGreatDoorQav
import Derived.Test.YtefhfoioeoijlaaGreatDoorQPathAlla
set_option linter.unusedVariables false
set_option linter.unusedSimpArgs false
namespace Go.Proofs.YtefhfoioeoijlaaGreatDoor
open Go Go.RowKit Go.Sort
theorem index1_miss {c : UInt8} : ∀ {s : List UInt8}, c ∉ s → Lib.index s [c] = -1
  | [], _ => rfl
  | b :: l, h => by
    have ih := index1_miss (c := c) (s := l) (fun e => h (by simp [e]))
    have hb : c ≠ b := fun e => h (by simp [e])
    rw [Lib.index, ih]; simp [List.isPrefixOf, hb]
theorem index1_hit {c : UInt8} : ∀ {x : List UInt8} (l : List UInt8), c ∉ x → Lib.index (x ++ c :: l) [c] = x.length
  | [], l, _ => by simp [Lib.index, List.isPrefixOf]
  | b :: x, l, h => by
    have ih := index1_hit (c := c) (x := x) l (fun e => h (by simp [e]))
    have hb : c ≠ b := fun e => h (by simp [e])
    have hn : ¬ ((x.length : Nat) : Int) = -1 := by omega
    rw [List.cons_append, Lib.index, ih]; simp [List.isPrefixOf, hb, hn]
theorem cut_none {s : ByteArray} {c : UInt8} (h : c ∉ s.data.toList) : cutA s c = s ∧ cutB s c = false := by
  have e : Lib.cut s.data.toList [c] = (s.data.toList, [], false) := by
    unfold Lib.cut; rw [index1_miss h, if_neg (by decide)]
  unfold cutA cutB; rw [e]
  exact ⟨bys_of s, rfl⟩
theorem cut_some {s : ByteArray} {c : UInt8} {x l : List UInt8} (e : s.data.toList = x ++ c :: l) (h : c ∉ x) : cutA s c = bys x ∧ cutZ s c = bys l ∧ cutB s c = true := by
  have e2 : Lib.cut s.data.toList [c] = (x, l, true) := by
    unfold Lib.cut
    rw [e, index1_hit l h, if_pos (by omega)]
    have h1 : ((x.length : Nat) : Int).toNat = x.length := Int.toNat_natCast _
    rw [h1, List.take_left, List.drop_append]
    simp
  unfold cutA cutZ cutB; rw [e2]
  exact ⟨rfl, rfl, rfl⟩
theorem dig_in {c : UInt8} (h : 48 ≤ c.toNat ∧ c.toNat ≤ 57) : digs.data.toList.contains c = true := by
  have h2 : c.toNat = 48 ∨ c.toNat = 49 ∨ c.toNat = 50 ∨ c.toNat = 51 ∨ c.toNat = 52 ∨ c.toNat = 53 ∨ c.toNat = 54 ∨ c.toNat = 55 ∨ c.toNat = 56 ∨ c.toNat = 57 := by omega
  have key : ∀ k : Nat, c.toNat = k → c = UInt8.ofNat k := fun k e => by rw [← e]; simp
  rcases h2 with e | e | e | e | e | e | e | e | e | e <;> rw [key _ e] <;> decide
theorem drop_all {p : UInt8 → Bool} : ∀ {l : List UInt8}, (∀ c ∈ l, p c = true) → l.dropWhile p = []
  | [], _ => rfl
  | b :: l, h => by rw [List.dropWhile_cons, if_pos (h b (by simp))]; exact drop_all (fun c hc => h c (by simp [hc]))
theorem dig_yes {d : Int} {l : List UInt8} (h : ∀ c ∈ l, 48 ≤ c.toNat ∧ c.toNat ≤ 57) (h1 : 1 ≤ l.length) (h2 : (l.length : Int) ≤ d) : digB d (bys l) = true := by
  have hs : (bys l).size = l.length := by simp [bys, ByteArray.size]
  have e1 : l.reverse.dropWhile (digs.data.toList.contains ·) = [] := drop_all fun c hc => dig_in (h c (List.mem_reverse.1 hc))
  have e2 : trimD (bys l) = ⟨#[]⟩ := by
    unfold trimD Lib.trimS Lib.trimRightS Lib.trimLeftS
    rw [bys_data, e1]; rfl
  refine dig_3 (by rw [hs]; omega) (by rw [hs]; exact h2) (decide_eq_true e2)
theorem dec_ne (u : Nat) : 1 ≤ (Lib.decDigits u).length := by
  rw [Lib.decDigits]
  split <;> simp
theorem dec_len : ∀ (k u : Nat), u < 10 ^ (k + 1) → (Lib.decDigits u).length ≤ k + 1
  | 0, u, h => by rw [Lib.decDigits, dif_pos (by simpa using h)]; simp
  | k + 1, u, h => by
    rw [Lib.decDigits]
    split
    · simp
    · have h2 : u / 10 < 10 ^ (k + 1) := Nat.div_lt_of_lt_mul (by rw [Nat.pow_succ] at h; omega)
      have := dec_len k (u / 10) h2
      simp only [List.length_append, List.length_cons, List.length_nil]; omega
theorem itoa_dig {n : Int} (h : 0 ≤ n) : ∀ c ∈ Lib.itoa n, 48 ≤ c.toNat ∧ c.toNat ≤ 57 := by rw [itoa_pos h]; exact dec_digit _
theorem itoa_ne {n : Int} (h : 0 ≤ n) : 1 ≤ (Lib.itoa n).length := by rw [itoa_pos h]; exact dec_ne _
theorem itoa_len {n : Int} {k : Nat} (h : 0 ≤ n) (h2 : n.toNat < 10 ^ (k + 1)) : (Lib.itoa n).length ≤ k + 1 := by rw [itoa_pos h]; exact dec_len k _ h2
theorem name_noslash {s : ByteArray} (h : nameB s = true) : (47 : UInt8) ∉ s.data.toList := fun hm => by
  unfold nameB at h
  simp only [Bool.and_eq_true, decide_eq_true_eq] at h
  have h1 := h.2.2.2
  unfold nameCh at h1
  have := List.all_eq_true.1 h1 _ hm
  exact absurd this (by decide)
theorem part_name {s : ByteArray} (h : nameB s = true) : partB s = true := by
  have h1 := cut_none (nameB_ok h).1
  exact part_2 (by rw [h1.1]; exact h) h1.2
theorem part_mark {x : Item} (hn : nameB x.name = true) (hx : OKI x) : partB (x.name ++ markB x.node) = true := by
  have e : (x.name ++ markB x.node).data.toList = x.name.data.toList ++ 126 :: (Lib.itoa x.node.t ++ 46 :: Lib.itoa x.node.w) := by
    have := markB_list x.node
    simp only [markL] at this
    rw [← this]; simp
  obtain ⟨h1, h2, h3, h4, h5, h6⟩ := hx
  obtain ⟨a1, a2, a3⟩ := cut_some e h1
  obtain ⟨b1, b2, b3⟩ := cut_some (s := cutZ (x.name ++ markB x.node) 126) (c := 46) (x := Lib.itoa x.node.t) (l := Lib.itoa x.node.w) (by rw [a2]; rfl) (itoa_no h2 (by decide))
  rw [bys_of] at a1
  refine part_3 (by rw [a1]; exact hn) a3 ?_
  rw [b1, b2, b3, dig_yes (itoa_dig h2) (itoa_ne h2) (by have := itoa_len (k := 12) h2 (by omega); omega), dig_yes (itoa_dig h3) (itoa_ne h3) (by have := itoa_len (k := 0) h3 (by omega); omega)]
  rfl
theorem mark_noslash {s : Stamp} (h : 0 ≤ s.t) (h2 : 0 ≤ s.w) : (47 : UInt8) ∉ markL s := by
  intro hm
  simp only [markL, List.mem_cons, List.mem_append] at hm
  rcases hm with e | e | e | e
  · exact absurd e (by decide)
  · exact itoa_no h (by decide) e
  · exact absurd e (by decide)
  · exact itoa_no h2 (by decide) e
def Named (L : List Item) : Prop := ∀ x ∈ L, nameB x.name = true
theorem named_do {L : List Item} (h : Fit L) (hn : Named L) (o : OpD) : Named (doI L o).2 := by
  unfold doI
  split
  · exact hn
  · split
    · exact hn
    · rename_i h1 h2
      show ∀ x ∈ (if (nowI L (gotI L o.node) o).2 = true then putI (nowI L (gotI L o.node) o).1 L else L), nameB x.name = true
      split
      · rename_i h3
        intro x hx
        rcases mem_put h.wf.srt hx with rfl | ⟨hx, _⟩
        · have hr : rightB o = true := by simpa using h1
          have hs : stR o.node = true := by unfold rightB at hr; simp only [Bool.and_eq_true] at hr; exact hr.2.1
          have hb : bodyB o = true := by unfold rightB at hr; simp only [Bool.and_eq_true] at hr; exact hr.2.2.2.2
          have hnn : o.node ≠ nilS := by intro e; rw [e] at hs; cases hs
          have same : (gotI L o.node).node = o.node → nameB (gotI L o.node).name = true := fun e => hn _ (getI_some (got_some hnn e)).1
          unfold nowI at h3 ⊢
          by_cases k1 : o.kind = 1
          · rw [if_pos k1] at h3 ⊢
            unfold bodyB at hb
            rw [if_pos k1] at hb
            simp only [Bool.and_eq_true] at hb
            exact hb.2.1
          · rw [if_neg k1] at h3 ⊢
            by_cases k2 : o.kind = 2
            · rw [if_pos k2] at h3 ⊢
              unfold bodyB at hb
              rw [if_neg k1, if_pos k2] at hb
              simp only [Bool.and_eq_true] at hb
              exact hb.2
            · rw [if_neg k2] at h3 ⊢
              by_cases k3 : o.kind = 3
              · rw [if_pos k3] at h3 ⊢
                exact same (of_decide_eq_true h3)
              · rw [if_neg k3] at h3 ⊢
                simp only [Bool.and_eq_true, decide_eq_true_eq] at h3
                exact same h3.1
        · exact hn x hx
      · exact hn
theorem named_fold : ∀ {l : List OpD} {L : List Item}, Fit L → Named L → Named (l.foldl playI L)
  | [], _, _, hn => hn
  | o :: l, _, h, hn => named_fold (l := l) (fit_do h o) (named_do h hn o)
theorem named_build (os : List OpD) : Named (buildI os) := named_fold ⟨Wf.nil, by simp, by simp⟩ (fun x hx => absurd hx (by simp))
def GoodP (x : ByteArray) : Prop := partB x = true ∧ (47 : UInt8) ∉ x.data.toList ∧ x.data.toList.length ≤ 100
theorem ent_good {L : List Item} (hF : Fit L) (hN : Named L) {n : Stamp} {e : EntD} (he : e ∈ entsI (kidsI n L)) : GoodP e.name := by
  have hshort := ents_short (hF.kids n).1 e he
  obtain ⟨k, hk⟩ := List.mem_iff_getElem?.1 he
  obtain ⟨x, hx, rfl⟩ := entsI_at hk
  have hxk := List.mem_of_getElem? hx
  have hxL := (kids_mem.1 hxk).1
  have ho := hF.ok x hxL
  have hn := hN x hxL
  refine ⟨?_, ?_, hshort⟩
  · unfold entOf
    by_cases h : metB (namesI ((kidsI n L).take k)) x.name = true
    · simp only [if_pos h]; exact part_mark hn ho
    · simp only [if_neg h]; exact part_name hn
  · rw [ent_name]
    split
    · intro hm
      rcases List.mem_append.1 hm with hm | hm
      · exact name_noslash hn hm
      · exact mark_noslash ho.2.1 ho.2.2.1 hm
    · exact name_noslash hn
theorem node_step {L : List Item} (hF : Fit L) {m : Stamp} (hm : m ≠ nilS) (hh : hangsI L 301 m = true) :
    hangsI L 301 (gotI L m).parent = true ∧ kidK L (gotI L m).parent = 0 ∧ ∃ e ∈ entsI (kidsI (gotI L m).parent L), e.node = m ∧ e.name = shownB L m := by
  have hg : ∃ x, getI L m = some x := by
    have h2 : hangsI L (300 + 1) m = true := hh
    rw [hangsI, if_neg hm] at h2
    cases hg : getI L m with
    | none => rw [hg] at h2; cases h2
    | some x => exact ⟨x, rfl⟩
  obtain ⟨x, hg⟩ := hg
  obtain ⟨hxL, hxn⟩ := getI_some hg
  have hG : gotI L m = x := by unfold gotI; rw [hg]; rfl
  have hH : hasI L m = true := by unfold hasI; rw [hg]; rfl
  have hI := hF.wf.item hF.len hxL
  have h4 := hI.2.2.2.1
  rw [hxn, hh] at h4
  have h5 : x.gone = false ∧ hangsI L 301 x.parent = true := by
    have := h4.symm
    simpa using this
  rw [hG]
  have hk : kidK L x.parent = 0 := by
    unfold kidK
    rw [if_neg (by rw [h5.2]; decide)]
    by_cases e : x.parent = nilS
    · have : hasI L x.parent = false := by rw [e]; unfold hasI; rw [hF.wf.nope]; rfl
      rw [this]; rfl
    · have := hI.2.2.1 e
      rw [this.1, this.2]; rfl
  refine ⟨h5.2, hk, ?_⟩
  have hkid : x ∈ kidsI x.parent L := kids_mem.2 ⟨hxL, rfl, h5.1⟩
  obtain ⟨k, hkk⟩ := List.mem_iff_getElem?.1 hkid
  have he := List.mem_of_getElem? (entsI_get hkk)
  have hen : (entOf (namesI ((kidsI x.parent L).take k)) x).node = m := hxn
  refine ⟨_, he, hen, ?_⟩
  have := (hF.shown hk he).1
  rw [hen] at this
  exact this.symm
theorem wk_app {L : List Item} {t : List ByteArray} {p : Stamp} : ∀ {l : List ByteArray} {m : Stamp}, wkS L l m = (p, 0) → wkS L (l ++ t) m = wkS L t p
  | [], m, h => by
    have h2 : (m, (0 : Int)) = (p, 0) := h
    injection h2 with h2 _
    rw [h2]; rfl
  | x :: l, m, h => by
    rw [wkS] at h
    split at h
    · rename_i hc
      rw [List.cons_append, wkS, if_pos hc]
      exact wk_app h
    · rename_i hc
      injection h with _ h
      exact absurd h hc
theorem wk_one {L : List Item} {p : Stamp} {x : ByteArray} (h : findK L p x = 0) : wkS L [x] p = ((findE L p x).node, 0) := by
  rw [wkS, if_pos h]; rfl
theorem climb {L : List Item} (hF : Fit L) (hN : Named L) : ∀ (f : Nat) (m : Stamp) (acc l : List ByteArray), hangsI L 301 m = true → ofL L f m acc = some l →
    ∃ t, l = acc ++ t ∧ t.length ≤ f ∧ (∀ x ∈ t, GoodP x) ∧ wkS L t.reverse nilS = (m, 0)
  | 0, m, acc, l, hh, e => by
    unfold ofL at e
    split at e
    · rename_i hm
      injection e with e
      exact ⟨[], by simp [e], Nat.le_refl _, fun x hx => absurd hx (by simp), by rw [hm]; rfl⟩
    · cases e
  | f + 1, m, acc, l, hh, e => by
    unfold ofL at e
    split at e
    · rename_i hm
      injection e with e
      exact ⟨[], by simp [e], Nat.zero_le _, fun x hx => absurd hx (by simp), by rw [hm]; rfl⟩
    · rename_i hm
      obtain ⟨h1, h2, y, hy, hyn, hys⟩ := node_step hF hm hh
      obtain ⟨t, ht, hlen, hgood, hwk⟩ := climb hF hN f _ _ _ h1 e
      have hf := hF.found h2 hy
      rw [hys] at hf
      refine ⟨shownB L m :: t, by rw [ht]; simp, by simp; omega, fun x hx => ?_, ?_⟩
      · rcases List.mem_cons.1 hx with rfl | hx
        · rw [← hys]; exact ent_good hF hN hy
        · exact hgood x hx
      · rw [List.reverse_cons, wk_app hwk, wk_one hf.2, hf.1, hyn]
theorem parse_path {l : List ByteArray} (hl : l.length ≤ 16) (h : ∀ x ∈ l, GoodP x) : parseL ((⟨#[47]⟩ : ByteArray) ++ joinB l) = l ∧ parseK ((⟨#[47]⟩ : ByteArray) ++ joinB l) = 0 := by
  have h4 := slash_add (joinB l)
  by_cases hn : l = []
  · have := parse_2 h4.1 (by rw [h4.2, hn]; rfl)
    rw [hn] at this ⊢
    exact this
  · have hne : joinB l ≠ ⟨#[]⟩ := fun e => by
      have h1 := (join_wid l).2 hn
      rw [e] at h1
      obtain ⟨y, t, rfl⟩ : ∃ y t, l = y :: t := List.exists_cons_of_ne_nil hn
      have h2 := part_pos (h y (by simp)).1
      have h3 : wid (y :: t) = y.size + 1 + wid t := by simp [wid]
      have h5 : (⟨#[]⟩ : ByteArray).size = 0 := rfl
      omega
    have e : splB (restB ((⟨#[47]⟩ : ByteArray) ++ joinB l)) = l := by rw [h4.2]; exact splB_join hn (fun x hx => (h x hx).2.1)
    have hk : showK l = 0 := (show_3 hl (List.all_eq_true.2 fun x hx => (h x hx).1)).2
    have := parse_4 h4.1 (by rw [h4.2]; exact hne) (by rw [e]; exact hk)
    rw [e] at this
    exact this
theorem rev_good {t : List ByteArray} (h : ∀ x ∈ t, GoodP x) : ∀ x ∈ t.reverse, GoodP x := fun x hx => h x (List.mem_reverse.1 hx)
theorem leads {L : List Item} (hF : Fit L) (hN : Named L) {m : Stamp} (hh : hangsI L 301 m = true) (hk : ofK L m ≠ 3) : ofK L m = 0 ∧ walkK L (ofB L m) = 0 ∧ walkS L (ofB L m) = m := by
  cases e : ofL L 16 m [] with
  | none => exact absurd (of_deep hh e).2 hk
  | some l =>
    obtain ⟨t, ht, hlen, hgood, hwk⟩ := climb hF hN 16 m [] l hh e
    have ht' : l = t := by simpa using ht
    subst ht'
    have ho := of_yes hh e
    have hp := parse_path (l := l.reverse) (by simpa using hlen) (rev_good hgood)
    have hw := walk_is (L := L) (s := pathB l) (m := m) (k := 0) hp.2 (by show wkS L (parseL (pathB l)) nilS = _; unfold pathB; rw [hp.1]; exact hwk)
    rw [ho.1]
    exact ⟨ho.2, hw.2, hw.1⟩
theorem of_size {L : List Item} (hF : Fit L) (hN : Named L) (m : Stamp) : (ofB L m).size ≤ 1700 := by
  cases hh : hangsI L 301 m with
  | false => rw [(of_no hh).1]; exact Nat.zero_le _
  | true =>
    cases e : ofL L 16 m [] with
    | none => rw [(of_deep hh e).1]; exact Nat.zero_le _
    | some l =>
      obtain ⟨t, ht, hlen, hgood, _⟩ := climb hF hN 16 m [] l hh e
      have ht' : l = t := by simpa using ht
      subst ht'
      have h1 := joinB_short (l := l) (fun x hx => (hgood x hx).2.2) hlen
      rw [(of_yes hh e).1]
      unfold pathB
      rw [ByteArray.size_append]
      have h5 : (⟨#[47]⟩ : ByteArray).size = 1 := rfl
      omega
end Go.Proofs.YtefhfoioeoijlaaGreatDoor
set_option linter.unusedVariables false
set_option linter.unusedSimpArgs false
namespace Go.Proofs.YtefhfoioeoijlaaGreatDoor
open Go Go.RowKit Go.Sort
section
variable {P : Program} {d : Option Tmp} {ty : TypeId} {pos : String} {af : Array Edge} {g : Option (Nat × Bool)} {ρ : Operand → Value} {w : World}
def tailA (A : Option Addr) (c : Nat) : Option Addr := if c = 1 then A else A.map (·.add 1)
theorem r_slTail {t : TypeId} {x lo : Operand} {A : Option Addr} {n c m : Nat} {e : TypeId} (hx : ρ x = .slice A n c) (hlo : ρ lo = .int .i64 1) (hm : m = n - 1) (hn : 1 ≤ n) (hc : n ≤ c) (hu : P.underlying t = some (.slice e)) (hs : ∀ w : World, (sizeOf e).run P w = .ok 1 w) :
    (execOp ρ ⟨d, .slice t x (some lo) none none, ty, pos, af, g⟩).run P w = .ok (.value (.slice (tailA A c) m (c - 1))) w := by
  subst hm
  have h1 : (0 : Int) ≤ 1 ∧ (1 : Int) ≤ (n : Int) := by omega
  have h2 : (1 : Int) ≤ (n : Int) := by omega
  simp [execOp, hx, hlo, Instr.sliceAt, Instr.slice, Instr.sliceBounds, Instr.sliceBound, asIntOf, run_underlying hu, hs, h1, h2, tailA]
end
end Go.Proofs.YtefhfoioeoijlaaGreatDoor
set_option linter.unusedVariables false
set_option linter.unusedSimpArgs false
namespace Go.Proofs.YtefhfoioeoijlaaGreatDoor
open Go Go.RowKit Go.Sort
theorem le_tr (a b c : List UInt8) (h1 : decide (a ≤ b) = true) (h2 : decide (b ≤ c) = true) : decide (a ≤ c) = true := by
  simp only [decide_eq_true_eq] at *
  exact List.le_trans h1 h2
theorem le_to (a b : List UInt8) : (decide (a ≤ b) || decide (b ≤ a)) = true := by
  simp only [Bool.or_eq_true, decide_eq_true_eq]
  exact List.le_total a b
theorem lt_of (a b : List UInt8) (h : a ≤ b) (hn : a ≠ b) : a < b := by
  rcases List.le_iff_lt_or_eq.1 h with h | h
  · exact h
  · exact absurd h hn
def sortB (D : List ByteArray) : List ByteArray := ((D.map (·.data.toList)).mergeSort fun x y => decide (x ≤ y)).map bys
theorem sortB_data (D : List ByteArray) : (sortB D).map (·.data.toList) = (D.map (·.data.toList)).mergeSort fun x y => decide (x ≤ y) := by
  unfold sortB; rw [List.map_map]; exact List.map_id _
theorem sortB_perm (D : List ByteArray) : (sortB D).Perm D := by
  have h := (List.mergeSort_perm (D.map (·.data.toList)) fun x y => decide (x ≤ y)).map bys
  rw [List.map_map] at h
  have e : (bys ∘ fun x : ByteArray => x.data.toList) = id := by funext x; exact bys_of x
  rw [e, List.map_id] at h
  exact h
theorem sortB_len (D : List ByteArray) : (sortB D).length = D.length := (sortB_perm D).length_eq
theorem sortB_sorted (D : List ByteArray) : (sortB D).Pairwise fun x y => x.data.toList ≤ y.data.toList := by
  have h := List.pairwise_mergeSort le_tr le_to (D.map (·.data.toList))
  unfold sortB
  rw [List.pairwise_map]
  refine h.imp (fun h => ?_)
  exact of_decide_eq_true h
def pathO (L : List Item) (x : Item) : List ByteArray := if ofK L x.node = 0 then [ofB L x.node] else []
def pathsI (L M : List Item) : List ByteArray := M.flatMap (pathO L)
def allB (L : List Item) : List ByteArray := ⟨#[47]⟩ :: sortB (pathsI L L)
theorem paths_yes {L M : List Item} {k : Nat} {x : Item} (hx : M[k]? = some x) (h : ofK L x.node = 0) : (⟨#[47]⟩ :: pathsI L (M.take k)) ++ [ofB L x.node] = (⟨#[47]⟩ : ByteArray) :: pathsI L (M.take (k + 1)) := by
  unfold pathsI
  rw [List.take_add_one, hx, List.flatMap_append]
  simp [pathO, h]
theorem paths_no {L M : List Item} {k : Nat} {x : Item} (hx : M[k]? = some x) (h : ¬ ofK L x.node = 0) : pathsI L (M.take k) = pathsI L (M.take (k + 1)) := by
  unfold pathsI
  rw [List.take_add_one, hx, List.flatMap_append]
  simp [pathO, h]
theorem paths_len (L M : List Item) : (pathsI L M).length ≤ M.length := by
  induction M with
  | nil => simp [pathsI]
  | cons x M ih =>
    have e : pathsI L (x :: M) = pathO L x ++ pathsI L M := by simp [pathsI]
    have h1 : (pathO L x).length ≤ 1 := by unfold pathO; split <;> simp
    rw [e, List.length_append, List.length_cons]; omega
theorem of_zero {L : List Item} {m : Stamp} (h : ofK L m = 0) : hangsI L 301 m = true ∧ ofK L m ≠ 3 := by
  refine ⟨?_, by rw [h]; decide⟩
  cases hh : hangsI L 301 m with
  | true => rfl
  | false => rw [(of_no hh).2] at h; cases h
theorem paths_mem {L : List Item} {x : ByteArray} (h : x ∈ pathsI L L) : ∃ y ∈ L, ofK L y.node = 0 ∧ x = ofB L y.node := by
  unfold pathsI at h
  obtain ⟨y, hy, hx⟩ := List.mem_flatMap.1 h
  unfold pathO at hx
  split at hx
  · rename_i h0; exact ⟨y, hy, h0, by simpa using hx⟩
  · cases hx
theorem paths_walk {L : List Item} (hF : Fit L) (hN : Named L) {x : ByteArray} (h : x ∈ pathsI L L) : ∃ y ∈ L, walkK L x = 0 ∧ walkS L x = y.node := by
  obtain ⟨y, hy, h0, rfl⟩ := paths_mem h
  have hz := of_zero h0
  have hl := leads hF hN hz.1 hz.2
  exact ⟨y, hy, hl.2.1, hl.2.2⟩
theorem paths_apart {L : List Item} (hF : Fit L) (hN : Named L) : (pathsI L L).Pairwise fun x y => walkS L x ≠ walkS L y := by
  unfold pathsI
  rw [List.pairwise_flatMap]
  refine ⟨fun a _ => ?_, ?_⟩
  · unfold pathO; split <;> simp
  · refine (srt_apart hF.wf.srt).imp (fun {a b} hab x hx y hy => ?_)
    unfold pathO at hx hy
    split at hx
    · rename_i ha
      split at hy
      · rename_i hb
        simp at hx hy
        subst hx; subst hy
        have h1 := of_zero ha; have h2 := of_zero hb
        rw [(leads hF hN h1.1 h1.2).2.2, (leads hF hN h2.1 h2.2).2.2]
        exact hab
      · cases hy
    · cases hx
theorem root_walk (L : List Item) : walkK L ⟨#[47]⟩ = 0 ∧ walkS L ⟨#[47]⟩ = nilS := ⟨rfl, rfl⟩
theorem allB_walk {L : List Item} (hF : Fit L) (hN : Named L) {x : ByteArray} (h : x ∈ allB L) : walkK L x = 0 := by
  unfold allB at h
  rcases List.mem_cons.1 h with rfl | h
  · exact (root_walk L).1
  · obtain ⟨y, _, hw, _⟩ := paths_walk hF hN ((sortB_perm _).mem_iff.1 h)
    exact hw
theorem sort_apart {L : List Item} (hF : Fit L) (hN : Named L) : (sortB (pathsI L L)).Pairwise fun x y => walkS L x ≠ walkS L y :=
  (sortB_perm _).symm.pairwise (paths_apart hF hN) (fun h => Ne.symm h)
theorem allB_apart {L : List Item} (hF : Fit L) (hN : Named L) : (allB L).Pairwise fun x y => walkS L x ≠ walkS L y := by
  unfold allB
  refine List.pairwise_cons.2 ⟨fun x hx => ?_, sort_apart hF hN⟩
  obtain ⟨y, hy, _, hw⟩ := paths_walk hF hN ((sortB_perm _).mem_iff.1 hx)
  rw [hw, (root_walk L).2]
  exact (hF.wf.nonil y hy).symm
theorem allB_new {L : List Item} (hF : Fit L) (hN : Named L) {i j : Nat} {x y : ByteArray} (hij : j < i) (hx : (allB L)[j]? = some x) (hy : (allB L)[i]? = some y) : walkS L x ≠ walkS L y := by
  obtain ⟨h1, rfl⟩ := List.getElem?_eq_some_iff.1 hx
  obtain ⟨h2, rfl⟩ := List.getElem?_eq_some_iff.1 hy
  exact List.pairwise_iff_getElem.1 (allB_apart hF hN) j i h1 h2 hij
theorem allB_rise {L : List Item} (hF : Fit L) (hN : Named L) {i : Nat} {x y : ByteArray} (hi : 1 ≤ i) (hx : (allB L)[i]? = some x) (hy : (allB L)[i + 1]? = some y) : Op.bytesLess x.data.toList y.data.toList = true := by
  have hne : walkS L x ≠ walkS L y := allB_new hF hN (Nat.lt_succ_self i) hx hy
  obtain ⟨j, rfl⟩ : ∃ j, i = j + 1 := ⟨i - 1, by omega⟩
  unfold allB at hx hy
  rw [List.getElem?_cons_succ] at hx hy
  obtain ⟨h1, rfl⟩ := List.getElem?_eq_some_iff.1 hx
  obtain ⟨h2, rfl⟩ := List.getElem?_eq_some_iff.1 hy
  have h3 := List.pairwise_iff_getElem.1 (sortB_sorted (pathsI L L)) j (j + 1) h1 h2 (Nat.lt_succ_self j)
  rw [Go.Proofs.bytesLess_eq]
  refine decide_eq_true (lt_of _ _ h3 (fun e => hne ?_))
  rw [ba_ext e]
theorem allB_len {L : List Item} (h : L.length ≤ 300) : (allB L).length ≤ 301 := by
  unfold allB
  have h1 := paths_len L L
  rw [List.length_cons, sortB_len]; omega
theorem allB_root (L : List Item) : (allB L)[0]? = some ⟨#[47]⟩ := rfl
theorem allB_size {L : List Item} (hF : Fit L) (hN : Named L) {x : ByteArray} (h : x ∈ allB L) : x.size ≤ 1700 := by
  unfold allB at h
  rcases List.mem_cons.1 h with rfl | h
  · decide
  · obtain ⟨y, _, _, rfl⟩ := paths_mem ((sortB_perm _).mem_iff.1 h)
    exact of_size hF hN _
theorem BRow.lit {base : Nat} {w : World} {b : Nat} {x : ByteArray} (h : w.heap[b]? = some (.cells #[.string x] 9 (0, 0))) (hb : base ≤ b) : BRow base w (.slice (some ⟨b, 0, none⟩) 1 1) [x] :=
  ⟨rfl, .inr ⟨b, 1, #[.string x], rfl, hb, h, Nat.le_refl _, by unfold maxLen; omega, rfl, rfl⟩⟩
theorem sortS_at {base : Nat} {w : World} {A : Option Addr} {c : Nat} {x : ByteArray} {D out : List ByteArray} (e : out = x :: D) (h : BRow base w (.slice A out.length c) out) (hlen : D.length ≤ 100000) :
    Calls Tryz.prog 112 #[.slice (tailA A c) (out.drop 1).length (c - 1)] w fun e w' => e = .returned (.tuple #[]) ∧ SSRow w' (.slice A (x :: sortB D).length c) (x :: sortB D) ∧ w.grownBy w' (Value.slice A out.length c).ownBlock := by
  subst e
  obtain ⟨hl, ⟨e, h0⟩ | ⟨g, cap, cur, e, hb, hg, hc, hm, hcs, htk⟩⟩ := h
  · simp at h0
  · injection e with e1 _ e3
    subst e1; subst e3
    simp only [List.length_cons] at hc
    obtain ⟨f, hf, hf1⟩ : ∃ f, tailA (some ⟨g, 0, none⟩) c = some ⟨g, f, none⟩ ∧ (D ≠ [] → f = 1) := by
      unfold tailA
      by_cases h1 : c = 1
      · refine ⟨0, by rw [if_pos h1], fun hD => ?_⟩
        have := List.length_pos_iff.2 hD; omega
      · exact ⟨1, by rw [if_neg h1]; rfl, fun _ => rfl⟩
    rw [hf]
    have hcell : ∀ (j : Nat) (y : ByteArray), (x :: D)[j]? = some y → w.cell? ⟨g, 0 + j, none⟩ = some (.string y) := fun j y hy => by
      have hj := (List.getElem?_eq_some_iff.1 hy).1
      have h1 : ((x :: D).map Value.string)[j]? = some (.string y) := by rw [List.getElem?_map, hy]; rfl
      rw [← htk, List.getElem?_take, if_pos (by omega), Array.getElem?_toList] at h1
      simp only [World.cell?, hg, Nat.zero_add]
      exact h1
    have hH : Holds encStr w g f (D.map (·.data.toList)).toArray := by
      intro j hj
      simp only [List.size_toArray, List.length_map] at hj
      have hf2 : f = 1 := hf1 (fun e => by rw [e] at hj; simp at hj)
      refine ⟨?_, by simp [World.frozen?, hg]⟩
      have h2 := hcell (1 + j) D[j] (by rw [Nat.add_comm, List.getElem?_cons_succ]; exact List.getElem?_eq_getElem hj)
      rw [Nat.zero_add] at h2
      rw [hf2, h2]
      congr 1
      rw [← encStr_is]
      congr 1
      simp [getElem!_pos, hj]
    have hglt : g < w.heap.size := lt_ob hg
    have key := Tryz.slices_Sort_string g f (c - 1) (D.map (·.data.toList)) w hH hglt (by simp; omega)
    rw [List.length_map] at key
    rw [show ((x :: D).drop 1).length = D.length from rfl]
    refine key.mono ?_
    rintro e w' ⟨rfl, q, os, rfl⟩
    have hH' := holds_putRow encStr (Sort.ahead w q) g f (D.map (·.data.toList)).toArray ((D.map (·.data.toList)).mergeSort fun x y => decide (x ≤ y)).toArray (show Holds encStr (Sort.ahead w q) g f (D.map (·.data.toList)).toArray from fun j hj => hH j hj) (by simp)
    have hup : Up (putRow encStr (Sort.ahead w q) g f ((D.map (·.data.toList)).mergeSort fun x y => decide (x ≤ y)).toArray) (grow (putRow encStr (Sort.ahead w q) g f ((D.map (·.data.toList)).mergeSort fun x y => decide (x ≤ y)).toArray) os) := by
      have := Ups.below (ups_grow (putRow encStr (Sort.ahead w q) g f ((D.map (·.data.toList)).mergeSort fun x y => decide (x ≤ y)).toArray) 0 os)
      exact this
    refine ⟨rfl, ⟨some ⟨g, 0, none⟩, c, rfl, by rw [List.length_cons, sortB_len]; exact hc, .inr ⟨g, 0, rfl, Nat.lt_of_lt_of_le (by rw [size_putRow]; exact hglt) hup.size, fun j y hy => ?_⟩⟩, ?_⟩
    · refine (hup.cell (p := ⟨g, 0 + j, none⟩) (by rw [size_putRow]; exact hglt)).trans ?_
      cases j with
      | zero =>
        simp at hy; subst hy
        rw [cell?_putRow_other _ _ _ _ _ _ (by
          rcases Nat.eq_zero_or_pos f with hz | hz
          · right; right
            have hD : D = [] := Decidable.byContradiction fun hD => by rw [hf1 hD] at hz; cases hz
            subst hD; subst hz; simp
          · right; left; exact hz)]
        exact hcell 0 x rfl
      | succ j =>
        rw [List.getElem?_cons_succ] at hy
        have hj : j < D.length := by have := (List.getElem?_eq_some_iff.1 hy).1; rwa [sortB_len] at this
        have hf2 : f = 1 := hf1 (fun e => by rw [e] at hj; simp at hj)
        have h3 := (hH' j (by simpa using hj)).1
        rw [hf2] at h3 ⊢
        rw [show 0 + (j + 1) = 1 + j by omega]
        refine h3.trans ?_
        congr 1
        rw [← encStr_is]
        congr 1
        have hx2 : ((D.map (·.data.toList)).mergeSort fun x y => decide (x ≤ y))[j]? = some y.data.toList := by rw [← sortB_data, List.getElem?_map, hy]; rfl
        obtain ⟨h4, h5⟩ := List.getElem?_eq_some_iff.1 hx2
        rw [getElem!_pos _ _ (by simpa using h4)]
        simpa using h5
    · refine ⟨hup.os, hup.tape, hup.output, Nat.le_trans (by rw [size_putRow]; exact Nat.le_refl _) hup.size, fun k hk hne => ?_⟩
      rw [hup.block k (by rw [size_putRow]; exact hk)]
      unfold putRow mapBlock
      simp only [Array.getElem?_modify]
      rw [if_neg (by intro e; exact hne (by rw [e]; rfl))]
      rfl
def OwnB (base : Nat) (w : World) (ob : Option Nat) : Prop := ∀ k, ob = some k → base ≤ k ∧ k < w.heap.size
theorem OwnB.own {base : Nat} {w : World} {ob : Option Nat} (h : OwnB base w ob) : ∀ k, ob = some k → base ≤ k ∧ k < w.heap.size := h
def ARow (b0 base : Nat) (w : World) (v : Value) (L : List ByteArray) : Prop :=
  (b0 ≤ base ∧ BRow base w v L) ∨ ∃ g x, v = .slice (some ⟨g, 0, none⟩) 1 1 ∧ L = [x] ∧ b0 ≤ g ∧ w.heap[g]? = some (.cells #[.string x] 9 (0, 0))
theorem ARow.up {b0 base : Nat} {w w' : World} {v : Value} {L : List ByteArray} (h : ARow b0 base w v L) (u : Up w w') : ARow b0 base w' v L := by
  rcases h with h | ⟨g, x, e, hl, hb, hg⟩
  · exact .inl ⟨h.1, h.2.up u⟩
  · exact .inr ⟨g, x, e, hl, hb, up_ob u hg⟩
theorem ARow.low {b0 base : Nat} {w : World} {v : Value} {L : List ByteArray} (h : ARow b0 base w v L) : BRow b0 w v L := by
  rcases h with h | ⟨g, x, rfl, rfl, hb, hg⟩
  · exact h.2.base h.1
  · exact BRow.lit hg hb
theorem ARow.snoc {b0 base : Nat} {w : World} {v : Value} {L : List ByteArray} (h : ARow b0 base w v L) {t ty : TypeId} (ht : Tryz.prog.underlying t = some (.slice 9)) {b : Nat} {x : ByteArray} (hb : w.heap[b]? = some (.cells #[.string x] 9 (0, 0))) (hbase : base ≤ w.heap.size) (h0 : b0 ≤ base) (hlen : L.length ≤ 100000) :
    ∃ v' w' ob, (Builtin.append_ #[t, t] ty #[v, .slice (some ⟨b, 0, none⟩) 1 1]).run Tryz.prog w = .ok v' w' ∧ BRow base w' v' (L ++ [x]) ∧ w.grownBy w' ob ∧ OwnB base w ob := by
  rcases h with h | ⟨g, y, rfl, rfl, hg0, hg⟩
  · obtain ⟨v', w', h1, h2, h3⟩ := h.2.snoc (ty := ty) ht hb hbase hlen
    exact ⟨v', w', _, h1, h2, h3, h.2.own⟩
  · obtain ⟨i, z, hi, hz, hsize, hby, hzs⟩ := info_str
    obtain ⟨v', w', h1, h2, h3⟩ := run_append_arg_grows (P := Tryz.prog) w t ty 9 i z 1 16 ht hi hz hsize hby hzs (by decide) ⟨g, 0, none⟩ 1 1 [.string y] (by simp)
      (fun j u hj => by
        rw [add_at, Nat.zero_add]
        have : (#[.string y] : Array Value)[j]? = some u := by simpa using hj
        simp only [World.cell?, hg]; simpa using this) ⟨b, 0, none⟩ 1 1 [.string x] (by simp)
      (fun j u hj => by
        rw [add_at, Nat.zero_add]
        have : (#[.string x] : Array Value)[j]? = some u := by simpa using hj
        simp only [World.cell?, hb]; simpa using this) (by omega) (by unfold maxLen; omega) (by omega)
    refine ⟨v', w', none, h1, ?_, h3, fun k hk => by cases hk⟩
    have h4 : BRow w.heap.size w' v' ([y] ++ [x]) := by
      unfold BRow
      rw [List.map_append]
      simpa using h2
    exact h4.base hbase
theorem snA {ops : Array Oper} {Q : Exit → Act → World → Prop} {a : Act} {w : World} {J : Act → World → Prop} {d : Option Tmp} {ty : TypeId} {pos : String} {af : Array Edge} {g : Option (Nat × Bool)}
    {b0 base : Nat} {v : Value} {L : List ByteArray} {t : TypeId} {s y : Operand} {b : Nat} {x : ByteArray}
    (hw : Region.wanted (⟨d, .call ⟨.builtin .append, #[s, y], #[t, t]⟩, ty, pos, af, g⟩ : Oper) (yielded ops a.tmps) = true) (hs : a.eval s = v) (hy : a.eval y = .slice (some ⟨b, 0, none⟩) 1 1)
    (h : ARow b0 base w v L) (ht : Tryz.prog.underlying t = some (.slice 9)) (hb : w.heap[b]? = some (.cells #[.string x] 9 (0, 0))) (hbase : base ≤ w.heap.size) (h0 : b0 ≤ base) (hlen : L.length ≤ 100000)
    (k : ∀ A c w' ob, ARow b0 base w' (.slice A (L ++ [x]).length c) (L ++ [x]) → w.grownBy w' ob → OwnB base w ob → J (a.put d (.slice A (L ++ [x]).length c)) w') : St1 Tryz.prog ops Q ⟨d, .call ⟨.builtin .append, #[s, y], #[t, t]⟩, ty, pos, af, g⟩ J a w := by
  obtain ⟨v', w', ob, h1, h2, h3, h4⟩ := h.snoc (ty := ty) ht hb hbase h0 hlen
  obtain ⟨A, c, rfl⟩ := h2.form
  refine sv hw ?_ (k A c w' ob (.inl ⟨h0, h2⟩) h3 h4)
  simp [execOp, resolve, invoke, builtin, hs, hy, h1]
theorem sortA_at {b0 base : Nat} {w : World} {A : Option Addr} {c : Nat} {L : List Item} {out : List ByteArray} (e : out = ⟨#[47]⟩ :: pathsI L L) (hL : L.length ≤ 300) (h : ARow b0 base w (.slice A out.length c) out) :
    Calls Tryz.prog 112 #[.slice (tailA A c) (out.drop 1).length (c - 1)] w fun e w' => e = .returned (.tuple #[]) ∧ ∃ ob, SSRow w' (.slice A (allB L).length c) (allB L) ∧ out.length = (allB L).length ∧ w.grownBy w' ob ∧ OwnB b0 w ob := by
  have hl : out.length = (allB L).length := by rw [e]; unfold allB; rw [List.length_cons, List.length_cons, sortB_len]
  refine (sortS_at e h.low (by have := paths_len L L; omega)).mono ?_
  rintro e2 w' ⟨rfl, hr, hg⟩
  exact ⟨rfl, _, hr, hl, hg, h.low.own⟩
end Go.Proofs.YtefhfoioeoijlaaGreatDoor
set_option linter.unusedVariables false
set_option linter.unusedSimpArgs false
namespace Go.Proofs.YtefhfoioeoijlaaGreatDoor
open Go Go.RowKit Go.Sort
def MRow (base : Nat) (w : World) (v : Value) (L : List Stamp) : Prop := w.ownsRow base 24 2 v L.length (flatS L)
theorem MRow.nil (base : Nat) (w : World) : MRow base w (.slice none 0 0) [] := World.ownsRow_nil w base _ 2
theorem MRow.keep {base : Nat} {w w' : World} {v : Value} {L : List Stamp} (h : MRow base w v L) {q : Option Nat} (hg : w.grownBy w' q) (hv : v.ownBlock = none ∨ v.ownBlock ≠ q) : MRow base w' v L := World.ownsRow.kept h hg hv
theorem MRow.up {base : Nat} {w w' : World} {v : Value} {L : List Stamp} (h : MRow base w v L) (hb : Up w w') : MRow base w' v L :=
  h.keep (q := none) ⟨hb.os, hb.tape, hb.output, hb.size, fun k hk _ => hb.block k hk⟩ (by cases hv : v.ownBlock <;> simp)
theorem MRow.form {base : Nat} {w : World} {v : Value} {L : List Stamp} (h : MRow base w v L) : ∃ A c, v = .slice A L.length c := by
  obtain ⟨_, ⟨rfl, h0⟩ | ⟨g, cap, cur, rfl, _⟩⟩ := h
  · exact ⟨none, 0, by rw [h0]⟩
  · exact ⟨_, cap, rfl⟩
theorem MRow.own {base : Nat} {w : World} {v : Value} {L : List Stamp} (h : MRow base w v L) : ∀ k, v.ownBlock = some k → base ≤ k ∧ k < w.heap.size := World.ownsRow.lt h
theorem info_st : ∃ i z, Tryz.prog.info? 24 = some i ∧ i.zero = some z ∧ i.size = 2 ∧ i.bytes = 16 ∧ z.cells.size = 2 := by
  have h : (Tryz.prog.info? 24).map (fun i => (i.zero.map (·.cells.size), i.size, i.bytes)) = some (some 2, 2, 16) := by kernel_rfl
  cases hi : Tryz.prog.info? 24 with
  | none => rw [hi] at h; cases h
  | some i =>
    rw [hi] at h; simp at h
    obtain ⟨⟨z, hz, h1⟩, h2, h3⟩ := h
    exact ⟨i, z, rfl, hz, h2, h3, h1⟩
theorem flatS_app (L M : List Stamp) : flatS (L ++ M) = flatS L ++ flatS M := by simp [flatS]
theorem MRow.snoc {base : Nat} {w : World} {v : Value} {L : List Stamp} (h : MRow base w v L) {t ty : TypeId} (ht : Tryz.prog.underlying t = some (.slice 24)) {b : Nat} {x y : Int} (hb : w.heap[b]? = some (.cells #[.int .i64 x, .int .i64 y] 24 (0, 0))) (hbase : base ≤ w.heap.size) (hlen : L.length ≤ 100000) :
    ∃ v' w', (Builtin.append_ #[t, t] ty #[v, .slice (some ⟨b, 0, none⟩) 1 1]).run Tryz.prog w = .ok v' w' ∧ MRow base w' v' (L ++ [(⟨x, y⟩ : Stamp)]) ∧ w.grownBy w' v.ownBlock := by
  obtain ⟨i, z, hi, hz, hsize, hby, hzs⟩ := info_st
  obtain ⟨v', w', h1, h2, h3, h4⟩ := run_append_own (P := Tryz.prog) w base t ty 24 i z 2 16 ht hi hz hsize hby hzs (by decide) v L.length (flatS L) h ⟨b, 0, none⟩ 1 1 [.int .i64 x, .int .i64 y] (by simp)
    (fun j u hj => by
      rw [add_at, Nat.zero_add]
      have : (#[.int .i64 x, .int .i64 y] : Array Value)[j]? = some u := by simpa using hj
      simp only [World.cell?, hb]; simpa using this) (by intro u hu; simp at hu; rcases hu with rfl | rfl <;> rfl) (by unfold maxLen; omega) (by omega) hbase
  refine ⟨v', w', h1, ?_, h3⟩
  unfold MRow
  rw [flatS_app]
  simpa [flatS, stC] using h2
theorem snM {ops : Array Oper} {Q : Exit → Act → World → Prop} {a : Act} {w : World} {J : Act → World → Prop} {d : Option Tmp} {ty : TypeId} {pos : String} {af : Array Edge} {g : Option (Nat × Bool)}
    {base : Nat} {v : Value} {L : List Stamp} {t : TypeId} {s p : Operand} {b : Nat} {x y : Int}
    (hw : Region.wanted (⟨d, .call ⟨.builtin .append, #[s, p], #[t, t]⟩, ty, pos, af, g⟩ : Oper) (yielded ops a.tmps) = true) (hs : a.eval s = v) (hy : a.eval p = .slice (some ⟨b, 0, none⟩) 1 1)
    (h : MRow base w v L) (ht : Tryz.prog.underlying t = some (.slice 24)) (hb : w.heap[b]? = some (.cells #[.int .i64 x, .int .i64 y] 24 (0, 0))) (hbase : base ≤ w.heap.size) (hlen : L.length ≤ 100000)
    (k : ∀ A c w', MRow base w' (.slice A (L ++ [(⟨x, y⟩ : Stamp)]).length c) (L ++ [(⟨x, y⟩ : Stamp)]) → w.grownBy w' v.ownBlock → J (a.put d (.slice A (L ++ [(⟨x, y⟩ : Stamp)]).length c)) w') : St1 Tryz.prog ops Q ⟨d, .call ⟨.builtin .append, #[s, p], #[t, t]⟩, ty, pos, af, g⟩ J a w := by
  obtain ⟨v', w', h1, h2, h3⟩ := h.snoc (ty := ty) ht hb hbase hlen
  obtain ⟨A, c, rfl⟩ := h2.form
  refine sv hw ?_ (k A c w' h2 h3)
  simp [execOp, resolve, invoke, builtin, hs, hy, h1]
theorem flatS_at : ∀ {L : List Stamp} {i : Nat} {x : Stamp}, L[i]? = some x → (flatS L)[i * 2]? = some (.int .i64 x.t) ∧ (flatS L)[i * 2 + 1]? = some (.int .i64 x.w)
  | y :: L, 0, x, h => by simp at h; subst h; simp [flatS, stC]
  | y :: L, i + 1, x, h => by
    have ih := flatS_at (L := L) (i := i) (x := x) (by simpa using h)
    have e : flatS (y :: L) = .int .i64 y.t :: .int .i64 y.w :: flatS L := by simp [flatS, stC]
    rw [e, show (i + 1) * 2 = i * 2 + 1 + 1 by omega]
    exact ih
theorem MRow.get {base : Nat} {w : World} {A : Option Addr} {n c i : Nat} {L : List Stamp} {x : Stamp} (h : MRow base w (.slice A n c) L) (hx : L[i]? = some x) :
    ∃ g, A = some ⟨g, 0, none⟩ ∧ g < w.heap.size ∧ w.cell? ⟨g, i * 2, none⟩ = some (.int .i64 x.t) ∧ w.cell? ⟨g, i * 2 + 1, none⟩ = some (.int .i64 x.w) := by
  obtain ⟨hl, ⟨e, h0⟩ | ⟨g, cap, cur, e, hb, hg, hc, hm, hcs, htk⟩⟩ := h
  · have := (List.getElem?_eq_some_iff.1 hx).1; omega
  · injection e with e1 _ e3
    subst e1
    have hi := (List.getElem?_eq_some_iff.1 hx).1
    have hf := flatS_at hx
    refine ⟨g, rfl, lt_ob hg, ?_, ?_⟩
    · have h1 := hf.1
      rw [← htk, List.getElem?_take, if_pos (by omega), Array.getElem?_toList] at h1
      simp only [World.cell?, hg]; exact h1
    · have h1 := hf.2
      rw [← htk, List.getElem?_take, if_pos (by omega), Array.getElem?_toList] at h1
      simp only [World.cell?, hg]; exact h1
def metW (L : List Item) (k : Nat) : List Stamp := ((allB L).take k).map (walkS L)
theorem metW_next {L : List Item} {k : Nat} {y : ByteArray} (hy : (allB L)[k]? = some y) : metW L k ++ [⟨(walkS L y).t, (walkS L y).w⟩] = metW L (k + 1) := by
  unfold metW
  rw [List.take_add_one, hy, List.map_append]; rfl
theorem met_new {L : List Item} (hF : Fit L) (hN : Named L) {met : List Stamp} {k j : Nat} {x : Stamp} {y : ByteArray} (hm : met = metW L k) (hx : met[j]? = some x) (hy : (allB L)[k]? = some y) : x ≠ walkS L y := by
  subst hm
  unfold metW at hx
  rw [List.getElem?_map, List.getElem?_take] at hx
  split at hx
  · rename_i hj
    cases e : (allB L)[j]? with
    | none => rw [e] at hx; cases hx
    | some z =>
      rw [e] at hx
      injection hx with hx
      rw [← hx]
      exact allB_new hF hN hj e hy
  · cases hx
end Go.Proofs.YtefhfoioeoijlaaGreatDoor
set_option linter.unusedVariables false
set_option linter.unusedSimpArgs false
namespace Go.Proofs.YtefhfoioeoijlaaGreatDoor
open Go Go.RowKit Go.Sort
set_option maxRecDepth 20000 in
set_option maxHeartbeats 2000000 in
theorem pall_at {B : Nat} {w : World} {tb r : Nat} {L : List Item} (h : TreeIs B w tb r L) (hB : B ≤ w.heap.size) (hF : Fit L) (htab : Tab w) : Calls Tryz.prog 54 #[trP tb] w fun e w' => ∃ xA c, e = .returned (.tuple #[.slice xA (allB L).length c, .int .i64 0]) ∧ SSRow w' (.slice xA (allB L).length c) (allB L) ∧ Up w w' := by
  go_enter Tryz.func54, Tryz.ntmps54
  refine wp_seq (rg_lit ?_)
  refine was (v := .slice none 0 0) ?_
  refine was (v := .int .i64 0) ?_
  refine wnil (then_n (wp_seq (wp_seq (rg_lit ?_))))
  refine wmv (v := .pointer (some ⟨tb, 0, none⟩)) ?_
  refine wl (sv (w' := w) rfl (v := .bool false) (by kernel_rfl) ?_)
  refine wnil (then_n ?_)
  refine wp_cond_false (by kernel_rfl) ?_
  refine wp_skip (then_n (wp_seq (rg_lit ?_)))
  refine wl (sn rfl (cs := #[.string (⟨#[47]⟩)]) (T := 9) (V := fun b => .slice (some ⟨b, 0, none⟩) 1 1) (r_buildSlice (n := 1) (ps := [(0, .string (⟨#[47]⟩))]) Ty.un69 Ty.sz9 Ty.zv9 (by decide) (by decide) (by kernel_rfl) (by kernel_rfl)) ?_)
  intro b1 w2 e3 h4 u5
  have l6 : tb < b1 := by rw [e3]; exact lt_ob h.1
  have g7 : w.heap.size ≤ b1 := by rw [e3]; exact (Mod.refl [] w).size
  have M8 := Mod.trans (Mod.refl [] w) (Mod.of_up u5)
  refine was (v := .slice (some ⟨b1, 0, none⟩) 1 1) ?_
  refine wnil (then_n (wp_seq (wp_seq (rg_lit ?_))))
  refine wmv (v := .pointer (some ⟨tb, 0, none⟩)) ?_
  have h15 := (TreeIs.up h (Mod.up M8))
  refine wl (sc rfl (r_callv (caps := []) (all := [.pointer (some ⟨tb, 0, none⟩)]) En.f41 (by kernel_rfl) (by kernel_rfl)) (row_sl (all_at h15 (Nat.le_trans hB M8.size))) ?_)
  rintro e w9 ⟨A10, c11, rfl, h12, u13⟩
  have h14 := IRow.base h12 M8.size
  refine ⟨.slice A10 L.length c11, rfl, ?_⟩
  have M16 := Mod.trans M8 (Mod.of_up u13)
  refine wl (sv rfl (v := .int .i64 (L.length : Int)) (r_len Ty.un74 (ad := A10) (n := L.length) (c := c11) (by kernel_rfl)) ?_)
  refine wmv (v := .int .i64 0) ?_
  refine wnil (then_n (wp_block ?_))
  have hL300 := hF.len
  have hb0 : w.heap.size ≤ w9.heap.size := M16.size
  have h17 := md_ob M16 nin0 h.1
  have h18 := (up_ob u13 h4)
  have h19 := (TreeIs.up h (Mod.up M16))
  refine lp (fun n a r1 => ∃ (k : Nat) (out : List ByteArray) (oA : Option Addr) (oc : Nat) (z6 z7 z8 z16 z17 z18 z19 z20 z21 z22 z23 z24 z25 z26 z27 z28 z29 z30 z31 z32 : Value), (n = L.length - k) ∧ (a = ⟨#[.pointer (some ⟨tb, 0, none⟩), undef, .slice none 0 0, .int .i64 0, .slice oA out.length oc, undef, z6, z7, z8, .pointer (some ⟨tb, 0, none⟩), .bool false, .slice (some ⟨b1, 0, none⟩) 1 1, .pointer (some ⟨tb, 0, none⟩), .slice A10 L.length c11, .int .i64 (L.length : Int), .int .i64 (k : Int), z16, z17, z18, z19, z20, z21, z22, z23, z24, z25, z26, z27, z28, z29, z30, z31, z32, undef, undef, undef, undef], []⟩) ∧ (Mod [] w9 r1) ∧ (k ≤ L.length) ∧ (out.length ≤ k + 1) ∧ (out = ⟨#[47]⟩ :: pathsI L (L.take k)) ∧ (ARow w.heap.size w9.heap.size r1 (.slice oA out.length oc) out)) ⟨_, 0, [⟨#[47]⟩], (some ⟨b1, 0, none⟩), 1, undef, undef, undef, undef, undef, undef, undef, undef, undef, undef, undef, undef, undef, undef, undef, undef, undef, undef, undef, undef, rfl, (by kernel_rfl), Mod.refl _ _, (Nat.zero_le _), (by decide), rfl, .inr ⟨b1, ⟨#[47]⟩, rfl, rfl, g7, h18⟩⟩ ?_
  rintro _ _ r1 ⟨k, out, oA, oc, z6, z7, z8, z16, z17, z18, z19, z20, z21, z22, z23, z24, z25, z26, z27, z28, z29, z30, z31, z32, rfl, rfl, hM1, hF1_0, hF1_1, hF1_2, hF1_3⟩
  have M20 := Mod.thin M16 hM1 (by simp)
  refine wp_seq (rg_lit ?_)
  refine wl (sb rfl (r_lt (k := .i64) (m := (k : Int)) (n := (L.length : Int)) (by kernel_rfl) (by kernel_rfl)) ?_)
  intro b21 k22
  refine wnil (then_n (wp_seq ?_))
  refine bcase b21 (fun v23 => ?_) (fun v23 => ?_)
  ·
   have p24 := of_decide_eq_false (k22.trans v23)
   refine wp_cond_false (ebool (b := b21) (by kernel_rfl) v23) ?_
   refine wp_exit (then_x (by nofun) (then_x (by nofun) (inb_hit (then_n (wp_seq (rg_lit ?_))))))
   refine wmv (v := .slice oA out.length oc) ?_
   have z25 := SSRow.capq (BRow.ss (ARow.low hF1_3))
   have z26 : 1 ≤ out.length := by rw [hF1_2]; simp
   refine wl (sv rfl (v := .slice (tailA oA oc) ((out.drop 1).length) (oc - 1)) (r_slTail (A := oA) (n := out.length) (c := oc) (m := (out.drop 1).length) (by kernel_rfl) (by kernel_rfl) (by rw [List.length_drop]) (by omega) (by omega) Ty.un69 Ty.sz9) ?_)
   have hoe : out = ⟨#[47]⟩ :: pathsI L L := hF1_2.trans (by rw [List.take_of_length_le (by omega)])
   refine wl (sc rfl (r_callv (caps := []) (all := [.slice (tailA oA oc) ((out.drop 1).length) (oc - 1)]) En.f112 (by kernel_rfl) (by kernel_rfl)) (sortA_at hoe hF.len hF1_3) ?_)
   rintro e w27 ⟨rfl, b28, h29, h30, u31, h32⟩
   refine ⟨.tuple #[], rfl, ?_⟩
   have M33 := Mod.trans' M20 u31 (fun k hk => Nat.le_trans (Nat.le_refl _) (h32.own k hk).1)
   refine wnil (then_n (wp_seq (rg_lit ?_)))
   refine wmv (v := .slice oA out.length oc) ?_
   refine was (v := .slice oA out.length oc) ?_
   refine was (v := .int .i64 0) ?_
   refine wnil (then_n (wp_ret ?_))
   refine bodyPost_ret (v := .tuple #[.slice oA out.length oc, .int .i64 0]) (res2 rfl (rv_t (by kernel_rfl)) (rv_t (by kernel_rfl))) (by kernel_rfl) ?_
   rw [h30]
   exact ⟨_, _, rfl, h29, (Mod.up M33)⟩
  have p24 := of_decide_eq_true (k22.trans v23)
  have q25 : k < L.length := by omega
  have q26 : k < L.length := by omega
  refine wp_cond_true (ebool (b := b21) (by kernel_rfl) v23) ?_
  refine wp_skip (then_n (wp_seq (wp_block (wp_seq (rg_lit ?_)))))
  have h27 := (IRow.up h14 (Mod.up hM1))
  obtain ⟨y28, hy28⟩ : ∃ x, L[k]? = some x := ⟨_, List.getElem?_eq_getElem q26⟩
  obtain ⟨g28, cp28, cu28, dA28, dn28, dc28, hA28, hg28, hb28, he28, hD28⟩ := h27.get hy28
  injection hA28 with hA28 _ _
  replace he28 : (cu28.toList.drop (0 + k * 10)).take 10 = (itC y28 (.slice dA28 dn28 dc28)) := by rw [Nat.zero_add]; exact he28
  refine wl (sv rfl (v := .pointer (some ⟨g28, 0 + k * 10, none⟩)) (r_ixaddr' (A := A10) (b := g28) (o := 0) (n := L.length) (c := c11) (sz := 10) (j := (k : Int)) (by kernel_rfl) hA28 (by kernel_rfl) Ty.un74 Ty.sz42 (by omega) (by omega) (by simp)) ?_)
  refine wl (sv rfl (v := itV y28 (.slice dA28 dn28 dc28)) (r_loads (k := 0 + k * 10) (by kernel_rfl) Ty.ag42 Ty.sz42 hb28 (el_sub0 he28 rfl)) ?_)
  refine wl (sn rfl (cs := #[.int .i64 0, .int .i64 0, .int .i64 0, .int .i64 0, .string (⟨#[]⟩), .bool false, .bool false, .slice none 0 0, .int .i64 0, .int .i64 0]) (T := 42) (V := fun b => .pointer (some ⟨b, 0, none⟩)) (r_alloc Ty.zv42 rfl) ?_)
  intro b29 w30 e31 h32 u33
  have h34 := md_ob M20 nin0 h.1
  have l35 : tb < b29 := by rw [e31]; exact lt_ob h34
  have h36 := md_ob hM1 nin0 h18
  have l37 : b1 < b29 := by rw [e31]; exact lt_ob h36
  have l38 : g28 < b29 := by rw [e31]; exact lt_ob hb28
  have g39 : w.heap.size ≤ b29 := by rw [e31]; exact M20.size
  have g40 : w9.heap.size ≤ b29 := by rw [e31]; exact hM1.size
  have M41 := Mod.trans M20 (Mod.of_up u33)
  have M42 := Mod.trans hM1 (Mod.of_up u33)
  refine wl (ss rfl (k := 0) (v := itV y28 (.slice dA28 dn28 dc28)) (vs := (itC y28 (.slice dA28 dn28 dc28))) (cs' := (itC y28 (.slice dA28 dn28 dc28))) (by kernel_rfl) (by kernel_rfl) rfl Ty.sz42 h32 rfl (Nat.le_of_ble_eq_true rfl) rfl ?_)
  intro w43 h44 c45
  have M46 := Mod.trans' M41 c45 (fun i hi => by injection hi with hi; rw [← hi]; exact g39)
  have M47 := Mod.trans' M42 c45 (fun i hi => by injection hi with hi; rw [← hi]; exact g40)
  refine wnil (then_n (wp_seq (rg_lit ?_)))
  refine wmv (v := .pointer (some ⟨tb, 0, none⟩)) ?_
  refine wl (sv rfl (v := .pointer (some ⟨b29, 0, none⟩)) (r_fieldAddr (u := .pointer (some ⟨b29, 0, none⟩)) (by kernel_rfl) (fun _ => (by kernel_rfl))) ?_)
  refine wl (sv rfl (v := .agg #[.int .i64 y28.node.t, .int .i64 y28.node.w]) (r_loads (k := 0) (by kernel_rfl) Ty.ag24 Ty.sz24 h44 (by kernel_rfl)) ?_)
  have h48 := (TreeIs.up h (Mod.up M46))
  refine wl (sc rfl (r_callv (caps := []) (all := [.pointer (some ⟨tb, 0, none⟩), .agg #[.int .i64 y28.node.t, .int .i64 y28.node.w]]) En.f42 (by kernel_rfl) (by kernel_rfl)) (of_at h48 (Nat.le_trans hB M46.size) hF (TabIs.up htab (Mod.up M46)) y28.node.t y28.node.w) ?_)
  rintro e w49 ⟨rfl, u50⟩
  refine ⟨.tuple #[.string (ofB L ⟨y28.node.t, y28.node.w⟩), .int .i64 (ofK L ⟨y28.node.t, y28.node.w⟩)], rfl, ?_⟩
  have M51 := Mod.trans M46 (Mod.of_up u50)
  have M52 := Mod.trans M47 (Mod.of_up u50)
  refine wmv (v := .tuple #[.string (ofB L ⟨y28.node.t, y28.node.w⟩), .int .i64 (ofK L ⟨y28.node.t, y28.node.w⟩)]) ?_
  refine wl (sv rfl (v := .string (ofB L ⟨y28.node.t, y28.node.w⟩)) (r_extract (vs := [.string (ofB L ⟨y28.node.t, y28.node.w⟩), .int .i64 (ofK L ⟨y28.node.t, y28.node.w⟩)]) (by kernel_rfl) rfl) ?_)
  refine wl (sv rfl (v := .int .i64 (ofK L ⟨y28.node.t, y28.node.w⟩)) (r_extract (vs := [.string (ofB L ⟨y28.node.t, y28.node.w⟩), .int .i64 (ofK L ⟨y28.node.t, y28.node.w⟩)]) (by kernel_rfl) rfl) ?_)
  refine was (v := .string (ofB L ⟨y28.node.t, y28.node.w⟩)) ?_
  refine was (v := .int .i64 (ofK L ⟨y28.node.t, y28.node.w⟩)) ?_
  refine wnil (then_n (wp_seq (rg_lit ?_)))
  refine wmv (v := .int .i64 (ofK L ⟨y28.node.t, y28.node.w⟩)) ?_
  refine wl (sb rfl (r_eq (k := .i64) (m := (ofK L ⟨y28.node.t, y28.node.w⟩)) (n := 0) (by kernel_rfl) (by kernel_rfl)) ?_)
  intro b53 k54
  refine wnil (then_n ?_)
  refine bcase b53 (fun v55 => ?_) (fun v55 => ?_)
  ·
   have p56 := of_decide_eq_false (k54.trans v55)
   refine wp_cond_false (ebool (b := b53) (by kernel_rfl) v55) ?_
   refine wp_skip (inb_n (then_n (rg_lit ?_)))
   refine wl (sv rfl (v := .int .i64 ((k + 1 : Nat) : Int)) (r_add (k := .i64) (m := (k : Int)) (n := 1) (c := ((k + 1 : Nat) : Int)) (by kernel_rfl) (by kernel_rfl) ((IntWalk.i64_in _ (by omega)).trans (by omega))) ?_)
   refine wmv (v := .int .i64 ((k + 1 : Nat) : Int)) ?_
   refine wnil (then_n ?_)
   have h57 := (ARow.up hF1_3 (up_up (up_chgn u33 c45 (by rw [e31]; exact Nat.le_refl _)) u50))
   refine ⟨L.length - (k + 1), ?_, (k + 1), out, oA, oc, .pointer (some ⟨b29, 0, none⟩), .string (ofB L ⟨y28.node.t, y28.node.w⟩), .int .i64 (ofK L ⟨y28.node.t, y28.node.w⟩), .bool b21, .pointer (some ⟨g28, 0 + k * 10, none⟩), itV y28 (.slice dA28 dn28 dc28), .tuple #[.string (ofB L ⟨y28.node.t, y28.node.w⟩), .int .i64 (ofK L ⟨y28.node.t, y28.node.w⟩)], .pointer (some ⟨tb, 0, none⟩), .pointer (some ⟨b29, 0, none⟩), .agg #[.int .i64 y28.node.t, .int .i64 y28.node.w], .tuple #[.string (ofB L ⟨y28.node.t, y28.node.w⟩), .int .i64 (ofK L ⟨y28.node.t, y28.node.w⟩)], .string (ofB L ⟨y28.node.t, y28.node.w⟩), .int .i64 (ofK L ⟨y28.node.t, y28.node.w⟩), .int .i64 (ofK L ⟨y28.node.t, y28.node.w⟩), .bool b53, z28, z29, z30, z31, .int .i64 ((k + 1 : Nat) : Int), rfl, (by kernel_rfl), M52, (by omega), (by (try simp only [List.length_append, List.length_cons, List.length_nil]); omega), (hF1_2.trans (by rw [paths_no hy28 p56])), h57⟩
   · omega
  have p56 := of_decide_eq_true (k54.trans v55)
  refine wp_cond_true (ebool (b := b53) (by kernel_rfl) v55) ?_
  refine rg_lit ?_
  refine wmv (v := .slice oA out.length oc) ?_
  refine wmv (v := .string (ofB L ⟨y28.node.t, y28.node.w⟩)) ?_
  refine wl (sn rfl (cs := #[.string (ofB L ⟨y28.node.t, y28.node.w⟩)]) (T := 9) (V := fun b => .slice (some ⟨b, 0, none⟩) 1 1) (r_buildSlice (n := 1) (ps := [(0, .string (ofB L ⟨y28.node.t, y28.node.w⟩))]) Ty.un69 Ty.sz9 Ty.zv9 (by decide) (by decide) (by kernel_rfl) (by kernel_rfl)) ?_)
  intro b57 w58 e59 h60 u61
  have h62 := md_ob M51 nin0 h.1
  have l63 : tb < b57 := by rw [e59]; exact lt_ob h62
  have h64 := md_ob M52 nin0 h18
  have l65 : b1 < b57 := by rw [e59]; exact lt_ob h64
  have h66 := (up_ob u50 (chg_ob c45 (Nat.ne_of_lt l38) (up_ob u33 hb28)))
  have l67 : g28 < b57 := by rw [e59]; exact lt_ob h66
  have h68 := (up_ob u50 h44)
  have l69 : b29 < b57 := by rw [e59]; exact lt_ob h68
  have g70 : w.heap.size ≤ b57 := by rw [e59]; exact M51.size
  have g71 : w9.heap.size ≤ b57 := by rw [e59]; exact M52.size
  have M72 := Mod.trans M51 (Mod.of_up u61)
  have M73 := Mod.trans M52 (Mod.of_up u61)
  have h74 := (ARow.up hF1_3 (up_up (up_up (up_chgn u33 c45 (by rw [e31]; exact Nat.le_refl _)) u50) u61))
  refine wl (snA rfl (L := out) (x := (ofB L ⟨y28.node.t, y28.node.w⟩)) (by kernel_rfl) (by kernel_rfl) h74 Ty.un69 h60 M73.size hb0 (by omega) ?_)
  intro A75 c76 w77 b78 h79 u80 h81
  have M82 := Mod.trans' M72 u80 (fun k hk => Nat.le_trans M16.size (h81.own k hk).1)
  have M83 := Mod.trans' M73 u80 (fun k hk => Nat.le_trans (Nat.le_refl _) (h81.own k hk).1)
  refine was (v := .slice A75 ((out ++ [(ofB L ⟨y28.node.t, y28.node.w⟩)]).length) c76) ?_
  refine wnil (inb_n (then_n (rg_lit ?_)))
  refine wl (sv rfl (v := .int .i64 ((k + 1 : Nat) : Int)) (r_add (k := .i64) (m := (k : Int)) (n := 1) (c := ((k + 1 : Nat) : Int)) (by kernel_rfl) (by kernel_rfl) ((IntWalk.i64_in _ (by omega)).trans (by omega))) ?_)
  refine wmv (v := .int .i64 ((k + 1 : Nat) : Int)) ?_
  refine wnil (then_n ?_)
  refine ⟨L.length - (k + 1), ?_, (k + 1), (out ++ [(ofB L ⟨y28.node.t, y28.node.w⟩)]), A75, c76, .pointer (some ⟨b29, 0, none⟩), .string (ofB L ⟨y28.node.t, y28.node.w⟩), .int .i64 (ofK L ⟨y28.node.t, y28.node.w⟩), .bool b21, .pointer (some ⟨g28, 0 + k * 10, none⟩), itV y28 (.slice dA28 dn28 dc28), .tuple #[.string (ofB L ⟨y28.node.t, y28.node.w⟩), .int .i64 (ofK L ⟨y28.node.t, y28.node.w⟩)], .pointer (some ⟨tb, 0, none⟩), .pointer (some ⟨b29, 0, none⟩), .agg #[.int .i64 y28.node.t, .int .i64 y28.node.w], .tuple #[.string (ofB L ⟨y28.node.t, y28.node.w⟩), .int .i64 (ofK L ⟨y28.node.t, y28.node.w⟩)], .string (ofB L ⟨y28.node.t, y28.node.w⟩), .int .i64 (ofK L ⟨y28.node.t, y28.node.w⟩), .int .i64 (ofK L ⟨y28.node.t, y28.node.w⟩), .bool b53, .slice oA out.length oc, .string (ofB L ⟨y28.node.t, y28.node.w⟩), .slice (some ⟨b57, 0, none⟩) 1 1, .slice A75 ((out ++ [(ofB L ⟨y28.node.t, y28.node.w⟩)]).length) c76, .int .i64 ((k + 1 : Nat) : Int), rfl, (by kernel_rfl), M83, (by omega), (by (try simp only [List.length_append, List.length_cons, List.length_nil]); omega), (by rw [hF1_2]; exact paths_yes hy28 p56), h79⟩
  · omega
end Go.Proofs.YtefhfoioeoijlaaGreatDoor

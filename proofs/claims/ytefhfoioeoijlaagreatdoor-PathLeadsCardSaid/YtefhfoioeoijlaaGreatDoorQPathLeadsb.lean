/- Pth6, PF -/
import Derived.Test.YtefhfoioeoijlaaGreatDoorQaa
import Derived.Test.YtefhfoioeoijlaaGreatDoorQab
import Derived.Test.YtefhfoioeoijlaaGreatDoorQac
import Derived.Test.YtefhfoioeoijlaaGreatDoorQad
import Derived.Test.YtefhfoioeoijlaaGreatDoorQae
import Derived.Test.YtefhfoioeoijlaaGreatDoorQaf
import Derived.Test.YtefhfoioeoijlaaGreatDoorQag
import Derived.Test.YtefhfoioeoijlaaGreatDoorQah
import Derived.Test.YtefhfoioeoijlaaGreatDoorQai
import Derived.Test.YtefhfoioeoijlaaGreatDoorQaj
import Derived.Test.YtefhfoioeoijlaaGreatDoorQak
import Derived.Test.YtefhfoioeoijlaaGreatDoorQal
import Derived.Test.YtefhfoioeoijlaaGreatDoorQam
import Derived.Test.YtefhfoioeoijlaaGreatDoorQan
import Derived.Test.YtefhfoioeoijlaaGreatDoorQao
import Derived.Test.YtefhfoioeoijlaaGreatDoorQap
import Derived.Test.YtefhfoioeoijlaaGreatDoorQaq
import Derived.Test.YtefhfoioeoijlaaGreatDoorQar
import Derived.Test.YtefhfoioeoijlaaGreatDoorQas
import Derived.Test.YtefhfoioeoijlaaGreatDoorQat
import Derived.Test.YtefhfoioeoijlaaGreatDoorQau
import Derived.Test.YtefhfoioeoijlaaGreatDoorQav
import Derived.Test.YtefhfoioeoijlaaGreatDoorQPathLeadsa
set_option linter.unusedVariables false
set_option linter.unusedSimpArgs false
namespace Go.Proofs.YtefhfoioeoijlaaGreatDoor
open Go Go.RowKit Go.Sort
theorem index1_miss {c : UInt8} : ∀ {s : List UInt8}, c ∉ s → Lib.index s [c] = -1
  | [], _ => rfl
  | b :: l, h => by
    have ih := index1_miss (c := c) (s := l) (fun e => h (by simp [e]))
    have hb : c ≠ b := fun e => h (by simp [e])
    rw [Lib.index, ih]; simp [List.isPrefixOf, hb]
theorem index1_hit {c : UInt8} : ∀ {x : List UInt8} (l : List UInt8), c ∉ x → Lib.index (x ++ c :: l) [c] = x.length
  | [], l, _ => by simp [Lib.index, List.isPrefixOf]
  | b :: x, l, h => by
    have ih := index1_hit (c := c) (x := x) l (fun e => h (by simp [e]))
    have hb : c ≠ b := fun e => h (by simp [e])
    have hn : ¬ ((x.length : Nat) : Int) = -1 := by omega
    rw [List.cons_append, Lib.index, ih]; simp [List.isPrefixOf, hb, hn]
theorem cut_none {s : ByteArray} {c : UInt8} (h : c ∉ s.data.toList) : cutA s c = s ∧ cutB s c = false := by
  have e : Lib.cut s.data.toList [c] = (s.data.toList, [], false) := by
    unfold Lib.cut; rw [index1_miss h, if_neg (by decide)]
  unfold cutA cutB; rw [e]
  exact ⟨bys_of s, rfl⟩
theorem cut_some {s : ByteArray} {c : UInt8} {x l : List UInt8} (e : s.data.toList = x ++ c :: l) (h : c ∉ x) : cutA s c = bys x ∧ cutZ s c = bys l ∧ cutB s c = true := by
  have e2 : Lib.cut s.data.toList [c] = (x, l, true) := by
    unfold Lib.cut
    rw [e, index1_hit l h, if_pos (by omega)]
    have h1 : ((x.length : Nat) : Int).toNat = x.length := Int.toNat_natCast _
    rw [h1, List.take_left, List.drop_append]
    simp
  unfold cutA cutZ cutB; rw [e2]
  exact ⟨rfl, rfl, rfl⟩
theorem dig_in {c : UInt8} (h : 48 ≤ c.toNat ∧ c.toNat ≤ 57) : digs.data.toList.contains c = true := by
  have h2 : c.toNat = 48 ∨ c.toNat = 49 ∨ c.toNat = 50 ∨ c.toNat = 51 ∨ c.toNat = 52 ∨ c.toNat = 53 ∨ c.toNat = 54 ∨ c.toNat = 55 ∨ c.toNat = 56 ∨ c.toNat = 57 := by omega
  have key : ∀ k : Nat, c.toNat = k → c = UInt8.ofNat k := fun k e => by rw [← e]; simp
  rcases h2 with e | e | e | e | e | e | e | e | e | e <;> rw [key _ e] <;> decide
theorem drop_all {p : UInt8 → Bool} : ∀ {l : List UInt8}, (∀ c ∈ l, p c = true) → l.dropWhile p = []
  | [], _ => rfl
  | b :: l, h => by rw [List.dropWhile_cons, if_pos (h b (by simp))]; exact drop_all (fun c hc => h c (by simp [hc]))
theorem dig_yes {d : Int} {l : List UInt8} (h : ∀ c ∈ l, 48 ≤ c.toNat ∧ c.toNat ≤ 57) (h1 : 1 ≤ l.length) (h2 : (l.length : Int) ≤ d) : digB d (bys l) = true := by
  have hs : (bys l).size = l.length := by simp [bys, ByteArray.size]
  have e1 : l.reverse.dropWhile (digs.data.toList.contains ·) = [] := drop_all fun c hc => dig_in (h c (List.mem_reverse.1 hc))
  have e2 : trimD (bys l) = ⟨#[]⟩ := by
    unfold trimD Lib.trimS Lib.trimRightS Lib.trimLeftS
    rw [bys_data, e1]; rfl
  refine dig_3 (by rw [hs]; omega) (by rw [hs]; exact h2) (decide_eq_true e2)
theorem dec_ne (u : Nat) : 1 ≤ (Lib.decDigits u).length := by
  rw [Lib.decDigits]
  split <;> simp
theorem dec_len : ∀ (k u : Nat), u < 10 ^ (k + 1) → (Lib.decDigits u).length ≤ k + 1
  | 0, u, h => by rw [Lib.decDigits, dif_pos (by simpa using h)]; simp
  | k + 1, u, h => by
    rw [Lib.decDigits]
    split
    · simp
    · have h2 : u / 10 < 10 ^ (k + 1) := Nat.div_lt_of_lt_mul (by rw [Nat.pow_succ] at h; omega)
      have := dec_len k (u / 10) h2
      simp only [List.length_append, List.length_cons, List.length_nil]; omega
theorem itoa_dig {n : Int} (h : 0 ≤ n) : ∀ c ∈ Lib.itoa n, 48 ≤ c.toNat ∧ c.toNat ≤ 57 := by rw [itoa_pos h]; exact dec_digit _
theorem itoa_ne {n : Int} (h : 0 ≤ n) : 1 ≤ (Lib.itoa n).length := by rw [itoa_pos h]; exact dec_ne _
theorem itoa_len {n : Int} {k : Nat} (h : 0 ≤ n) (h2 : n.toNat < 10 ^ (k + 1)) : (Lib.itoa n).length ≤ k + 1 := by rw [itoa_pos h]; exact dec_len k _ h2
theorem name_noslash {s : ByteArray} (h : nameB s = true) : (47 : UInt8) ∉ s.data.toList := fun hm => by
  unfold nameB at h
  simp only [Bool.and_eq_true, decide_eq_true_eq] at h
  have h1 := h.2.2.2
  unfold nameCh at h1
  have := List.all_eq_true.1 h1 _ hm
  exact absurd this (by decide)
theorem part_name {s : ByteArray} (h : nameB s = true) : partB s = true := by
  have h1 := cut_none (nameB_ok h).1
  exact part_2 (by rw [h1.1]; exact h) h1.2
theorem part_mark {x : Item} (hn : nameB x.name = true) (hx : OKI x) : partB (x.name ++ markB x.node) = true := by
  have e : (x.name ++ markB x.node).data.toList = x.name.data.toList ++ 126 :: (Lib.itoa x.node.t ++ 46 :: Lib.itoa x.node.w) := by
    have := markB_list x.node
    simp only [markL] at this
    rw [← this]; simp
  obtain ⟨h1, h2, h3, h4, h5, h6⟩ := hx
  obtain ⟨a1, a2, a3⟩ := cut_some e h1
  obtain ⟨b1, b2, b3⟩ := cut_some (s := cutZ (x.name ++ markB x.node) 126) (c := 46) (x := Lib.itoa x.node.t) (l := Lib.itoa x.node.w) (by rw [a2]; rfl) (itoa_no h2 (by decide))
  rw [bys_of] at a1
  refine part_3 (by rw [a1]; exact hn) a3 ?_
  rw [b1, b2, b3, dig_yes (itoa_dig h2) (itoa_ne h2) (by have := itoa_len (k := 12) h2 (by omega); omega), dig_yes (itoa_dig h3) (itoa_ne h3) (by have := itoa_len (k := 0) h3 (by omega); omega)]
  rfl
theorem mark_noslash {s : Stamp} (h : 0 ≤ s.t) (h2 : 0 ≤ s.w) : (47 : UInt8) ∉ markL s := by
  intro hm
  simp only [markL, List.mem_cons, List.mem_append] at hm
  rcases hm with e | e | e | e
  · exact absurd e (by decide)
  · exact itoa_no h (by decide) e
  · exact absurd e (by decide)
  · exact itoa_no h2 (by decide) e
def Named (L : List Item) : Prop := ∀ x ∈ L, nameB x.name = true
theorem named_do {L : List Item} (h : Fit L) (hn : Named L) (o : OpD) : Named (doI L o).2 := by
  unfold doI
  split
  · exact hn
  · split
    · exact hn
    · rename_i h1 h2
      show ∀ x ∈ (if (nowI L (gotI L o.node) o).2 = true then putI (nowI L (gotI L o.node) o).1 L else L), nameB x.name = true
      split
      · rename_i h3
        intro x hx
        rcases mem_put h.wf.srt hx with rfl | ⟨hx, _⟩
        · have hr : rightB o = true := by simpa using h1
          have hs : stR o.node = true := by unfold rightB at hr; simp only [Bool.and_eq_true] at hr; exact hr.2.1
          have hb : bodyB o = true := by unfold rightB at hr; simp only [Bool.and_eq_true] at hr; exact hr.2.2.2.2
          have hnn : o.node ≠ nilS := by intro e; rw [e] at hs; cases hs
          have same : (gotI L o.node).node = o.node → nameB (gotI L o.node).name = true := fun e => hn _ (getI_some (got_some hnn e)).1
          unfold nowI at h3 ⊢
          by_cases k1 : o.kind = 1
          · rw [if_pos k1] at h3 ⊢
            unfold bodyB at hb
            rw [if_pos k1] at hb
            simp only [Bool.and_eq_true] at hb
            exact hb.2.1
          · rw [if_neg k1] at h3 ⊢
            by_cases k2 : o.kind = 2
            · rw [if_pos k2] at h3 ⊢
              unfold bodyB at hb
              rw [if_neg k1, if_pos k2] at hb
              simp only [Bool.and_eq_true] at hb
              exact hb.2
            · rw [if_neg k2] at h3 ⊢
              by_cases k3 : o.kind = 3
              · rw [if_pos k3] at h3 ⊢
                exact same (of_decide_eq_true h3)
              · rw [if_neg k3] at h3 ⊢
                simp only [Bool.and_eq_true, decide_eq_true_eq] at h3
                exact same h3.1
        · exact hn x hx
      · exact hn
theorem named_fold : ∀ {l : List OpD} {L : List Item}, Fit L → Named L → Named (l.foldl playI L)
  | [], _, _, hn => hn
  | o :: l, _, h, hn => named_fold (l := l) (fit_do h o) (named_do h hn o)
theorem named_build (os : List OpD) : Named (buildI os) := named_fold ⟨Wf.nil, by simp, by simp⟩ (fun x hx => absurd hx (by simp))
def GoodP (x : ByteArray) : Prop := partB x = true ∧ (47 : UInt8) ∉ x.data.toList ∧ x.data.toList.length ≤ 100
theorem ent_good {L : List Item} (hF : Fit L) (hN : Named L) {n : Stamp} {e : EntD} (he : e ∈ entsI (kidsI n L)) : GoodP e.name := by
  have hshort := ents_short (hF.kids n).1 e he
  obtain ⟨k, hk⟩ := List.mem_iff_getElem?.1 he
  obtain ⟨x, hx, rfl⟩ := entsI_at hk
  have hxk := List.mem_of_getElem? hx
  have hxL := (kids_mem.1 hxk).1
  have ho := hF.ok x hxL
  have hn := hN x hxL
  refine ⟨?_, ?_, hshort⟩
  · unfold entOf
    by_cases h : metB (namesI ((kidsI n L).take k)) x.name = true
    · simp only [if_pos h]; exact part_mark hn ho
    · simp only [if_neg h]; exact part_name hn
  · rw [ent_name]
    split
    · intro hm
      rcases List.mem_append.1 hm with hm | hm
      · exact name_noslash hn hm
      · exact mark_noslash ho.2.1 ho.2.2.1 hm
    · exact name_noslash hn
theorem node_step {L : List Item} (hF : Fit L) {m : Stamp} (hm : m ≠ nilS) (hh : hangsI L 301 m = true) :
    hangsI L 301 (gotI L m).parent = true ∧ kidK L (gotI L m).parent = 0 ∧ ∃ e ∈ entsI (kidsI (gotI L m).parent L), e.node = m ∧ e.name = shownB L m := by
  have hg : ∃ x, getI L m = some x := by
    have h2 : hangsI L (300 + 1) m = true := hh
    rw [hangsI, if_neg hm] at h2
    cases hg : getI L m with
    | none => rw [hg] at h2; cases h2
    | some x => exact ⟨x, rfl⟩
  obtain ⟨x, hg⟩ := hg
  obtain ⟨hxL, hxn⟩ := getI_some hg
  have hG : gotI L m = x := by unfold gotI; rw [hg]; rfl
  have hH : hasI L m = true := by unfold hasI; rw [hg]; rfl
  have hI := hF.wf.item hF.len hxL
  have h4 := hI.2.2.2.1
  rw [hxn, hh] at h4
  have h5 : x.gone = false ∧ hangsI L 301 x.parent = true := by
    have := h4.symm
    simpa using this
  rw [hG]
  have hk : kidK L x.parent = 0 := by
    unfold kidK
    rw [if_neg (by rw [h5.2]; decide)]
    by_cases e : x.parent = nilS
    · have : hasI L x.parent = false := by rw [e]; unfold hasI; rw [hF.wf.nope]; rfl
      rw [this]; rfl
    · have := hI.2.2.1 e
      rw [this.1, this.2]; rfl
  refine ⟨h5.2, hk, ?_⟩
  have hkid : x ∈ kidsI x.parent L := kids_mem.2 ⟨hxL, rfl, h5.1⟩
  obtain ⟨k, hkk⟩ := List.mem_iff_getElem?.1 hkid
  have he := List.mem_of_getElem? (entsI_get hkk)
  have hen : (entOf (namesI ((kidsI x.parent L).take k)) x).node = m := hxn
  refine ⟨_, he, hen, ?_⟩
  have := (hF.shown hk he).1
  rw [hen] at this
  exact this.symm
theorem wk_app {L : List Item} {t : List ByteArray} {p : Stamp} : ∀ {l : List ByteArray} {m : Stamp}, wkS L l m = (p, 0) → wkS L (l ++ t) m = wkS L t p
  | [], m, h => by
    have h2 : (m, (0 : Int)) = (p, 0) := h
    injection h2 with h2 _
    rw [h2]; rfl
  | x :: l, m, h => by
    rw [wkS] at h
    split at h
    · rename_i hc
      rw [List.cons_append, wkS, if_pos hc]
      exact wk_app h
    · rename_i hc
      injection h with _ h
      exact absurd h hc
theorem wk_one {L : List Item} {p : Stamp} {x : ByteArray} (h : findK L p x = 0) : wkS L [x] p = ((findE L p x).node, 0) := by
  rw [wkS, if_pos h]; rfl
theorem wk_nil {L : List Item} : ∀ {l : List ByteArray} {m : Stamp}, (wkS L l m).2 ≠ 0 → (wkS L l m).1 = nilS
  | [], m, h => absurd rfl h
  | x :: l, m, h => by
    rw [wkS] at h ⊢
    split
    · rename_i hc
      rw [if_pos hc] at h
      exact wk_nil h
    · rfl
theorem climb {L : List Item} (hF : Fit L) (hN : Named L) : ∀ (f : Nat) (m : Stamp) (acc l : List ByteArray), hangsI L 301 m = true → ofL L f m acc = some l →
    ∃ t, l = acc ++ t ∧ t.length ≤ f ∧ (∀ x ∈ t, GoodP x) ∧ wkS L t.reverse nilS = (m, 0)
  | 0, m, acc, l, hh, e => by
    unfold ofL at e
    split at e
    · rename_i hm
      injection e with e
      exact ⟨[], by simp [e], Nat.le_refl _, fun x hx => absurd hx (by simp), by rw [hm]; rfl⟩
    · cases e
  | f + 1, m, acc, l, hh, e => by
    unfold ofL at e
    split at e
    · rename_i hm
      injection e with e
      exact ⟨[], by simp [e], Nat.zero_le _, fun x hx => absurd hx (by simp), by rw [hm]; rfl⟩
    · rename_i hm
      obtain ⟨h1, h2, y, hy, hyn, hys⟩ := node_step hF hm hh
      obtain ⟨t, ht, hlen, hgood, hwk⟩ := climb hF hN f _ _ _ h1 e
      have hf := hF.found h2 hy
      rw [hys] at hf
      refine ⟨shownB L m :: t, by rw [ht]; simp, by simp; omega, fun x hx => ?_, ?_⟩
      · rcases List.mem_cons.1 hx with rfl | hx
        · rw [← hys]; exact ent_good hF hN hy
        · exact hgood x hx
      · rw [List.reverse_cons, wk_app hwk, wk_one hf.2, hf.1, hyn]
theorem parse_path {l : List ByteArray} (hl : l.length ≤ 16) (h : ∀ x ∈ l, GoodP x) : parseL ((⟨#[47]⟩ : ByteArray) ++ joinB l) = l ∧ parseK ((⟨#[47]⟩ : ByteArray) ++ joinB l) = 0 := by
  have h4 := slash_add (joinB l)
  by_cases hn : l = []
  · have := parse_2 h4.1 (by rw [h4.2, hn]; rfl)
    rw [hn] at this ⊢
    exact this
  · have hne : joinB l ≠ ⟨#[]⟩ := fun e => by
      have h1 := (join_wid l).2 hn
      rw [e] at h1
      obtain ⟨y, t, rfl⟩ : ∃ y t, l = y :: t := List.exists_cons_of_ne_nil hn
      have h2 := part_pos (h y (by simp)).1
      have h3 : wid (y :: t) = y.size + 1 + wid t := by simp [wid]
      have h5 : (⟨#[]⟩ : ByteArray).size = 0 := rfl
      omega
    have e : splB (restB ((⟨#[47]⟩ : ByteArray) ++ joinB l)) = l := by rw [h4.2]; exact splB_join hn (fun x hx => (h x hx).2.1)
    have hk : showK l = 0 := (show_3 hl (List.all_eq_true.2 fun x hx => (h x hx).1)).2
    have := parse_4 h4.1 (by rw [h4.2]; exact hne) (by rw [e]; exact hk)
    rw [e] at this
    exact this
theorem rev_good {t : List ByteArray} (h : ∀ x ∈ t, GoodP x) : ∀ x ∈ t.reverse, GoodP x := fun x hx => h x (List.mem_reverse.1 hx)
theorem leads {L : List Item} (hF : Fit L) (hN : Named L) {m : Stamp} (hh : hangsI L 301 m = true) (hk : ofK L m ≠ 3) : ofK L m = 0 ∧ walkK L (ofB L m) = 0 ∧ walkS L (ofB L m) = m := by
  cases e : ofL L 16 m [] with
  | none => exact absurd (of_deep hh e).2 hk
  | some l =>
    obtain ⟨t, ht, hlen, hgood, hwk⟩ := climb hF hN 16 m [] l hh e
    have ht' : l = t := by simpa using ht
    subst ht'
    have ho := of_yes hh e
    have hp := parse_path (l := l.reverse) (by simpa using hlen) (rev_good hgood)
    have hw := walk_is (L := L) (s := pathB l) (m := m) (k := 0) hp.2 (by show wkS L (parseL (pathB l)) nilS = _; unfold pathB; rw [hp.1]; exact hwk)
    rw [ho.1]
    exact ⟨ho.2, hw.2, hw.1⟩
theorem of_size {L : List Item} (hF : Fit L) (hN : Named L) (m : Stamp) : (ofB L m).size ≤ 1700 := by
  cases hh : hangsI L 301 m with
  | false => rw [(of_no hh).1]; exact Nat.zero_le _
  | true =>
    cases e : ofL L 16 m [] with
    | none => rw [(of_deep hh e).1]; exact Nat.zero_le _
    | some l =>
      obtain ⟨t, ht, hlen, hgood, _⟩ := climb hF hN 16 m [] l hh e
      have ht' : l = t := by simpa using ht
      subst ht'
      have h1 := joinB_short (l := l) (fun x hx => (hgood x hx).2.2) hlen
      rw [(of_yes hh e).1]
      unfold pathB
      rw [ByteArray.size_append]
      have h5 : (⟨#[47]⟩ : ByteArray).size = 1 := rfl
      omega
theorem back {L : List Item} (hF : Fit L) : ∀ (l : List ByteArray) (m n : Stamp) (r : List ByteArray), hangsI L 301 m = true → (∀ f acc, r.length ≤ f → ofL L f m acc = some (acc ++ r)) → wkS L l m = (n, 0) →
    hangsI L 301 n = true ∧ ∀ f acc, l.length + r.length ≤ f → ofL L f n acc = some (acc ++ (l.reverse ++ r))
  | [], m, n, r, hh, hr, e => by
    have h2 : (m, (0 : Int)) = (n, 0) := e
    injection h2 with h2 _
    subst h2
    exact ⟨hh, fun f acc hf => by simpa using hr f acc (by simpa using hf)⟩
  | x :: l, m, n, r, hh, hr, e => by
    rw [wkS] at e
    split at e
    · rename_i hc
      have hk : kidK L m = 0 := by
        unfold findK at hc
        by_cases hk : kidK L m = 0
        · exact hk
        · rw [if_neg hk] at hc; exact absurd hc hk
      obtain ⟨y, hy, hyx⟩ : ∃ y ∈ entsI (kidsI m L), y.name = x := by
        unfold findK at hc
        rw [if_pos hk] at hc
        cases el : lookE L m x with
        | none => rw [el] at hc; simp at hc
        | some y =>
          unfold lookE at el
          exact ⟨y, List.mem_of_find?_eq_some el, by simpa using List.find?_some el⟩
      have hf := hF.found hk hy
      rw [hyx] at hf
      rw [hf.1] at e
      have hs := (hF.shown hk hy).1
      rw [hyx] at hs
      obtain ⟨z, hz, hzn⟩ := ents_node hy
      obtain ⟨hzL, hzp, hzg⟩ := kids_mem.1 hz
      have hG : gotI L y.node = z := by unfold gotI; rw [hzn, getI_mem hF.wf.srt hzL]; rfl
      have hne : y.node ≠ nilS := by rw [hzn]; exact hF.wf.nonil z hzL
      have hhy : hangsI L 301 y.node = true := by
        rw [hzn, (hF.wf.item hF.len hzL).2.2.2.1, hzg, hzp, hh]; rfl
      obtain ⟨a1, a2⟩ := back hF l y.node n (x :: r) hhy (fun f acc hf2 => by
        simp only [List.length_cons] at hf2
        obtain ⟨f, rfl⟩ : ∃ g, f = g + 1 := ⟨f - 1, by omega⟩
        unfold ofL
        rw [if_neg hne, hG, hzp, hs, hr f _ (by omega)]
        simp) e
      refine ⟨a1, fun f acc hf2 => ?_⟩
      rw [a2 f acc (by simp at hf2 ⊢; omega)]
      simp
    · rename_i hc
      injection e with _ e
      exact absurd e hc
theorem walk_ok {L : List Item} {s : ByteArray} (h : walkK L s = 0) : parseK s = 0 ∧ wkS L (parseL s) nilS = (walkS L s, 0) := by
  by_cases hp : parseK s = 0
  · refine ⟨hp, ?_⟩
    unfold walkK at h
    unfold walkS
    rw [if_pos hp] at h ⊢
    exact Prod.ext rfl h
  · rw [(walk_bad hp).2] at h; exact absurd h hp
theorem walk_back {L : List Item} (hF : Fit L) {s : ByteArray} (h : walkK L s = 0) : ofK L (walkS L s) = 0 ∧ ofB L (walkS L s) = s := by
  obtain ⟨hp, hw⟩ := walk_ok h
  have hs := parse_show hp
  have hk := show_ok hs.1
  obtain ⟨h1, h2⟩ := back hF (parseL s) nilS _ [] (by simp [hangsI]) (fun f acc _ => by rw [show nilS = (⟨0, 0⟩ : Stamp) from rfl, ofL_nil]; simp) hw
  have ho := of_yes h1 (h2 16 [] (by simpa using hk.1))
  refine ⟨ho.2, ?_⟩
  rw [ho.1]
  unfold pathB
  simp only [List.nil_append, List.append_nil, List.reverse_reverse]
  rw [← hk.2.2, hs.2]
theorem walk_none {L : List Item} {s : ByteArray} (h : walkK L s ≠ 0) : walkS L s = nilS := by
  by_cases hp : parseK s = 0
  · unfold walkK at h
    unfold walkS
    rw [if_pos hp] at h ⊢
    exact wk_nil h
  · exact (walk_bad hp).1
end Go.Proofs.YtefhfoioeoijlaaGreatDoor
set_option linter.unusedVariables false
set_option linter.unusedSimpArgs false
namespace Go.Proofs.YtefhfoioeoijlaaGreatDoor
open Go Go.RowKit Go.Sort
set_option maxRecDepth 20000 in
set_option maxHeartbeats 2000000 in
theorem pathLeads_at {B : Nat} {w : World} {lA : Option Addr} {lc : Nat} {os : List OpD} (h0 : OpRow0 w lA os) (hfull : Small os → OpRow B w lA os) (hB : B ≤ w.heap.size) (hn : os.length ≤ 9223372036854775807) (htab : Tab w) (hmx : Mx w) (s : ByteArray) (hs9 : s.size ≤ 9223372036854775807) :
    Calls Tryz.prog 8 #[.slice lA os.length lc, .string s] w fun e w' => e = .returned (.bool true) ∧ Up w w' := by
  go_enter Tryz.func8, Tryz.ntmps8
  refine wp_seq (rg_lit ?_)
  refine was (v := .bool false) ?_
  refine wnil (then_n (wp_seq (wp_seq (rg_lit ?_))))
  refine wmv (v := .slice lA os.length lc) ?_
  refine wl (sc rfl (r_callv (caps := []) (all := [.slice lA os.length lc, .int .i64 30]) En.f13 (by kernel_rfl) (by kernel_rfl)) (light2_at (OpRow0.up h0 (Mod.up (Mod.refl [] w))) hn 30) ?_)
  rintro e w1 ⟨lb2, rfl, h3, u4⟩
  refine ⟨.bool lb2, rfl, ?_⟩
  have M5 := Mod.trans (Mod.refl [] w) (Mod.of_up u4)
  refine wl (sv rfl (v := .bool (!lb2)) (r_not (b := lb2) (by kernel_rfl)) ?_)
  refine wmv (v := .bool (!lb2)) ?_
  refine bcase lb2 (fun v6 => ?_) (fun v6 => ?_)
  ·
   refine wl (sp (wf (b := !lb2) rfl (by kernel_rfl) (bneg v6)) ?_)
   refine wl (sp (wf (b := !lb2) rfl (by kernel_rfl) (bneg v6)) ?_)
   refine wl (sp (wf (b := !lb2) rfl (by kernel_rfl) (bneg v6)) ?_)
   refine wl (sv rfl (v := .bool true) (r_pkT (ebool (b := !lb2) (by kernel_rfl) (bneg v6)) (by kernel_rfl)) ?_)
   refine wnil (then_n ?_)
   refine wp_cond_true (by kernel_rfl) ?_
   refine wp_seq (rg_lit ?_)
   refine wl (sc rfl (r_callv (caps := []) (all := []) En.f40 (by kernel_rfl) (by kernel_rfl)) (alive19_at (TabIs.up htab (Mod.up M5)) (Mx.up hmx (Mod.up M5))) ?_)
   rintro e w7 ⟨rfl, u8⟩
   refine ⟨.bool true, rfl, ?_⟩
   have M9 := Mod.trans M5 (Mod.of_up u8)
   refine was (v := .bool true) ?_
   refine wnil (then_n (wp_ret (then_x (by nofun) ?_)))
   refine bodyPost_ret (v := .bool true) (res1 rfl (rv_t (by kernel_rfl))) (by kernel_rfl) ?_
   exact ⟨rfl, (Mod.up M9)⟩
  obtain ⟨hsm7, hle7⟩ := h3 v6
  have hops := hfull hsm7
  refine wl (sv (wt (b := !lb2) rfl (by kernel_rfl) (bneg v6)) (v := .string s) (r_move (by kernel_rfl)) ?_)
  refine wl (sv (wt (b := !lb2) rfl (by kernel_rfl) (bneg v6)) (v := .int .i64 (s.size : Int)) (r_lens Ty.un9 (s := s) (by kernel_rfl)) ?_)
  refine wl (sb (wt (b := !lb2) rfl (by kernel_rfl) (bneg v6)) (r_gt (k := .i64) (m := (s.size : Int)) (n := 600) (by kernel_rfl) (by kernel_rfl)) ?_)
  intro b8 k9
  refine wl (sv rfl (v := .bool b8) (r_pkF (ebool (b := !lb2) (by kernel_rfl) (bneg v6)) (by kernel_rfl)) ?_)
  refine wnil (then_n ?_)
  refine bcase b8 (fun v10 => ?_) (fun v10 => ?_)
  ·
   have p11 := of_decide_eq_false (k9.trans v10)
   refine wp_cond_false (ebool (b := b8) (by kernel_rfl) v10) ?_
   refine wp_skip (then_n (wp_seq (rg_lit ?_)))
   refine wmv (v := .slice lA os.length lc) ?_
   have h12 := (OpRow.up hops (Mod.up M5))
   refine wl (sc rfl (r_callv (caps := []) (all := [.slice lA os.length lc]) En.f15 (by kernel_rfl) (by kernel_rfl)) (build_at h12 (Nat.le_trans hB M5.size) (by omega)) ?_)
   rintro e w13 ⟨tb, r, rfl, h14, u15, z16, z17⟩
   refine ⟨.pointer (some ⟨tb, 0, none⟩), rfl, ?_⟩
   have M18 := Mod.trans M5 (Mod.of_up u15)
   obtain ⟨hwf, hlen⟩ := buildI_wf os
   obtain ⟨L0, hL0⟩ : ∃ L, buildI os = L := ⟨_, rfl⟩
   rw [hL0] at hwf hlen h14
   obtain ⟨eshr19, clhr19, xshr19, hr19, _⟩ := h14.2.2.2.1
   have hF : Fit L0 := by rw [← hL0]; exact fit_build os
   have hNm : Named L0 := by rw [← hL0]; exact named_build os
   refine was (v := .pointer (some ⟨tb, 0, none⟩)) ?_
   refine wnil (then_n (wp_seq (rg_lit ?_)))
   refine wmv (v := .pointer (some ⟨tb, 0, none⟩)) ?_
   refine wl (sc rfl (r_callv (caps := []) (all := [.pointer (some ⟨tb, 0, none⟩)]) En.f41 (by kernel_rfl) (by kernel_rfl)) (row_sl (all_at h14 (Nat.le_trans hB M18.size))) ?_)
   rintro e w20 ⟨A21, c22, rfl, h23, u24⟩
   refine ⟨.slice A21 L0.length c22, rfl, ?_⟩
   have M25 := Mod.trans M18 (Mod.of_up u24)
   refine was (v := .slice A21 L0.length c22) ?_
   refine wnil (then_n (wp_seq (wp_seq (rg_lit ?_))))
   refine was (v := .int .i64 0) ?_
   refine wnil (then_n (wp_block ?_))
   have h26 := (up_ob u24 hr19)
   have h27 := (up_ob u24 h14.1)
   have h28 := h3
   have h29 := (OpRow.up hops (Mod.up M25))
   have h30 := (TreeIs.up h14 u24)
   refine lp (fun n a r1 => ∃ (k : Nat) (Z : Nat → Value), (n = L0.length - k) ∧ (a = ⟨#[.slice lA os.length lc, .string s, undef, undef, (Z 4), .pointer (some ⟨tb, 0, none⟩), .slice A21 L0.length c22, .int .i64 (k : Int), (Z 8), (Z 9), (Z 10), (Z 11), undef, undef, undef, undef, .slice lA os.length lc, .bool lb2, .bool (!lb2), .bool (!lb2), .string s, .int .i64 (s.size : Int), .bool b8, .bool b8, undef, .slice lA os.length lc, .pointer (some ⟨tb, 0, none⟩), .pointer (some ⟨tb, 0, none⟩), .slice A21 L0.length c22, (Z 29), (Z 30), (Z 31), (Z 32), (Z 33), (Z 34), (Z 35), (Z 36), (Z 37), (Z 38), (Z 39), (Z 40), (Z 41), (Z 42), (Z 43), (Z 44), (Z 45), (Z 46), (Z 47), (Z 48), (Z 49), (Z 50), (Z 51), (Z 52), (Z 53), (Z 54), (Z 55), (Z 56), (Z 57), (Z 58), (Z 59), (Z 60), (Z 61), (Z 62), (Z 63), (Z 64), (Z 65), (Z 66), (Z 67), (Z 68), (Z 69), (Z 70), (Z 71), (Z 72), (Z 73), (Z 74), (Z 75), (Z 76), (Z 77), undef, undef, undef, undef, undef, undef, undef, undef, undef, undef, undef, undef, undef, undef, undef, undef, undef, undef, undef, undef, undef, undef, undef, undef, undef, undef, undef, undef, undef, undef], []⟩) ∧ (Mod [] w20 r1) ∧ (k ≤ L0.length)) ⟨_, 0, tget [undef, undef, undef, undef, .bool false, undef, undef, undef, undef, undef, undef, undef, undef, undef, undef, undef, undef, undef, undef, undef, undef, undef, undef, undef, undef, undef, undef, undef, undef, undef, undef, undef, undef, undef, undef, undef, undef, undef, undef, undef, undef, undef, undef, undef, undef, undef, undef, undef, undef, undef, undef, undef, undef, undef, undef, undef, undef, undef, undef, undef, undef, undef, undef, undef, undef, undef, undef, undef, undef, undef, undef, undef, undef, undef, undef, undef, undef, undef], rfl, (by kernel_rfl), Mod.refl _ _, Nat.zero_le _⟩ ?_
   rintro _ _ r1 ⟨k, Z, rfl, rfl, hM1, hF1_0⟩
   have M31 := Mod.thin M25 hM1 (by simp)
   refine wp_seq (wp_seq (rg_lit ?_))
   refine wmv (v := .int .i64 (k : Int)) ?_
   refine wmv (v := .slice A21 L0.length c22) ?_
   refine wl (sv rfl (v := .int .i64 (L0.length : Int)) (r_len Ty.un74 (ad := A21) (n := L0.length) (c := c22) (by kernel_rfl)) ?_)
   refine wl (sb rfl (r_lt (k := .i64) (m := (k : Int)) (n := (L0.length : Int)) (by kernel_rfl) (by kernel_rfl)) ?_)
   intro b32 k33
   refine wnil (then_n ?_)
   refine bcase b32 (fun v34 => ?_) (fun v34 => ?_)
   ·
    have p35 := of_decide_eq_false (k33.trans v34)
    refine wp_cond_false (ebool (b := b32) (by kernel_rfl) v34) ?_
    refine wp_exit (then_x (by nofun) (then_x (by nofun) (inb_hit (then_n (wp_seq (rg_lit ?_))))))
    refine wmv (v := .pointer (some ⟨tb, 0, none⟩)) ?_
    refine wmv (v := .string s) ?_
    have h36 := (TreeIs.up h30 (Mod.up hM1))
    refine wl (sc rfl (r_callv (caps := []) (all := [.pointer (some ⟨tb, 0, none⟩), .string s]) En.f43 (by kernel_rfl) (by kernel_rfl)) (walk_at h36 (Nat.le_trans hB M31.size) hF (TabIs.up htab (Mod.up M31)) (Mx.up hmx (Mod.up M31)) s (by omega)) ?_)
    rintro e w37 ⟨rfl, u38⟩
    refine ⟨.tuple #[.agg #[.int .i64 ((walkS L0 s).t), .int .i64 ((walkS L0 s).w)], .int .i64 (walkK L0 s)], rfl, ?_⟩
    have M39 := Mod.trans M31 (Mod.of_up u38)
    have M40 := Mod.trans hM1 (Mod.of_up u38)
    refine wmv (v := .tuple #[.agg #[.int .i64 ((walkS L0 s).t), .int .i64 ((walkS L0 s).w)], .int .i64 (walkK L0 s)]) ?_
    refine wl (sv rfl (v := .agg #[.int .i64 ((walkS L0 s).t), .int .i64 ((walkS L0 s).w)]) (r_extract (vs := [.agg #[.int .i64 ((walkS L0 s).t), .int .i64 ((walkS L0 s).w)], .int .i64 (walkK L0 s)]) (by kernel_rfl) rfl) ?_)
    refine wl (sv rfl (v := .int .i64 (walkK L0 s)) (r_extract (vs := [.agg #[.int .i64 ((walkS L0 s).t), .int .i64 ((walkS L0 s).w)], .int .i64 (walkK L0 s)]) (by kernel_rfl) rfl) ?_)
    refine wl (sn rfl (cs := #[.int .i64 0, .int .i64 0]) (T := 24) (V := fun b => .pointer (some ⟨b, 0, none⟩)) (r_alloc Ty.zv24 rfl) ?_)
    intro b41 w42 e43 h44 u45
    have h46 := md_ob M40 nin0 h26
    have l47 : r < b41 := by rw [e43]; exact lt_ob h46
    have h48 := md_ob M40 nin0 h27
    have l49 : tb < b41 := by rw [e43]; exact lt_ob h48
    have g50 : w.heap.size ≤ b41 := by rw [e43]; exact M39.size
    have g51 : w20.heap.size ≤ b41 := by rw [e43]; exact M40.size
    have M52 := Mod.trans M39 (Mod.of_up u45)
    have M53 := Mod.trans M40 (Mod.of_up u45)
    refine wl (ss rfl (k := 0) (v := .agg #[.int .i64 ((walkS L0 s).t), .int .i64 ((walkS L0 s).w)]) (vs := [.int .i64 ((walkS L0 s).t), .int .i64 ((walkS L0 s).w)]) (cs' := [.int .i64 ((walkS L0 s).t), .int .i64 ((walkS L0 s).w)]) (by kernel_rfl) (by kernel_rfl) rfl Ty.sz24 h44 rfl (Nat.le_of_ble_eq_true rfl) rfl ?_)
    intro w54 h55 c56
    have M57 := Mod.trans' M52 c56 (fun i hi => by injection hi with hi; rw [← hi]; exact g50)
    have M58 := Mod.trans' M53 c56 (fun i hi => by injection hi with hi; rw [← hi]; exact g51)
    refine was (v := .int .i64 (walkK L0 s)) ?_
    refine wnil (then_n (wp_seq (wp_seq (rg_lit ?_))))
    refine wmv (v := .int .i64 (walkK L0 s)) ?_
    refine wl (sb rfl (r_ne (k := .i64) (m := (walkK L0 s)) (n := 0) (by kernel_rfl) (by kernel_rfl)) ?_)
    intro b59 k60
    refine wnil (then_n ?_)
    refine bcase b59 (fun v61 => ?_) (fun v61 => ?_)
    ·
     have p62 := of_decide_eq_false (k60.trans v61)
     refine wp_cond_false (ebool (b := b59) (by kernel_rfl) v61) ?_
     refine wp_skip (then_n (wp_seq (rg_lit ?_)))
     refine wmv (v := .pointer (some ⟨tb, 0, none⟩)) ?_
     refine wl (sv rfl (v := .agg #[.int .i64 ((walkS L0 s).t), .int .i64 ((walkS L0 s).w)]) (r_loads (k := 0) (by kernel_rfl) Ty.ag24 Ty.sz24 h55 (by kernel_rfl)) ?_)
     have h63 := (TreeIs.up h30 (Mod.up M58))
     refine wl (sc rfl (r_callv (caps := []) (all := [.pointer (some ⟨tb, 0, none⟩), .agg #[.int .i64 ((walkS L0 s).t), .int .i64 ((walkS L0 s).w)]]) En.f42 (by kernel_rfl) (by kernel_rfl)) (of_at h63 (Nat.le_trans hB M57.size) hF (TabIs.up htab (Mod.up M57)) ((walkS L0 s).t) ((walkS L0 s).w)) ?_)
     rintro e w64 ⟨rfl, u65⟩
     refine ⟨.tuple #[.string (ofB L0 ⟨(walkS L0 s).t, (walkS L0 s).w⟩), .int .i64 (ofK L0 ⟨(walkS L0 s).t, (walkS L0 s).w⟩)], rfl, ?_⟩
     have M66 := Mod.trans M57 (Mod.of_up u65)
     have M67 := Mod.trans M58 (Mod.of_up u65)
     refine wmv (v := .tuple #[.string (ofB L0 ⟨(walkS L0 s).t, (walkS L0 s).w⟩), .int .i64 (ofK L0 ⟨(walkS L0 s).t, (walkS L0 s).w⟩)]) ?_
     refine wl (sv rfl (v := .string (ofB L0 ⟨(walkS L0 s).t, (walkS L0 s).w⟩)) (r_extract (vs := [.string (ofB L0 ⟨(walkS L0 s).t, (walkS L0 s).w⟩), .int .i64 (ofK L0 ⟨(walkS L0 s).t, (walkS L0 s).w⟩)]) (by kernel_rfl) rfl) ?_)
     refine wl (sv rfl (v := .int .i64 (ofK L0 ⟨(walkS L0 s).t, (walkS L0 s).w⟩)) (r_extract (vs := [.string (ofB L0 ⟨(walkS L0 s).t, (walkS L0 s).w⟩), .int .i64 (ofK L0 ⟨(walkS L0 s).t, (walkS L0 s).w⟩)]) (by kernel_rfl) rfl) ?_)
     refine was (v := .string (ofB L0 ⟨(walkS L0 s).t, (walkS L0 s).w⟩)) ?_
     refine was (v := .int .i64 (ofK L0 ⟨(walkS L0 s).t, (walkS L0 s).w⟩)) ?_
     refine wnil (then_n (wp_seq (rg_lit ?_)))
     refine wmv (v := .int .i64 (ofK L0 ⟨(walkS L0 s).t, (walkS L0 s).w⟩)) ?_
     refine wl (sb rfl (r_eq (k := .i64) (m := (ofK L0 ⟨(walkS L0 s).t, (walkS L0 s).w⟩)) (n := 0) (by kernel_rfl) (by kernel_rfl)) ?_)
     intro b68 k69
     refine wmv (v := .bool b68) ?_
     refine bcase b68 (fun v70 => ?_) (fun v70 => ?_)
     ·
      have p71 := of_decide_eq_false (k69.trans v70)
      exact absurd (walk_back hF (Decidable.not_not.1 p62)).1 p71
     have p71 := of_decide_eq_true (k69.trans v70)
     refine wl (sv (wt (b := b68) rfl (by kernel_rfl) v70) (v := .string (ofB L0 ⟨(walkS L0 s).t, (walkS L0 s).w⟩)) (r_move (by kernel_rfl)) ?_)
     refine wl (sv (wt (b := b68) rfl (by kernel_rfl) v70) (v := .string s) (r_move (by kernel_rfl)) ?_)
     refine wl (sb (wt (b := b68) rfl (by kernel_rfl) v70) (r_eqs (m := (ofB L0 ⟨(walkS L0 s).t, (walkS L0 s).w⟩)) (n := s) (by kernel_rfl) (by kernel_rfl)) ?_)
     intro b72 k73
     refine wl (sv rfl (v := .bool b72) (r_pkT (ebool (b := b68) (by kernel_rfl) v70) (by kernel_rfl)) ?_)
     refine wmv (v := .bool b72) ?_
     refine bcase b72 (fun v74 => ?_) (fun v74 => ?_)
     ·
      have p75 := of_decide_eq_false (k73.trans v74)
      exact absurd (walk_back hF (Decidable.not_not.1 p62)).2 p75
     have p75 := of_decide_eq_true (k73.trans v74)
     refine wl (sc (wt (b := b72) rfl (by kernel_rfl) v74) (r_callv (caps := []) (all := []) En.f40 (by kernel_rfl) (by kernel_rfl)) (alive19_at (TabIs.up htab (Mod.up M66)) (Mx.up hmx (Mod.up M66))) ?_)
     rintro e w76 ⟨rfl, u77⟩
     refine ⟨.bool true, rfl, ?_⟩
     have M78 := Mod.trans M66 (Mod.of_up u77)
     have M79 := Mod.trans M67 (Mod.of_up u77)
     refine wl (sv rfl (v := .bool true) (r_pkT (ebool (b := b72) (by kernel_rfl) v74) (by kernel_rfl)) ?_)
     refine was (v := .bool true) ?_
     refine wnil (then_n (wp_ret ?_))
     refine bodyPost_ret (v := .bool true) (res1 rfl (rv_t (by kernel_rfl))) (by kernel_rfl) ?_
     exact ⟨rfl, (Mod.up M78)⟩
    have p62 := of_decide_eq_true (k60.trans v61)
    refine wp_cond_true (ebool (b := b59) (by kernel_rfl) v61) ?_
    refine wp_seq (rg_lit ?_)
    refine wl (sv rfl (v := .agg #[.int .i64 ((walkS L0 s).t), .int .i64 ((walkS L0 s).w)]) (r_loads (k := 0) (by kernel_rfl) Ty.ag24 Ty.sz24 h55 (by kernel_rfl)) ?_)
    refine wl (sv rfl (v := .agg #[.int .i64 0, .int .i64 0]) (r_build (ps := []) (cs := [.int .i64 0, .int .i64 0]) Ty.un24 Ty.zv24 Ty.pl24 (by kernel_rfl) (by kernel_rfl)) ?_)
    refine wl (sb rfl (r_eqS (a := ((walkS L0 s).t)) (b := ((walkS L0 s).w)) (c := 0) (e := 0) (by kernel_rfl) (by kernel_rfl)) ?_)
    intro b63 k64
    refine wmv (v := .bool b63) ?_
    refine bcase b63 (fun v65 => ?_) (fun v65 => ?_)
    ·
     have p66 := of_decide_eq_false (k64.trans v65)
     exact absurd (walk_none p62) p66
    have p66 := of_decide_eq_true (k64.trans v65)
    refine wl (sc (wt (b := b63) rfl (by kernel_rfl) v65) (r_callv (caps := []) (all := []) En.f40 (by kernel_rfl) (by kernel_rfl)) (alive19_at (TabIs.up htab (Mod.up M57)) (Mx.up hmx (Mod.up M57))) ?_)
    rintro e w67 ⟨rfl, u68⟩
    refine ⟨.bool true, rfl, ?_⟩
    have M69 := Mod.trans M57 (Mod.of_up u68)
    have M70 := Mod.trans M58 (Mod.of_up u68)
    refine wl (sv rfl (v := .bool true) (r_pkT (ebool (b := b63) (by kernel_rfl) v65) (by kernel_rfl)) ?_)
    refine was (v := .bool true) ?_
    refine wnil (then_n (wp_ret (then_x (by nofun) ?_)))
    refine bodyPost_ret (v := .bool true) (res1 rfl (rv_t (by kernel_rfl))) (by kernel_rfl) ?_
    exact ⟨rfl, (Mod.up M69)⟩
   have p35 := of_decide_eq_true (k33.trans v34)
   have q36 : k < L0.length := by omega
   have q37 : k < L0.length := by omega
   refine wp_cond_true (ebool (b := b32) (by kernel_rfl) v34) ?_
   refine wp_skip (then_n (wp_seq (wp_block (wp_seq (rg_lit ?_)))))
   refine wmv (v := .pointer (some ⟨tb, 0, none⟩)) ?_
   refine wmv (v := .slice A21 L0.length c22) ?_
   refine wmv (v := .int .i64 (k : Int)) ?_
   have h38 := (IRow.up h23 (Mod.up hM1))
   obtain ⟨y39, hy39⟩ : ∃ x, L0[k]? = some x := ⟨_, List.getElem?_eq_getElem q37⟩
   obtain ⟨g39, cp39, cu39, dA39, dn39, dc39, hA39, hg39, hb39, he39, hD39⟩ := h38.get hy39
   injection hA39 with hA39 _ _
   replace he39 : (cu39.toList.drop (0 + k * 10)).take 10 = (itC y39 (.slice dA39 dn39 dc39)) := by rw [Nat.zero_add]; exact he39
   refine wl (sv rfl (v := .pointer (some ⟨g39, 0 + k * 10, none⟩)) (r_ixaddr' (A := A21) (b := g39) (o := 0) (n := L0.length) (c := c22) (sz := 10) (j := (k : Int)) (by kernel_rfl) hA39 (by kernel_rfl) Ty.un74 Ty.sz42 (by omega) (by omega) (by simp)) ?_)
   refine wl (sv rfl (v := .pointer (some ⟨g39, 0 + k * 10, none⟩)) (r_fieldAddr (u := .pointer (some ⟨g39, 0 + k * 10, none⟩)) (by kernel_rfl) (fun _ => (by kernel_rfl))) ?_)
   refine wl (sv rfl (v := .agg #[.int .i64 y39.node.t, .int .i64 y39.node.w]) (r_loads (k := 0 + k * 10) (by kernel_rfl) Ty.ag24 Ty.sz24 hb39 (el_sub0 he39 rfl)) ?_)
   have h40 := (TreeIs.up h30 (Mod.up hM1))
   refine wl (sc rfl (r_callv (caps := []) (all := [.pointer (some ⟨tb, 0, none⟩), .agg #[.int .i64 y39.node.t, .int .i64 y39.node.w]]) En.f42 (by kernel_rfl) (by kernel_rfl)) (of_at h40 (Nat.le_trans hB M31.size) hF (TabIs.up htab (Mod.up M31)) y39.node.t y39.node.w) ?_)
   rintro e w41 ⟨rfl, u42⟩
   refine ⟨.tuple #[.string (ofB L0 ⟨y39.node.t, y39.node.w⟩), .int .i64 (ofK L0 ⟨y39.node.t, y39.node.w⟩)], rfl, ?_⟩
   have M43 := Mod.trans M31 (Mod.of_up u42)
   have M44 := Mod.trans hM1 (Mod.of_up u42)
   refine wmv (v := .tuple #[.string (ofB L0 ⟨y39.node.t, y39.node.w⟩), .int .i64 (ofK L0 ⟨y39.node.t, y39.node.w⟩)]) ?_
   refine wl (sv rfl (v := .string (ofB L0 ⟨y39.node.t, y39.node.w⟩)) (r_extract (vs := [.string (ofB L0 ⟨y39.node.t, y39.node.w⟩), .int .i64 (ofK L0 ⟨y39.node.t, y39.node.w⟩)]) (by kernel_rfl) rfl) ?_)
   refine wl (sv rfl (v := .int .i64 (ofK L0 ⟨y39.node.t, y39.node.w⟩)) (r_extract (vs := [.string (ofB L0 ⟨y39.node.t, y39.node.w⟩), .int .i64 (ofK L0 ⟨y39.node.t, y39.node.w⟩)]) (by kernel_rfl) rfl) ?_)
   refine was (v := .string (ofB L0 ⟨y39.node.t, y39.node.w⟩)) ?_
   refine was (v := .int .i64 (ofK L0 ⟨y39.node.t, y39.node.w⟩)) ?_
   refine wnil (then_n (wp_seq (wp_seq (rg_lit ?_))))
   refine wmv (v := .pointer (some ⟨tb, 0, none⟩)) ?_
   refine wmv (v := .slice A21 L0.length c22) ?_
   refine wmv (v := .int .i64 (k : Int)) ?_
   have h45 := (IRow.up h23 (Mod.up M44))
   obtain ⟨g46, cp46, cu46, dA46, dn46, dc46, hA46, hg46, hb46, he46, hD46⟩ := h45.get hy39
   injection hA46 with hA46 _ _
   replace he46 : (cu46.toList.drop (0 + k * 10)).take 10 = (itC y39 (.slice dA46 dn46 dc46)) := by rw [Nat.zero_add]; exact he46
   refine wl (sv rfl (v := .pointer (some ⟨g46, 0 + k * 10, none⟩)) (r_ixaddr' (A := A21) (b := g46) (o := 0) (n := L0.length) (c := c22) (sz := 10) (j := (k : Int)) (by kernel_rfl) hA46 (by kernel_rfl) Ty.un74 Ty.sz42 (by omega) (by omega) (by simp)) ?_)
   refine wl (sv rfl (v := .pointer (some ⟨g46, 0 + k * 10, none⟩)) (r_fieldAddr (u := .pointer (some ⟨g46, 0 + k * 10, none⟩)) (by kernel_rfl) (fun _ => (by kernel_rfl))) ?_)
   refine wl (sv rfl (v := .agg #[.int .i64 y39.node.t, .int .i64 y39.node.w]) (r_loads (k := 0 + k * 10) (by kernel_rfl) Ty.ag24 Ty.sz24 hb46 (el_sub0 he46 rfl)) ?_)
   have h47 := (TreeIs.up h30 (Mod.up M44))
   refine wl (sc rfl (r_callv (caps := []) (all := [.pointer (some ⟨tb, 0, none⟩), .agg #[.int .i64 y39.node.t, .int .i64 y39.node.w]]) En.f39 (by kernel_rfl) (by kernel_rfl)) (hangs_at h47 y39.node.t y39.node.w) ?_)
   rintro e w48 ⟨rfl, u49⟩
   refine ⟨.bool (hangsI L0 301 ⟨y39.node.t, y39.node.w⟩), rfl, ?_⟩
   have M50 := Mod.trans M43 (Mod.of_up u49)
   have M51 := Mod.trans M44 (Mod.of_up u49)
   refine wl (sv rfl (v := .bool (!(hangsI L0 301 ⟨y39.node.t, y39.node.w⟩))) (r_not (b := (hangsI L0 301 ⟨y39.node.t, y39.node.w⟩)) (by kernel_rfl)) ?_)
   refine wnil (then_n ?_)
   refine bcase (hangsI L0 301 ⟨y39.node.t, y39.node.w⟩) (fun v52 => ?_) (fun v52 => ?_)
   ·
    refine wp_cond_true (ebool (b := !(hangsI L0 301 ⟨y39.node.t, y39.node.w⟩)) (by kernel_rfl) (bneg v52)) ?_
    refine wp_seq (wp_seq (rg_lit ?_))
    refine wmv (v := .int .i64 (ofK L0 ⟨y39.node.t, y39.node.w⟩)) ?_
    refine wl (sb rfl (r_ne (k := .i64) (m := (ofK L0 ⟨y39.node.t, y39.node.w⟩)) (n := 12) (by kernel_rfl) (by kernel_rfl)) ?_)
    intro b53 k54
    refine wnil (then_n ?_)
    refine bcase b53 (fun v55 => ?_) (fun v55 => ?_)
    ·
     have p56 := of_decide_eq_false (k54.trans v55)
     refine wp_cond_false (ebool (b := b53) (by kernel_rfl) v55) ?_
     refine wp_skip (then_n (wp_exit (then_x (by nofun) (inb_hit (then_n (rg_lit ?_))))))
     refine wmv (v := .int .i64 (k : Int)) ?_
     refine wl (sv rfl (v := .int .i64 ((k + 1 : Nat) : Int)) (r_add (k := .i64) (m := (k : Int)) (n := 1) (c := ((k + 1 : Nat) : Int)) (by kernel_rfl) (by kernel_rfl) ((IntWalk.i64_in _ (by omega)).trans (by omega))) ?_)
     refine was (v := .int .i64 ((k + 1 : Nat) : Int)) ?_
     refine wnil (then_n ?_)
     refine ⟨L0.length - (k + 1), ?_, (k + 1), tget [undef, undef, undef, undef, (Z 4), undef, undef, undef, .string (ofB L0 ⟨y39.node.t, y39.node.w⟩), .int .i64 (ofK L0 ⟨y39.node.t, y39.node.w⟩), (Z 10), (Z 11), undef, undef, undef, undef, undef, undef, undef, undef, undef, undef, undef, undef, undef, undef, undef, undef, undef, .int .i64 (k : Int), .slice A21 L0.length c22, .int .i64 (L0.length : Int), .bool b32, .int .i64 (k : Int), .int .i64 ((k + 1 : Nat) : Int), .tuple #[.string (ofB L0 ⟨y39.node.t, y39.node.w⟩), .int .i64 (ofK L0 ⟨y39.node.t, y39.node.w⟩)], .pointer (some ⟨tb, 0, none⟩), .slice A21 L0.length c22, .int .i64 (k : Int), .pointer (some ⟨g39, 0 + k * 10, none⟩), .pointer (some ⟨g39, 0 + k * 10, none⟩), .agg #[.int .i64 y39.node.t, .int .i64 y39.node.w], .tuple #[.string (ofB L0 ⟨y39.node.t, y39.node.w⟩), .int .i64 (ofK L0 ⟨y39.node.t, y39.node.w⟩)], .string (ofB L0 ⟨y39.node.t, y39.node.w⟩), .int .i64 (ofK L0 ⟨y39.node.t, y39.node.w⟩), .pointer (some ⟨tb, 0, none⟩), .slice A21 L0.length c22, .int .i64 (k : Int), .pointer (some ⟨g46, 0 + k * 10, none⟩), .pointer (some ⟨g46, 0 + k * 10, none⟩), .agg #[.int .i64 y39.node.t, .int .i64 y39.node.w], .bool (hangsI L0 301 ⟨y39.node.t, y39.node.w⟩), .bool (!(hangsI L0 301 ⟨y39.node.t, y39.node.w⟩)), .int .i64 (ofK L0 ⟨y39.node.t, y39.node.w⟩), .bool b53, (Z 55), (Z 56), (Z 57), (Z 58), (Z 59), (Z 60), (Z 61), (Z 62), (Z 63), (Z 64), (Z 65), (Z 66), (Z 67), (Z 68), (Z 69), (Z 70), (Z 71), (Z 72), (Z 73), (Z 74), (Z 75), (Z 76), (Z 77)], rfl, (by kernel_rfl), M51, (by omega)⟩
     · omega
    have p56 := of_decide_eq_true (k54.trans v55)
    exact absurd (of_no v52).2 p56
   refine wp_cond_false (ebool (b := !(hangsI L0 301 ⟨y39.node.t, y39.node.w⟩)) (by kernel_rfl) (bneg v52)) ?_
   refine wp_skip (then_n (wp_seq (wp_seq (rg_lit ?_))))
   refine wmv (v := .int .i64 (ofK L0 ⟨y39.node.t, y39.node.w⟩)) ?_
   refine wl (sb rfl (r_eq (k := .i64) (m := (ofK L0 ⟨y39.node.t, y39.node.w⟩)) (n := 3) (by kernel_rfl) (by kernel_rfl)) ?_)
   intro b53 k54
   refine wnil (then_n ?_)
   refine bcase b53 (fun v55 => ?_) (fun v55 => ?_)
   ·
    have p56 := of_decide_eq_false (k54.trans v55)
    refine wp_cond_false (ebool (b := b53) (by kernel_rfl) v55) ?_
    refine wp_skip (then_n (wp_seq (rg_lit ?_)))
    refine wmv (v := .pointer (some ⟨tb, 0, none⟩)) ?_
    refine wmv (v := .string (ofB L0 ⟨y39.node.t, y39.node.w⟩)) ?_
    have h57 := (TreeIs.up h30 (Mod.up M51))
    refine wl (sc rfl (r_callv (caps := []) (all := [.pointer (some ⟨tb, 0, none⟩), .string (ofB L0 ⟨y39.node.t, y39.node.w⟩)]) En.f43 (by kernel_rfl) (by kernel_rfl)) (walk_at h57 (Nat.le_trans hB M50.size) hF (TabIs.up htab (Mod.up M50)) (Mx.up hmx (Mod.up M50)) (ofB L0 ⟨y39.node.t, y39.node.w⟩) (by have := of_size hF hNm (⟨y39.node.t, y39.node.w⟩); omega)) ?_)
    rintro e w58 ⟨rfl, u59⟩
    refine ⟨.tuple #[.agg #[.int .i64 ((walkS L0 (ofB L0 ⟨y39.node.t, y39.node.w⟩)).t), .int .i64 ((walkS L0 (ofB L0 ⟨y39.node.t, y39.node.w⟩)).w)], .int .i64 (walkK L0 (ofB L0 ⟨y39.node.t, y39.node.w⟩))], rfl, ?_⟩
    have M60 := Mod.trans M50 (Mod.of_up u59)
    have M61 := Mod.trans M51 (Mod.of_up u59)
    refine wmv (v := .tuple #[.agg #[.int .i64 ((walkS L0 (ofB L0 ⟨y39.node.t, y39.node.w⟩)).t), .int .i64 ((walkS L0 (ofB L0 ⟨y39.node.t, y39.node.w⟩)).w)], .int .i64 (walkK L0 (ofB L0 ⟨y39.node.t, y39.node.w⟩))]) ?_
    refine wl (sv rfl (v := .agg #[.int .i64 ((walkS L0 (ofB L0 ⟨y39.node.t, y39.node.w⟩)).t), .int .i64 ((walkS L0 (ofB L0 ⟨y39.node.t, y39.node.w⟩)).w)]) (r_extract (vs := [.agg #[.int .i64 ((walkS L0 (ofB L0 ⟨y39.node.t, y39.node.w⟩)).t), .int .i64 ((walkS L0 (ofB L0 ⟨y39.node.t, y39.node.w⟩)).w)], .int .i64 (walkK L0 (ofB L0 ⟨y39.node.t, y39.node.w⟩))]) (by kernel_rfl) rfl) ?_)
    refine wl (sv rfl (v := .int .i64 (walkK L0 (ofB L0 ⟨y39.node.t, y39.node.w⟩))) (r_extract (vs := [.agg #[.int .i64 ((walkS L0 (ofB L0 ⟨y39.node.t, y39.node.w⟩)).t), .int .i64 ((walkS L0 (ofB L0 ⟨y39.node.t, y39.node.w⟩)).w)], .int .i64 (walkK L0 (ofB L0 ⟨y39.node.t, y39.node.w⟩))]) (by kernel_rfl) rfl) ?_)
    refine wl (sn rfl (cs := #[.int .i64 0, .int .i64 0]) (T := 24) (V := fun b => .pointer (some ⟨b, 0, none⟩)) (r_alloc Ty.zv24 rfl) ?_)
    intro b62 w63 e64 h65 u66
    have h67 := md_ob M61 nin0 h26
    have l68 : r < b62 := by rw [e64]; exact lt_ob h67
    have h69 := md_ob M61 nin0 h27
    have l70 : tb < b62 := by rw [e64]; exact lt_ob h69
    have h71 := (up_ob u59 (up_ob u49 (up_ob u42 hb39)))
    have l72 : g39 < b62 := by rw [e64]; exact lt_ob h71
    have h73 := (up_ob u59 (up_ob u49 hb46))
    have l74 : g46 < b62 := by rw [e64]; exact lt_ob h73
    have g75 : w.heap.size ≤ b62 := by rw [e64]; exact M60.size
    have g76 : w20.heap.size ≤ b62 := by rw [e64]; exact M61.size
    have M77 := Mod.trans M60 (Mod.of_up u66)
    have M78 := Mod.trans M61 (Mod.of_up u66)
    refine wl (ss rfl (k := 0) (v := .agg #[.int .i64 ((walkS L0 (ofB L0 ⟨y39.node.t, y39.node.w⟩)).t), .int .i64 ((walkS L0 (ofB L0 ⟨y39.node.t, y39.node.w⟩)).w)]) (vs := [.int .i64 ((walkS L0 (ofB L0 ⟨y39.node.t, y39.node.w⟩)).t), .int .i64 ((walkS L0 (ofB L0 ⟨y39.node.t, y39.node.w⟩)).w)]) (cs' := [.int .i64 ((walkS L0 (ofB L0 ⟨y39.node.t, y39.node.w⟩)).t), .int .i64 ((walkS L0 (ofB L0 ⟨y39.node.t, y39.node.w⟩)).w)]) (by kernel_rfl) (by kernel_rfl) rfl Ty.sz24 h65 rfl (Nat.le_of_ble_eq_true rfl) rfl ?_)
    intro w79 h80 c81
    have M82 := Mod.trans' M77 c81 (fun i hi => by injection hi with hi; rw [← hi]; exact g75)
    have M83 := Mod.trans' M78 c81 (fun i hi => by injection hi with hi; rw [← hi]; exact g76)
    refine was (v := .int .i64 (walkK L0 (ofB L0 ⟨y39.node.t, y39.node.w⟩))) ?_
    refine wnil (then_n (wp_seq ?_))
    refine rg_all (by kernel_rfl) (by kernel_rfl) ?_
    refine qmv (v := .int .i64 (ofK L0 ⟨y39.node.t, y39.node.w⟩)) ?_
    refine qb rfl (fun _ _ => r_ne (k := .i64) (m := (ofK L0 ⟨y39.node.t, y39.node.w⟩)) (n := 0) (by kernel_rfl) (by kernel_rfl)) ?_
    intro b84 k85
    refine qmv (v := .bool b84) ?_
    refine bcase b84 (fun v86 => ?_) (fun v86 => ?_)
    ·
     have p87 := of_decide_eq_false (k85.trans v86)
     refine qv (wt (b := b84) rfl (by kernel_rfl) v86) (v := .int .i64 (walkK L0 (ofB L0 ⟨y39.node.t, y39.node.w⟩))) (fun _ _ => r_move (by kernel_rfl)) ?_
     refine qb (wt (b := b84) rfl (by kernel_rfl) v86) (fun _ _ => r_ne (k := .i64) (m := (walkK L0 (ofB L0 ⟨y39.node.t, y39.node.w⟩))) (n := 0) (by kernel_rfl) (by kernel_rfl)) ?_
     intro b88 k89
     refine qv rfl (v := .bool b88) (fun _ _ => r_pkF (ebool (b := b84) (by kernel_rfl) v86) (by kernel_rfl)) ?_
     refine qmv (v := .bool b88) ?_
     refine bcase b88 (fun v90 => ?_) (fun v90 => ?_)
     ·
      have p91 := of_decide_eq_false (k89.trans v90)
      refine qv (wt (b := b88) rfl (by kernel_rfl) v90) (v := .agg #[.int .i64 ((walkS L0 (ofB L0 ⟨y39.node.t, y39.node.w⟩)).t), .int .i64 ((walkS L0 (ofB L0 ⟨y39.node.t, y39.node.w⟩)).w)]) (fun _ uz => r_loads (k := 0) (by kernel_rfl) Ty.ag24 Ty.sz24 (up_ob uz h80) (by kernel_rfl)) ?_
      refine qv (wt (b := b88) rfl (by kernel_rfl) v90) (v := .slice A21 L0.length c22) (fun _ _ => r_move (by kernel_rfl)) ?_
      refine qv (wt (b := b88) rfl (by kernel_rfl) v90) (v := .int .i64 (k : Int)) (fun _ _ => r_move (by kernel_rfl)) ?_
      have h92 := (IRow.up h23 (Mod.up M83))
      obtain ⟨g93, cp93, cu93, dA93, dn93, dc93, hA93, hg93, hb93, he93, hD93⟩ := h92.get hy39
      injection hA93 with hA93 _ _
      replace he93 : (cu93.toList.drop (0 + k * 10)).take 10 = (itC y39 (.slice dA93 dn93 dc93)) := by rw [Nat.zero_add]; exact he93
      refine qv (wt (b := b88) rfl (by kernel_rfl) v90) (v := .pointer (some ⟨g93, 0 + k * 10, none⟩)) (fun _ _ => r_ixaddr' (A := A21) (b := g93) (o := 0) (n := L0.length) (c := c22) (sz := 10) (j := (k : Int)) (by kernel_rfl) hA93 (by kernel_rfl) Ty.un74 Ty.sz42 (by omega) (by omega) (by simp)) ?_
      refine qv (wt (b := b88) rfl (by kernel_rfl) v90) (v := .pointer (some ⟨g93, 0 + k * 10, none⟩)) (fun _ _ => r_fieldAddr (u := .pointer (some ⟨g93, 0 + k * 10, none⟩)) (by kernel_rfl) (fun _ => (by kernel_rfl))) ?_
      refine qv (wt (b := b88) rfl (by kernel_rfl) v90) (v := .agg #[.int .i64 y39.node.t, .int .i64 y39.node.w]) (fun _ uz => r_loads (k := 0 + k * 10) (by kernel_rfl) Ty.ag24 Ty.sz24 (up_ob uz hb93) (el_sub0 he93 rfl)) ?_
      refine qb (wt (b := b88) rfl (by kernel_rfl) v90) (fun _ _ => r_neS2 (a := ((walkS L0 (ofB L0 ⟨y39.node.t, y39.node.w⟩)).t)) (b := ((walkS L0 (ofB L0 ⟨y39.node.t, y39.node.w⟩)).w)) (c := y39.node.t) (e := y39.node.w) (by kernel_rfl) (by kernel_rfl)) ?_
      intro b94 k95
      refine qv rfl (v := .bool b94) (fun _ _ => r_pkF (ebool (b := b88) (by kernel_rfl) v90) (by kernel_rfl)) ?_
      refine qnil ?_
      intro w96 u97
      have M98 := Mod.trans M82 (Mod.of_up u97)
      have M99 := Mod.trans M83 (Mod.of_up u97)
      refine then_n ?_
      refine bcase b94 (fun v100 => ?_) (fun v100 => ?_)
      ·
       have p101 := of_decide_eq_false (k95.trans v100)
       refine wp_cond_false (ebool (b := b94) (by kernel_rfl) v100) ?_
       refine wp_skip (inb_n (then_n (rg_lit ?_)))
       refine wmv (v := .int .i64 (k : Int)) ?_
       refine wl (sv rfl (v := .int .i64 ((k + 1 : Nat) : Int)) (r_add (k := .i64) (m := (k : Int)) (n := 1) (c := ((k + 1 : Nat) : Int)) (by kernel_rfl) (by kernel_rfl) ((IntWalk.i64_in _ (by omega)).trans (by omega))) ?_)
       refine was (v := .int .i64 ((k + 1 : Nat) : Int)) ?_
       refine wnil (then_n ?_)
       refine ⟨L0.length - (k + 1), ?_, (k + 1), tget [undef, undef, undef, undef, (Z 4), undef, undef, undef, .string (ofB L0 ⟨y39.node.t, y39.node.w⟩), .int .i64 (ofK L0 ⟨y39.node.t, y39.node.w⟩), .pointer (some ⟨b62, 0, none⟩), .int .i64 (walkK L0 (ofB L0 ⟨y39.node.t, y39.node.w⟩)), undef, undef, undef, undef, undef, undef, undef, undef, undef, undef, undef, undef, undef, undef, undef, undef, undef, .int .i64 (k : Int), .slice A21 L0.length c22, .int .i64 (L0.length : Int), .bool b32, .int .i64 (k : Int), .int .i64 ((k + 1 : Nat) : Int), .tuple #[.string (ofB L0 ⟨y39.node.t, y39.node.w⟩), .int .i64 (ofK L0 ⟨y39.node.t, y39.node.w⟩)], .pointer (some ⟨tb, 0, none⟩), .slice A21 L0.length c22, .int .i64 (k : Int), .pointer (some ⟨g39, 0 + k * 10, none⟩), .pointer (some ⟨g39, 0 + k * 10, none⟩), .agg #[.int .i64 y39.node.t, .int .i64 y39.node.w], .tuple #[.string (ofB L0 ⟨y39.node.t, y39.node.w⟩), .int .i64 (ofK L0 ⟨y39.node.t, y39.node.w⟩)], .string (ofB L0 ⟨y39.node.t, y39.node.w⟩), .int .i64 (ofK L0 ⟨y39.node.t, y39.node.w⟩), .pointer (some ⟨tb, 0, none⟩), .slice A21 L0.length c22, .int .i64 (k : Int), .pointer (some ⟨g46, 0 + k * 10, none⟩), .pointer (some ⟨g46, 0 + k * 10, none⟩), .agg #[.int .i64 y39.node.t, .int .i64 y39.node.w], .bool (hangsI L0 301 ⟨y39.node.t, y39.node.w⟩), .bool (!(hangsI L0 301 ⟨y39.node.t, y39.node.w⟩)), (Z 53), (Z 54), .int .i64 (ofK L0 ⟨y39.node.t, y39.node.w⟩), .bool b53, .tuple #[.agg #[.int .i64 ((walkS L0 (ofB L0 ⟨y39.node.t, y39.node.w⟩)).t), .int .i64 ((walkS L0 (ofB L0 ⟨y39.node.t, y39.node.w⟩)).w)], .int .i64 (walkK L0 (ofB L0 ⟨y39.node.t, y39.node.w⟩))], .pointer (some ⟨tb, 0, none⟩), .string (ofB L0 ⟨y39.node.t, y39.node.w⟩), .tuple #[.agg #[.int .i64 ((walkS L0 (ofB L0 ⟨y39.node.t, y39.node.w⟩)).t), .int .i64 ((walkS L0 (ofB L0 ⟨y39.node.t, y39.node.w⟩)).w)], .int .i64 (walkK L0 (ofB L0 ⟨y39.node.t, y39.node.w⟩))], .agg #[.int .i64 ((walkS L0 (ofB L0 ⟨y39.node.t, y39.node.w⟩)).t), .int .i64 ((walkS L0 (ofB L0 ⟨y39.node.t, y39.node.w⟩)).w)], .int .i64 (walkK L0 (ofB L0 ⟨y39.node.t, y39.node.w⟩)), .int .i64 (ofK L0 ⟨y39.node.t, y39.node.w⟩), .bool b84, .bool b84, .int .i64 (walkK L0 (ofB L0 ⟨y39.node.t, y39.node.w⟩)), .bool b88, .bool b88, .bool b88, .agg #[.int .i64 ((walkS L0 (ofB L0 ⟨y39.node.t, y39.node.w⟩)).t), .int .i64 ((walkS L0 (ofB L0 ⟨y39.node.t, y39.node.w⟩)).w)], .slice A21 L0.length c22, .int .i64 (k : Int), .pointer (some ⟨g93, 0 + k * 10, none⟩), .pointer (some ⟨g93, 0 + k * 10, none⟩), .agg #[.int .i64 y39.node.t, .int .i64 y39.node.w], .bool b94, .bool b94], rfl, (by kernel_rfl), M99, (by omega)⟩
       · omega
      have p101 := of_decide_eq_true (k95.trans v100)
      exact absurd (leads hF hNm v52 p56).2.2 p101
     have p91 := of_decide_eq_true (k89.trans v90)
     exact absurd (leads hF hNm v52 p56).2.1 p91
    have p87 := of_decide_eq_true (k85.trans v86)
    exact absurd (leads hF hNm v52 p56).1 p87
   have p56 := of_decide_eq_true (k54.trans v55)
   refine wp_cond_true (ebool (b := b53) (by kernel_rfl) v55) ?_
   refine wp_exit (then_x (by nofun) (inb_hit (then_n (rg_lit ?_))))
   refine wmv (v := .int .i64 (k : Int)) ?_
   refine wl (sv rfl (v := .int .i64 ((k + 1 : Nat) : Int)) (r_add (k := .i64) (m := (k : Int)) (n := 1) (c := ((k + 1 : Nat) : Int)) (by kernel_rfl) (by kernel_rfl) ((IntWalk.i64_in _ (by omega)).trans (by omega))) ?_)
   refine was (v := .int .i64 ((k + 1 : Nat) : Int)) ?_
   refine wnil (then_n ?_)
   refine ⟨L0.length - (k + 1), ?_, (k + 1), tget [undef, undef, undef, undef, (Z 4), undef, undef, undef, .string (ofB L0 ⟨y39.node.t, y39.node.w⟩), .int .i64 (ofK L0 ⟨y39.node.t, y39.node.w⟩), (Z 10), (Z 11), undef, undef, undef, undef, undef, undef, undef, undef, undef, undef, undef, undef, undef, undef, undef, undef, undef, .int .i64 (k : Int), .slice A21 L0.length c22, .int .i64 (L0.length : Int), .bool b32, .int .i64 (k : Int), .int .i64 ((k + 1 : Nat) : Int), .tuple #[.string (ofB L0 ⟨y39.node.t, y39.node.w⟩), .int .i64 (ofK L0 ⟨y39.node.t, y39.node.w⟩)], .pointer (some ⟨tb, 0, none⟩), .slice A21 L0.length c22, .int .i64 (k : Int), .pointer (some ⟨g39, 0 + k * 10, none⟩), .pointer (some ⟨g39, 0 + k * 10, none⟩), .agg #[.int .i64 y39.node.t, .int .i64 y39.node.w], .tuple #[.string (ofB L0 ⟨y39.node.t, y39.node.w⟩), .int .i64 (ofK L0 ⟨y39.node.t, y39.node.w⟩)], .string (ofB L0 ⟨y39.node.t, y39.node.w⟩), .int .i64 (ofK L0 ⟨y39.node.t, y39.node.w⟩), .pointer (some ⟨tb, 0, none⟩), .slice A21 L0.length c22, .int .i64 (k : Int), .pointer (some ⟨g46, 0 + k * 10, none⟩), .pointer (some ⟨g46, 0 + k * 10, none⟩), .agg #[.int .i64 y39.node.t, .int .i64 y39.node.w], .bool (hangsI L0 301 ⟨y39.node.t, y39.node.w⟩), .bool (!(hangsI L0 301 ⟨y39.node.t, y39.node.w⟩)), (Z 53), (Z 54), .int .i64 (ofK L0 ⟨y39.node.t, y39.node.w⟩), .bool b53, (Z 57), (Z 58), (Z 59), (Z 60), (Z 61), (Z 62), (Z 63), (Z 64), (Z 65), (Z 66), (Z 67), (Z 68), (Z 69), (Z 70), (Z 71), (Z 72), (Z 73), (Z 74), (Z 75), (Z 76), (Z 77)], rfl, (by kernel_rfl), M51, (by omega)⟩
   · omega
  have p11 := of_decide_eq_true (k9.trans v10)
  refine wp_cond_true (ebool (b := b8) (by kernel_rfl) v10) ?_
  refine wp_seq (rg_lit ?_)
  refine wl (sc rfl (r_callv (caps := []) (all := []) En.f40 (by kernel_rfl) (by kernel_rfl)) (alive19_at (TabIs.up htab (Mod.up M5)) (Mx.up hmx (Mod.up M5))) ?_)
  rintro e w12 ⟨rfl, u13⟩
  refine ⟨.bool true, rfl, ?_⟩
  have M14 := Mod.trans M5 (Mod.of_up u13)
  refine was (v := .bool true) ?_
  refine wnil (then_n (wp_ret (then_x (by nofun) ?_)))
  refine bodyPost_ret (v := .bool true) (res1 rfl (rv_t (by kernel_rfl))) (by kernel_rfl) ?_
  exact ⟨rfl, (Mod.up M14)⟩
end Go.Proofs.YtefhfoioeoijlaaGreatDoor

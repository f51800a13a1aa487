/- Names in a directory, plain: marks, entries, what is found. -/
import Derived.Test.YtefhfoioeoijlaaGreatDoorEnt
import Derived.Lib.ItoaLen
import Derived.Test.YtefhfoioeoijlaaGreatDoorPlain
set_option linter.unusedVariables false
set_option linter.unusedSimpArgs false
namespace Go.Proofs.YtefhfoioeoijlaaGreatDoor
open Go Go.RowKit Go.Sort
/-! ### numerals -/
def valD (l : List UInt8) : Nat := l.foldl (fun a c => a * 10 + (c.toNat - 48)) 0
theorem dec_val (u : Nat) : valD (Lib.decDigits u) = u := by
  induction u using Nat.strongRecOn with
  | _ u ih =>
    rw [Lib.decDigits]
    by_cases h : u < 10
    · rw [dif_pos h]
      simp only [valD, List.foldl_cons, List.foldl_nil, UInt8.toNat_ofNat']
      omega
    · rw [dif_neg h]
      have e := ih (u / 10) (by omega)
      unfold valD at e ⊢
      rw [List.foldl_append, e]
      simp only [List.foldl_cons, List.foldl_nil, UInt8.toNat_ofNat']
      omega
theorem dec_digit (u : Nat) : ∀ c ∈ Lib.decDigits u, 48 ≤ c.toNat ∧ c.toNat ≤ 57 := by
  induction u using Nat.strongRecOn with
  | _ u ih =>
    rw [Lib.decDigits]
    by_cases h : u < 10
    · rw [dif_pos h]
      intro c hc
      simp only [List.mem_singleton] at hc
      subst hc
      simp only [UInt8.toNat_ofNat']
      omega
    · rw [dif_neg h]
      intro c hc
      rcases List.mem_append.1 hc with hc | hc
      · exact ih (u / 10) (by omega) c hc
      · simp only [List.mem_singleton] at hc
        subst hc
        simp only [UInt8.toNat_ofNat']
        omega
theorem itoa_pos {n : Int} (h : 0 ≤ n) : Lib.itoa n = Lib.decDigits n.toNat := by unfold Lib.itoa; rw [if_neg (by omega)]
theorem itoa_inj {a b : Int} (ha : 0 ≤ a) (hb : 0 ≤ b) (h : Lib.itoa a = Lib.itoa b) : a = b := by
  rw [itoa_pos ha, itoa_pos hb] at h
  have e := congrArg valD h
  rw [dec_val, dec_val] at e
  omega
theorem itoa_no {n : Int} (h : 0 ≤ n) {c : UInt8} (hc : c.toNat < 48 ∨ 57 < c.toNat) : c ∉ Lib.itoa n := by
  rw [itoa_pos h]
  intro hm
  have := dec_digit _ c hm
  omega
theorem split_by {c : UInt8} : ∀ {a a' b b' : List UInt8}, c ∉ a → c ∉ a' → a ++ c :: b = a' ++ c :: b' → a = a' ∧ b = b'
  | [], [], b, b', _, _, h => by simpa using h
  | [], x :: a', b, b', _, h2, h => by
    simp only [List.nil_append, List.cons_append, List.cons.injEq] at h
    exact absurd (by simp [h.1]) h2
  | x :: a, [], b, b', h1, _, h => by
    simp only [List.nil_append, List.cons_append, List.cons.injEq] at h
    exact absurd (by simp [h.1]) h1
  | x :: a, y :: a', b, b', h1, h2, h => by
    simp only [List.cons_append, List.cons.injEq] at h
    obtain ⟨e1, e2⟩ := split_by (fun hm => h1 (by simp [hm])) (fun hm => h2 (by simp [hm])) h.2
    exact ⟨by rw [h.1, e1], e2⟩
/-! ### marks -/
/-- The mark of a stamp. -/
def markB (s : Stamp) : ByteArray := (((⟨#[126]⟩ : ByteArray) ++ (⟨(Lib.itoa s.t).toArray⟩ : ByteArray)) ++ (⟨#[46]⟩ : ByteArray)) ++ (⟨(Lib.itoa s.w).toArray⟩ : ByteArray)
def markL (s : Stamp) : List UInt8 := 126 :: (Lib.itoa s.t ++ 46 :: Lib.itoa s.w)
theorem markB_list (s : Stamp) : (markB s).data.toList = markL s := by simp [markB, markL]
theorem markL_inj {a b : Stamp} (ha : 0 ≤ a.t ∧ 0 ≤ a.w) (hb : 0 ≤ b.t ∧ 0 ≤ b.w) (h : markL a = markL b) : a = b := by
  simp only [markL, List.cons.injEq, true_and] at h
  obtain ⟨e1, e2⟩ := split_by (itoa_no ha.1 (by decide)) (itoa_no hb.1 (by decide)) h
  cases a; cases b
  simp only [Stamp.mk.injEq]
  exact ⟨itoa_inj ha.1 hb.1 e1, itoa_inj ha.2 hb.2 e2⟩
/-! ### entries -/
def metB (met : List ByteArray) (s : ByteArray) : Bool := met.any fun m => decide (m = s)
theorem metB_iff {met : List ByteArray} {s : ByteArray} : metB met s = true ↔ s ∈ met := by
  unfold metB
  rw [List.any_eq_true]
  constructor
  · rintro ⟨m, hm, e⟩; rw [← of_decide_eq_true e]; exact hm
  · intro h; exact ⟨s, h, by simp⟩
def entOf (met : List ByteArray) (x : Item) : EntD := ⟨if metB met x.name = true then x.name ++ markB x.node else x.name, x.node, x.dir, x.data.length⟩
def entsF : List ByteArray → List Item → List EntD
  | _, [] => []
  | met, x :: l => entOf met x :: entsF (met ++ [x.name]) l
def entsI (l : List Item) : List EntD := entsF [] l
def namesI (l : List Item) : List ByteArray := l.map (·.name)
theorem entsF_snoc : ∀ {met : List ByteArray} {l : List Item} {x : Item}, entsF met (l ++ [x]) = entsF met l ++ [entOf (met ++ namesI l) x]
  | met, [], x => by simp [entsF, namesI]
  | met, y :: l, x => by
    simp only [List.cons_append, entsF, entsF_snoc (met := met ++ [y.name]) (l := l)]
    simp [namesI, List.append_assoc]
theorem entsI_next {l : List Item} {k : Nat} {x : Item} (h : l[k]? = some x) : entsI (l.take (k + 1)) = entsI (l.take k) ++ [entOf (namesI (l.take k)) x] := by
  unfold entsI
  rw [List.take_add_one, h]
  exact entsF_snoc.trans (by simp)
theorem names_next {l : List Item} {k : Nat} {x : Item} (h : l[k]? = some x) : namesI (l.take (k + 1)) = namesI (l.take k) ++ [x.name] := by
  unfold namesI
  rw [List.take_add_one, h]; simp
theorem entsF_get : ∀ {met : List ByteArray} {l : List Item} {k : Nat} {x : Item}, l[k]? = some x → (entsF met l)[k]? = some (entOf (met ++ namesI (l.take k)) x)
  | met, y :: l, 0, x, h => by simp at h; subst h; simp [entsF, namesI]
  | met, y :: l, k + 1, x, h => by
    have := entsF_get (met := met ++ [y.name]) (l := l) (k := k) (x := x) (by simpa using h)
    simp only [entsF, List.getElem?_cons_succ, this]
    simp [namesI, List.append_assoc]
theorem entsI_get {l : List Item} {k : Nat} {x : Item} (h : l[k]? = some x) : (entsI l)[k]? = some (entOf (namesI (l.take k)) x) := by
  have := entsF_get (met := []) h
  simpa [entsI] using this
theorem entsF_len : ∀ {met : List ByteArray} {l : List Item}, (entsF met l).length = l.length
  | _, [] => rfl
  | met, x :: l => by simp [entsF, entsF_len (met := met ++ [x.name]) (l := l)]
theorem entsI_len (l : List Item) : (entsI l).length = l.length := entsF_len
theorem entsI_at {l : List Item} {k : Nat} {e : EntD} (h : (entsI l)[k]? = some e) : ∃ x, l[k]? = some x ∧ e = entOf (namesI (l.take k)) x := by
  have hk := (List.getElem?_eq_some_iff.1 h).1
  rw [entsI_len] at hk
  have hx : l[k]? = some l[k] := List.getElem?_eq_getElem hk
  refine ⟨_, hx, ?_⟩
  rw [entsI_get hx] at h
  injection h with h
  exact h.symm
/-- Names of items that can be marked, and stamps whose marks are told apart. -/
def OKI (x : Item) : Prop := (126 : UInt8) ∉ x.name.data.toList ∧ 0 ≤ x.node.t ∧ 0 ≤ x.node.w ∧ x.name.data.toList.length ≤ 24 ∧ x.node.t ≤ 1099511627776 ∧ x.node.w ≤ 8
theorem ba_ext {a b : ByteArray} (h : a.data.toList = b.data.toList) : a = b := by
  cases a; cases b; simp only at h; rw [Array.toList_inj.1 h]
theorem ent_name (met : List ByteArray) (x : Item) : (entOf met x).name.data.toList = if metB met x.name = true then x.name.data.toList ++ markL x.node else x.name.data.toList := by
  unfold entOf
  by_cases h : metB met x.name = true
  · simp only [if_pos h]; rw [← markB_list]; simp
  · simp only [if_neg h]
theorem ents_apart {l : List Item} (hc : ∀ x ∈ l, OKI x) (hd : l.Pairwise fun x y => x.node ≠ y.node) : (entsI l).Pairwise fun x y => x.name ≠ y.name := by
  rw [List.pairwise_iff_getElem]
  intro i j hi hj hij
  obtain ⟨x, hx, ex⟩ := entsI_at (List.getElem?_eq_getElem hi)
  obtain ⟨y, hy, ey⟩ := entsI_at (List.getElem?_eq_getElem hj)
  rw [ex, ey]
  intro e
  have e' := congrArg (fun b => b.data.toList) e
  simp only [ent_name] at e'
  have cx := hc x (List.mem_of_getElem? hx)
  have cy := hc y (List.mem_of_getElem? hy)
  have hmet : x.name = y.name → metB (namesI (l.take j)) y.name = true := fun h => by
    rw [metB_iff]
    unfold namesI
    rw [List.mem_map]
    exact ⟨x, List.mem_of_getElem? (i := i) (by rw [List.getElem?_take, if_pos hij]; exact hx), h⟩
  have hno : ∀ {a b : List UInt8}, (126 : UInt8) ∉ a → a ≠ b ++ 126 :: (Lib.itoa x.node.t ++ 46 :: Lib.itoa x.node.w) := fun h h' => h (by rw [h']; simp)
  have hno' : ∀ {a b : List UInt8}, (126 : UInt8) ∉ a → a ≠ b ++ 126 :: (Lib.itoa y.node.t ++ 46 :: Lib.itoa y.node.w) := fun h h' => h (by rw [h']; simp)
  by_cases mx : metB (namesI (l.take i)) x.name = true
  · by_cases my : metB (namesI (l.take j)) y.name = true
    · rw [if_pos mx, if_pos my] at e'
      obtain ⟨_, h2⟩ := split_by cx.1 cy.1 e'
      have hn := markL_inj ⟨cx.2.1, cx.2.2.1⟩ ⟨cy.2.1, cy.2.2.1⟩ (show markL x.node = markL y.node by unfold markL; rw [h2])
      have hil : i < l.length := by rw [entsI_len] at hi; exact hi
      have hjl : j < l.length := by rw [entsI_len] at hj; exact hj
      have h3 := List.pairwise_iff_getElem.1 hd i j hil hjl hij
      rw [List.getElem?_eq_getElem hil] at hx
      rw [List.getElem?_eq_getElem hjl] at hy
      injection hx with hx
      injection hy with hy
      rw [hx, hy] at h3
      exact h3 hn
    · rw [if_pos mx, if_neg my] at e'
      exact hno cy.1 e'.symm
  · by_cases my : metB (namesI (l.take j)) y.name = true
    · rw [if_neg mx, if_pos my] at e'
      exact hno' cx.1 e'
    · rw [if_neg mx, if_neg my] at e'
      exact my (hmet (ba_ext e'))
theorem ents_node {l : List Item} {e : EntD} (h : e ∈ entsI l) : ∃ x ∈ l, e.node = x.node := by
  obtain ⟨k, hk⟩ := List.mem_iff_getElem?.1 h
  obtain ⟨x, hx, rfl⟩ := entsI_at hk
  exact ⟨x, List.mem_of_getElem? hx, rfl⟩
theorem ents_nodes {l : List Item} (hd : l.Pairwise fun x y => x.node ≠ y.node) : (entsI l).Pairwise fun x y => x.node ≠ y.node := by
  rw [List.pairwise_iff_getElem]
  intro i j hi hj hij
  obtain ⟨x, hx, ex⟩ := entsI_at (List.getElem?_eq_getElem hi)
  obtain ⟨y, hy, ey⟩ := entsI_at (List.getElem?_eq_getElem hj)
  rw [ex, ey]
  have hil : i < l.length := by rw [entsI_len] at hi; exact hi
  have hjl : j < l.length := by rw [entsI_len] at hj; exact hj
  have h3 := List.pairwise_iff_getElem.1 hd i j hil hjl hij
  rw [List.getElem?_eq_getElem hil] at hx
  rw [List.getElem?_eq_getElem hjl] at hy
  injection hx with hx
  injection hy with hy
  rw [hx, hy] at h3
  exact h3
/-- A name's order. -/
def ltN (x y : EntD) : Prop := Op.bytesLess x.name.data.toList y.name.data.toList = true
/-- These entries, in order of their names. -/
def Listed (E D : List EntD) : Prop := D.Perm E ∧ D.Pairwise ltN
/-- Of entries no two of which are alike in what is asked, the one that is found is the one that is there. -/
theorem find_one {α β : Type} [DecidableEq β] {f : α → β} {l : List α} (h : l.Pairwise fun x y => f x ≠ f y) {e : α} (he : e ∈ l) : l.find? (fun x => decide (f x = f e)) = some e := by
  induction l with
  | nil => cases he
  | cons z l ih =>
    obtain ⟨h1, h2⟩ := List.pairwise_cons.1 h
    rcases List.mem_cons.1 he with rfl | he'
    · simp
    · have : ¬ f z = f e := h1 _ he'
      simp [this, ih h2 he']
theorem bless_asymm {a b : List UInt8} (h : Op.bytesLess a b = true) : ¬ Op.bytesLess b a = true := fun h' => by
  have h1 := (code_less (max a.length b.length) a b (Nat.le_max_left _ _) (Nat.le_max_right _ _)).1 h
  have h2 := (code_less (max a.length b.length) b a (Nat.le_max_right _ _) (Nat.le_max_left _ _)).1 h'
  omega
theorem Listed.one {E D D' : List EntD} (h : Listed E D) (h' : Listed E D') : D = D' := by
  refine List.Perm.eq_of_pairwise (le := ltN) ?_ h.2 h'.2 (h.1.trans h'.1.symm)
  intro a b _ _ h1 h2
  exact absurd h2 (bless_asymm h1)
/-! ### what a directory has -/
def kidK (L : List Item) (n : Stamp) : Int := if hangsI L 301 n = false then 12 else if (hasI L n && !(gotI L n).dir) = true then 14 else 0
def zeroE : EntD := ⟨⟨#[]⟩, ⟨0, 0⟩, false, 0⟩
def lookE (L : List Item) (n : Stamp) (s : ByteArray) : Option EntD := (entsI (kidsI n L)).find? fun e => decide (e.name = s)
def findE (L : List Item) (n : Stamp) (s : ByteArray) : EntD := if kidK L n = 0 then (lookE L n s).getD zeroE else zeroE
def findK (L : List Item) (n : Stamp) (s : ByteArray) : Int := if kidK L n = 0 then (if (lookE L n s).isSome then 0 else 12) else kidK L n
def nodeE (L : List Item) (m : Stamp) : Option EntD := (entsI (kidsI (gotI L m).parent L)).find? fun e => decide (e.node = m)
def shownB (L : List Item) (m : Stamp) : ByteArray := if (hasI L m && hangsI L 301 m) = true then ((nodeE L m).map (·.name)).getD ⟨#[]⟩ else ⟨#[]⟩
def shownK (L : List Item) (m : Stamp) : Int := if (hasI L m && hangsI L 301 m) = true then (if (nodeE L m).isSome then 0 else 12) else 12
def cntI (l : List Item) (s : ByteArray) : Nat := (l.filter fun x => decide (x.name = s)).length
def freeI (L : List Item) (n : Stamp) (s : ByteArray) : Bool := decide (kidK L n = 0) && (nameB s && decide (cntI (kidsI n L) s = 0))
/-- A tree whose names can be told apart. -/
structure Fit (L : List Item) : Prop where
  wf : Wf L
  len : L.length ≤ 300
  ok : ∀ x ∈ L, OKI x
theorem nameB_ok {s : ByteArray} (h : nameB s = true) : (126 : UInt8) ∉ s.data.toList ∧ s.data.toList.length ≤ 24 := by
  unfold nameB at h
  simp only [Bool.and_eq_true, decide_eq_true_eq] at h
  refine ⟨fun hm => ?_, ?_⟩
  · have h1 := h.2.2.2
    unfold nameCh at h1
    have := List.all_eq_true.1 h1 _ hm
    exact absurd this (by decide)
  · have := h.1.2
    simpa using this
theorem stR_ok {s : Stamp} (h : stR s = true) : 0 ≤ s.t ∧ 0 ≤ s.w ∧ s.t ≤ 1099511627776 ∧ s.w ≤ 8 := by
  unfold stR at h
  have := of_decide_eq_true h
  omega
theorem fit_do {L : List Item} (h : Fit L) (o : OpD) : Fit (doI L o).2 := by
  refine ⟨h.wf.doI h.len o, doI_len h.wf.srt h.len, ?_⟩
  unfold doI
  split
  · exact h.ok
  · split
    · exact h.ok
    · rename_i h1 h2
      show ∀ x ∈ (if (nowI L (gotI L o.node) o).2 = true then putI (nowI L (gotI L o.node) o).1 L else L), OKI x
      split
      · rename_i h3
        intro x hx
        rcases mem_put h.wf.srt hx with rfl | ⟨hx, _⟩
        · have hr : rightB o = true := by simpa using h1
          have hs : stR o.node = true := by unfold rightB at hr; simp only [Bool.and_eq_true] at hr; exact hr.2.1
          have hb : bodyB o = true := by unfold rightB at hr; simp only [Bool.and_eq_true] at hr; exact hr.2.2.2.2
          have hn : o.node ≠ nilS := by intro e; rw [e] at hs; cases hs
          have hnode := nowI_node h3
          have hst := stR_ok hs
          have same : (gotI L o.node).node = o.node → OKI (gotI L o.node) := fun e => h.ok _ (getI_some (got_some hn e)).1
          unfold nowI at h3 hnode ⊢
          by_cases k1 : o.kind = 1
          · rw [if_pos k1] at h3 hnode ⊢
            unfold bodyB at hb
            rw [if_pos k1] at hb
            simp only [Bool.and_eq_true] at hb
            have := nameB_ok hb.2.1
            exact ⟨this.1, hst.1, hst.2.1, this.2, hst.2.2.1, hst.2.2.2⟩
          · rw [if_neg k1] at h3 hnode ⊢
            by_cases k2 : o.kind = 2
            · rw [if_pos k2] at h3 hnode ⊢
              unfold bodyB at hb
              rw [if_neg k1, if_pos k2] at hb
              simp only [Bool.and_eq_true] at hb
              have := nameB_ok hb.2
              simp only [Bool.and_eq_true, decide_eq_true_eq] at h3
              have hx := same h3.1
              exact ⟨this.1, hx.2.1, hx.2.2.1, this.2, hx.2.2.2.2.1, hx.2.2.2.2.2⟩
            · rw [if_neg k2] at h3 hnode ⊢
              by_cases k3 : o.kind = 3
              · rw [if_pos k3] at h3 hnode ⊢
                exact same (of_decide_eq_true h3)
              · rw [if_neg k3] at h3 hnode ⊢
                simp only [Bool.and_eq_true, decide_eq_true_eq] at h3
                exact same h3.1
        · exact h.ok x hx
      · exact h.ok
theorem fit_fold : ∀ {l : List OpD} {L : List Item}, Fit L → Fit (l.foldl playI L)
  | [], _, h => h
  | o :: l, _, h => fit_fold (l := l) (fit_do h o)
theorem fit_build (os : List OpD) : Fit (buildI os) := fit_fold ⟨Wf.nil, by simp, by simp⟩
theorem srt_apart {L : List Item} (h : Srt L) : L.Pairwise fun x y => x.node ≠ y.node := h.imp fun h => ltS_ne h
theorem kids_mem {L : List Item} {n : Stamp} {x : Item} : x ∈ kidsI n L ↔ x ∈ L ∧ x.parent = n ∧ x.gone = false := by
  unfold kidsI; simp [List.mem_filter]
theorem Fit.kids {L : List Item} (h : Fit L) (n : Stamp) : (∀ x ∈ kidsI n L, OKI x) ∧ (kidsI n L).Pairwise (fun x y => x.node ≠ y.node) :=
  ⟨fun x hx => h.ok x (kids_mem.1 hx).1, (srt_apart h.wf.srt).sublist List.filter_sublist⟩
theorem Fit.apart {L : List Item} (h : Fit L) (n : Stamp) : (entsI (kidsI n L)).Pairwise fun x y => x.name ≠ y.name := ents_apart (h.kids n).1 (h.kids n).2
theorem Fit.nodes {L : List Item} (h : Fit L) (n : Stamp) : (entsI (kidsI n L)).Pairwise fun x y => x.node ≠ y.node := ents_nodes (h.kids n).2
/-- What is listed is found under its name. -/
theorem Fit.found {L : List Item} (h : Fit L) {n : Stamp} (hk : kidK L n = 0) {e : EntD} (he : e ∈ entsI (kidsI n L)) : findE L n e.name = e ∧ findK L n e.name = 0 := by
  have h1 : lookE L n e.name = some e := find_one (f := fun e : EntD => e.name) (h.apart n) he
  unfold findE findK
  rw [if_pos hk, if_pos hk, h1]
  exact ⟨rfl, rfl⟩
/-- What is listed is shown so. -/
theorem Fit.shown {L : List Item} (h : Fit L) {n : Stamp} (hk : kidK L n = 0) {e : EntD} (he : e ∈ entsI (kidsI n L)) : shownB L e.node = e.name ∧ shownK L e.node = 0 := by
  obtain ⟨x, hx, hn⟩ := ents_node he
  obtain ⟨hxL, hp, hg⟩ := kids_mem.1 hx
  have hgot : getI L e.node = some x := by rw [hn]; exact getI_mem h.wf.srt hxL
  have hG : gotI L e.node = x := by unfold gotI; rw [hgot]; rfl
  have hH : hasI L e.node = true := by unfold hasI; rw [hgot]; rfl
  have hhn : hangsI L 301 n = true := by
    unfold kidK at hk
    cases hb : hangsI L 301 n with
    | true => rfl
    | false => rw [hb] at hk; simp at hk
  have hhx : hangsI L 301 e.node = true := by
    have := (h.wf.item h.len hxL).2.2.2.1
    rw [hn, this, hg, hp, hhn]; rfl
  have h1 : nodeE L e.node = some e := by
    unfold nodeE
    rw [hG, hp]
    exact find_one (f := fun e : EntD => e.node) (h.nodes n) he
  unfold shownB shownK
  rw [hH, hhx, h1]
  exact ⟨rfl, rfl⟩
theorem Listed.mem {E D : List EntD} (h : Listed E D) {i : Nat} {e : EntD} (hi : D[i]? = some e) : e ∈ E := h.1.mem_iff.1 (List.mem_of_getElem? hi)
theorem Listed.rise {E D : List EntD} (h : Listed E D) {i : Nat} {x y : EntD} (hx : D[i]? = some x) (hy : D[i + 1]? = some y) : ltN x y := by
  obtain ⟨h1, rfl⟩ := List.getElem?_eq_some_iff.1 hx
  obtain ⟨h2, rfl⟩ := List.getElem?_eq_some_iff.1 hy
  exact List.pairwise_iff_getElem.1 h.2 i (i + 1) h1 h2 (by omega)
/-! ### what is made where a name is free -/
theorem hangs_put {L : List Item} {it : Item} (hf : getI L it.node = none) : ∀ {f : Nat} {m : Stamp}, hangsI L f m = true → hangsI (putI it L) f m = true
  | 0, m, h => by simp [hangsI] at h
  | f + 1, m, h => by
    simp only [hangsI] at h ⊢
    by_cases hm : m = nilS
    · simp [hm]
    · rw [if_neg hm] at h ⊢
      cases hg : getI L m with
      | none => rw [hg] at h; cases h
      | some x =>
        rw [hg] at h
        have hne : m ≠ it.node := by rintro rfl; rw [hf] at hg; cases hg
        rw [getI_put, if_neg hne, hg]
        simp only at h ⊢
        cases hx : x.gone with
        | true => rw [hx] at h; cases h
        | false =>
          rw [hx] at h
          simp only [Bool.false_eq_true, if_false] at h ⊢
          exact hangs_put hf h
theorem cnt_zero {l : List Item} {s : ByteArray} : cntI l s = 0 ↔ ∀ x ∈ l, x.name ≠ s := by
  unfold cntI
  rw [List.length_eq_zero_iff, List.filter_eq_nil_iff]
  simp
theorem made {L : List Item} (h : Fit L) {n at_ : Stamp} {s : ByteArray} (hf : freeI L n s = true) (ha : hasI L at_ = false)
    (hd : (doI L ⟨1, at_, at_, n, false, s, []⟩).1.2.2 = 0) (hl : (doI L ⟨1, at_, at_, n, false, s, []⟩).2.length ≠ L.length) :
    findK (doI L ⟨1, at_, at_, n, false, s, []⟩).2 n s = 0 ∧ (findE (doI L ⟨1, at_, at_, n, false, s, []⟩).2 n s).node = at_ ∧ freeI (doI L ⟨1, at_, at_, n, false, s, []⟩).2 n s = false := by
  have hfit := fit_do h ⟨1, at_, at_, n, false, s, []⟩
  unfold freeI at hf
  simp only [Bool.and_eq_true, decide_eq_true_eq] at hf
  obtain ⟨hk, hn, hc⟩ := hf
  have hnone : getI L at_ = none := by
    unfold hasI at ha
    cases hg : getI L at_ with
    | none => rfl
    | some x => rw [hg] at ha; cases ha
  have hright : rightB ⟨1, at_, at_, n, false, s, []⟩ = true := by
    cases hr : rightB ⟨1, at_, at_, n, false, s, []⟩ with
    | true => rfl
    | false => rw [doI, if_pos hr] at hd; cases hd
  have hat : at_ ≠ nilS := by
    have h5 : stR at_ = true := by unfold rightB at hright; simp only [Bool.and_eq_true] at hright; exact hright.2.1
    intro e; rw [e] at h5; cases h5
  obtain ⟨it, hit, hitn, hitp, hits, hitg, hput⟩ : ∃ it : Item, it = ⟨at_, n, s, false, false, [], nilS⟩ ∧ it.node = at_ ∧ it.parent = n ∧ it.name = s ∧ it.gone = false ∧ (doI L ⟨1, at_, at_, n, false, s, []⟩).2 = putI it L := by
    refine ⟨_, rfl, rfl, rfl, rfl, rfl, ?_⟩
    have e : doI L ⟨1, at_, at_, n, false, s, []⟩ = _ := rfl
    rw [doI, if_neg (by rw [hright]; simp)] at hd hl ⊢
    split at hd
    · rename_i h3; rw [if_pos h3] at hl; exact absurd rfl hl
    · rename_i h3
      rw [if_neg h3] at hl ⊢
      simp only at hl ⊢
      by_cases h4 : (nowI L (gotI L at_) ⟨1, at_, at_, n, false, s, []⟩).2 = true
      · rw [if_pos h4]; rfl
      · rw [if_neg h4] at hl; exact absurd rfl hl
  rw [hput] at hfit ⊢
  clear hput hd hl
  have hfr : getI L it.node = none := by rw [hitn]; exact hnone
  have hkid : it ∈ kidsI n (putI it L) := kids_mem.2 ⟨put_self, hitp, hitg⟩
  have hall : ∀ x ∈ kidsI n (putI it L), x = it ∨ x ∈ kidsI n L := fun x hx => by
    obtain ⟨h1, h2, h3⟩ := kids_mem.1 hx
    rcases mem_put h.wf.srt h1 with e | ⟨e, _⟩
    · exact .inl e
    · exact .inr (kids_mem.2 ⟨e, h2, h3⟩)
  have hhn : hangsI L 301 n = true := by
    unfold kidK at hk
    cases hb : hangsI L 301 n with
    | true => rfl
    | false => rw [hb] at hk; simp at hk
  have hne : n ≠ at_ := by
    rintro rfl
    have h2 : hangsI L (300 + 1) n = true := hhn
    rw [hangsI, if_neg hat, hnone] at h2
    cases h2
  have hgn : getI (putI it L) n = getI L n := by rw [getI_put, hitn, if_neg hne]
  have hk' : kidK (putI it L) n = 0 := by
    unfold kidK at hk ⊢
    rw [hangs_put hfr hhn]
    rw [hhn] at hk
    unfold hasI gotI at hk ⊢
    rw [hgn]
    exact hk
  obtain ⟨k, hkk⟩ := List.mem_iff_getElem?.1 hkid
  have hent : entOf (namesI ((kidsI n (putI it L)).take k)) it ∈ entsI (kidsI n (putI it L)) := List.mem_of_getElem? (entsI_get hkk)
  have hname : (entOf (namesI ((kidsI n (putI it L)).take k)) it).name = s := by
    unfold entOf
    rw [if_neg, hits]
    intro hm
    rw [metB_iff] at hm
    unfold namesI at hm
    obtain ⟨y, hy, hys⟩ := List.mem_map.1 hm
    obtain ⟨j, hj⟩ := List.mem_iff_getElem?.1 hy
    rw [List.getElem?_take] at hj
    split at hj
    · rename_i hjk
      rcases hall y (List.mem_of_getElem? hj) with rfl | hyk
      · have hd := (hfit.kids n).2
        obtain ⟨i1, e1⟩ := List.getElem?_eq_some_iff.1 hj
        obtain ⟨i2, e2⟩ := List.getElem?_eq_some_iff.1 hkk
        have := List.pairwise_iff_getElem.1 hd j k i1 i2 hjk
        rw [e1, e2] at this
        exact this rfl
      · exact cnt_zero.1 hc y hyk (hys.trans hits)
    · cases hj
  have hF := hfit.found hk' hent
  rw [hname] at hF
  refine ⟨hF.2, by rw [hF.1]; exact hitn, ?_⟩
  unfold freeI
  have : cntI (kidsI n (putI it L)) s ≠ 0 := fun e => cnt_zero.1 e it hkid hits
  simp [this]
end Go.Proofs.YtefhfoioeoijlaaGreatDoor

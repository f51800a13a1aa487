/- ChW, H3 -/
import Derived.Test.YtefhfoioeoijlaaGreatDoorVap
set_option linter.unusedVariables false
set_option linter.unusedSimpArgs false
namespace Go.Proofs.YtefhfoioeoijlaaGreatDoor
open Go Go.RowKit Go.Sort
theorem chgs_next {La Lb : List Item} {D : List Stamp} {k : Nat} {y : Stamp} (h : D[k]? = some y) : chgs La Lb (D.take (k + 1)) = chgs La Lb (D.take k) ++ chg1 La Lb y := by
  unfold chgs; rw [List.take_add_one, h]; simp
theorem chg1_no {La Lb : List Item} {m : Stamp} {sa sb : SideP} (ha : sideP La m = sa) (hb : sideP Lb m = sb) (h : kindP sa sb = 0) : chg1 La Lb m = [] := by
  unfold chg1; rw [ha, hb, if_pos h]
theorem chg1_yes {La Lb : List Item} {m : Stamp} {sa sb : SideP} (ha : sideP La m = sa) (hb : sideP Lb m = sb) (h : kindP sa sb ≠ 0) : chg1 La Lb m = [⟨kindP sa sb, m, sa.path, sb.path⟩] := by
  unfold chg1; rw [ha, hb, if_neg h]
theorem chgs_no {La Lb : List Item} {D : List Stamp} {k : Nat} {y : Stamp} {sa sb : SideP} (h : D[k]? = some y) (ha : sideP La y = sa) (hb : sideP Lb y = sb) (h0 : kindP sa sb = 0) : chgs La Lb (D.take k) = chgs La Lb (D.take (k + 1)) := by
  rw [chgs_next h, chg1_no ha hb h0, List.append_nil]
theorem chgs_yes {La Lb : List Item} {D : List Stamp} {k : Nat} {y : Stamp} {sa sb : SideP} (h : D[k]? = some y) (ha : sideP La y = sa) (hb : sideP Lb y = sb) (h0 : kindP sa sb ≠ 0) : chgs La Lb (D.take k) ++ [⟨kindP sa sb, y, sa.path, sb.path⟩] = chgs La Lb (D.take (k + 1)) := by
  rw [chgs_next h, chg1_yes ha hb h0]
theorem chgs_len (La Lb : List Item) : ∀ (D : List Stamp), (chgs La Lb D).length ≤ D.length
  | [] => Nat.le_refl _
  | y :: D => by
    have h := chgs_len La Lb D
    have h1 : (chg1 La Lb y).length ≤ 1 := by unfold chg1; split <;> simp
    show (chg1 La Lb y ++ chgs La Lb D).length ≤ D.length + 1
    rw [List.length_append]; omega
theorem nodes_next {L : List Item} {k : Nat} {x : Item} (h : L[k]? = some x) : nodesI (L.take k) ++ [x.node] = nodesI (L.take (k + 1)) := by
  unfold nodesI; rw [List.take_add_one, h]; simp
theorem nodup_len : ∀ {D S : List Stamp}, D.Nodup → (∀ x ∈ D, x ∈ S) → D.length ≤ S.length
  | [], S, _, _ => Nat.zero_le _
  | x :: D, S, hn, hs => by
    have hx := hs x (by simp)
    have hn' := List.nodup_cons.1 hn
    have h1 := nodup_len (D := D) (S := S.erase x) hn'.2 (fun y hy => (List.mem_erase_of_ne (fun e : y = x => hn'.1 (by rw [← e]; exact hy))).2 (hs y (by simp [hy])))
    rw [List.length_erase_of_mem hx] at h1
    have : 0 < S.length := List.length_pos_of_mem hx
    simp only [List.length_cons]; omega
theorem Thn.len {S D : List Stamp} (h : Thn S D) : D.length ≤ S.length := nodup_len (h.srt.imp fun {a b} h => ltS_ne h) fun x hx => (h.mem x).1 hx
theorem thn_nonil {La Lb : List Item} {D : List Stamp} (hFa : Fit La) (hFb : Fit Lb) (h : Thn (nodesI (La ++ Lb)) D) {k : Nat} {y : Stamp} (hy : D[k]? = some y) : (⟨y.t, y.w⟩ : Stamp) ≠ nilS := by
  have h1 := (h.mem y).1 (List.mem_of_getElem? hy)
  simp only [nodesI, List.mem_map, List.mem_append] at h1
  obtain ⟨x, hx, rfl⟩ := h1
  rcases hx with hx | hx
  · exact hFa.wf.nonil x hx
  · exact hFb.wf.nonil x hx
def Looks (w : World) (b1 b2 b3 : Nat) (p : Option Addr) : Prop :=
  w.heap[b1]? = some (.cells #[.func (.func 20) #[.pointer p] #[]] 44 (0, 0)) ∧ w.heap[b2]? = some (.cells #[.pointer p] 27 (0, 0)) ∧ w.heap[b3]? = some (.cells #[.func (.func 39) #[.pointer p] #[]] 76 (0, 0))
theorem Looks.up {w w' : World} {b1 b2 b3 : Nat} {p : Option Addr} (h : Looks w b1 b2 b3 p) (u : Up w w') : Looks w' b1 b2 b3 p := ⟨up_ob u h.1, up_ob u h.2.1, up_ob u h.2.2⟩
theorem lookS_at {w : World} (p : Option Addr) : Calls Tryz.prog 74 #[.pointer p] w fun e w' => ∃ b1 b2 b3, e = .returned (.func (.func 133) #[] #[.pointer (some ⟨b1, 0, none⟩), .pointer (some ⟨b2, 0, none⟩), .pointer (some ⟨b3, 0, none⟩)]) ∧ Looks w' b1 b2 b3 p ∧ Up w w' :=
  (look_at p).mono fun e w' ⟨v, h1, ⟨b1, b2, b3, h2, h3⟩, h4⟩ => ⟨b1, b2, b3, by rw [h1, h2], h3, h4⟩
theorem look1_at {B : Nat} {w : World} {p : Option Addr} {L : List Item} {b1 b2 b3 : Nat} (hk : Looks w b1 b2 b3 p) (h : OT B w p L) (hB : B ≤ w.heap.size) (hF : Fit L) (htab : Tab w) (m1 m2 : Int) (hm : (⟨m1, m2⟩ : Stamp) ≠ nilS) {s : SideP} (hs : sideP L ⟨m1, m2⟩ = s) :
    Calls Tryz.prog 133 #[.agg #[.int .i64 m1, .int .i64 m2], .pointer (some ⟨b1, 0, none⟩), .pointer (some ⟨b2, 0, none⟩), .pointer (some ⟨b3, 0, none⟩)] w fun e w' => ∃ A n c, e = .returned (sdV s (.slice A n c)) ∧ Dat B w' (.slice A n c) s.x.data ∧ Up w w' := by
  subst hs; exact look1b_at h hB hF htab m1 m2 hm hk.1 hk.2.1 hk.2.2
theorem concat2_at {B base : Nat} {w : World} {bv c1 c2 : Nat} {A1 A2 : Option Addr} {La Lb : List Item} (hB : B ≤ w.heap.size) (hbv : w.heap[bv]? = some (.cells #[.slice A1 La.length c1, .slice A2 Lb.length c2] 74 (0, 0))) (h1 : IRow 42 B base w (.slice A1 La.length c1) La) (h2 : IRow 42 B base w (.slice A2 Lb.length c2) Lb) (ha : La.length ≤ 300) (hb : Lb.length ≤ 300) {LL : List Item} (hL : LL = La ++ Lb) :
    Calls Tryz.prog 73 #[.slice (some ⟨bv, 0, none⟩) 2 2] w fun e w' => ∃ A c, e = .returned (.slice A LL.length c) ∧ IRow 42 B w.heap.size w' (.slice A LL.length c) LL ∧ Up w w' := by
  have h := concatI_at (Ls := [La, Lb]) (vs := [.slice A1 La.length c1, .slice A2 Lb.length c2]) hB hbv rfl (RowsI.two h1 h2) (by simp) (by simp; omega)
  have e : [La, Lb].flatten = LL := by rw [hL]; simp
  rw [e] at h; exact h
theorem stampSortD_at {base : Nat} {w : World} {A : Option Addr} {n c : Nat} {ks : List Stamp} (hrd : MRow base w (.slice A n c) ks) (hn : n = ks.length) (hlen : ks.length ≤ 1000) :
    Calls Tryz.prog 75 #[.slice A n c] w fun e w' => ∃ A' c' D, e = .returned (.slice A' D.length c') ∧ MRow w.heap.size w' (.slice A' D.length c') D ∧ Thn ks D ∧ Up w w' := by
  subst hn
  refine (stampSort_at hrd hlen).mono fun e w' ⟨A', m, c', D, h1, h2, h3, h4⟩ => ?_
  obtain ⟨A2, c2, e2⟩ := h2.form
  injection e2 with e3 e4 e5
  subst e4
  exact ⟨A', c', D, h1, h2, h3, h4⟩
end Go.Proofs.YtefhfoioeoijlaaGreatDoor
set_option linter.unusedVariables false
namespace Go.Proofs.YtefhfoioeoijlaaGreatDoor
open Go Go.RowKit Go.Sort
section
variable {P : Program} {ops : Array Oper} {Q : Exit → Act → World → Prop} {S : World → Prop} {a : Act} {w : World}
theorem h3 {i j k : Nat} {oi oj ok : Oper} {fuel : Nat} {listed : Array Bool} (hr : Region.ready .any ops listed = [i, j, k]) (hi : ops[i]? = some oi) (hj : ops[j]? = some oj) (hk : ops[k]? = some ok)
    (k1 : St1 P ops Q oi (fun a' w' => S w' ∧ HL P ops Q S fuel (listed.setIfInBounds i true) a' w') a w)
    (k2 : St1 P ops Q oj (fun a' w' => S w' ∧ HL P ops Q S fuel (listed.setIfInBounds j true) a' w') a w)
    (k3 : St1 P ops Q ok (fun a' w' => S w' ∧ HL P ops Q S fuel (listed.setIfInBounds k true) a' w') a w) : HL P ops Q S (fuel + 1) listed a w := by
  rw [hl_un] at *
  refine wpAnyH_all hr (by simp) fun l hl => ?_
  rcases List.mem_cons.1 hl with rfl | hl
  · unfold wpOp; simp only [hi]; unfold St1 at k1; exact k1
  · rcases List.mem_cons.1 hl with rfl | hl
    · unfold wpOp; simp only [hj]; unfold St1 at k2; exact k2
    · obtain rfl : l = k := by simpa using hl
      unfold wpOp; simp only [hk]; unfold St1 at k3; exact k3
end
end Go.Proofs.YtefhfoioeoijlaaGreatDoor

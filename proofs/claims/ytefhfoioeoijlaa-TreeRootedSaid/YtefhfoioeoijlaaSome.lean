/- slices.Collect, maps.Keys, slices.SortedFunc: the keys of a tree's map, in order. -/
import Derived.Test.YtefhfoioeoijlaaSort
import Derived.Test.YtefhfoioeoijlaaStepP
set_option linter.unusedVariables false
set_option linter.unusedSimpArgs false
namespace Go.Proofs.Ytefhfoioeoijlaa
open Go Go.RowKit Go.Sort Go.Shelf

theorem appendSeq_at {Bm r : Nat} {es : Array MapEntry} {clock : Nat} {ks : List Stamp} {w : World} (hm : MapRaw w r es clock ks) (hB : w.cell? ⟨Bm, 0, none⟩ = some (.map (some r))) (hlen : ks.length ≤ 1000) :
    Calls Try.prog 119 #[.slice none 0 0, .func (.func 110) #[] #[.pointer (some ⟨Bm, 0, none⟩)]] w fun e w' => ∃ v ss, e = .returned v ∧ ss.Perm ks ∧ w'.ownsRow w.heap.size 24 2 v ss.length (flatS ss) ∧ Below w.heap.size w w' :=
  (callsIn_wide (n := 6)).1 (appendSeq_in trivial trivial rfl (by omega) hm hB hlen)

theorem collect_at {Bm r : Nat} {es : Array MapEntry} {clock : Nat} {ks : List Stamp} {w : World} (hm : MapRaw w r es clock ks) (hB : w.cell? ⟨Bm, 0, none⟩ = some (.map (some r))) (hlen : ks.length ≤ 1000) :
    Calls Try.prog 108 #[.func (.func 110) #[] #[.pointer (some ⟨Bm, 0, none⟩)]] w fun e w' => ∃ v ss, e = .returned v ∧ ss.Perm ks ∧ w'.ownsRow w.heap.size 24 2 v ss.length (flatS ss) ∧ Below w.heap.size w w' := by
  have key := Lib.hid (appendSeq_at hm hB hlen)
  clear hm hB
  go_enter Try.func108, Try.ntmps108
  go_wp2_with fail
  refine key.out.mono ?_
  rintro e w' ⟨v, ss, rfl, h1, h2, h3⟩
  go_wp2_with fail
  go_ret
  exact ⟨v, ss, rfl, h1, h2, h3⟩

theorem mkeys_at {w : World} (r : Nat) : Calls Try.prog 88 #[.map (some r)] w fun e w' => ∃ b, e = .returned (.func (.func 110) #[] #[.pointer (some ⟨b, 0, none⟩)]) ∧ w'.cell? ⟨b, 0, none⟩ = some (.map (some r)) ∧ Up w w' := by
  go_enter Try.func88, Try.ntmps88
  go_wp2_with fail
  go_ret
  exact ⟨_, rfl, by unfold World.cell?; rw [heap_alloc_new]; rfl, up_alloc _ _⟩

theorem perm_sorted {ss ts : List Stamp} (hp : ss.Perm ts) (h1 : StSorted ss) (h2 : ts.Pairwise fun a b => ltS a b = true) : ss = ts := by
  have hn : ss.Nodup := (hp.nodup_iff).2 (h2.imp fun {a b} h => ltS_ne h)
  have h1' : ss.Pairwise fun a b => ltS a b = true := (List.Pairwise.and h1 hn).imp fun {a b} ⟨h, k⟩ => by
    rcases hx : ltS a b with _ | _
    · exact absurd (ltS_tri hx h) k
    · rfl
  have key := Srt.perm_eq (L := ss.map fun s => { nilI with node := s }) (L' := ts.map fun s => { nilI with node := s }) (List.pairwise_map.2 h1') (List.pairwise_map.2 h2) (hp.map _)
  have := congrArg (List.map (·.node)) key
  simpa [List.map_map, Function.comp_def] using this
theorem pair_ents {B : Nat} {w : World} : ∀ {es : List MapEntry} {xs : List Item}, Pair (Ent B w) es xs → Pair (fun e k => e.key = stV k) es (xs.map (·.node))
  | [], [], _ => trivial
  | [], _ :: _, h => h.elim
  | _ :: _, [], h => h.elim
  | e :: es, x :: xs, h => ⟨h.1.1, pair_ents h.2⟩

theorem sorted_at {B : Nat} {w : World} {Bm r : Nat} {L : List Item} (h : MapIs B w r L) (hL : L.length ≤ 1000) (hB : w.cell? ⟨Bm, 0, none⟩ = some (.map (some r))) :
    Calls Try.prog 87 #[.func (.func 110) #[] #[.pointer (some ⟨Bm, 0, none⟩)], .func (.func 89) #[] #[]] w fun e w' => ∃ v, e = .returned v ∧ SRow w' v (L.map (·.node)) ∧ Up w w' := by
  obtain ⟨es, clock, xs, h1, h2, h3, h4, h5, h6⟩ := h
  have hm : MapRaw w r es clock (xs.map (·.node)) := ⟨h1, pair_ents h2, h5, h6⟩
  have hl : (xs.map (·.node)).length ≤ 1000 := by rw [List.length_map, h3.length_eq]; exact hL
  have key := Lib.hid (collect_at hm hB hl)
  have hpm : (xs.map (·.node)).Perm (L.map (·.node)) := h3.map _
  have hso : (L.map (·.node)).Pairwise fun a b => ltS a b = true := List.pairwise_map.2 h4
  clear hm hB h1 h2 h3 h5 h6
  go_enter Try.func87, Try.ntmps87
  go_wp2_with fail
  refine key.out.mono ?_
  rintro e w1 ⟨v, ss, rfl, hp, ho, hb⟩
  have hlen : ss.length ≤ 1000 := by rw [hp.length_eq]; exact hl
  go_wp2_with fail
  refine (sortFunc_at (ss := ss) ho hlen).mono ?_
  rintro e w2 ⟨rfl, ss', hp', hs', hrow, hg⟩
  go_wp2_with fail
  go_ret
  obtain rfl := perm_sorted ((hp'.trans hp).trans hpm) hs' hso
  refine ⟨v, rfl, hrow, ⟨hg.os.trans hb.os, hg.tape.trans hb.tape, hg.output.trans hb.output, Nat.le_trans hb.size hg.size, fun k hk => ?_⟩⟩
  refine (hg.block k (Nat.lt_of_lt_of_le hk hb.size) fun e => ?_).trans (hb.block k hk)
  rcases ho.2 with ⟨rfl, _⟩ | ⟨g, cap, cur, rfl, hb', _⟩
  · cases e
  · injection e with e
    have e : k = g := e
    omega
end Go.Proofs.Ytefhfoioeoijlaa

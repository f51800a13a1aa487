/- Copy of a log: slices.Clone at steps, the tree anew; the answers of a nil log. -/
import Derived.Test.YtefhfoioeoijlaaGreatLogs
import Derived.Test.YtefhfoioeoijlaaGreatGE
set_option linter.unusedVariables false
set_option linter.unusedSimpArgs false
namespace Go.Proofs.YtefhfoioeoijlaaGreat
open Go Go.RowKit Go.Sort
theorem EnC.f13 : ∀ args w, (callFunc 13 args).run Tryz.prog w = .ok (.enter 13 args) w := enters_of Tryz.func13 (by kernel_rfl) rfl
theorem EnC.f31 : ∀ args w, (callFunc 31 args).run Tryz.prog w = .ok (.enter 31 args) w := enters_of Tryz.func31 (by kernel_rfl) rfl
/-- All of a tree's items, in order. -/
theorem all_row {B : Nat} {w : World} {tb r : Nat} {L : List Item} (h : TreeIs B w tb r L) (hB : B ≤ w.heap.size) : Calls Tryz.prog 16 #[trP tb] w fun e w' => ∃ v, e = .returned v ∧ IRow 61 B w.heap.size w' v L ∧ Up w w' := by
  go_enter Tryz.func16, Tryz.ntmps16
  refine wp_seq (rg_lit ?_)
  refine was (v := .slice none 0 0) ?_
  refine wnil (then_n (wp_seq (rg_lit ?_)))
  refine wmv (v := .pointer (some ⟨tb, 0, none⟩)) ?_
  refine wl (sc rfl (r_callv (caps := []) (all := [.pointer (some ⟨tb, 0, none⟩), .func (.func 32) #[] #[]]) EnC.f31 (by kernel_rfl) (by kernel_rfl)) (some_all_at h hB) ?_)
  rintro e w1 ⟨v, rfl, h4, u5⟩
  obtain ⟨A2, c3, rfl⟩ := h4.form
  refine ⟨.slice A2 L.length c3, rfl, ?_⟩
  refine was (v := .slice A2 L.length c3) ?_
  refine wnil (then_n (wp_ret ?_))
  refine bodyPost_ret (v := .slice A2 L.length c3) (res1 rfl (rv_t (by kernel_rfl))) (by kernel_rfl) ?_
  exact ⟨_, rfl, h4, u5⟩
end Go.Proofs.YtefhfoioeoijlaaGreat

/-! ### the tree anew, plain -/
namespace Go.Proofs.YtefhfoioeoijlaaGreat
end Go.Proofs.YtefhfoioeoijlaaGreat

namespace Go.Proofs.YtefhfoioeoijlaaGreat
open Go Go.RowKit Go.Sort
end Go.Proofs.YtefhfoioeoijlaaGreat

namespace Go.Proofs.YtefhfoioeoijlaaGreat
open Go Go.RowKit Go.Sort
theorem IRow.only {T : TypeId} {B base : Nat} {w w' : World} {v : Value} {L : List Item} (h : IRow T B base w v L) (o : Only B w w') (h1 : T ≠ 66) (h2 : T ≠ 73) : IRow T B base w' v L := by
  obtain ⟨X, m, hX⟩ := o
  obtain ⟨ds, hp, k1, k2⟩ := h
  refine ⟨ds, hp.mono (fun x d hd => hd.mod m fun x hx => ⟨(hX x hx).1, not8 (hX x hx).2⟩), k1, ?_⟩
  rcases k2 with k2 | ⟨g, cap, cur, e, hb, hg, rest⟩
  · exact .inl k2
  · exact .inr ⟨g, cap, cur, e, hb, md_ob m (fun hm => by rcases (hX g hm).2 _ _ _ hg with h | h; exact h1 h; exact h2 h) hg, rest⟩
end Go.Proofs.YtefhfoioeoijlaaGreat

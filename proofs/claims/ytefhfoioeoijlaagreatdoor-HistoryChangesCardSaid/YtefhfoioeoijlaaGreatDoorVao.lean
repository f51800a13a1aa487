/- Srt, CmpS, Cat, HA -/
import Derived.Lib.AppendZerosOnto
import Derived.Test.YtefhfoioeoijlaaGreatDoorVah
import Derived.Test.YtefhfoioeoijlaaGreatDoorVan
set_option linter.unusedVariables false
set_option linter.unusedSimpArgs false
namespace Go.Proofs.YtefhfoioeoijlaaGreatDoor
open Go Go.RowKit Go.Sort Go.Shelf
theorem up_put {w W : World} {k : Nat} {o : Obj} (h : Up w W) (hk : w.heap.size ≤ k) (hW : k < W.heap.size) : Up w (W.putObj k o) :=
  Mod.up (Mod.trans' (Mod.of_up h) (grownBy_putObj' W k o) (fun i hi => by injection hi with hi; omega))
theorem up_grown {w w' : World} (h : Up w w') : w.grownBy w' none := ⟨h.os, h.tape, h.output, h.size, fun k hk _ => h.block k hk⟩
set_option maxHeartbeats 2000000 in
theorem values_stops {n Bm c base : Nat} {Ad : Option Addr} {zs : List Stamp} {w : World} (hm : zs.length ≤ 1000000) (hBm : w.heap[Bm]? = some (.cells #[.slice Ad zs.length c] 95 (0, 0))) (hrd : MRow base w (.slice Ad zs.length c) zs) :
    SeqStopsK Fence.wide n Tryz.prog 169 #[.pointer (some ⟨Bm, 0, none⟩)] (fun x : Stamp => #[.agg #[.int .i64 x.t, .int .i64 x.w]]) (fun W W' => Up w W → Up w W') (fun xs => xs = zs) (fun _ => True) zs.length w := fun l J Jx W hW hJ hJx hY hJ0 => by
  refine callsIn_wide.2 ?_
  go_enter Tryz.func169, Tryz.ntmps169
  refine wp_seq (rg_lit ?_)
  refine wl (sv rfl (v := .slice Ad zs.length c) (r_load (k := 0) (by kernel_rfl) Ty.ag95 (up_ob hW hBm) (by kernel_rfl)) ?_)
  refine wl (sv rfl (v := .int .i64 (zs.length : Int)) (r_len Ty.un95 (ad := Ad) (n := zs.length) (c := c) (by kernel_rfl)) ?_)
  refine wmv (v := .int .i64 0) ?_
  refine wnil (then_n (wp_block ?_))
  refine lp (fun n a r1 => ∃ (j : Nat) (z4 z8 z9 z10 z11 z12 z13 z14 z15 : Value), (n = zs.length - j) ∧ (a = ⟨#[.func (.yield l) #[] #[], .pointer (some ⟨Bm, 0, none⟩), undef, undef, z4, .slice Ad zs.length c, .int .i64 (zs.length : Int), .int .i64 (j : Int), z8, z9, z10, z11, z12, z13, z14, z15], []⟩) ∧ j ≤ zs.length ∧ Up w r1 ∧ J (zs.take j) r1) ⟨_, 0, undef, undef, undef, undef, undef, undef, undef, undef, undef, rfl, (by kernel_rfl), Nat.zero_le _, hW, by simpa using hJ0⟩ ?_
  rintro _ _ r1 ⟨j, z4, z8, z9, z10, z11, z12, z13, z14, z15, rfl, rfl, hj, hU, hJ1⟩
  refine wp_seq (rg_lit ?_)
  refine wl (sb rfl (r_lt (k := .i64) (m := (j : Int)) (n := (zs.length : Int)) (by kernel_rfl) (by kernel_rfl)) ?_)
  intro b2 k3
  refine wnil (then_n ?_)
  refine bcase b2 (fun v4 => ?_) (fun v4 => ?_)
  · have p5 := of_decide_eq_false (k3.trans v4)
    refine wp_seq (wp_cond_false (ebool (b := b2) (by kernel_rfl) v4) ?_)
    refine wp_exit (then_x (by nofun) (then_x (by nofun) (inb_hit ?_)))
    refine bodyPost_end (v := .tuple #[]) (res0 rfl) (by kernel_rfl) ?_
    exact ⟨⟨_, rfl⟩, .inl ⟨_, rfl, by rw [List.take_of_length_le (by omega)] at hJ1; exact hJ1⟩⟩
  have p5 := of_decide_eq_true (k3.trans v4)
  have hjm : j < zs.length := by omega
  refine wp_seq (wp_cond_true (ebool (b := b2) (by kernel_rfl) v4) ?_)
  refine wp_skip (then_n (wp_seq (wp_block (wp_seq (rg_lit ?_)))))
  obtain ⟨y9, hy9⟩ : ∃ x, zs[j]? = some x := ⟨_, List.getElem?_eq_getElem hjm⟩
  obtain ⟨g9, hA9, hl9, hc9, hd9⟩ := MRow.get (MRow.up hrd hU) hy9
  refine wl (sv rfl (v := .pointer (some ⟨g9, j * 2, none⟩)) (r_ixaddr' (A := Ad) (b := g9) (o := 0) (n := zs.length) (c := c) (sz := 2) (j := (j : Int)) (m := j * 2) (by kernel_rfl) hA9 (by kernel_rfl) Ty.un95 Ty.sz24 (by omega) (by omega) (by simp)) ?_)
  refine wl (sv rfl (v := .agg #[.int .i64 y9.t, .int .i64 y9.w]) (r_loadc2 (by kernel_rfl) Ty.ag24 Ty.sz24 hc9 hd9) ?_)
  refine wl (sn rfl (cs := #[.int .i64 0, .int .i64 0]) (T := 24) (V := fun b => .pointer (some ⟨b, 0, none⟩)) (r_alloc Ty.zv24 rfl) ?_)
  intro b10 w11 e12 h13 u14
  refine wl (ss rfl (k := 0) (v := .agg #[.int .i64 y9.t, .int .i64 y9.w]) (vs := [.int .i64 y9.t, .int .i64 y9.w]) (cs' := [.int .i64 y9.t, .int .i64 y9.w]) (by kernel_rfl) (by kernel_rfl) rfl Ty.sz24 h13 rfl (Nat.le_of_ble_eq_true rfl) rfl ?_)
  intro w21 h22 c23
  have hu21 : Up r1 w21 := up_chgn u14 c23 (by rw [e12]; exact Nat.le_refl _)
  have hJ2 := hJ _ _ _ none hJ1 (up_grown hu21) (fun r e => by cases e)
  obtain ⟨yf, yt, ya, yb, hrun, hround⟩ := hY (zs.take j) y9 w21 hJ2 (by simp; omega)
  dsimp only at hrun
  refine wnil (then_n (wp_seq (wpIn_wide.1 (rg_x (ro := none) (n := n) ?_))))
  refine xv rfl rfl (v := .func (.yield l) #[] #[]) (r_move (by kernel_rfl)) ?_
  refine xv rfl rfl (v := .agg #[.int .i64 y9.t, .int .i64 y9.w]) (r_loads (k := 0) (by kernel_rfl) Ty.ag24 Ty.sz24 h22 (by kernel_rfl)) ?_
  refine xy rfl rfl (l := l) (f := yf) (tmps := yt) (assign := ya) (body := yb) (r_yield (by kernel_rfl) (by kernel_rfl) hrun) hround ?_
  rintro e W3 (⟨rfl, hJ3, hk3⟩ | ⟨rfl, hJx3⟩)
  · refine ⟨_, rfl, ?_⟩
    refine xv rfl rfl (v := .bool false) (r_not (b := true) (by kernel_rfl)) ?_
    refine xnil (then_n (wp_cond_false (by kernel_rfl) (wp_skip (inb_n (then_n (rg_lit ?_))))))
    refine wl (sv rfl (v := .int .i64 ((j : Int) + 1)) (r_add (k := .i64) (m := (j : Int)) (n := 1) (by kernel_rfl) (by kernel_rfl) (IntWalk.i64_in _ (by omega))) ?_)
    refine wmv (v := .int .i64 ((j : Int) + 1)) ?_
    refine wnil (then_n ?_)
    exact ⟨zs.length - (j + 1), by omega, j + 1, .pointer (some ⟨b10, 0, none⟩), .bool b2, .pointer (some ⟨g9, j * 2, none⟩), .agg #[.int .i64 y9.t, .int .i64 y9.w], .func (.yield l) #[] #[], .agg #[.int .i64 y9.t, .int .i64 y9.w], .bool true, .bool false, .int .i64 ((j : Int) + 1), rfl, (by kernel_rfl), by omega, hk3 (up_trans hU hu21), by rw [List.take_add_one, hy9]; exact hJ3⟩
  · refine ⟨_, rfl, ?_⟩
    refine xv rfl rfl (v := .bool true) (r_not (b := false) (by kernel_rfl)) ?_
    refine xnil (then_n (wp_cond_true (by kernel_rfl) (wp_ret (inb_r (then_x (by nofun) (then_x (by nofun) (inb_r ?_)))))))
    refine bodyPost_ret (v := .tuple #[]) (res0 rfl) (by kernel_rfl) ?_
    exact ⟨⟨_, rfl⟩, .inr ⟨_, trivial, hJx3⟩⟩
attribute [local go_sem] Oper.semAt_some
set_option maxRecDepth 100000 in
set_option maxHeartbeats 4000000 in
theorem appendSeqV_in {n base c : Nat} (hn : 4 ≤ n) {Bm : Nat} {Ad : Option Addr} {ks : List Stamp} {w : World} (hB : w.heap[Bm]? = some (.cells #[.slice Ad ks.length c] 95 (0, 0))) (hrd : MRow base w (.slice Ad ks.length c) ks) (hlen : ks.length ≤ 1000) :
    CallsIn Fence.wide n Tryz.prog 204 #[.slice none 0 0, .func (.func 169) #[] #[.pointer (some ⟨Bm, 0, none⟩)]] w fun e w' => ∃ v, e = .returned v ∧ w'.ownsRow w.heap.size 24 2 v ks.length (flatS ks) ∧ Below w.heap.size w w' := by
  have h1 : 1 ≤ n := by omega
  obtain ⟨i0, hi, hz0, hz1, hz2⟩ := info_parts info_stamp
  have hBm := lt_ob hB
  have hus := stamps_type
  refine callsIn_of_wp_marks Tryz.func204 rfl trivial ?_ rfl
  simp only [Tryz.ntmps204, List.size_toArray, List.length_cons, List.length_nil, Nat.reduceAdd, Nat.reduceSub, Array.replicate_succ, Array.replicate_zero, List.push_toArray, List.append_toArray, List.nil_append, List.cons_append]
  gi_wp2
  have hs0 : (w.alloc (.cells #[.slice none 0 0] 95)).heap.size = w.heap.size + 1 := by simp
  have bS := Boxed.new w 95 (.slice none 0 0)
  have hB0 : Below w.heap.size w (w.alloc (.cells #[.slice none 0 0] 95)) := (Below.refl _ w).alloc (Nat.le_refl _) _
  obtain ⟨W0, hW0⟩ : ∃ W0, w.alloc (.cells #[.slice none 0 0] 95) = W0 := ⟨_, rfl⟩
  rw [hW0] at bS hB0 hs0 ⊢
  clear hW0
  refine wpIn_rangeFunc_ownH (α := Stamp) (F := Fence.wide) rfl h1 (gf := 169) (lb := #[.pointer (some ⟨Bm, 0, none⟩)]) (by kernel_rfl) trivial (enters_of Tryz.func169 (by kernel_rfl) rfl)
    (values_stops (n := n - 1) (w := w) (by omega) hB hrd) (fun h k x => k (h x)) (fun W l o o' hl hW _ _ hM => up_put hM (Nat.le_trans hB0.size hl) (lt_ob hW)) hB0 (fun _ => rfl)
    (fun pre W => (∃ v, Boxed W w.heap.size 95 v ∧ W.ownsRow w.heap.size 24 2 v pre.length (flatS pre) ∧ True) ∧ Below w.heap.size w W)
    (fun _ _ _ => False)
    (OwnFrom.and (Own.from (holdsRow_own w.heap.size w.heap.size 95 24 2 (fun pre => pre.length) (fun pre => flatS pre) (fun pre v => True)) _) (ownFrom_below (Nat.le_refl _) (by omega)))
    (fun _ _ _ _ _ hs _ _ => hs)
    ⟨⟨_, bS, World.ownsRow_nil _ _ _ _, trivial⟩, hB0⟩
    (fun x a' W => ∃ Bx, w.heap.size < Bx ∧ W.heap[Bx]? = some (.cells #[.int .i64 x.t, .int .i64 x.w] 24 (0, 0)) ∧ a' = { tmps := #[.slice none 0 0, .func (.func 169) #[] #[.pointer (some ⟨Bm, 0, none⟩)], .pointer (some ⟨w.heap.size, 0, none⟩), undef, .slice none 0 0, .pointer (some ⟨Bx, 0, none⟩), .func (.func 169) #[] #[.pointer (some ⟨Bm, 0, none⟩)], .agg #[.int .i64 x.t, .int .i64 x.w], undef, undef, undef, undef, undef], defers := [] })
    (fun x a' _ X Y row hs hg hr => by
      obtain ⟨Bx, h1, h2, h3⟩ := hs
      refine ⟨Bx, h1, (hg.block Bx (Array.getElem?_eq_some_iff.1 h2).1 (fun e => ?_)).trans h2, h3⟩
      obtain ⟨_, o, ho, hc⟩ := hr Bx e.symm
      rw [h2] at ho; cases ho; cases hc)
    ?assign ?body ?done ?stop
  case assign =>
    rintro l pre x W K ⟨⟨v, hv, hrow, _⟩, hBW⟩ hK
    gi_wp2
    refine hK _ _ ((KeepsOthers.alloc _ _).from _) (fun h => up_trans h (up_alloc _ _)) ⟨⟨v, hv.alloc _, hrow.alloc _, trivial⟩, hBW.alloc hBW.size _⟩ ⟨W.heap.size, hv.lt, heap_alloc_new W _, rfl⟩
  case body =>
    rintro l pre x a' W hl ⟨rr, hrr⟩ ⟨⟨v, hv, hrow, _⟩, hBW⟩ ⟨Bx, hBx, bX, rfl⟩ hlt
    have hcv := hv.cell
    have hcx : W.cell? ⟨Bx, 0, none⟩ = some (.int .i64 x.t) := by simp [World.cell?, bX]
    have hcy : W.cell? ⟨Bx, 1, none⟩ = some (.int .i64 x.w) := by simp [World.cell?, bX]
    have hmax : ks.length ≤ maxLen := by unfold maxLen; omega
    gi_wp2_with (gi_at_builtin; refine wpListIn_append_own _ rfl _ _ 95 rfl w.heap.size 24 i0 (stV ⟨0, 0⟩) 2 16 hus hi hz0 hz1 hz2 rfl (by decide) _ _ _ rfl (hrow.alloc _) ⟨W.heap.size, 0, none⟩ 1 1 [.int .i64 x.t, .int .i64 x.w] rfl rfl (news2 _ _ _ _) (by intro u hu; simp at hu; rcases hu with rfl | rfl <;> rfl) (by omega) (by omega) (by have := hBW.size; simp; omega) ?_; intro v' w1 hown' hgrow _; obtain ⟨g', cap', rfl⟩ := ownsRow_succ hown'; obtain ⟨hv1, hv2, hr2, hk2, hb2⟩ := hv.appended (by decide) hrow hBW.size (Nat.le_refl _) hown' hgrow; have hc1 := hv1.cell; have hf1 := hv1.frozen)
    refine ⟨hk2.from _, fun h => h.trans hb2, ⟨_, hv2, ?_, trivial⟩, hBW.trans hb2⟩
    rw [flatS_snoc]
    simpa [stC] using hr2
  case done =>
    rintro D ss W hD hS ⟨⟨v, hv, hrow, _⟩, hBW⟩ hK
    have hcv := hv.cell
    gi_wp2
    refine ⟨by simp, .inl ⟨_, _, rfl, run_takeDeferred hK, ?_⟩⟩
    rw [show ss = ks from hS] at hrow
    exact ⟨_, results_tmp rfl _ _ _, v, rfl, ownsRow_putObj hrow _ hK rfl, hBW.trans (belowK_b (w := w) (Nat.le_refl _) W D _ _ (by omega) hK rfl rfl)⟩
  case stop =>
    rintro D c pre W _ _ h _
    exact h.elim
end Go.Proofs.YtefhfoioeoijlaaGreatDoor
namespace Go.Proofs.YtefhfoioeoijlaaGreatDoor
open Go Go.RowKit Go.Sort Go.Shelf
theorem mrow_of {base g cap : Nat} {w : World} {cur : Array Value} {L : List Stamp} (hb : base ≤ g) (hg : w.heap[g]? = some (.cells cur 24 (0, 0))) (hc : L.length ≤ cap) (hm : cap ≤ maxLen) (hcs : cur.size = cap * 2)
    (hr : ∀ (i : Nat) (x : Stamp), L[i]? = some x → w.cell? ⟨g, i * 2, none⟩ = some (.int .i64 x.t) ∧ w.cell? ⟨g, i * 2 + 1, none⟩ = some (.int .i64 x.w)) : MRow base w (.slice (some ⟨g, 0, none⟩) L.length cap) L := by
  refine ⟨flatS_len L, .inr ⟨g, cap, cur, rfl, hb, hg, hc, hm, hcs, ?_⟩⟩
  refine List.ext_getElem? fun j => ?_
  by_cases hj : j < L.length * 2
  · rw [List.getElem?_take, if_pos hj, Array.getElem?_toList]
    have hi : j / 2 < L.length := by omega
    have hx : L[j / 2]? = some L[j / 2] := List.getElem?_eq_getElem hi
    have h1 := hr _ _ hx
    have h2 := flatS_at hx
    simp only [World.cell?, hg] at h1
    rcases Nat.mod_two_eq_zero_or_one j with h | h
    · have e : j / 2 * 2 = j := by omega
      rw [e] at h1 h2; exact h1.1.trans h2.1.symm
    · have e : j / 2 * 2 + 1 = j := by omega
      rw [e] at h1 h2; exact h1.2.trans h2.2.symm
  · rw [List.getElem?_eq_none (by rw [List.length_take]; omega), List.getElem?_eq_none (by rw [flatS_len]; omega)]
theorem sortFuncM_at {w : World} {base : Nat} {v : Value} {ss : List Stamp} (h : MRow base w v ss) (hl : ss.length ≤ 1000) :
    Calls Tryz.prog 168 #[v, .func (.func 137) #[] #[]] w fun e w' => e = .returned (.tuple #[]) ∧ ∃ ss', ss'.Perm ss ∧ StSorted ss' ∧ MRow base w' v ss' ∧ w.grownBy w' v.ownBlock := by
  rcases h.2 with ⟨rfl, h0⟩ | ⟨g, cap, cur, rfl, hb, hg, hc, hm, hcs, htk⟩
  · obtain rfl : ss = [] := List.eq_nil_of_length_eq_zero h0
    refine (sortNil 0 w).mono ?_
    rintro e w' ⟨rfl, rfl⟩
    exact ⟨rfl, [], List.Perm.refl _, List.Pairwise.nil, MRow.nil _ _, rfl, rfl, rfl, Nat.le_refl _, fun k hk _ => rfl⟩
  · have hcell : ∀ j u, (flatS ss)[j]? = some u → w.cell? ⟨g, j, none⟩ = some u := fun j u hj => by
      have := h.cells (g := g) rfl j u hj
      rwa [add_at, Nat.zero_add] at this
    have hH : HoldsK stC 2 w g 0 ss.toArray := by
      intro j hj
      rw [size_flatK] at hj
      simp only [List.size_toArray] at hj
      have hi : j / 2 < ss.length := by omega
      obtain ⟨x, hx⟩ : ∃ x, ss[j / 2]? = some x := ⟨_, List.getElem?_eq_getElem hi⟩
      have hget : (flatK stC 2 ss.toArray)[j]! = (stC x)[j % 2]! := by
        rw [get_flatK _ _ _ _ (by simpa using hj)]
        congr 2
        rw [Array.getElem!_eq_getD, Array.getD_eq_getD_getElem?]
        simp [hx]
      refine ⟨?_, by simp [World.frozen?, hg]⟩
      rw [Nat.zero_add, hget]
      refine hcell j _ ?_
      have := flatS_get (k := j % 2) hx (Nat.mod_lt _ (by omega))
      rw [show j / 2 * 2 + j % 2 = j by omega] at this
      rw [this]
      have h2 : j % 2 = 0 ∨ j % 2 = 1 := by omega
      rcases h2 with h2 | h2 <;> rw [h2] <;> rfl
    have key := AnyQ.slices_SortFunc (P := Tryz.prog) Tryz.sortStamps 2 Ty.ag24 Ty.sz24 stC (fun _ => rfl) (fun x v hv => by simp [stC] at hv; rcases hv with rfl | rfl <;> rfl) cmpS swo_stamps 137 #[] g 0 cap ss.toArray w (enters_of Tryz.func137 (by kernel_rfl) rfl) (cmp_lays g 0 _ w) hH (Array.getElem?_eq_some_iff.1 hg).1 (by simp; omega)
    refine Calls.mono (show Calls Tryz.prog 168 #[.slice (some ⟨g, 0, none⟩) ss.length cap, .func (.func 137) #[] #[]] w _ from key) ?_
    rintro e w' ⟨rfl, d', n, os, hperm, hsort, rfl⟩
    have hsz : d'.size = ss.length := by simpa using hperm.1
    have hH' := holdsK_sortWorldK_c stC 2 w g 0 ss.toArray d' n os hH (Array.getElem?_eq_some_iff.1 hg).1 (by simpa using hsz)
    have hgr := sortWorld_grown stC 2 w g 0 n d' os
    have hlen2 : d'.toList.length = ss.length := by simpa using hsz
    obtain ⟨cur', hcur, hcsz⟩ : ∃ cur' : Array Value, (sortWorldK stC 2 w g 0 n d' os).heap[g]? = some (.cells cur' 24 (0, 0)) ∧ cur'.size = cur.size := by
      refine ⟨putCells id 0 (flatK stC 2 d') cur, ?_, by simp [putCells]⟩
      have hlt : g < (putRowK stC 2 (Sort.ahead w n) g 0 d').heap.size := by rw [size_putRowK]; exact lt_ob hg
      show ((putRowK stC 2 (Sort.ahead w n) g 0 d').heap ++ os)[g]? = _
      rw [Array.getElem?_append_left hlt]
      unfold putRowK putRow mapBlock
      simp only [Array.getElem?_modify, if_true]
      have hg2 : (Sort.ahead w n).heap[g]? = some (.cells cur 24 (0, 0)) := hg
      rw [hg2]; rfl
    have hM : MRow base (sortWorldK stC 2 w g 0 n d' os) (.slice (some ⟨g, 0, none⟩) d'.toList.length cap) d'.toList := by
      refine mrow_of hb hcur (by omega) hm (by rw [hcsz, hcs]) (fun i x hx => ⟨?_, ?_⟩)
      · have hi := (List.getElem?_eq_some_iff.1 hx).1
        simp at hi
        have := (hH' (i * 2) (by rw [size_flatK]; omega)).1
        rw [Nat.zero_add, get_flatK _ _ _ _ (by omega)] at this
        rw [this]
        have hx' : d'[i]! = x := by rw [getElem!_pos d' i hi]; simpa [List.getElem?_eq_getElem] using (List.getElem?_eq_some_iff.1 hx).2
        rw [show i * 2 / 2 = i by omega, show i * 2 % 2 = 0 by omega, hx']
        rfl
      · have hi := (List.getElem?_eq_some_iff.1 hx).1
        simp at hi
        have := (hH' (i * 2 + 1) (by rw [size_flatK]; omega)).1
        rw [Nat.zero_add, get_flatK _ _ _ _ (by omega)] at this
        rw [this]
        have hx' : d'[i]! = x := by rw [getElem!_pos d' i hi]; simpa [List.getElem?_eq_getElem] using (List.getElem?_eq_some_iff.1 hx).2
        rw [show (i * 2 + 1) / 2 = i by omega, show (i * 2 + 1) % 2 = 1 by omega, hx']
        rfl
    rw [hlen2] at hM
    refine ⟨rfl, d'.toList, ?_, ?_, hM, hgr⟩
    · have := hperm.2.2
      rw [show (ss.toArray).size = d'.size by simpa using hsz.symm] at this
      rw [show d'.size = ss.length from hsz] at this
      simpa [← hsz] using this.trans (by simp)
    · unfold StSorted
      rw [List.pairwise_iff_getElem]
      intro i j hi hj hij
      have := hsort i j (Nat.zero_le _) hij (by simp at hj ⊢; omega)
      rw [ltOf_cmpS] at this
      simp at hi hj
      simpa [getElem!_pos, hi, hj] using this
theorem values_at {w : World} (A : Option Addr) (m c : Nat) :
    Calls Tryz.prog 136 #[.slice A m c] w fun e w' => ∃ b, e = .returned (.func (.func 169) #[] #[.pointer (some ⟨b, 0, none⟩)]) ∧ w'.heap[b]? = some (.cells #[.slice A m c] 95 (0, 0)) ∧ Up w w' := by
  go_enter Tryz.func136, Tryz.ntmps136
  go_wp2_with fail
  go_ret
  exact ⟨_, rfl, by rw [heap_alloc_new], up_alloc _ _⟩
theorem appendSeqV_at {base c : Nat} {Bm : Nat} {Ad : Option Addr} {ks : List Stamp} {w : World} (hB : w.heap[Bm]? = some (.cells #[.slice Ad ks.length c] 95 (0, 0))) (hrd : MRow base w (.slice Ad ks.length c) ks) (hlen : ks.length ≤ 1000) :
    Calls Tryz.prog 204 #[.slice none 0 0, .func (.func 169) #[] #[.pointer (some ⟨Bm, 0, none⟩)]] w fun e w' => ∃ v, e = .returned v ∧ MRow w.heap.size w' v ks ∧ Below w.heap.size w w' :=
  (callsIn_wide (n := 6)).1 (appendSeqV_in (by omega) hB hrd hlen)
theorem collectV_at {base c : Nat} {Bm : Nat} {Ad : Option Addr} {ks : List Stamp} {w : World} (hB : w.heap[Bm]? = some (.cells #[.slice Ad ks.length c] 95 (0, 0))) (hrd : MRow base w (.slice Ad ks.length c) ks) (hlen : ks.length ≤ 1000) :
    Calls Tryz.prog 167 #[.func (.func 169) #[] #[.pointer (some ⟨Bm, 0, none⟩)]] w fun e w' => ∃ v, e = .returned v ∧ MRow w.heap.size w' v ks ∧ Below w.heap.size w w' := by
  have key := Lib.hid (appendSeqV_at hB hrd hlen)
  clear hB hrd
  go_enter Tryz.func167, Tryz.ntmps167
  go_wp2_with fail
  refine key.out.mono ?_
  rintro e w' ⟨v, rfl, h2, h3⟩
  go_wp2_with fail
  go_ret
  exact ⟨v, rfl, h2, h3⟩
theorem sortedV_at {base c : Nat} {Bm : Nat} {Ad : Option Addr} {ks : List Stamp} {w : World} (hB : w.heap[Bm]? = some (.cells #[.slice Ad ks.length c] 95 (0, 0))) (hrd : MRow base w (.slice Ad ks.length c) ks) (hlen : ks.length ≤ 1000) :
    Calls Tryz.prog 135 #[.func (.func 169) #[] #[.pointer (some ⟨Bm, 0, none⟩)], .func (.func 137) #[] #[]] w fun e w' => ∃ v ss, e = .returned v ∧ ss.Perm ks ∧ StSorted ss ∧ MRow w.heap.size w' v ss ∧ Up w w' := by
  have key := Lib.hid (collectV_at hB hrd hlen)
  clear hB hrd
  go_enter Tryz.func135, Tryz.ntmps135
  go_wp2_with fail
  refine key.out.mono ?_
  rintro e w1 ⟨v, rfl, ho, hb⟩
  go_wp2_with fail
  refine (sortFuncM_at (ss := ks) ho hlen).mono ?_
  rintro e w2 ⟨rfl, ss', hp', hs', hrow, hg⟩
  go_wp2_with fail
  go_ret
  exact ⟨v, ss', rfl, hp', hs', hrow, Mod.up (Mod.trans' (Mod.of_up hb) hg (fun i hi => (ho.own i hi).1))⟩
end Go.Proofs.YtefhfoioeoijlaaGreatDoor
set_option linter.unusedVariables false
set_option linter.unusedSimpArgs false
namespace Go.Proofs.YtefhfoioeoijlaaGreatDoor
open Go Go.RowKit Go.Sort
theorem flatS_set : ∀ {L : List Stamp} {i : Nat} (x : Stamp), i < L.length → flatS (L.set i x) = (flatS L).take (i * 2) ++ stC x ++ (flatS L).drop (i * 2 + 2)
  | y :: L, 0, x, _ => by simp [flatS, stC]
  | y :: L, i + 1, x, h => by
    have ih := flatS_set (L := L) (i := i) x (by simpa using h)
    have e : ∀ (z : Stamp) (M : List Stamp), flatS (z :: M) = .int .i64 z.t :: .int .i64 z.w :: flatS M := fun z M => by simp [flatS, stC]
    rw [List.set_cons_succ, e, e, ih, show (i + 1) * 2 = i * 2 + 1 + 1 by omega]
    simp
theorem MRow.blk {base : Nat} {w : World} {g n c : Nat} {L : List Stamp} (h : MRow base w (.slice (some ⟨g, 0, none⟩) n c) L) : n = L.length ∧ n ≤ c ∧ base ≤ g ∧ ∃ cur, w.heap[g]? = some (.cells cur 24 (0, 0)) ∧ cur.size = c * 2 := by
  obtain ⟨hl, ⟨e, h0⟩ | ⟨g', cap, cur, e, hb, hg, hc, hm, hcs, htk⟩⟩ := h
  · cases e
  · simp only [Value.slice.injEq, Option.some.injEq, Addr.mk.injEq, and_true, true_and] at e
    obtain ⟨rfl, rfl, rfl⟩ := e
    exact ⟨rfl, hc, hb, cur, hg, hcs⟩
theorem MRow.put {base : Nat} {w : World} {g n c : Nat} {L : List Stamp} (h : MRow base w (.slice (some ⟨g, 0, none⟩) n c) L) {i : Nat} (hi : i < L.length) (x : Stamp) :
    ∃ cur : Array Value, w.heap[g]? = some (.cells cur 24 (0, 0)) ∧ i * 2 + 2 ≤ cur.toList.length ∧ ∀ w', w'.heap[g]? = some (.cells (cur.toList.take (i * 2) ++ stC x ++ cur.toList.drop (i * 2 + 2)).toArray 24 (0, 0)) → MRow base w' (.slice (some ⟨g, 0, none⟩) n c) (L.set i x) := by
  obtain ⟨hl, ⟨e, h0⟩ | ⟨g', cap, cur, e, hb, hg, hc, hm, hcs, htk⟩⟩ := h
  · cases e
  · simp only [Value.slice.injEq, Option.some.injEq, Addr.mk.injEq, and_true, true_and] at e
    obtain ⟨rfl, rfl, rfl⟩ := e
    have hl2 : L.length * 2 ≤ cur.toList.length := by have e : cur.toList.length = cur.size := Array.length_toList; omega
    refine ⟨cur, hg, by omega, fun w' hw' => ⟨flatS_len _, .inr ⟨g, c, _, by rw [List.length_set], hb, hw', by simpa using hc, hm, ?_, ?_⟩⟩⟩
    · rw [← hcs]; simp [stC]; rw [Array.length_toList] at hl2; omega
    · rw [flatS_set x hi, List.length_set]
      have hs := take_splice (l := cur.toList) (v := stC x) (k := i * 2) (m := L.length * 2) (by simp [stC]; omega) hl2
      rw [show (stC x).length = 2 from rfl] at hs
      rw [htk] at hs
      simpa using hs
theorem MRow.pre {base : Nat} {w : World} {g n c k : Nat} {L : List Stamp} (h : MRow base w (.slice (some ⟨g, 0, none⟩) n c) L) (hk : k ≤ n) : MRow base w (.slice (some ⟨g, 0, none⟩) k c) (L.take k) := by
  have hn := h.blk.1
  have hlk : (L.take k).length = k := by rw [List.length_take]; omega
  obtain ⟨hl, ⟨e, h0⟩ | ⟨g', cap, cur, e, hb, hg, hc, hm, hcs, htk⟩⟩ := h
  · cases e
  · simp only [Value.slice.injEq, Option.some.injEq, Addr.mk.injEq, and_true, true_and] at e
    obtain ⟨rfl, _, rfl⟩ := e
    refine ⟨flatS_len _, .inr ⟨g, c, cur, by rw [hlk], hb, hg, by rw [hlk]; omega, hm, hcs, ?_⟩⟩
    have hf : ∀ (M : List Stamp) (k : Nat), (flatS M).take (k * 2) = flatS (M.take k) := by
      intro M
      induction M with
      | nil => intro k; simp [flatS]
      | cons y M ih =>
        intro k
        cases k with
        | zero => simp [flatS]
        | succ k =>
          have e : ∀ (z : Stamp) (M : List Stamp), flatS (z :: M) = .int .i64 z.t :: .int .i64 z.w :: flatS M := fun z M => by simp [flatS, stC]
          rw [List.take_succ_cons, e, e, show (k + 1) * 2 = k * 2 + 1 + 1 by omega, List.take_succ_cons, List.take_succ_cons, ih]
    rw [hlk, ← hf, ← htk, List.take_take, Nat.min_eq_left (by omega)]
theorem MRow.cleared {base : Nat} {w w' : World} {g n c k : Nat} {L : List Stamp} {cur cur' : Array Value} (h : MRow base w (.slice (some ⟨g, 0, none⟩) n c) L) (hk : k ≤ n) (hg0 : w.heap[g]? = some (.cells cur 24 (0, 0)))
    (hg' : w'.heap[g]? = some (.cells cur' 24 (0, 0))) (hs : cur'.size = cur.size) (ht : cur'.toList.take (k * 2) = cur.toList.take (k * 2)) : MRow base w' (.slice (some ⟨g, 0, none⟩) k c) (L.take k) := by
  have hlk : (L.take k).length = k := ((h.pre hk).blk).1.symm
  obtain ⟨h1, ⟨e, _⟩ | ⟨g', cap, cur0, e, hb, hg, hc, hm, hcs, htk⟩⟩ := h.pre hk
  · cases e
  · simp only [Value.slice.injEq, Option.some.injEq, Addr.mk.injEq, and_true, true_and] at e
    obtain ⟨rfl, e2, rfl⟩ := e
    rw [hg0] at hg
    simp only [Option.some.injEq, Obj.cells.injEq, and_true] at hg
    obtain rfl := hg
    refine ⟨flatS_len _, .inr ⟨g, c, cur', by rw [hlk], hb, hg', hc, hm, by rw [hs]; exact hcs, ?_⟩⟩
    rw [hlk] at htk ⊢; rw [ht]; exact htk
section
variable {ops : Array Oper} {Q : Exit → Act → World → Prop} {a : Act} {w : World} {J : Act → World → Prop} {d : Option Tmp} {ty : TypeId} {pos : String} {af : Array Edge} {gd : Option (Nat × Bool)} {base : Nat} {L : List Stamp} {t : TypeId} {z : Value}
theorem clrM {x : Operand} {g n c k m q cc : Nat} (hw : Region.wanted (⟨d, .call ⟨.builtin .clear, #[x], #[t]⟩, ty, pos, af, gd⟩ : Oper) (yielded ops a.tmps) = true) (hx : a.eval x = .slice (some ⟨g, m, none⟩) q cc) (hm : m = k * 2) (hq : k + q = n) (hq0 : 0 < q)
    (h : MRow base w (.slice (some ⟨g, 0, none⟩) n c) L) (ht : Tryz.prog.underlying t = some (.slice 24)) (hz : ∀ w, (zeroValue 24).run Tryz.prog w = .ok z w) (hzs : z.cells.size = 2) (hz1 : ∀ v ∈ z.cells.toList, v.oneCell' = true)
    (kk : ∀ w', MRow base w' (.slice (some ⟨g, 0, none⟩) k c) (L.take k) → Chg w w' g → J (a.put d (.tuple #[])) w') : St1 Tryz.prog ops Q ⟨d, .call ⟨.builtin .clear, #[x], #[t]⟩, ty, pos, af, gd⟩ J a w := by
  obtain ⟨hn, hnc, _, cur, hg, hcs⟩ := h.blk
  have hlz : (Builtin.zeroCells z.cells q).toList.length = q * 2 := by simp [Builtin.zeroCells, hzs]
  have h1 : ∀ v ∈ (Builtin.zeroCells z.cells q).toList, v.oneCell' = true := by
    intro v hv
    simp only [Builtin.zeroCells, Array.toList_map, Array.toList_range, List.mem_map, List.mem_range] at hv
    obtain ⟨j, _, rfl⟩ := hv
    have hj : j % z.cells.size < z.cells.size := Nat.mod_lt _ (by omega)
    rw [getElem!_pos z.cells _ hj]
    exact hz1 _ (by simp)
  have hst := run_storeCells_at Tryz.prog g m 24 (Builtin.zeroCells z.cells q).toList 0 cur w hg (by rw [hlz, hcs, hm]; omega) h1
  rw [Nat.add_zero, hlz] at hst
  have hsz : (cur.toList.take m ++ (Builtin.zeroCells z.cells q).toList ++ cur.toList.drop (m + q * 2)).toArray.size = cur.size := by
    simp only [List.size_toArray, List.length_append, List.length_take, List.length_drop, hlz, Array.length_toList, hcs, hm]; omega
  have hw' := setRow_heap w g cur (cur.toList.take m ++ (Builtin.zeroCells z.cells q).toList ++ cur.toList.drop (m + q * 2)).toArray 24 (0, 0) hg
  have hC : Chg w (w.setRow g (cur.toList.take m ++ (Builtin.zeroCells z.cells q).toList ++ cur.toList.drop (m + q * 2)).toArray) g := ⟨rfl, rfl, rfl, by simp, fun k _ hk => setRow_other w g k _ (fun e => hk (by rw [e]))⟩
  refine sv hw ?_ (kk _ (h.cleared (k := k) (by omega) hg hw' hsz ?_) hC)
  · obtain ⟨q', rfl⟩ : ∃ q', q = q' + 1 := ⟨q - 1, by omega⟩
    simp [execOp, resolve, invoke, builtin, hx, Builtin.clear_, run_underlying ht, hz, hst]
  · rw [← hm, List.append_assoc, List.take_append_of_le_length (by simp [hcs]; omega), List.take_take, Nat.min_self]
end
theorem zero_st : ∃ z, (∀ w, (zeroValue 24).run Tryz.prog w = .ok z w) ∧ z.cells.size = 2 ∧ ∀ v ∈ z.cells.toList, v.oneCell' = true := ⟨_, Ty.zv24, rfl, by decide⟩
structure Thn (S D : List Stamp) : Prop where
  srt : D.Pairwise fun a b => ltS a b = true
  mem : ∀ x, x ∈ D ↔ x ∈ S
theorem Thn.one {S D D' : List Stamp} (h : Thn S D) (h' : Thn S D') : D = D' := by
  have hn : D.Nodup := h.srt.imp fun {a b} h => ltS_ne h
  have hn' : D'.Nodup := h'.srt.imp fun {a b} h => ltS_ne h
  have hp : D.Perm D' := (List.perm_ext_iff_of_nodup hn hn').2 fun x => (h.mem x).trans (h'.mem x).symm
  refine List.Perm.eq_of_pairwise (le := fun a b => ltS a b = true) ?_ h.srt h'.srt hp
  intro a b _ _ h1 h2
  have h3 := ltS_trans h1 h2
  rw [ltS_irrefl] at h3; cases h3
theorem Thn.perm {S S' D : List Stamp} (h : Thn S D) (hp : S.Perm S') : Thn S' D := ⟨h.srt, fun x => (h.mem x).trans hp.mem_iff⟩
theorem srt_le {Z : List Stamp} (hZ : StSorted Z) {i j : Nat} {a b : Stamp} (hij : i < j) (ha : Z[i]? = some a) (hb : Z[j]? = some b) : ltS b a = false := by
  obtain ⟨h1, rfl⟩ := List.getElem?_eq_some_iff.1 ha
  obtain ⟨h2, rfl⟩ := List.getElem?_eq_some_iff.1 hb
  exact List.pairwise_iff_getElem.1 hZ i j h1 h2 hij
theorem Thn.small {Z : List Stamp} (h : Z.length < 2) : Thn Z Z := by
  refine ⟨?_, fun x => Iff.rfl⟩
  cases Z with
  | nil => exact List.Pairwise.nil
  | cons x Z => cases Z with
    | nil => simp
    | cons y Z => exact absurd h (by simp only [List.length_cons]; omega)
theorem Thn.first {Z : List Stamp} : Thn (Z.take 1) (Z.take 1) := Thn.small (by rw [List.length_take]; omega)
theorem Thn.hold {Z D : List Stamp} {k : Nat} {x y : Stamp} (h : Thn (Z.take k) D) (hk : 1 ≤ k) (hx : Z[k]? = some x) (hy : Z[k - 1]? = some y) (e : x = y) : Thn (Z.take (k + 1)) D := by
  refine ⟨h.srt, fun z => ?_⟩
  rw [List.take_add_one, hx, List.mem_append, h.mem]
  constructor
  · exact fun h => .inl h
  · rintro (h | h)
    · exact h
    · simp at h; subst h
      rw [e]
      exact List.mem_of_getElem? (i := k - 1) (by rw [List.getElem?_take, if_pos (by omega)]; exact hy)
theorem Thn.grow {Z D : List Stamp} {k : Nat} {x y : Stamp} (hZ : StSorted Z) (h : Thn (Z.take k) D) (hk : 1 ≤ k) (hx : Z[k]? = some x) (hy : Z[k - 1]? = some y) (e : x ≠ y) : Thn (Z.take (k + 1)) (D ++ [x]) := by
  have hlt : ∀ z ∈ D, ltS z x = true := fun z hz => by
    obtain ⟨j, hj⟩ := List.mem_iff_getElem?.1 ((h.mem z).1 hz)
    rw [List.getElem?_take] at hj
    split at hj
    · rename_i hjk
      have h1 : ltS x z = false := srt_le hZ hjk hj hx
      cases hzx : ltS z x with
      | true => rfl
      | false =>
        have hzx' := ltS_tri h1 hzx
        subst hzx'
        rcases Nat.lt_or_ge j (k - 1) with h2 | h2
        · have h3 : ltS y x = false := srt_le hZ h2 hj hy
          have h4 : ltS x y = false := srt_le hZ (show k - 1 < k by omega) hy hx
          exact absurd (ltS_tri h4 h3) e
        · obtain rfl : j = k - 1 := by omega
          rw [hj] at hy; injection hy with hy; exact absurd hy e
    · cases hj
  refine ⟨?_, fun z => ?_⟩
  · rw [List.pairwise_append]
    exact ⟨h.srt, by simp, fun z hz b hb => by simp at hb; subst hb; exact hlt z hz⟩
  · rw [List.take_add_one, hx, List.mem_append, List.mem_append, h.mem]; simp
theorem Thn.same {Z : List Stamp} {k : Nat} {x y : Stamp} (hZ : StSorted Z) (h : Thn (Z.take k) (Z.take k)) (hk : 1 ≤ k) (hx : Z[k]? = some x) (hy : Z[k - 1]? = some y) (e : x ≠ y) : Thn (Z.take (k + 1)) (Z.take (k + 1)) := by
  have := h.grow hZ hk hx hy e
  rwa [show Z.take k ++ [x] = Z.take (k + 1) by rw [List.take_add_one, hx]; rfl] at this
def CmpM (Z R : List Stamp) (m i : Nat) : Prop := R.length = Z.length ∧ 1 ≤ i ∧ i < m ∧ m ≤ Z.length ∧ Thn (Z.take m) (R.take i) ∧ ∀ j, i ≤ j → R[j]? = Z[j]?
theorem CmpM.first {Z : List Stamp} {k : Nat} {x y : Stamp} (h : Thn (Z.take k) (Z.take k)) (hk : 1 ≤ k) (hx : Z[k]? = some x) (hy : Z[k - 1]? = some y) (e : x = y) : CmpM Z Z (k + 1) k :=
  ⟨rfl, hk, Nat.lt_succ_self k, (List.getElem?_eq_some_iff.1 hx).1, h.hold hk hx hy e, fun _ _ => rfl⟩
theorem CmpM.at {Z R : List Stamp} {m i j : Nat} {x : Stamp} (h : CmpM Z R m i) (hj : i ≤ j) (hx : R[j]? = some x) : Z[j]? = some x := (h.2.2.2.2.2 j hj).symm.trans hx
theorem CmpM.keep {Z R : List Stamp} {m i : Nat} {x y : Stamp} (h : CmpM Z R m i) (hx : R[m]? = some x) (hy : R[m - 1]? = some y) (e : x = y) : CmpM Z R (m + 1) i := by
  have h0 := h
  obtain ⟨h1, h2, h3, h4, h5, h6⟩ := h
  have hx' := h0.at (by omega) hx
  exact ⟨h1, h2, by omega, (List.getElem?_eq_some_iff.1 hx').1, h5.hold (by omega) hx' (h0.at (by omega) hy) e, h6⟩
theorem CmpM.copy {Z R : List Stamp} {m i : Nat} {x y : Stamp} (hZ : StSorted Z) (h : CmpM Z R m i) (hx : R[m]? = some x) (hy : R[m - 1]? = some y) (e : x ≠ y) : CmpM Z (R.set i x) (m + 1) (i + 1) := by
  have h0 := h
  obtain ⟨h1, h2, h3, h4, h5, h6⟩ := h
  have hx' := h0.at (by omega) hx
  have hm := (List.getElem?_eq_some_iff.1 hx').1
  refine ⟨by rw [List.length_set]; exact h1, by omega, by omega, hm, ?_, fun j hj => ?_⟩
  · have := h5.grow hZ (by omega) hx' (h0.at (by omega) hy) e
    have e2 : (R.set i x).take (i + 1) = R.take i ++ [x] := by
      rw [List.take_add_one, List.getElem?_set_self (by omega), List.take_set_of_le (Nat.le_refl _)]; rfl
    rw [e2]; exact this
  · rw [List.getElem?_set_ne (by omega)]; exact h6 j (by omega)
theorem CmpM.fin {Z R : List Stamp} {m i : Nat} (h : CmpM Z R m i) (hm : Z.length ≤ m) : Thn Z (R.take i) := by
  have := h.2.2.2.2.1
  rwa [List.take_of_length_le hm] at this
end Go.Proofs.YtefhfoioeoijlaaGreatDoor
namespace Go.Proofs.YtefhfoioeoijlaaGreatDoor
open Go Go.RowKit Go.Sort
theorem MRow.at {base : Nat} {w : World} {g n c i : Nat} {L : List Stamp} {x : Stamp} (h : MRow base w (.slice (some ⟨g, 0, none⟩) n c) L) (hx : L[i]? = some x) :
    w.cell? ⟨g, i * 2, none⟩ = some (.int .i64 x.t) ∧ w.cell? ⟨g, i * 2 + 1, none⟩ = some (.int .i64 x.w) ∧ g < w.heap.size := by
  obtain ⟨g', hA, h1, h2, h3⟩ := MRow.get h hx
  simp only [Option.some.injEq, Addr.mk.injEq, and_true] at hA
  subst hA
  exact ⟨h2, h3, h1⟩
end Go.Proofs.YtefhfoioeoijlaaGreatDoor
set_option linter.unusedVariables false
set_option linter.unusedSimpArgs false
namespace Go.Proofs.YtefhfoioeoijlaaGreatDoor
open Go Go.RowKit Go.Sort
theorem flatI_app : ∀ {L M : List Item} {ds es : List Value}, L.length = ds.length → flatI (L ++ M) (ds ++ es) = flatI L ds ++ flatI M es
  | [], M, [], es, _ => by simp [flatI]
  | y :: L, M, e :: ds, es, h => by simp [flatI, flatI_app (L := L) (M := M) (ds := ds) (es := es) (by simpa using h)]
theorem Pair.app2 {α β : Type} {R : α → β → Prop} : ∀ {xs xs' : List α} {ys ys' : List β}, Pair R xs ys → Pair R xs' ys' → Pair R (xs ++ xs') (ys ++ ys')
  | [], _, [], _, _, h => h
  | x :: xs, xs', y :: ys, ys', h, h' => ⟨h.1, Pair.app2 h.2 h'⟩
theorem flatI_one : ∀ {L : List Item} {ds : List Value}, (∀ d ∈ ds, d.oneCell' = true) → ∀ u ∈ flatI L ds, u.oneCell' = true
  | [], _, _, u, hu => by simp [flatI] at hu
  | _ :: _, [], _, u, hu => by simp [flatI] at hu
  | y :: L, d :: ds, h, u, hu => by
    simp only [flatI, List.mem_append] at hu
    rcases hu with hu | hu
    · simp only [itC, List.mem_cons, List.not_mem_nil, or_false] at hu
      rcases hu with rfl | rfl | rfl | rfl | rfl | rfl | rfl | rfl | rfl | rfl <;> first | rfl | exact h _ (by simp)
    · exact flatI_one (L := L) (ds := ds) (fun d hd => h d (by simp [hd])) u hu
theorem Dat.one {B : Nat} {w : World} {d : Value} {xs : List Int} (h : Dat B w d xs) : d.oneCell' = true := by
  obtain ⟨A, n, c, rfl⟩ := h.form; rfl
theorem pair_one {B : Nat} {w : World} : ∀ {L : List Item} {ds : List Value}, Pair (fun x d => Dat B w d x.data) L ds → ∀ d ∈ ds, d.oneCell' = true
  | [], [], _, d, hd => by cases hd
  | x :: L, e :: ds, h, d, hd => by
    rcases List.mem_cons.1 hd with rfl | hd
    · exact Dat.one h.1
    · exact pair_one h.2 d hd
theorem info_it : ∃ i z, Tryz.prog.info? 42 = some i ∧ i.zero = some z ∧ i.size = 10 ∧ i.bytes = 96 ∧ z.cells.size = 10 := by
  have h : (Tryz.prog.info? 42).map (fun i => (i.zero.map (·.cells.size), i.size, i.bytes)) = some (some 10, 10, 96) := by kernel_rfl
  cases hi : Tryz.prog.info? 42 with
  | none => rw [hi] at h; cases h
  | some i =>
    rw [hi] at h; simp at h
    obtain ⟨⟨z, hz, h1⟩, h2, h3⟩ := h
    exact ⟨i, z, rfl, hz, h2, h3, h1⟩
theorem IRow.app {B base base2 : Nat} {w : World} {v : Value} {L M : List Item} {A : Option Addr} {n c : Nat} (h : IRow 42 B base w v L) (hM : IRow 42 B base2 w (.slice A n c) M) {t ty : TypeId} (ht : Tryz.prog.underlying t = some (.slice 42)) (hB : B ≤ base) (hbase : base ≤ w.heap.size) (hlen : L.length + M.length ≤ 100000) :
    ∃ v' w', (Builtin.append_ #[t, t] ty #[v, .slice A n c]).run Tryz.prog w = .ok v' w' ∧ IRow 42 B base w' v' (L ++ M) ∧ w.grownBy w' v.ownBlock := by
  obtain ⟨i, z, hi, hz, hsize, hby, hzs⟩ := info_it
  obtain ⟨es, hpM, hoM⟩ := hM
  obtain ⟨ds, hp, ho⟩ := h
  rcases hoM.2 with ⟨e, h0⟩ | ⟨g, cap, cur, e, hb, hg, hc, hm, hcs, htk⟩
  · have hM0 : M = [] := List.length_eq_zero_iff.1 h0
    subst hM0
    injection e with e1 e2 e3
    subst e1 e2 e3
    refine ⟨v, w, run_append_owned_none (P := Tryz.prog) w base t ty 42 i 10 ht hi v L.length (flatI L ds) ho, ?_, ⟨rfl, rfl, rfl, Nat.le_refl _, fun k hk _ => rfl⟩⟩
    rw [List.append_nil]; exact ⟨ds, hp, ho⟩
  · injection e with e1 e2 e3
    subst e1 e2 e3
    obtain ⟨v', w', h1, h2, h3, _⟩ := run_append_own (P := Tryz.prog) w base t ty 42 i z 10 96 ht hi hz hsize hby hzs (by decide) v L.length (flatI L ds) ho ⟨g, 0, none⟩ M.length c (flatI M es) (flatI_length hpM.length)
      (fun j u hj => hoM.cells (g := g) rfl j u hj) (flatI_one (pair_one hpM)) (by unfold maxLen; omega) (by omega) hbase
    have hk : ∀ k, v.ownBlock = some k → base ≤ k ∧ NotU8 w k := by
      intro k hk
      rcases ho.2 with ⟨rfl, _⟩ | ⟨g, cap, cur, rfl, hbg, hg, _⟩
      · simp [Value.ownBlock] at hk
      · simp [Value.ownBlock] at hk; subst hk; exact ⟨hbg, NotU8.of hg (by decide)⟩
    have hdat : ∀ d xs, Dat B w d xs → Dat B w' d xs := fun d xs hd => by
      cases hv : v.ownBlock with
      | none => rw [hv] at h3; exact hd.keep h3.size fun b hb _ => h3.block b hb (by simp)
      | some k => rw [hv] at h3; exact hd.grown h3 (by have := (hk k hv).1; omega) (hk k hv).2
    refine ⟨v', w', h1, ⟨ds ++ es, Pair.app2 (hp.mono fun x d hd => hdat _ _ hd) (hpM.mono fun x d hd => hdat _ _ hd), ?_⟩, h3⟩
    rw [flatI_app hp.length, List.length_append]
    exact h2
theorem snIR {ops : Array Oper} {Q : Exit → Act → World → Prop} {a : Act} {w : World} {J : Act → World → Prop} {d : Option Tmp} {ty : TypeId} {pos : String} {af : Array Edge} {gd : Option (Nat × Bool)}
    {B base base2 : Nat} {v : Value} {L M : List Item} {t : TypeId} {s y : Operand} {A : Option Addr} {n c : Nat}
    (hw : Region.wanted (⟨d, .call ⟨.builtin .append, #[s, y], #[t, t]⟩, ty, pos, af, gd⟩ : Oper) (yielded ops a.tmps) = true) (hs : a.eval s = v) (hy : a.eval y = .slice A n c)
    (h : IRow 42 B base w v L) (hM : IRow 42 B base2 w (.slice A n c) M) (ht : Tryz.prog.underlying t = some (.slice 42)) (hB : B ≤ base) (hbase : base ≤ w.heap.size) (hlen : L.length + M.length ≤ 100000)
    (k : ∀ A c w', IRow 42 B base w' (.slice A (L ++ M).length c) (L ++ M) → w.grownBy w' v.ownBlock → J (a.put d (.slice A (L ++ M).length c)) w') : St1 Tryz.prog ops Q ⟨d, .call ⟨.builtin .append, #[s, y], #[t, t]⟩, ty, pos, af, gd⟩ J a w := by
  obtain ⟨v', w', h1, h2, h3⟩ := h.app (ty := ty) hM ht hB hbase hlen
  obtain ⟨A', c', rfl⟩ := h2.form
  refine sv hw ?_ (k A' c' w' h2 h3)
  simp [execOp, resolve, invoke, builtin, hs, hy, h1]
theorem snGZ {ops : Array Oper} {Q : Exit → Act → World → Prop} {a : Act} {w : World} {J : Act → World → Prop} {d : Option Tmp} {ty : TypeId} {pos : String} {af : Array Edge} {gd : Option (Nat × Bool)}
    {t tn : TypeId} {s y : Operand} {n : Nat}
    (hw : Region.wanted (⟨d, .call ⟨.builtin .append, #[s, y], #[t, tn]⟩, ty, pos, af, gd⟩ : Oper) (yielded ops a.tmps) = true) (hs : a.eval s = .slice none 0 0) (hy : a.eval y = .int .i64 (n : Int)) (hn0 : 0 < n) (hn : n ≤ 100000)
    (ht : Tryz.prog.underlying t = some (.slice 42)) (htn : Tryz.prog.underlying tn = some (.int .i64))
    (k : ∀ g cp row w', w.heap.size ≤ g → n ≤ cp → cp ≤ maxLen → w'.heap[g]? = some (.cells row 42 (0, 0)) → row.size = cp * 10 → Up w w' → J (a.put d (.slice (some ⟨g, 0, none⟩) n cp)) w') : St1 Tryz.prog ops Q ⟨d, .call ⟨.builtin .append, #[s, y], #[t, tn]⟩, ty, pos, af, gd⟩ J a w := by
  obtain ⟨i, z, hi, hz, hsize, hby, hzs⟩ := info_it
  have hG : n ≤ grownCap w n 0 42 := grownCap_ge w n 0 42
  have hGm : grownCap w n 0 42 ≤ maxLen := grownCap_le_maxLen w n 0 42 (by unfold maxLen; omega)
  have happ := Lib.run_append_grow_zeros (P := Tryz.prog) w t tn ty 42 i z .i64 .i64 ht htn hi hz none 0 0 [] (by rw [hsize]; exact run_firstCells_none w.drew 10 0 0 0) n hn0 (by omega) (by omega) (by omega) (by rw [hby]; omega) (by rw [hby, Nat.zero_add]; exact growslice_fits (by omega) (by omega))
  rw [Nat.zero_add] at happ
  refine sv hw ?_ (k w.heap.size (grownCap w n 0 42) (([] : List Value).toArray ++ Builtin.zeroCells z.cells n ++ Builtin.zeroCells z.cells (grownCap w n 0 42 - n)) _ (Nat.le_refl _) hG hGm (heap_alloc_new w.drew _) ?_ (up_up (up_drew w) (up_alloc w.drew _)))
  · simp [execOp, resolve, invoke, builtin, hs, hy, happ]
  · simp [Builtin.zeroCells, hzs]; omega
theorem IRow.room {B base : Nat} {w : World} {g cp : Nat} {row : Array Value} (h : w.heap[g]? = some (.cells row 42 (0, 0))) (hb : base ≤ g) (hm : cp ≤ maxLen) (hs : row.size = cp * 10) : IRow 42 B base w (.slice (some ⟨g, 0, none⟩) 0 cp) [] :=
  ⟨[], trivial, rfl, .inr ⟨g, cp, row, rfl, hb, h, Nat.zero_le _, hm, hs, by simp [flatI]⟩⟩
end Go.Proofs.YtefhfoioeoijlaaGreatDoor
namespace Go.Proofs.YtefhfoioeoijlaaGreatDoor
open Go Go.RowKit Go.Sort
def RowsI (B base : Nat) (w : World) (vs : List Value) (Ls : List (List Item)) : Prop := vs.length = Ls.length ∧ ∀ (k : Nat) (L : List Item), Ls[k]? = some L → ∃ A c, vs[k]? = some (.slice A L.length c) ∧ IRow 42 B base w (.slice A L.length c) L
theorem RowsI.two {B base : Nat} {w : World} {A1 A2 : Option Addr} {c1 c2 : Nat} {L M : List Item} (h : IRow 42 B base w (.slice A1 L.length c1) L) (h' : IRow 42 B base w (.slice A2 M.length c2) M) : RowsI B base w [.slice A1 L.length c1, .slice A2 M.length c2] [L, M] :=
  ⟨rfl, fun k X hX => by
    match k, hX with
    | 0, hX => simp at hX; subst hX; exact ⟨A1, c1, rfl, h⟩
    | 1, hX => simp at hX; subst hX; exact ⟨A2, c2, rfl, h'⟩
    | k + 2, hX => simp at hX⟩
theorem cell_vs {w : World} {bv k : Nat} {T : TypeId} {vs : List Value} {v : Value} (h : w.heap[bv]? = some (.cells vs.toArray T (0, 0))) (hv : vs[k]? = some v) : w.cell? ⟨bv, 0 + k, none⟩ = some v := by
  simp only [World.cell?, h, Nat.zero_add, List.getElem?_toArray]; exact hv
theorem flat_next {Ls : List (List Item)} {k : Nat} {L : List Item} (h : Ls[k]? = some L) : (Ls.take (k + 1)).flatten = (Ls.take k).flatten ++ L := by
  rw [List.take_add_one, h]; simp
theorem flat_le {Ls : List (List Item)} (k : Nat) : (Ls.take k).flatten.length ≤ Ls.flatten.length := by
  conv => rhs; rw [← List.take_append_drop k Ls]
  rw [List.flatten_append, List.length_append]; omega
theorem r_slNil {P : Program} {d : Option Tmp} {ty : TypeId} {pos : String} {af : Array Edge} {gd : Option (Nat × Bool)} {ρ : Operand → Value} {w : World} {t e : TypeId} {x hi : Operand} {n : Nat} (hx : ρ x = .slice none 0 0) (hhi : ρ hi = .int .i64 0) (hu : P.underlying t = some (.slice e)) (hs : ∀ w : World, (sizeOf e).run P w = .ok n w) :
    (execOp ρ ⟨d, .slice t x none (some hi) none, ty, pos, af, gd⟩).run P w = .ok (.value (.slice none 0 0)) w := by
  simp [execOp, hx, hhi, Instr.sliceAt, Instr.slice, Instr.sliceBounds, Instr.sliceBound, asIntOf, run_underlying hu, hs]
end Go.Proofs.YtefhfoioeoijlaaGreatDoor
set_option linter.unusedVariables false
set_option linter.unusedSimpArgs false
namespace Go.Proofs.YtefhfoioeoijlaaGreatDoor
open Go Go.RowKit Go.Sort
set_option maxHeartbeats 2000000 in
theorem compactM_at {base : Nat} {w : World} {g nn c : Nat} {ZL : List Stamp} (h : MRow base w (.slice (some ⟨g, 0, none⟩) nn c) ZL) (hZ : StSorted ZL) (hn : nn ≤ 1000000) :
    Calls Tryz.prog 134 #[.slice (some ⟨g, 0, none⟩) nn c] w fun e w' => ∃ A m D, e = .returned (.slice A m c) ∧ MRow base w' (.slice A m c) D ∧ Thn ZL D ∧ Chg w w' g := by
  obtain ⟨hnL, hnc, hbg, cu0, hg, hcs0⟩ := MRow.blk h
  obtain ⟨zO, hzO, hzO1, hzO2⟩ := zero_st
  go_enter Tryz.func134, Tryz.ntmps134
  refine wp_seq (rg_lit (was (v := .slice none 0 0) (wnil (then_n (wp_seq (wp_seq (rg_lit (wmv (v := sl g 0 nn c) (wlv (v := I_ nn) (ln (some ⟨g, 0, none⟩) nn c Ty.un95) (wl (sb rfl (ltI nn 2) fun b1 k2 => wnil (then_n ?_))))))))))))
  refine bcd k2 (fun v3 p4 => ?_) (fun v3 p4 => ?_)
  ·
   refine wp_cond_false (eb v3) (wp_skip (then_n (wp_seq (wp_seq (rg_lit (was (v := I_ 1) (wnil (then_n (wp_block ?_)))))))))
   refine lp (fun n a r1 => ∃ (kk : Nat), (n = nn - kk) ∧ (HasFr a 61 [(0, sl g 0 nn c), (3, I_ kk), (8, B_ b1)] []) ∧ (Mod [] w r1) ∧ (1 ≤ kk) ∧ (kk ≤ nn) ∧ (Thn (ZL.take kk) (ZL.take kk))) ⟨_, 1, rfl, hmk, Mod.refl _ _, (Nat.le_refl _), (by omega), Thn.first⟩ ?_
   rintro _ _ r1 ⟨kk, rfl, h5, hM1, hF1_0, hF1_1, hF1_2⟩
   obtain ⟨Y39, rfl⟩ := h5
   have M6 := Mod.thin (Mod.refl [] w) hM1 (by simp)
   refine wp_seq (wp_seq (rg_lit (wmv (v := I_ kk) (wmv (v := sl g 0 nn c) (wlv (v := I_ nn) (ln (some ⟨g, 0, none⟩) nn c Ty.un95) (wl (sb rfl (ltI kk nn) fun b7 k8 => wnil (then_n ?_))))))))
   refine bcd k8 (fun v9 p10 => ?_) (fun v9 p10 => ?_)
   ·
    refine wp_cond_false (eb v9) (wp_exit (then_x (by nofun) (then_x (by nofun) (inb_hit (then_n (wp_seq (rg_lit (wmv (v := sl g 0 nn c) (was (v := sl g 0 nn c) (wnil (then_n (wp_ret ?_))))))))))))
    refine br1 (v := sl g 0 nn c) rfl ?_
    have h11 := (MRow.up h (Mod.up M6))
    have hk : ZL.take kk = ZL := List.take_of_length_le (by omega)
    have ht := hF1_2
    rw [hk] at ht
    exact ⟨_, _, _, rfl, h11, ht, (to_chg (Mod.up M6) g)⟩
   refine wp_cond_true (eb v9) (wp_skip (then_n (wp_seq (wp_block (wp_seq ?_)))))
   refine rg_all (by kernel_rfl) (by kernel_rfl) ?_
   refine qmv (v := sl g 0 nn c) (qmv (v := I_ kk) (qv rfl (v := pt g (kk * 2)) (fun _ _ => ixa (A := some ⟨g, 0, none⟩) nn c 2 kk rfl Ty.un95 Ty.sz24) ?_))
   have h11 := (MRow.up h (Mod.up M6))
   obtain ⟨x12, hx12⟩ : ∃ x, ZL[kk]? = some x := ⟨_, List.getElem?_eq_getElem (by omega)⟩
   obtain ⟨hc13, hd13, hl13⟩ := MRow.at h11 hx12
   refine qv rfl (v := .agg #[I_ x12.t, I_ x12.w]) (fun _ uz => r_loadc2 (by kernel_rfl) Ty.ag24 Ty.sz24 ((uz.cell (p := ⟨g, kk * 2, none⟩) hl13).trans hc13) ((uz.cell (p := ⟨g, kk * 2 + 1, none⟩) hl13).trans hd13)) (qmv (v := sl g 0 nn c) (qmv (v := I_ kk) (qv rfl (v := I_ ((kk - 1 : Nat) : Int)) (fun _ _ => r_sub (k := .i64) (m := (kk : Int)) (n := 1) (c := ((kk - 1 : Nat) : Int)) (by kernel_rfl) (by kernel_rfl) ((IntWalk.i64_in _ (by omega)).trans (by omega))) (qv rfl (v := pt g ((kk - 1) * 2)) (fun _ _ => ixa (A := some ⟨g, 0, none⟩) nn c 2 ((kk - 1 : Nat) : Int) rfl Ty.un95 Ty.sz24) ?_))))
   obtain ⟨x14, hx14⟩ : ∃ x, ZL[kk - 1]? = some x := ⟨_, List.getElem?_eq_getElem (by omega)⟩
   obtain ⟨hc15, hd15, hl15⟩ := MRow.at h11 hx14
   refine qv rfl (v := .agg #[I_ x14.t, I_ x14.w]) (fun _ uz => r_loadc2 (by kernel_rfl) Ty.ag24 Ty.sz24 ((uz.cell (p := ⟨g, (kk - 1) * 2, none⟩) hl15).trans hc15) ((uz.cell (p := ⟨g, (kk - 1) * 2 + 1, none⟩) hl15).trans hd15)) ?_
   refine qb rfl (fun _ _ => r_eqS (a := x12.t) (b := x12.w) (c := x14.t) (e := x14.w) (by kernel_rfl) (by kernel_rfl)) fun b16 k17 => ?_
   refine qnil fun w18 u19 => ?_
   have M20 := mtu M6 u19
   have M21 := mtu hM1 u19
   refine then_n ?_
   refine bcd k17 (fun v22 p23 => ?_) (fun v22 p23 => ?_)
   ·
    refine wp_cond_false (eb v22) (wp_skip (inb_n (then_n (rg_lit (wmv (v := I_ kk) (wlv (v := I_ ((kk + 1 : Nat) : Int)) (adI (c := ((kk + 1 : Nat) : Int)) kk 1 ((IntWalk.i64_in _ (by omega)).trans (by omega))) (was (v := I_ ((kk + 1 : Nat) : Int)) (wnil (then_n ?_)))))))))
    refine ⟨nn - (kk + 1), ?_, (kk + 1), rfl, hmk, M21, (by omega), (by omega), (Thn.same hZ hF1_2 (by omega) hx12 hx14 p23)⟩
    · omega
   refine wp_cond_true (eb v22) (wp_seq (rg_lit (wmv (v := sl g 0 nn c) (wmv (v := I_ kk) (wlv (v := .slice (some ⟨g, 0 + kk * 2, none⟩) (nn - kk : Nat) (c - kk : Nat)) (r_sliceLo (b := g) (o := 0) (n := nn) (c := c) (k := kk) (by kernel_rfl) (by kernel_rfl) Ty.un95 Ty.sz24 (by omega) (by omega)) (was (v := .slice (some ⟨g, 0 + kk * 2, none⟩) (nn - kk : Nat) (c - kk : Nat)) (wnil (then_n (wp_seq (wp_seq (rg_lit (was (v := I_ 1) (wnil (then_n (wp_block ?_)))))))))))))))
   have h25 := (MRow.up h (Mod.up M20))
   refine lp (fun n a r2 => ∃ (R : List Stamp) (kl : Nat) (km : Nat), (n = nn - kl) ∧ (HasFr a 61 [(0, sl g 0 nn c), (3, I_ km), (4, .slice (some ⟨g, 0 + kk * 2, none⟩) (nn - kk : Nat) (c - kk : Nat)), (5, I_ kl), (8, B_ b1), (13, B_ b7), (25, B_ b16)] []) ∧ (Mod [g] w18 r2) ∧ (CmpM ZL R (kk + kl) km) ∧ (1 ≤ kl) ∧ (MRow base r2 (sl g 0 nn c) R)) ⟨_, ZL, 1, kk, rfl, hmk, Mod.refl _ _, (CmpM.first hF1_2 (by omega) hx12 hx14 p23), (Nat.le_refl _), h25⟩ ?_
   rintro _ _ r2 ⟨R, kl, km, rfl, h26, hM2, hF2_0, hF2_1, hF2_2⟩
   obtain ⟨Y40, rfl⟩ := h26
   have M27 := Mod.trans (Mod.of_mod (Y := [g]) M20 (by simp)) (Mod.of_mod (Y := [g]) hM2 (by simp))
   have hcm := hF2_0
   obtain ⟨hc1, hc2, hc3, hc4, hc5, hc6⟩ := hcm
   obtain ⟨_, _, _, cg29, hg29, _⟩ := MRow.blk hF2_2
   refine wp_seq (wp_seq (rg_lit (wmv (v := I_ kl) (wmv (v := .slice (some ⟨g, 0 + kk * 2, none⟩) (nn - kk : Nat) (c - kk : Nat)) (wlv (v := I_ ((nn - kk : Nat) : Int)) (ln (some ⟨g, 0 + kk * 2, none⟩) (nn - kk : Nat) (c - kk : Nat) Ty.un95) (wl (sb rfl (ltI kl ((nn - kk : Nat) : Int)) fun b30 k31 => wnil (then_n ?_))))))))
   refine bcd k31 (fun v32 p33 => ?_) (fun v32 p33 => ?_)
   ·
    refine wp_cond_false (eb v32) (wp_exit (then_x (by nofun) (then_x (by nofun) (inb_hit (then_n (wp_seq (rg_lit (wmv (v := sl g 0 nn c) (wmv (v := I_ km) (wlv (v := .slice (some ⟨g, 0 + km * 2, none⟩) (nn - km : Nat) (c - km : Nat)) (r_sliceLo (b := g) (o := 0) (n := nn) (c := c) (k := km) (by kernel_rfl) (by kernel_rfl) Ty.un95 Ty.sz24 (by omega) (by omega)) (wl (clrM rfl (n := nn) (k := km) (m := 0 + km * 2) (q := (nn - km : Nat)) (cc := (c - km : Nat)) (z := zO) (by kernel_rfl) (by omega) (by omega) (by omega) hF2_2 Ty.un95 hzO hzO1 hzO2 fun w34 h35 c36 => ?_))))))))))))
    have M37 := mtx M27 c36
    refine wnil (then_n (wp_seq (rg_lit (wmv (v := sl g 0 nn c) (wmv (v := I_ km) (wlv (v := sl g 0 km c) (r_sliceHi (b := g) (o := 0) (n := nn) (c := c) (k := km) (by kernel_rfl) (by kernel_rfl) Ty.un95 Ty.sz24 (by omega)) (was (v := sl g 0 km c) (wnil (then_n (wp_ret (inb_r (then_x (by nofun) (then_x (by nofun) (inb_r (then_x (by nofun) ?_)))))))))))))))
    refine br1 (v := sl g 0 km c) rfl ?_
    exact ⟨_, _, _, rfl, h35, CmpM.fin hF2_0 (by omega), (Mod.chg M37)⟩
   refine wp_cond_true (eb v32) (wp_skip (then_n (wp_seq (wp_block (wp_seq ?_)))))
   refine rg_all (by kernel_rfl) (by kernel_rfl) ?_
   refine qmv (v := .slice (some ⟨g, 0 + kk * 2, none⟩) (nn - kk : Nat) (c - kk : Nat)) (qmv (v := I_ kl) (qv rfl (v := pt g ((kk + kl) * 2)) (fun _ _ => ixa (A := some ⟨g, 0 + kk * 2, none⟩) (nn - kk : Nat) (c - kk : Nat) 2 kl rfl Ty.un95 Ty.sz24) ?_))
   obtain ⟨x34, hx34⟩ : ∃ x, R[kk + kl]? = some x := ⟨_, List.getElem?_eq_getElem (by omega)⟩
   obtain ⟨hc35, hd35, hl35⟩ := MRow.at hF2_2 hx34
   refine qv rfl (v := .agg #[I_ x34.t, I_ x34.w]) (fun _ uz => r_loadc2 (by kernel_rfl) Ty.ag24 Ty.sz24 ((uz.cell (p := ⟨g, (kk + kl) * 2, none⟩) hl35).trans hc35) ((uz.cell (p := ⟨g, (kk + kl) * 2 + 1, none⟩) hl35).trans hd35)) (qmv (v := .slice (some ⟨g, 0 + kk * 2, none⟩) (nn - kk : Nat) (c - kk : Nat)) (qmv (v := I_ kl) (qv rfl (v := I_ ((kl - 1 : Nat) : Int)) (fun _ _ => r_sub (k := .i64) (m := (kl : Int)) (n := 1) (c := ((kl - 1 : Nat) : Int)) (by kernel_rfl) (by kernel_rfl) ((IntWalk.i64_in _ (by omega)).trans (by omega))) (qv rfl (v := pt g ((kk + (kl - 1)) * 2)) (fun _ _ => ixa (A := some ⟨g, 0 + kk * 2, none⟩) (nn - kk : Nat) (c - kk : Nat) 2 ((kl - 1 : Nat) : Int) rfl Ty.un95 Ty.sz24) ?_))))
   obtain ⟨x36, hx36⟩ : ∃ x, R[kk + (kl - 1)]? = some x := ⟨_, List.getElem?_eq_getElem (by omega)⟩
   obtain ⟨hc37, hd37, hl37⟩ := MRow.at hF2_2 hx36
   refine qv rfl (v := .agg #[I_ x36.t, I_ x36.w]) (fun _ uz => r_loadc2 (by kernel_rfl) Ty.ag24 Ty.sz24 ((uz.cell (p := ⟨g, (kk + (kl - 1)) * 2, none⟩) hl37).trans hc37) ((uz.cell (p := ⟨g, (kk + (kl - 1)) * 2 + 1, none⟩) hl37).trans hd37)) ?_
   refine qb rfl (fun _ _ => r_neS2 (a := x34.t) (b := x34.w) (c := x36.t) (e := x36.w) (by kernel_rfl) (by kernel_rfl)) fun b38 k39 => ?_
   refine qnil fun w40 u41 => ?_
   have M44 := mtu hM2 u41
   refine then_n ?_
   refine bcd k39 (fun v45 p46 => ?_) (fun v45 p46 => ?_)
   ·
    refine wp_cond_false (eb v45) (wp_skip (inb_n (then_n (rg_lit (wmv (v := I_ kl) (wlv (v := I_ ((kl + 1 : Nat) : Int)) (adI (c := ((kl + 1 : Nat) : Int)) kl 1 ((IntWalk.i64_in _ (by omega)).trans (by omega))) (was (v := I_ ((kl + 1 : Nat) : Int)) (wnil (then_n ?_)))))))))
    have h47 := (MRow.up hF2_2 u41)
    refine ⟨nn - (kl + 1), ?_, R, (kl + 1), km, rfl, hmk, M44, (CmpM.keep hF2_0 hx34 (by show R[kk + kl - 1]? = _; rw [show kk + kl - 1 = kk + (kl - 1) by omega]; exact hx36) (Decidable.not_not.1 p46)), (by omega), h47⟩
    · omega
   refine wp_cond_true (eb v45) (wp_seq (rg_lit (wmv (v := sl g 0 nn c) (wmv (v := I_ km) (wmv (v := .slice (some ⟨g, 0 + kk * 2, none⟩) (nn - kk : Nat) (c - kk : Nat)) (wmv (v := I_ kl) (wlv (v := pt g ((kk + kl) * 2)) (ixa (A := some ⟨g, 0 + kk * 2, none⟩) (nn - kk : Nat) (c - kk : Nat) 2 kl rfl Ty.un95 Ty.sz24) ?_)))))))
   have h47 := (MRow.up hF2_2 u41)
   obtain ⟨hc48, hd48, hl48⟩ := MRow.at h47 hx34
   refine wlv (v := .agg #[I_ x34.t, I_ x34.w]) (r_loadc2 (by kernel_rfl) Ty.ag24 Ty.sz24 hc48 hd48) (wlv (v := pt g (km * 2)) (ixa (A := some ⟨g, 0, none⟩) nn c 2 km rfl Ty.un95 Ty.sz24) ?_)
   obtain ⟨cu49, hb49, hk49, hp49⟩ := MRow.put (i := km) h47 (by omega) x34
   refine wl (ss rfl (k := km * 2) (v := .agg #[I_ x34.t, I_ x34.w]) (vs := [I_ x34.t, I_ x34.w]) (cs' := _) (by kernel_rfl) (by kernel_rfl) rfl Ty.sz24 hb49 rfl hk49 rfl fun w50 h51 c52 => ?_)
   have hr49 := hp49 _ h51
   have M55 := mtx M44 c52
   obtain ⟨_, _, _, cg56, hg56, _⟩ := MRow.blk hr49
   refine wnil (then_n (rg_lit (wmv (v := I_ km) (wlv (v := I_ ((km + 1 : Nat) : Int)) (adI (c := ((km + 1 : Nat) : Int)) km 1 ((IntWalk.i64_in _ (by omega)).trans (by omega))) (was (v := I_ ((km + 1 : Nat) : Int)) (wnil (inb_n (then_n (rg_lit (wmv (v := I_ kl) (wlv (v := I_ ((kl + 1 : Nat) : Int)) (adI (c := ((kl + 1 : Nat) : Int)) kl 1 ((IntWalk.i64_in _ (by omega)).trans (by omega))) (was (v := I_ ((kl + 1 : Nat) : Int)) (wnil (then_n ?_))))))))))))))
   refine ⟨nn - (kl + 1), ?_, (R.set km x34), (kl + 1), (km + 1), rfl, hmk, M55, (CmpM.copy hZ hF2_0 hx34 (by show R[kk + kl - 1]? = _; rw [show kk + kl - 1 = kk + (kl - 1) by omega]; exact hx36) p46), (by omega), hr49⟩
   · omega
  refine wp_cond_true (eb v3) (wp_seq (rg_lit (wmv (v := sl g 0 nn c) (was (v := sl g 0 nn c) (wnil (then_n (wp_ret (then_x (by nofun) ?_))))))))
  refine br1 (v := sl g 0 nn c) rfl ?_
  exact ⟨_, _, _, rfl, h, Thn.small (by omega), (to_chg (Mod.up (Mod.refl [] w)) g)⟩
set_option maxHeartbeats 2000000 in
theorem compactM0_at {w : World} : Calls Tryz.prog 134 #[.slice none 0 0] w fun e w' => e = .returned (.slice none 0 0) ∧ Up w w' := by
  go_enter Tryz.func134, Tryz.ntmps134
  refine wp_seq (rg_lit (was (v := .slice none 0 0) (wnil (then_n (wp_seq (wp_seq (rg_lit (wmv (v := .slice none 0 0) (wlv (v := I_ 0) (ln none 0 0 Ty.un95) (wl (sv (w' := w) rfl (v := B_ true) (by kernel_rfl) (wnil (then_n (wp_cond_true (by kernel_rfl) (wp_seq (rg_lit ?_))))))))))))))))
  refine wmv (v := .slice none 0 0) (was (v := .slice none 0 0) (wnil (then_n (wp_ret (then_x (by nofun) ?_)))))
  refine br1 (v := .slice none 0 0) rfl ?_
  exact ⟨rfl, (Mod.up (Mod.refl [] w))⟩
end Go.Proofs.YtefhfoioeoijlaaGreatDoor

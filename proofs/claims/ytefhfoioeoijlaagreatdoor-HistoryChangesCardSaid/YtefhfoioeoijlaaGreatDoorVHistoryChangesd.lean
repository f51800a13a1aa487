/- DB -/
import Derived.Test.YtefhfoioeoijlaaGreatDoorVaa
import Derived.Test.YtefhfoioeoijlaaGreatDoorVab
import Derived.Test.YtefhfoioeoijlaaGreatDoorVac
import Derived.Test.YtefhfoioeoijlaaGreatDoorVad
import Derived.Test.YtefhfoioeoijlaaGreatDoorVae
import Derived.Test.YtefhfoioeoijlaaGreatDoorVaf
import Derived.Test.YtefhfoioeoijlaaGreatDoorVag
import Derived.Test.YtefhfoioeoijlaaGreatDoorVah
import Derived.Test.YtefhfoioeoijlaaGreatDoorVai
import Derived.Test.YtefhfoioeoijlaaGreatDoorVaj
import Derived.Test.YtefhfoioeoijlaaGreatDoorVak
import Derived.Test.YtefhfoioeoijlaaGreatDoorVal
import Derived.Test.YtefhfoioeoijlaaGreatDoorVam
import Derived.Test.YtefhfoioeoijlaaGreatDoorVan
import Derived.Test.YtefhfoioeoijlaaGreatDoorVao
import Derived.Test.YtefhfoioeoijlaaGreatDoorVap
import Derived.Test.YtefhfoioeoijlaaGreatDoorVaq
import Derived.Test.YtefhfoioeoijlaaGreatDoorVar
import Derived.Test.YtefhfoioeoijlaaGreatDoorVas
import Derived.Test.YtefhfoioeoijlaaGreatDoorVat
import Derived.Test.YtefhfoioeoijlaaGreatDoorVHistoryChangesa
import Derived.Test.YtefhfoioeoijlaaGreatDoorVHistoryChangesb
import Derived.Test.YtefhfoioeoijlaaGreatDoorVHistoryChangesc
set_option linter.unusedVariables false
set_option linter.unusedSimpArgs false
namespace Go.Proofs.YtefhfoioeoijlaaGreatDoor
open Go Go.RowKit Go.Sort
set_option maxRecDepth 20000 in
set_option maxHeartbeats 2000000 in
theorem sortD4_at {base : Nat} {w : World} {l : List Stamp} {lA : Option Addr} {lc : Nat} (hl : MRow base w (.slice lA l.length lc) l) (hln : l.length ≤ 1000) :
    Calls Tryz.prog 77 #[.slice lA l.length lc] w fun e w' => ∃ A c D, e = .returned (.slice A D.length c) ∧ MRow w.heap.size w' (.slice A D.length c) D ∧ Thn l D ∧ Up w w' := by
  go_enter Tryz.func77, Tryz.ntmps77
  refine wp_seq (rg_lit (was (v := .slice none 0 0) (wnil (then_n (wp_seq (rg_lit (was (v := .slice none 0 0) (wnil (then_n (wp_seq (wp_seq (rg_lit (was (v := I_ 0) (wnil (then_n (wp_block ?_))))))))))))))))
  refine lp (fun n a r1 => ∃ (kk : Nat) (oA : Option Addr) (on : Nat) (oc : Nat) (Lo : List Stamp), (n = l.length - kk) ∧ (HasFr a 60 [(0, .slice lA l.length lc), (2, .slice none 0 0), (3, .slice oA on oc), (4, I_ kk)] []) ∧ (Mod [] w r1) ∧ (kk ≤ l.length) ∧ (Thn (l.take kk) Lo) ∧ (MRow w.heap.size r1 (.slice oA on oc) Lo)) ⟨_, 0, none, 0, 0, [], rfl, hmk, Mod.refl _ _, (Nat.zero_le _), thn_nil, (MRow.nil _ _)⟩ ?_
  rintro _ _ r1 ⟨kk, oA, on, oc, Lo, rfl, h1, hM1, hF1_0, hF1_1, hF1_2⟩
  obtain ⟨Y55, rfl⟩ := h1
  have M2 := Mod.thin (Mod.refl [] w) hM1 (by simp)
  have hll := Thn.len hF1_1
  rw [List.length_take] at hll
  have hon := (GRow.addr (MRow.g.1 hF1_2)).1
  refine wp_seq (wp_seq (rg_lit (wmv (v := I_ kk) (wmv (v := .slice lA l.length lc) (wlv (v := I_ l.length) (ln lA l.length lc Ty.un95) (wl (sb rfl (ltI kk l.length) fun b3 k4 => wnil (then_n ?_))))))))
  refine bcd k4 (fun v5 p6 => ?_) (fun v5 p6 => ?_)
  ·
   refine wp_cond_false (eb v5) (wp_exit (then_x (by nofun) (then_x (by nofun) (inb_hit (then_n (wp_seq (rg_lit (wmv (v := .slice oA on oc) (was (v := .slice oA on oc) (wnil (then_n (wp_ret ?_))))))))))))
   refine br1 (v := .slice oA on oc) rfl ?_
   have hkl : l.take kk = l := List.take_of_length_le (by omega)
   exact ⟨oA, oc, Lo, by rw [← hon], by rw [← hon]; exact hF1_2, by rw [← hkl]; exact hF1_1, (Mod.up M2)⟩
  refine wp_cond_true (eb v5) (wp_skip (then_n (wp_seq (wp_block (wp_seq (rg_lit (was (v := I_ 0) (wnil (then_n (wp_seq (wp_block ?_)))))))))))
  obtain ⟨x0, hx0⟩ : ∃ x, l[kk]? = some x := ⟨_, List.getElem?_eq_getElem (by omega)⟩
  refine lp (fun n a r2 => ∃ (jj : Nat), (n = on - jj) ∧ (HasFr a 60 [(0, .slice lA l.length lc), (2, .slice none 0 0), (3, .slice oA on oc), (4, I_ kk), (5, I_ jj), (9, B_ b3)] []) ∧ (Mod [] r1 r2) ∧ (jj ≤ on) ∧ (Hid (∀ (j : Nat) (y : Stamp), j < jj → Lo[j]? = some y → ltS y x0 = true))) ⟨_, 0, rfl, hmk, Mod.refl _ _, (Nat.zero_le _), (fun j y hj => absurd hj (Nat.not_lt_zero _))⟩ ?_
  rintro _ _ r2 ⟨jj, rfl, h10, hM2, hF2_0, hF2_1⟩
  obtain ⟨Y56, rfl⟩ := h10
  have M11 := Mod.thin M2 hM2 (by simp)
  have M12 := Mod.thin hM1 hM2 (by simp)
  refine wp_seq (wp_seq ?_)
  refine rg_all (by kernel_rfl) (by kernel_rfl) ?_
  refine qmv (v := I_ jj) (qmv (v := .slice oA on oc) (qv rfl (v := I_ on) (fun _ _ => ln oA on oc Ty.un95) ?_))
  refine qb rfl (fun _ _ => ltI jj on) fun b13 k14 => ?_
  refine qmv (v := B_ b13) ?_
  refine bcd k14 (fun v15 p16 => ?_) (fun v15 p16 => ?_)
  ·
   iterate 9 refine qls rfl v15 ?_
   refine qv rfl (v := B_ false) (fun _ _ => pkF (eb v15)) ?_
   refine qnil fun w17 u18 => ?_
   have M19 := mtu M11 u18
   have M20 := mtu M12 u18
   have M21 := mtu hM2 u18
   refine then_n (wp_cond_false (by kernel_rfl) (wp_exit (then_x (by nofun) (then_x (by nofun) (inb_hit (then_n (wp_seq ?_)))))))
   refine rg_all (by kernel_rfl) (by kernel_rfl) ?_
   refine qmv (v := I_ jj) (qmv (v := .slice oA on oc) (qv rfl (v := I_ on) (fun _ _ => ln oA on oc Ty.un95) ?_))
   refine qb rfl (fun _ _ => eqI jj on) fun b22 k23 => ?_
   refine qmv (v := B_ b22) ?_
   refine bcd k23 (fun v24 p25 => ?_) (fun v24 p25 => ?_)
   ·
    omega
   iterate 9 refine qls rfl v24 ?_
   refine qv rfl (v := B_ true) (fun _ _ => pkT (eb v24)) ?_
   refine qnil fun w26 u27 => ?_
   have M28 := mtu M19 u27
   have M29 := mtu M20 u27
   have M30 := mtu M21 u27
   refine then_n (wp_cond_true (by kernel_rfl) ?_)
   refine rg_held [] (n := 16) (by kernel_rfl) rfl ?_
   intro w31 u32
   have M33 := mtu M28 u32
   have M34 := mtu M29 u32
   have M35 := mtu M30 u32
   have h36 := (MRow.up hl (Mod.up M33))
   have h38 := (GRow.up (MRow.g.1 hF1_2) (Mod.up M35))
   refine hvq (i := 1) (fuel := 15) rfl (fun _ _ _ h => h) (Mod.refl [] w31) rfl (v := .slice oA on oc) (fun _ _ => mv) ?_
   refine hvq (i := 2) (fuel := 14) rfl (fun _ _ _ h => h) (Mod.refl [] w31) rfl (v := I_ jj) (fun _ _ => mv) ?_
   obtain ⟨hs39, hq39⟩ := GRow.headCut (P := Tryz.prog) (k := jj) enc_st h38 (by omega) 95 24 Ty.un95 Ty.sz24
   refine hvq (i := 3) (fuel := 13) rfl (fun _ _ _ h => h) (Mod.refl [] w31) rfl (v := .slice oA jj oc) (fun _ _ => hq39 _ _ _ _ _ _ _ _ _ (by kernel_rfl) (by kernel_rfl)) ?_
   refine hvq (i := 5) (fuel := 12) rfl (fun _ _ _ h => h) (Mod.refl [] w31) rfl (v := .slice lA l.length lc) (fun _ _ => mv) ?_
   refine hvq (i := 6) (fuel := 11) rfl (fun _ _ _ h => h) (Mod.refl [] w31) rfl (v := I_ kk) (fun _ _ => mv) ?_
   obtain ⟨g40, hA40, hl40, hc40, hd40⟩ := MRow.get h36 hx0
   refine hvq (i := 7) (fuel := 10) rfl (fun _ _ _ h => h) (Mod.refl [] w31) rfl (v := pt g40 (kk * 2)) (fun _ _ => ixa l.length lc 2 kk hA40 Ty.un95 Ty.sz24) ?_
   refine hvq (i := 8) (fuel := 9) rfl (fun _ _ _ h => h) (Mod.refl [] w31) rfl (v := .agg #[I_ x0.t, I_ x0.w]) (fun _ uz => r_loadc2 (by kernel_rfl) Ty.ag24 Ty.sz24 (((Mod.up uz).cell (p := ⟨g40, kk * 2, none⟩) hl40).trans hc40) (((Mod.up uz).cell (p := ⟨g40, kk * 2 + 1, none⟩) hl40).trans hd40)) ?_
   refine hvq (i := 11) (fuel := 8) rfl (fun _ _ _ h => h) (Mod.refl [] w31) rfl (v := .slice oA on oc) (fun _ _ => mv) ?_
   refine hvq (i := 12) (fuel := 7) rfl (fun _ _ _ h => h) (Mod.refl [] w31) rfl (v := I_ jj) (fun _ _ => mv) ?_
   obtain ⟨A41, hs41, hq41⟩ := GRow.tailCut (P := Tryz.prog) (k := jj) enc_st h38 (by omega) 95 24 Ty.un95 Ty.sz24
   refine hvq (i := 13) (fuel := 6) rfl (fun _ _ _ h => h) (Mod.refl [] w31) rfl (v := .slice A41 (on - jj : Nat) (oc - jj : Nat)) (fun _ _ => hq41 _ _ _ _ _ _ _ _ _ (by kernel_rfl) (by kernel_rfl)) ?_
   refine h2a 0 9 5 rfl rfl ?_ ?_
   ·
    refine litG rfl (f := stC) (base := w31.heap.size) Ty.un95 Ty.sz24 (Mod.refl [] w31).size fun b42 w43 e44 h45 h46 u47 => ?_
    have g48 := gsz e44 M33
    have g49 := gsz e44 M34
    have g50 := gsz e44 M35
    have g51 := gsz e44 (Mod.refl [] w31)
    have M52 := mtu M33 u47
    have M53 := mtu M34 u47
    have M54 := mtu M35 u47
    have M55 := mtu (Mod.refl [] w31) u47
    refine ⟨M55, ?_⟩
    refine h2a 4 9 4 rfl rfl ?_ ?_
    ·
     have h56 := (GSub.up hs39 (Mod.up M55))
     refine apG enc_st rfl (by kernel_rfl) (by kernel_rfl) h46 h56 Ty.un95 M55.size (by simp; omega) fun b57 n58 c59 w60 e61 h62 g63 c64 => ?_
     have M65 := mtn M52 c64 g48
     have M66 := mtn M53 c64 g49
     have M67 := mtn M54 c64 g50
     have M68 := mtn M55 c64 g51
     obtain ⟨_, _, _, cg69, hg69, _⟩ := GRow.blk h62
     refine ⟨M68, ?_⟩
     refine h1a 9 3 rfl (sn rfl (cs := #[I_ x0.t, I_ x0.w]) (T := 24) (V := fun b => sl b 0 1 1) (r_buildSlice (n := 1) (ps := [(0, .agg #[I_ x0.t, I_ x0.w])]) Ty.un95 Ty.sz24 Ty.zv24 (by decide) (by decide) (by kernel_rfl) (by kernel_rfl)) fun b70 w71 e72 h73 u74 => ?_)
     have g77 := gsz e72 M66
     have g78 := gsz e72 M67
     have g79 := gsz e72 M68
     have M80 := mtu M65 u74
     have M81 := mtu M66 u74
     have M82 := mtu M67 u74
     have M83 := mtu M68 u74
     refine ⟨M83, ?_⟩
     have h84 := (GRow.up h62 u74)
     have h85 := (up_ob u74 hg69)
     refine h1a 10 2 rfl (apG enc_st rfl (by kernel_rfl) (by kernel_rfl) h84 (GSub.one (x := (⟨x0.t, x0.w⟩ : Stamp)) h73 rfl) Ty.un95 M83.size (by simp; omega) fun b86 n87 c88 w89 e90 h91 g92 c93 => ?_)
     have M94 := mtn M80 c93 (Nat.le_trans M33.size g63)
     have M95 := mtn M81 c93 (Nat.le_trans M34.size g63)
     have M96 := mtn M82 c93 (Nat.le_trans M35.size g63)
     have M97 := mtn M83 c93 g63
     obtain ⟨_, _, _, cg98, hg98, _⟩ := GRow.blk h91
     refine ⟨M97, ?_⟩
     have h99 := (GSub.up hs41 (Mod.up M97))
     refine h1a 14 1 rfl (apG enc_st rfl (by kernel_rfl) (by kernel_rfl) h91 h99 Ty.un95 M97.size (by simp; omega) fun b100 n101 c102 w103 e104 h105 g106 c107 => ?_)
     have M108 := mtn M94 c107 (Nat.le_trans M33.size g92)
     have M109 := mtn M95 c107 (Nat.le_trans M34.size g92)
     have M110 := mtn M96 c107 (Nat.le_trans M35.size g92)
     have M111 := mtn M97 c107 g92
     obtain ⟨_, _, _, cg112, hg112, _⟩ := GRow.blk h105
     refine ⟨M111, ?_⟩
     refine hvq (i := 15) (fuel := 0) rfl (fun _ _ _ h => h) M111 rfl (v := sl b100 0 n101 c102) (fun _ _ => r_assign (by kernel_rfl)) ?_
     refine hend (by kernel_rfl) ?_
     refine inb_n (then_n (rg_lit (wmv (v := I_ kk) (wlv (v := I_ ((kk + 1 : Nat) : Int)) (adI (c := ((kk + 1 : Nat) : Int)) kk 1 ((IntWalk.i64_in _ (by omega)).trans (by omega))) (was (v := I_ ((kk + 1 : Nat) : Int)) (wnil (then_n ?_)))))))
     refine ⟨l.length - (kk + 1), ?_, (kk + 1), (some ⟨b100, 0, none⟩), n101, c102, (Lo.take jj ++ [x0] ++ Lo.drop jj), rfl, hmk, M109, (by omega), (by rw [take_snocS hx0]; exact thn_ins hF1_1 hF2_1 (.inl (by omega))), (MRow.g.2 (GRow.base (GRow.to h105 (by simp)) M33.size))⟩
     · omega
    ·
     refine sn rfl (cs := #[I_ x0.t, I_ x0.w]) (T := 24) (V := fun b => sl b 0 1 1) (r_buildSlice (n := 1) (ps := [(0, .agg #[I_ x0.t, I_ x0.w])]) Ty.un95 Ty.sz24 Ty.zv24 (by decide) (by decide) (by kernel_rfl) (by kernel_rfl)) fun b56 w57 e58 h59 u60 => ?_
     have l61 := lsz e58 h45
     have g62 := gsz e58 M52
     have g63 := gsz e58 M53
     have g64 := gsz e58 M54
     have g65 := gsz e58 M55
     have M66 := mtu M52 u60
     have M67 := mtu M53 u60
     have M68 := mtu M54 u60
     have M69 := mtu M55 u60
     refine ⟨M69, ?_⟩
     have h70 := (GRow.up h46 u60)
     have h71 := (up_ob u60 h45)
     have h72 := (GSub.up hs39 (Mod.up M69))
     refine h1a 4 3 rfl (apG enc_st rfl (by kernel_rfl) (by kernel_rfl) h70 h72 Ty.un95 M69.size (by simp; omega) fun b73 n74 c75 w76 e77 h78 g79 c80 => ?_)
     have M81 := mtn M66 c80 g48
     have M82 := mtn M67 c80 g49
     have M83 := mtn M68 c80 g50
     have M84 := mtn M69 c80 g51
     obtain ⟨_, _, _, cg85, hg85, _⟩ := GRow.blk h78
     refine ⟨M84, ?_⟩
     have h86 := (chg_ob c80 (Nat.ne_of_gt l61) h59)
     refine h1a 10 2 rfl (apG enc_st rfl (by kernel_rfl) (by kernel_rfl) h78 (GSub.one (x := (⟨x0.t, x0.w⟩ : Stamp)) h86 rfl) Ty.un95 M84.size (by simp; omega) fun b87 n88 c89 w90 e91 h92 g93 c94 => ?_)
     have M95 := mtn M81 c94 (Nat.le_trans M33.size g79)
     have M96 := mtn M82 c94 (Nat.le_trans M34.size g79)
     have M97 := mtn M83 c94 (Nat.le_trans M35.size g79)
     have M98 := mtn M84 c94 g79
     obtain ⟨_, _, _, cg99, hg99, _⟩ := GRow.blk h92
     refine ⟨M98, ?_⟩
     have h100 := (GSub.up hs41 (Mod.up M98))
     refine h1a 14 1 rfl (apG enc_st rfl (by kernel_rfl) (by kernel_rfl) h92 h100 Ty.un95 M98.size (by simp; omega) fun b101 n102 c103 w104 e105 h106 g107 c108 => ?_)
     have M109 := mtn M95 c108 (Nat.le_trans M33.size g93)
     have M110 := mtn M96 c108 (Nat.le_trans M34.size g93)
     have M111 := mtn M97 c108 (Nat.le_trans M35.size g93)
     have M112 := mtn M98 c108 g93
     obtain ⟨_, _, _, cg113, hg113, _⟩ := GRow.blk h106
     refine ⟨M112, ?_⟩
     refine hvq (i := 15) (fuel := 0) rfl (fun _ _ _ h => h) M112 rfl (v := sl b101 0 n102 c103) (fun _ _ => r_assign (by kernel_rfl)) ?_
     refine hend (by kernel_rfl) ?_
     refine inb_n (then_n (rg_lit (wmv (v := I_ kk) (wlv (v := I_ ((kk + 1 : Nat) : Int)) (adI (c := ((kk + 1 : Nat) : Int)) kk 1 ((IntWalk.i64_in _ (by omega)).trans (by omega))) (was (v := I_ ((kk + 1 : Nat) : Int)) (wnil (then_n ?_)))))))
     refine ⟨l.length - (kk + 1), ?_, (kk + 1), (some ⟨b101, 0, none⟩), n102, c103, (Lo.take jj ++ [x0] ++ Lo.drop jj), rfl, hmk, M110, (by omega), (by rw [take_snocS hx0]; exact thn_ins hF1_1 hF2_1 (.inl (by omega))), (MRow.g.2 (GRow.base (GRow.to h106 (by simp)) M33.size))⟩
     · omega
   ·
    refine sn rfl (cs := #[I_ x0.t, I_ x0.w]) (T := 24) (V := fun b => sl b 0 1 1) (r_buildSlice (n := 1) (ps := [(0, .agg #[I_ x0.t, I_ x0.w])]) Ty.un95 Ty.sz24 Ty.zv24 (by decide) (by decide) (by kernel_rfl) (by kernel_rfl)) fun b42 w43 e44 h45 u46 => ?_
    have g48 := gsz e44 M34
    have g49 := gsz e44 M35
    have g50 := gsz e44 (Mod.refl [] w31)
    have M51 := mtu M33 u46
    have M52 := mtu M34 u46
    have M53 := mtu M35 u46
    have M54 := mtu (Mod.refl [] w31) u46
    refine ⟨M54, ?_⟩
    refine h1a 0 4 rfl (litG rfl (f := stC) (base := w31.heap.size) Ty.un95 Ty.sz24 M54.size fun b55 w56 e57 h58 h59 u60 => ?_)
    have l61 := lsz e57 h45
    have g62 := gsz e57 M51
    have g63 := gsz e57 M52
    have g64 := gsz e57 M53
    have g65 := gsz e57 M54
    have M66 := mtu M51 u60
    have M67 := mtu M52 u60
    have M68 := mtu M53 u60
    have M69 := mtu M54 u60
    refine ⟨M69, ?_⟩
    have h70 := (GSub.up hs39 (Mod.up M69))
    refine h1a 4 3 rfl (apG enc_st rfl (by kernel_rfl) (by kernel_rfl) h59 h70 Ty.un95 M69.size (by simp; omega) fun b71 n72 c73 w74 e75 h76 g77 c78 => ?_)
    have M80 := mtn M67 c78 g63
    have M81 := mtn M68 c78 g64
    have M82 := mtn M69 c78 g65
    obtain ⟨_, _, _, cg83, hg83, _⟩ := GRow.blk h76
    refine ⟨M82, ?_⟩
    have h84 := (chg_ob c78 (Nat.ne_of_lt l61) (up_ob u60 h45))
    refine h1a 10 2 rfl (apG enc_st rfl (by kernel_rfl) (by kernel_rfl) h76 (GSub.one (x := (⟨x0.t, x0.w⟩ : Stamp)) h84 rfl) Ty.un95 M82.size (by simp; omega) fun b85 n86 c87 w88 e89 h90 g91 c92 => ?_)
    have M94 := mtn M80 c92 (Nat.le_trans M34.size g77)
    have M95 := mtn M81 c92 (Nat.le_trans M35.size g77)
    have M96 := mtn M82 c92 g77
    obtain ⟨_, _, _, cg97, hg97, _⟩ := GRow.blk h90
    refine ⟨M96, ?_⟩
    have h98 := (GSub.up hs41 (Mod.up M96))
    refine h1a 14 1 rfl (apG enc_st rfl (by kernel_rfl) (by kernel_rfl) h90 h98 Ty.un95 M96.size (by simp; omega) fun b99 n100 c101 w102 e103 h104 g105 c106 => ?_)
    have M108 := mtn M94 c106 (Nat.le_trans M34.size g91)
    have M109 := mtn M95 c106 (Nat.le_trans M35.size g91)
    have M110 := mtn M96 c106 g91
    obtain ⟨_, _, _, cg111, hg111, _⟩ := GRow.blk h104
    refine ⟨M110, ?_⟩
    refine hvq (i := 15) (fuel := 0) rfl (fun _ _ _ h => h) M110 rfl (v := sl b99 0 n100 c101) (fun _ _ => r_assign (by kernel_rfl)) ?_
    refine hend (by kernel_rfl) ?_
    refine inb_n (then_n (rg_lit (wmv (v := I_ kk) (wlv (v := I_ ((kk + 1 : Nat) : Int)) (adI (c := ((kk + 1 : Nat) : Int)) kk 1 ((IntWalk.i64_in _ (by omega)).trans (by omega))) (was (v := I_ ((kk + 1 : Nat) : Int)) (wnil (then_n ?_)))))))
    refine ⟨l.length - (kk + 1), ?_, (kk + 1), (some ⟨b99, 0, none⟩), n100, c101, (Lo.take jj ++ [x0] ++ Lo.drop jj), rfl, hmk, M108, (by omega), (by rw [take_snocS hx0]; exact thn_ins hF1_1 hF2_1 (.inl (by omega))), (MRow.g.2 (GRow.base (GRow.to h104 (by simp)) M33.size))⟩
    · omega
  refine qv (wt (b := b13) rfl (by kernel_rfl) v15) (v := .slice oA on oc) (fun _ _ => mv) (qv (wt (b := b13) rfl (by kernel_rfl) v15) (v := I_ jj) (fun _ _ => mv) ?_)
  have h19 := (MRow.up hF1_2 (Mod.up hM2))
  obtain ⟨y20, hy20⟩ : ∃ x, Lo[jj]? = some x := ⟨_, List.getElem?_eq_getElem (by omega)⟩
  obtain ⟨g20, hA20, hl20, hc20, hd20⟩ := MRow.get h19 hy20
  refine qv (wt (b := b13) rfl (by kernel_rfl) v15) (v := pt g20 (jj * 2)) (fun _ _ => ixa on oc 2 jj hA20 Ty.un95 Ty.sz24) (qv (wt (b := b13) rfl (by kernel_rfl) v15) (v := .agg #[I_ y20.t, I_ y20.w]) (fun _ uz => r_loadc2 (by kernel_rfl) Ty.ag24 Ty.sz24 ((uz.cell (p := ⟨g20, jj * 2, none⟩) hl20).trans hc20) ((uz.cell (p := ⟨g20, jj * 2 + 1, none⟩) hl20).trans hd20)) (qv (wt (b := b13) rfl (by kernel_rfl) v15) (v := .slice lA l.length lc) (fun _ _ => mv) (qv (wt (b := b13) rfl (by kernel_rfl) v15) (v := I_ kk) (fun _ _ => mv) ?_)))
  have h21 := (MRow.up hl (Mod.up M11))
  obtain ⟨g22, hA22, hl22, hc22, hd22⟩ := MRow.get h21 hx0
  refine qv (wt (b := b13) rfl (by kernel_rfl) v15) (v := pt g22 (kk * 2)) (fun _ _ => ixa l.length lc 2 kk hA22 Ty.un95 Ty.sz24) (qv (wt (b := b13) rfl (by kernel_rfl) v15) (v := .agg #[I_ x0.t, I_ x0.w]) (fun _ uz => r_loadc2 (by kernel_rfl) Ty.ag24 Ty.sz24 ((uz.cell (p := ⟨g22, kk * 2, none⟩) hl22).trans hc22) ((uz.cell (p := ⟨g22, kk * 2 + 1, none⟩) hl22).trans hd22)) ?_)
  refine qc (wt (b := b13) rfl (by kernel_rfl) v15) (v := B_ (lessS ⟨y20.t, y20.w⟩ ⟨x0.t, x0.w⟩)) (fun _ _ => r_callv (caps := []) (all := [.agg #[I_ y20.t, I_ y20.w], .agg #[I_ x0.t, I_ x0.w]]) En.f139 (by kernel_rfl) (by kernel_rfl)) (fun wz uz => r04less_any ⟨y20.t, y20.w⟩ ⟨x0.t, x0.w⟩ _) ?_ ?_
  · rintro w1 e w2 hC ⟨rfl, hu⟩; exact ⟨rfl, up_step hC hu.below⟩
  refine qv rfl (v := B_ (lessS ⟨y20.t, y20.w⟩ ⟨x0.t, x0.w⟩)) (fun _ _ => pkT (eb v15)) ?_
  refine qnil fun w23 u24 => ?_
  have M25 := mtu M11 u24
  have M26 := mtu M12 u24
  have M27 := mtu hM2 u24
  refine then_n ?_
  refine bcase (lessS ⟨y20.t, y20.w⟩ ⟨x0.t, x0.w⟩) (fun v28 => ?_) (fun v28 => ?_)
  ·
   refine wp_cond_false (eb v28) (wp_exit (then_x (by nofun) (then_x (by nofun) (inb_hit (then_n (wp_seq ?_))))))
   refine rg_all (by kernel_rfl) (by kernel_rfl) ?_
   refine qmv (v := I_ jj) (qmv (v := .slice oA on oc) (qv rfl (v := I_ on) (fun _ _ => ln oA on oc Ty.un95) ?_))
   refine qb rfl (fun _ _ => eqI jj on) fun b29 k30 => ?_
   refine qmv (v := B_ b29) ?_
   refine bcd k30 (fun v31 p32 => ?_) (fun v31 p32 => ?_)
   ·
    refine qv (wt (b := b29) rfl (by kernel_rfl) v31) (v := .slice oA on oc) (fun _ _ => mv) (qv (wt (b := b29) rfl (by kernel_rfl) v31) (v := I_ jj) (fun _ _ => mv) ?_)
    have h33 := (MRow.up hF1_2 (Mod.up M27))
    obtain ⟨g34, hA34, hl34, hc34, hd34⟩ := MRow.get h33 hy20
    refine qv (wt (b := b29) rfl (by kernel_rfl) v31) (v := pt g34 (jj * 2)) (fun _ _ => ixa on oc 2 jj hA34 Ty.un95 Ty.sz24) (qv (wt (b := b29) rfl (by kernel_rfl) v31) (v := .agg #[I_ y20.t, I_ y20.w]) (fun _ uz => r_loadc2 (by kernel_rfl) Ty.ag24 Ty.sz24 ((uz.cell (p := ⟨g34, jj * 2, none⟩) hl34).trans hc34) ((uz.cell (p := ⟨g34, jj * 2 + 1, none⟩) hl34).trans hd34)) (qv (wt (b := b29) rfl (by kernel_rfl) v31) (v := .slice lA l.length lc) (fun _ _ => mv) (qv (wt (b := b29) rfl (by kernel_rfl) v31) (v := I_ kk) (fun _ _ => mv) ?_)))
    have h35 := (MRow.up hl (Mod.up M25))
    obtain ⟨g36, hA36, hl36, hc36, hd36⟩ := MRow.get h35 hx0
    refine qv (wt (b := b29) rfl (by kernel_rfl) v31) (v := pt g36 (kk * 2)) (fun _ _ => ixa l.length lc 2 kk hA36 Ty.un95 Ty.sz24) (qv (wt (b := b29) rfl (by kernel_rfl) v31) (v := .agg #[I_ x0.t, I_ x0.w]) (fun _ uz => r_loadc2 (by kernel_rfl) Ty.ag24 Ty.sz24 ((uz.cell (p := ⟨g36, kk * 2, none⟩) hl36).trans hc36) ((uz.cell (p := ⟨g36, kk * 2 + 1, none⟩) hl36).trans hd36)) ?_)
    refine qb (wt (b := b29) rfl (by kernel_rfl) v31) (fun _ _ => r_neS2 (a := y20.t) (b := y20.w) (c := x0.t) (e := x0.w) (by kernel_rfl) (by kernel_rfl)) fun b37 k38 => ?_
    refine qv rfl (v := B_ b37) (fun _ _ => pkF (eb v31)) ?_
    refine qnil fun w39 u40 => ?_
    have M41 := mtu M25 u40
    have M42 := mtu M26 u40
    have M43 := mtu M27 u40
    refine then_n ?_
    refine bcd k38 (fun v44 p45 => ?_) (fun v44 p45 => ?_)
    ·
     refine wp_cond_false (eb v44) (wp_skip (inb_n (then_n (rg_lit (wmv (v := I_ kk) (wlv (v := I_ ((kk + 1 : Nat) : Int)) (adI (c := ((kk + 1 : Nat) : Int)) kk 1 ((IntWalk.i64_in _ (by omega)).trans (by omega))) (was (v := I_ ((kk + 1 : Nat) : Int)) (wnil (then_n ?_)))))))))
     have h46 := (MRow.up hF1_2 (Mod.up M43))
     refine ⟨l.length - (kk + 1), ?_, (kk + 1), oA, on, oc, Lo, rfl, hmk, M42, (by omega), (by rw [take_snocS hx0]; exact thn_skip hF1_1 hy20 (Decidable.not_not.1 p45)), h46⟩
     · omega
    refine wp_cond_true (eb v44) ?_
    refine rg_held [] (n := 16) (by kernel_rfl) rfl ?_
    intro w46 u47
    have M48 := mtu M41 u47
    have M49 := mtu M42 u47
    have M50 := mtu M43 u47
    have h51 := (MRow.up hl (Mod.up M48))
    have h53 := (GRow.up (MRow.g.1 hF1_2) (Mod.up M50))
    refine hvq (i := 1) (fuel := 15) rfl (fun _ _ _ h => h) (Mod.refl [] w46) rfl (v := .slice oA on oc) (fun _ _ => mv) ?_
    refine hvq (i := 2) (fuel := 14) rfl (fun _ _ _ h => h) (Mod.refl [] w46) rfl (v := I_ jj) (fun _ _ => mv) ?_
    obtain ⟨hs54, hq54⟩ := GRow.headCut (P := Tryz.prog) (k := jj) enc_st h53 (by omega) 95 24 Ty.un95 Ty.sz24
    refine hvq (i := 3) (fuel := 13) rfl (fun _ _ _ h => h) (Mod.refl [] w46) rfl (v := .slice oA jj oc) (fun _ _ => hq54 _ _ _ _ _ _ _ _ _ (by kernel_rfl) (by kernel_rfl)) ?_
    refine hvq (i := 5) (fuel := 12) rfl (fun _ _ _ h => h) (Mod.refl [] w46) rfl (v := .slice lA l.length lc) (fun _ _ => mv) ?_
    refine hvq (i := 6) (fuel := 11) rfl (fun _ _ _ h => h) (Mod.refl [] w46) rfl (v := I_ kk) (fun _ _ => mv) ?_
    obtain ⟨g55, hA55, hl55, hc55, hd55⟩ := MRow.get h51 hx0
    refine hvq (i := 7) (fuel := 10) rfl (fun _ _ _ h => h) (Mod.refl [] w46) rfl (v := pt g55 (kk * 2)) (fun _ _ => ixa l.length lc 2 kk hA55 Ty.un95 Ty.sz24) ?_
    refine hvq (i := 8) (fuel := 9) rfl (fun _ _ _ h => h) (Mod.refl [] w46) rfl (v := .agg #[I_ x0.t, I_ x0.w]) (fun _ uz => r_loadc2 (by kernel_rfl) Ty.ag24 Ty.sz24 (((Mod.up uz).cell (p := ⟨g55, kk * 2, none⟩) hl55).trans hc55) (((Mod.up uz).cell (p := ⟨g55, kk * 2 + 1, none⟩) hl55).trans hd55)) ?_
    refine hvq (i := 11) (fuel := 8) rfl (fun _ _ _ h => h) (Mod.refl [] w46) rfl (v := .slice oA on oc) (fun _ _ => mv) ?_
    refine hvq (i := 12) (fuel := 7) rfl (fun _ _ _ h => h) (Mod.refl [] w46) rfl (v := I_ jj) (fun _ _ => mv) ?_
    obtain ⟨A56, hs56, hq56⟩ := GRow.tailCut (P := Tryz.prog) (k := jj) enc_st h53 (by omega) 95 24 Ty.un95 Ty.sz24
    refine hvq (i := 13) (fuel := 6) rfl (fun _ _ _ h => h) (Mod.refl [] w46) rfl (v := .slice A56 (on - jj : Nat) (oc - jj : Nat)) (fun _ _ => hq56 _ _ _ _ _ _ _ _ _ (by kernel_rfl) (by kernel_rfl)) ?_
    refine h2a 0 9 5 rfl rfl ?_ ?_
    ·
     refine litG rfl (f := stC) (base := w46.heap.size) Ty.un95 Ty.sz24 (Mod.refl [] w46).size fun b57 w58 e59 h60 h61 u62 => ?_
     have g63 := gsz e59 M48
     have g64 := gsz e59 M49
     have g65 := gsz e59 M50
     have g66 := gsz e59 (Mod.refl [] w46)
     have M67 := mtu M48 u62
     have M68 := mtu M49 u62
     have M69 := mtu M50 u62
     have M70 := mtu (Mod.refl [] w46) u62
     refine ⟨M70, ?_⟩
     refine h2a 4 9 4 rfl rfl ?_ ?_
     ·
      have h71 := (GSub.up hs54 (Mod.up M70))
      refine apG enc_st rfl (by kernel_rfl) (by kernel_rfl) h61 h71 Ty.un95 M70.size (by simp; omega) fun b72 n73 c74 w75 e76 h77 g78 c79 => ?_
      have M80 := mtn M67 c79 g63
      have M81 := mtn M68 c79 g64
      have M82 := mtn M69 c79 g65
      have M83 := mtn M70 c79 g66
      obtain ⟨_, _, _, cg84, hg84, _⟩ := GRow.blk h77
      refine ⟨M83, ?_⟩
      refine h1a 9 3 rfl (sn rfl (cs := #[I_ x0.t, I_ x0.w]) (T := 24) (V := fun b => sl b 0 1 1) (r_buildSlice (n := 1) (ps := [(0, .agg #[I_ x0.t, I_ x0.w])]) Ty.un95 Ty.sz24 Ty.zv24 (by decide) (by decide) (by kernel_rfl) (by kernel_rfl)) fun b85 w86 e87 h88 u89 => ?_)
      have g91 := gsz e87 M80
      have g92 := gsz e87 M81
      have g93 := gsz e87 M82
      have g94 := gsz e87 M83
      have M95 := mtu M80 u89
      have M96 := mtu M81 u89
      have M97 := mtu M82 u89
      have M98 := mtu M83 u89
      refine ⟨M98, ?_⟩
      have h99 := (GRow.up h77 u89)
      have h100 := (up_ob u89 hg84)
      refine h1a 10 2 rfl (apG enc_st rfl (by kernel_rfl) (by kernel_rfl) h99 (GSub.one (x := (⟨x0.t, x0.w⟩ : Stamp)) h88 rfl) Ty.un95 M98.size (by simp; omega) fun b101 n102 c103 w104 e105 h106 g107 c108 => ?_)
      have M109 := mtn M95 c108 (Nat.le_trans M48.size g78)
      have M110 := mtn M96 c108 (Nat.le_trans M49.size g78)
      have M111 := mtn M97 c108 (Nat.le_trans M50.size g78)
      have M112 := mtn M98 c108 g78
      obtain ⟨_, _, _, cg113, hg113, _⟩ := GRow.blk h106
      refine ⟨M112, ?_⟩
      have h114 := (GSub.up hs56 (Mod.up M112))
      refine h1a 14 1 rfl (apG enc_st rfl (by kernel_rfl) (by kernel_rfl) h106 h114 Ty.un95 M112.size (by simp; omega) fun b115 n116 c117 w118 e119 h120 g121 c122 => ?_)
      have M123 := mtn M109 c122 (Nat.le_trans M48.size g107)
      have M124 := mtn M110 c122 (Nat.le_trans M49.size g107)
      have M125 := mtn M111 c122 (Nat.le_trans M50.size g107)
      have M126 := mtn M112 c122 g107
      obtain ⟨_, _, _, cg127, hg127, _⟩ := GRow.blk h120
      refine ⟨M126, ?_⟩
      refine hvq (i := 15) (fuel := 0) rfl (fun _ _ _ h => h) M126 rfl (v := sl b115 0 n116 c117) (fun _ _ => r_assign (by kernel_rfl)) ?_
      refine hend (by kernel_rfl) ?_
      refine inb_n (then_n (rg_lit (wmv (v := I_ kk) (wlv (v := I_ ((kk + 1 : Nat) : Int)) (adI (c := ((kk + 1 : Nat) : Int)) kk 1 ((IntWalk.i64_in _ (by omega)).trans (by omega))) (was (v := I_ ((kk + 1 : Nat) : Int)) (wnil (then_n ?_)))))))
      refine ⟨l.length - (kk + 1), ?_, (kk + 1), (some ⟨b115, 0, none⟩), n116, c117, (Lo.take jj ++ [x0] ++ Lo.drop jj), rfl, hmk, M124, (by omega), (by rw [take_snocS hx0]; exact thn_ins hF1_1 hF2_1 (.inr ⟨_, hy20, v28, p45⟩)), (MRow.g.2 (GRow.base (GRow.to h120 (by simp)) M48.size))⟩
      · omega
     ·
      refine sn rfl (cs := #[I_ x0.t, I_ x0.w]) (T := 24) (V := fun b => sl b 0 1 1) (r_buildSlice (n := 1) (ps := [(0, .agg #[I_ x0.t, I_ x0.w])]) Ty.un95 Ty.sz24 Ty.zv24 (by decide) (by decide) (by kernel_rfl) (by kernel_rfl)) fun b71 w72 e73 h74 u75 => ?_
      have l76 := lsz e73 h60
      have g77 := gsz e73 M67
      have g78 := gsz e73 M68
      have g79 := gsz e73 M69
      have g80 := gsz e73 M70
      have M81 := mtu M67 u75
      have M82 := mtu M68 u75
      have M83 := mtu M69 u75
      have M84 := mtu M70 u75
      refine ⟨M84, ?_⟩
      have h85 := (GRow.up h61 u75)
      have h86 := (up_ob u75 h60)
      have h87 := (GSub.up hs54 (Mod.up M84))
      refine h1a 4 3 rfl (apG enc_st rfl (by kernel_rfl) (by kernel_rfl) h85 h87 Ty.un95 M84.size (by simp; omega) fun b88 n89 c90 w91 e92 h93 g94 c95 => ?_)
      have M96 := mtn M81 c95 g63
      have M97 := mtn M82 c95 g64
      have M98 := mtn M83 c95 g65
      have M99 := mtn M84 c95 g66
      obtain ⟨_, _, _, cg100, hg100, _⟩ := GRow.blk h93
      refine ⟨M99, ?_⟩
      have h101 := (chg_ob c95 (Nat.ne_of_gt l76) h74)
      refine h1a 10 2 rfl (apG enc_st rfl (by kernel_rfl) (by kernel_rfl) h93 (GSub.one (x := (⟨x0.t, x0.w⟩ : Stamp)) h101 rfl) Ty.un95 M99.size (by simp; omega) fun b102 n103 c104 w105 e106 h107 g108 c109 => ?_)
      have M110 := mtn M96 c109 (Nat.le_trans M48.size g94)
      have M111 := mtn M97 c109 (Nat.le_trans M49.size g94)
      have M112 := mtn M98 c109 (Nat.le_trans M50.size g94)
      have M113 := mtn M99 c109 g94
      obtain ⟨_, _, _, cg114, hg114, _⟩ := GRow.blk h107
      refine ⟨M113, ?_⟩
      have h115 := (GSub.up hs56 (Mod.up M113))
      refine h1a 14 1 rfl (apG enc_st rfl (by kernel_rfl) (by kernel_rfl) h107 h115 Ty.un95 M113.size (by simp; omega) fun b116 n117 c118 w119 e120 h121 g122 c123 => ?_)
      have M124 := mtn M110 c123 (Nat.le_trans M48.size g108)
      have M125 := mtn M111 c123 (Nat.le_trans M49.size g108)
      have M126 := mtn M112 c123 (Nat.le_trans M50.size g108)
      have M127 := mtn M113 c123 g108
      obtain ⟨_, _, _, cg128, hg128, _⟩ := GRow.blk h121
      refine ⟨M127, ?_⟩
      refine hvq (i := 15) (fuel := 0) rfl (fun _ _ _ h => h) M127 rfl (v := sl b116 0 n117 c118) (fun _ _ => r_assign (by kernel_rfl)) ?_
      refine hend (by kernel_rfl) ?_
      refine inb_n (then_n (rg_lit (wmv (v := I_ kk) (wlv (v := I_ ((kk + 1 : Nat) : Int)) (adI (c := ((kk + 1 : Nat) : Int)) kk 1 ((IntWalk.i64_in _ (by omega)).trans (by omega))) (was (v := I_ ((kk + 1 : Nat) : Int)) (wnil (then_n ?_)))))))
      refine ⟨l.length - (kk + 1), ?_, (kk + 1), (some ⟨b116, 0, none⟩), n117, c118, (Lo.take jj ++ [x0] ++ Lo.drop jj), rfl, hmk, M125, (by omega), (by rw [take_snocS hx0]; exact thn_ins hF1_1 hF2_1 (.inr ⟨_, hy20, v28, p45⟩)), (MRow.g.2 (GRow.base (GRow.to h121 (by simp)) M48.size))⟩
      · omega
    ·
     refine sn rfl (cs := #[I_ x0.t, I_ x0.w]) (T := 24) (V := fun b => sl b 0 1 1) (r_buildSlice (n := 1) (ps := [(0, .agg #[I_ x0.t, I_ x0.w])]) Ty.un95 Ty.sz24 Ty.zv24 (by decide) (by decide) (by kernel_rfl) (by kernel_rfl)) fun b57 w58 e59 h60 u61 => ?_
     have g62 := gsz e59 M48
     have g63 := gsz e59 M49
     have g64 := gsz e59 M50
     have g65 := gsz e59 (Mod.refl [] w46)
     have M66 := mtu M48 u61
     have M67 := mtu M49 u61
     have M68 := mtu M50 u61
     have M69 := mtu (Mod.refl [] w46) u61
     refine ⟨M69, ?_⟩
     refine h1a 0 4 rfl (litG rfl (f := stC) (base := w46.heap.size) Ty.un95 Ty.sz24 M69.size fun b70 w71 e72 h73 h74 u75 => ?_)
     have l76 := lsz e72 h60
     have g77 := gsz e72 M66
     have g78 := gsz e72 M67
     have g79 := gsz e72 M68
     have g80 := gsz e72 M69
     have M81 := mtu M66 u75
     have M82 := mtu M67 u75
     have M83 := mtu M68 u75
     have M84 := mtu M69 u75
     refine ⟨M84, ?_⟩
     have h85 := (GSub.up hs54 (Mod.up M84))
     refine h1a 4 3 rfl (apG enc_st rfl (by kernel_rfl) (by kernel_rfl) h74 h85 Ty.un95 M84.size (by simp; omega) fun b86 n87 c88 w89 e90 h91 g92 c93 => ?_)
     have M94 := mtn M81 c93 g77
     have M95 := mtn M82 c93 g78
     have M96 := mtn M83 c93 g79
     have M97 := mtn M84 c93 g80
     obtain ⟨_, _, _, cg98, hg98, _⟩ := GRow.blk h91
     refine ⟨M97, ?_⟩
     have h99 := (chg_ob c93 (Nat.ne_of_lt l76) (up_ob u75 h60))
     refine h1a 10 2 rfl (apG enc_st rfl (by kernel_rfl) (by kernel_rfl) h91 (GSub.one (x := (⟨x0.t, x0.w⟩ : Stamp)) h99 rfl) Ty.un95 M97.size (by simp; omega) fun b100 n101 c102 w103 e104 h105 g106 c107 => ?_)
     have M108 := mtn M94 c107 (Nat.le_trans M48.size g92)
     have M109 := mtn M95 c107 (Nat.le_trans M49.size g92)
     have M110 := mtn M96 c107 (Nat.le_trans M50.size g92)
     have M111 := mtn M97 c107 g92
     obtain ⟨_, _, _, cg112, hg112, _⟩ := GRow.blk h105
     refine ⟨M111, ?_⟩
     have h113 := (GSub.up hs56 (Mod.up M111))
     refine h1a 14 1 rfl (apG enc_st rfl (by kernel_rfl) (by kernel_rfl) h105 h113 Ty.un95 M111.size (by simp; omega) fun b114 n115 c116 w117 e118 h119 g120 c121 => ?_)
     have M123 := mtn M109 c121 (Nat.le_trans M49.size g106)
     have M124 := mtn M110 c121 (Nat.le_trans M50.size g106)
     have M125 := mtn M111 c121 g106
     obtain ⟨_, _, _, cg126, hg126, _⟩ := GRow.blk h119
     refine ⟨M125, ?_⟩
     refine hvq (i := 15) (fuel := 0) rfl (fun _ _ _ h => h) M125 rfl (v := sl b114 0 n115 c116) (fun _ _ => r_assign (by kernel_rfl)) ?_
     refine hend (by kernel_rfl) ?_
     refine inb_n (then_n (rg_lit (wmv (v := I_ kk) (wlv (v := I_ ((kk + 1 : Nat) : Int)) (adI (c := ((kk + 1 : Nat) : Int)) kk 1 ((IntWalk.i64_in _ (by omega)).trans (by omega))) (was (v := I_ ((kk + 1 : Nat) : Int)) (wnil (then_n ?_)))))))
     refine ⟨l.length - (kk + 1), ?_, (kk + 1), (some ⟨b114, 0, none⟩), n115, c116, (Lo.take jj ++ [x0] ++ Lo.drop jj), rfl, hmk, M123, (by omega), (by rw [take_snocS hx0]; exact thn_ins hF1_1 hF2_1 (.inr ⟨_, hy20, v28, p45⟩)), (MRow.g.2 (GRow.base (GRow.to h119 (by simp)) M48.size))⟩
     · omega
   omega
  refine wp_cond_true (eb v28) (wp_skip (then_n (wp_block (rg_lit (wmv (v := I_ jj) (wlv (v := I_ ((jj + 1 : Nat) : Int)) (adI (c := ((jj + 1 : Nat) : Int)) jj 1 ((IntWalk.i64_in _ (by omega)).trans (by omega))) (was (v := I_ ((jj + 1 : Nat) : Int)) (wnil (inb_n (then_n ?_))))))))))
  refine ⟨on - (jj + 1), ?_, (jj + 1), rfl, hmk, M27, (by omega), (lt_nextS hF2_1 hy20 v28)⟩
  · omega
end Go.Proofs.YtefhfoioeoijlaaGreatDoor

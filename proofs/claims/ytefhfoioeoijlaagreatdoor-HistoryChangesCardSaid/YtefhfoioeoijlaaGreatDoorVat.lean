/- HV, Vsk, HW, Vgt, HX, Turn, GRow -/
import Derived.Laws.BytesArg
import Derived.Test.YtefhfoioeoijlaaGreatDoorVah
import Derived.Test.YtefhfoioeoijlaaGreatDoorVao
import Derived.Test.YtefhfoioeoijlaaGreatDoorVas
set_option linter.unusedVariables false
set_option linter.unusedSimpArgs false
namespace Go.Proofs.YtefhfoioeoijlaaGreatDoor
open Go Go.RowKit Go.Sort
set_option maxHeartbeats 2000000 in
theorem vers1_at {B : Nat} {w : World} {tb r b3 b4 : Nat} {L : List Item} {m : Stamp} (h : TreeIs B w tb r L) (o : OpD) (oA : Option Addr) (on oc : Nat) (hd : Dat B w (.slice oA on oc) o.data) (hon : o.data.length = on) (hname : o.name.size ≤ 9223372036854775807)
    (hb3 : w.heap[b3]? = some (.cells #[.int .i64 m.t, .int .i64 m.w] 24 (0, 0))) (hb4 : w.heap[b4]? = some (.cells #[.slice none 0 0] 112 (0, 0))) (h34 : b3 ≠ b4) (hB4 : B ≤ b4) :
    Calls Tryz.prog 128 #[opV o (.slice oA on oc), trP tb, .pointer (some ⟨b3, 0, none⟩), .pointer (some ⟨b4, 0, none⟩)] w fun e w' => e = .returned (.tuple #[]) ∧ (hitV o L m = false ∧ Up w w' ∨ hitV o L m = true ∧ VOne B w' b4 o.data ∧ Chg w w' b4) := by
  go_enter Tryz.func128, Tryz.ntmps128
  refine wp_seq (rg_lit (wl (sn rfl (cs := (opC o (.slice oA on oc)).toArray) (T := 49) (V := fun b => pt b 0) (r_box (v := opV o (.slice oA on oc)) (by kernel_rfl) rfl) fun pb w1 e2 h3 u4 => ?_)))
  have l6 := lsz e2 hb4
  have M8 := mtu (Mod.refl [] w) u4
  refine wnil (then_n (wp_seq (rg_lit (wmv (v := pt tb 0) ?_))))
  have h9 := md_ob M8 nin0 hb3
  refine wlv (v := .agg #[I_ m.t, I_ m.w]) (lds 0 Ty.ag24 Ty.sz24 h9) ?_
  have h10 := (TreeIs.up h (Mod.up M8))
  refine wl (sca [pt tb 0, .agg #[I_ m.t, I_ m.w]] En.f20 (get_x h10 ⟨m.t, m.w⟩ (x := (gotI L ⟨m.t, m.w⟩)) (b := (hasI L ⟨m.t, m.w⟩)) rfl rfl) ?_)
  rintro e w11 ⟨A12, n13, c14, rfl, h15, u16⟩
  refine ⟨_, rfl, ?_⟩
  have M17 := mtu M8 u16
  refine wmv (v := .tuple #[itV (gotI L ⟨m.t, m.w⟩) (.slice A12 n13 c14), B_ (hasI L ⟨m.t, m.w⟩)]) (wlv (v := itV (gotI L ⟨m.t, m.w⟩) (.slice A12 n13 c14)) (xt [itV (gotI L ⟨m.t, m.w⟩) (.slice A12 n13 c14), B_ (hasI L ⟨m.t, m.w⟩)]) (wlv (v := B_ (hasI L ⟨m.t, m.w⟩)) (xt [itV (gotI L ⟨m.t, m.w⟩) (.slice A12 n13 c14), B_ (hasI L ⟨m.t, m.w⟩)]) (wl (sn rfl (cs := #[I_ 0, I_ 0, I_ 0, I_ 0, S_ (⟨#[]⟩), B_ false, B_ false, .slice none 0 0, I_ 0, I_ 0]) (T := 42) (V := fun b => pt b 0) (r_alloc Ty.zv42 rfl) fun b18 w19 e20 h21 u22 => ?_))))
  have h27 := (up_ob u16 h3)
  have l28 := lsz e20 h27
  have g29 := gsz e20 M17
  have M30 := mtu M17 u22
  refine wl (ss rfl (k := 0) (v := itV (gotI L ⟨m.t, m.w⟩) (.slice A12 n13 c14)) (vs := (itC (gotI L ⟨m.t, m.w⟩) (.slice A12 n13 c14))) (cs' := (itC (gotI L ⟨m.t, m.w⟩) (.slice A12 n13 c14))) (by kernel_rfl) (by kernel_rfl) rfl Ty.sz42 h21 rfl (Nat.le_of_ble_eq_true rfl) rfl fun w31 h32 c33 => ?_)
  have M34 := mtn M30 c33 g29
  refine was (v := B_ (hasI L ⟨m.t, m.w⟩)) (wnil (then_n (wp_seq (rg_lit ?_))))
  have h35 := (chg_ob c33 (Nat.ne_of_lt l28) (up_ob u22 h27))
  refine wlv (v := opV o (.slice oA on oc)) (lds 0 Ty.ag49 Ty.sz49 h35) (wl (sca [opV o (.slice oA on oc)] En.f66 (opright_any o oA on oc hon hname _) ?_))
  rintro e w36 ⟨rfl, u37⟩
  refine ⟨_, rfl, ?_⟩
  have M38 := mtu M34 u37
  refine wmv (v := B_ (rightB o)) ?_
  refine bcase (rightB o) (fun v39 => ?_) (fun v39 => ?_)
  ·
   iterate 3 refine wls rfl v39 ?_
   refine wlv (v := B_ false) (pkF (eb v39)) (wmv (v := B_ false) ?_)
   iterate 4 refine wsp ?_
   refine wlv (v := B_ false) (pkF (by kernel_rfl)) (wmv (v := B_ false) ?_)
   iterate 5 refine wsp ?_
   refine wlv (v := B_ false) (pkF (by kernel_rfl)) (wnil (then_n (wp_cond_false (by kernel_rfl) (wp_skip ?_))))
   refine bodyPost_end (v := .tuple #[]) (res0 rfl ) (by kernel_rfl) ?_
   have zr : rightB o = false := v39
   have v40 : hitV o L m = false := by simp [hitV, zr]
   exact ⟨rfl, .inl ⟨v40, (Mod.up M38)⟩⟩
  refine wlw rfl v39 (v := pt pb 0) (fa (pt pb 0)) ?_
  have h40 := (up_ob u37 h35)
  refine wlw rfl v39 (v := I_ o.kind) (ld 0 Ty.ag3 h40) (wl (sb (wt (b := (rightB o)) rfl (by kernel_rfl) v39) (eqI o.kind 4) fun b41 k42 => wlv (v := B_ b41) (pkT (eb v39)) (wmv (v := B_ b41) ?_)))
  refine bcd k42 (fun v43 p44 => ?_) (fun v43 p44 => ?_)
  ·
   iterate 4 refine wls rfl v43 ?_
   refine wlv (v := B_ false) (pkF (eb v43)) (wmv (v := B_ false) ?_)
   iterate 5 refine wsp ?_
   refine wlv (v := B_ false) (pkF (by kernel_rfl)) (wnil (then_n (wp_cond_false (by kernel_rfl) (wp_skip ?_))))
   refine bodyPost_end (v := .tuple #[]) (res0 rfl ) (by kernel_rfl) ?_
   have zr : rightB o = true := v39
   have zk : ¬ o.kind = 4 := p44
   have v45 : hitV o L m = false := by simp [hitV, zr, zk]
   exact ⟨rfl, .inl ⟨v45, (Mod.up M38)⟩⟩
  refine wlw rfl v43 (v := pt pb 3) (fa (pt pb 0)) (wlw rfl v43 (v := .agg #[I_ o.node.t, I_ o.node.w]) (lds 3 Ty.ag24 Ty.sz24 h40) ?_)
  have h45 := md_ob M38 nin0 hb3
  refine wlw rfl v43 (v := .agg #[I_ m.t, I_ m.w]) (lds 0 Ty.ag24 Ty.sz24 h45) (wl (sb (wt (b := b41) rfl (by kernel_rfl) v43) (r_eqS (a := o.node.t) (b := o.node.w) (c := m.t) (e := m.w) (by kernel_rfl) (by kernel_rfl)) fun b46 k47 => wlv (v := B_ b46) (pkT (eb v43)) (wmv (v := B_ b46) ?_)))
  refine bcd k47 (fun v48 p49 => ?_) (fun v48 p49 => ?_)
  ·
   iterate 5 refine wls rfl v48 ?_
   refine wlv (v := B_ false) (pkF (eb v48)) (wnil (then_n (wp_cond_false (by kernel_rfl) (wp_skip ?_))))
   refine bodyPost_end (v := .tuple #[]) (res0 rfl ) (by kernel_rfl) ?_
   have zr : rightB o = true := v39
   have zk : o.kind = 4 := p44
   have zn : ¬ o.node = m := p49
   have v50 : hitV o L m = false := by simp [hitV, zr, zk, zn]
   exact ⟨rfl, .inl ⟨v50, (Mod.up M38)⟩⟩
  refine wlw rfl v48 (v := pt b18 8) (fa (pt b18 0)) ?_
  have h50 := (up_ob u37 h32)
  refine wlw rfl v48 (v := .agg #[I_ ((gotI L ⟨m.t, m.w⟩).by_.t), I_ ((gotI L ⟨m.t, m.w⟩).by_.w)]) (lds 8 Ty.ag24 Ty.sz24 h50) (wlw rfl v48 (v := pt pb 1) (fa (pt pb 0)) (wlw rfl v48 (v := .agg #[I_ o.at_.t, I_ o.at_.w]) (lds 1 Ty.ag24 Ty.sz24 h40) (wl (sb (wt (b := b46) rfl (by kernel_rfl) v48) (r_eqS (a := ((gotI L ⟨m.t, m.w⟩).by_.t)) (b := ((gotI L ⟨m.t, m.w⟩).by_.w)) (c := o.at_.t) (e := o.at_.w) (by kernel_rfl) (by kernel_rfl)) fun b51 k52 => wlv (v := B_ b51) (pkT (eb v48)) (wnil (then_n ?_))))))
  refine bcd k52 (fun v53 p54 => ?_) (fun v53 p54 => ?_)
  ·
   refine wp_cond_false (eb v53) (wp_skip ?_)
   refine bodyPost_end (v := .tuple #[]) (res0 rfl ) (by kernel_rfl) ?_
   have zr : rightB o = true := v39
   have zk : o.kind = 4 := p44
   have zn : o.node = m := p49
   have zb : ¬ (gotI L m).by_ = o.at_ := p54
   have v55 : hitV o L m = false := by simp [hitV, zr, zk, zn, zb]
   exact ⟨rfl, .inl ⟨v55, (Mod.up M38)⟩⟩
  refine wp_cond_true (eb v53) ?_
  refine rg_held [b4] (n := 10) (by kernel_rfl) rfl ?_
  intro w55 u56
  have M57 := mtu M38 u56
  refine hqk 1 9 rfl rfl (v := pt pb 1) (fun _ _ => fa (pt pb 0)) ?_
  have h58 := (up_ob u56 h40)
  refine hqk 2 8 rfl rfl (v := .agg #[I_ o.at_.t, I_ o.at_.w]) (fun _ uz => lds 1 Ty.ag24 Ty.sz24 (md_ob uz (nin1 (Nat.ne_of_gt l6)) h58)) (hqk 3 7 rfl rfl (v := pt pb 9) (fun _ _ => fa (pt pb 0)) (hqk 4 6 rfl rfl (v := .slice oA on oc) (fun _ uz => ld 9 Ty.ag40 (md_ob uz (nin1 (Nat.ne_of_gt l6)) h58)) ?_))
  refine h2a 0 5 5 rfl rfl ?_ ?_
  ·
   have h59 := md_ob M57 nin0 hb4
   refine sv rfl (v := .slice none 0 0) (ld 0 Ty.ag112 h59) ?_
   refine hx (Y := [b4]) (Mod.refl _ _) (fun y hy => .inl hy) ?_
   have h60 := (Dat.up hd (Mod.up M57))
   refine h1a 5 4 rfl (sca [.slice oA on oc] En.f122 (clone_sl h60) ?_)
   rintro e w61 ⟨A62, n63, c64, rfl, h65, u66⟩
   refine ⟨_, rfl, ?_⟩
   have M67 := mtu M57 u66
   refine hxu u66 (hqk 6 3 rfl rfl (v := .agg #[I_ o.at_.t, I_ o.at_.w, .slice A62 n63 c64]) (fun _ _ => r_build (ps := [(0, .agg #[I_ o.at_.t, I_ o.at_.w]), (1, .slice A62 n63 c64)]) (cs := [I_ o.at_.t, I_ o.at_.w, .slice A62 n63 c64]) Ty.un116 Ty.zv116 Ty.pl116 (by kernel_rfl) (by kernel_rfl)) (h1a 7 2 rfl (sn rfl (cs := #[I_ o.at_.t, I_ o.at_.w, .slice A62 n63 c64]) (T := 116) (V := fun b => sl b 0 1 1) (r_buildSlice (n := 1) (ps := [(0, .agg #[I_ o.at_.t, I_ o.at_.w, .slice A62 n63 c64])]) Ty.un112 Ty.sz116 Ty.zv116 (by decide) (by decide) (by kernel_rfl) (by kernel_rfl)) fun b68 w69 e70 h71 u72 => ?_)))
   have h73 := md_ob M67 nin0 hb3
   have l74 := lsz e70 h73
   have M82 := mtu M67 u72
   refine hxu u72 (h1a 8 1 rfl (snV rfl (b := b68) (x := o.at_.t) (y := o.at_.w) (dA := A62) (dn := n63) (dc := c64) (by kernel_rfl) (by kernel_rfl) Ty.un112 h71 fun g83 c84 w85 h86 h87 h88 h89 h90 u91 => ?_))
   have h93 := md_ob M82 nin0 hb4
   have l92 : b4 ≠ g83 := Nat.ne_of_lt (Nat.lt_of_lt_of_le (lt_ob h93) h86)
   have M94 := mtu M82 u91
   refine hxu u91 ?_
   have h95 := md_ob M94 nin0 hb4
   have hN4_b4 := NotU8.of h95 (by decide)
   refine h1a 9 0 rfl (ss rfl (k := 0) (v := .slice (some ⟨g83, 0, none⟩) 1 c84) (vs := [.slice (some ⟨g83, 0, none⟩) 1 c84]) (cs' := [.slice (some ⟨g83, 0, none⟩) 1 c84]) (by kernel_rfl) (by kernel_rfl) rfl Ty.sz112 h95 rfl (Nat.le_of_ble_eq_true rfl) rfl fun w97 h98 c99 => ?_)
   have M100 := md_old M94 c99
   obtain ⟨cg96, hcg96⟩ := h88
   have hog96 := chg_ob c99 (Ne.symm l92) hcg96
   have hcl96 : w97.cell? ⟨g83, 2, none⟩ = some (.slice A62 n63 c64) := by simp only [World.cell?, hcg96] at h89; simp only [World.cell?, hog96]; exact h89
   refine hxc c99 ?_
   refine hend (by kernel_rfl) ?_
   refine bodyPost_end (v := .tuple #[]) (res0 rfl ) (by kernel_rfl) ?_
   have h102 := (Dat.chg (Dat.up h65 (up_up u72 u91)) c99 ⟨hB4, hN4_b4⟩)
   have zr : rightB o = true := v39
   have zk : o.kind = 4 := p44
   have zn : o.node = m := p49
   have zb : (gotI L m).by_ = o.at_ := p54
   have v101 : hitV o L m = true := by simp [hitV, zr, zk, zn, zb]
   exact ⟨rfl, .inr ⟨v101, ⟨g83, c84, _, _, _, h98, l92, (lt_ob hog96), ⟨_, hog96⟩, hcl96, h102, h90⟩, (Mod.chg M100)⟩⟩
  ·
   have h59 := (Dat.up hd (Mod.up M57))
   refine sca [.slice oA on oc] En.f122 (clone_sl h59) ?_
   rintro e w60 ⟨A61, n62, c63, rfl, h64, u65⟩
   refine ⟨_, rfl, ?_⟩
   have M66 := mtu M57 u65
   refine hxu u65 (hqk 6 4 rfl rfl (v := .agg #[I_ o.at_.t, I_ o.at_.w, .slice A61 n62 c63]) (fun _ _ => r_build (ps := [(0, .agg #[I_ o.at_.t, I_ o.at_.w]), (1, .slice A61 n62 c63)]) (cs := [I_ o.at_.t, I_ o.at_.w, .slice A61 n62 c63]) Ty.un116 Ty.zv116 Ty.pl116 (by kernel_rfl) (by kernel_rfl)) ?_)
   refine h2a 0 7 3 rfl rfl ?_ ?_
   ·
    have h67 := md_ob M66 nin0 hb4
    refine sv rfl (v := .slice none 0 0) (ld 0 Ty.ag112 h67) ?_
    refine hx (Y := [b4]) (Mod.refl _ _) (fun y hy => .inl hy) ?_
    refine h1a 7 2 rfl (sn rfl (cs := #[I_ o.at_.t, I_ o.at_.w, .slice A61 n62 c63]) (T := 116) (V := fun b => sl b 0 1 1) (r_buildSlice (n := 1) (ps := [(0, .agg #[I_ o.at_.t, I_ o.at_.w, .slice A61 n62 c63])]) Ty.un112 Ty.sz116 Ty.zv116 (by decide) (by decide) (by kernel_rfl) (by kernel_rfl)) fun b68 w69 e70 h71 u72 => ?_)
    have h73 := md_ob M66 nin0 hb3
    have l74 := lsz e70 h73
    have l75 := lsz e70 h67
    have h76 := (up_ob u65 h58)
    have l77 := lsz e70 h76
    have h78 := (up_ob u65 (up_ob u56 h50))
    have l79 := lsz e70 h78
    have g80 := gsz e70 M66
    have M81 := mtu M66 u72
    refine hxu u72 (h1a 8 1 rfl (snV rfl (b := b68) (x := o.at_.t) (y := o.at_.w) (dA := A61) (dn := n62) (dc := c63) (by kernel_rfl) (by kernel_rfl) Ty.un112 h71 fun g82 c83 w84 h85 h86 h87 h88 h89 u90 => ?_))
    have h92 := md_ob M81 nin0 hb4
    have l91 : b4 ≠ g82 := Nat.ne_of_lt (Nat.lt_of_lt_of_le (lt_ob h92) h85)
    have M93 := mtu M81 u90
    refine hxu u90 ?_
    have h94 := md_ob M93 nin0 hb4
    have hN4_b4 := NotU8.of h94 (by decide)
    refine h1a 9 0 rfl (ss rfl (k := 0) (v := .slice (some ⟨g82, 0, none⟩) 1 c83) (vs := [.slice (some ⟨g82, 0, none⟩) 1 c83]) (cs' := [.slice (some ⟨g82, 0, none⟩) 1 c83]) (by kernel_rfl) (by kernel_rfl) rfl Ty.sz112 h94 rfl (Nat.le_of_ble_eq_true rfl) rfl fun w96 h97 c98 => ?_)
    have M99 := md_old M93 c98
    obtain ⟨cg95, hcg95⟩ := h87
    have hog95 := chg_ob c98 (Ne.symm l91) hcg95
    have hcl95 : w96.cell? ⟨g82, 2, none⟩ = some (.slice A61 n62 c63) := by simp only [World.cell?, hcg95] at h88; simp only [World.cell?, hog95]; exact h88
    refine hxc c98 ?_
    refine hend (by kernel_rfl) ?_
    refine bodyPost_end (v := .tuple #[]) (res0 rfl ) (by kernel_rfl) ?_
    have h101 := (Dat.chg (Dat.up h64 (up_up u72 u90)) c98 ⟨hB4, hN4_b4⟩)
    have zr : rightB o = true := v39
    have zk : o.kind = 4 := p44
    have zn : o.node = m := p49
    have zb : (gotI L m).by_ = o.at_ := p54
    have v100 : hitV o L m = true := by simp [hitV, zr, zk, zn, zb]
    exact ⟨rfl, .inr ⟨v100, ⟨g82, c83, _, _, _, h97, l91, (lt_ob hog95), ⟨_, hog95⟩, hcl95, h101, h89⟩, (Mod.chg M99)⟩⟩
   ·
    refine sn rfl (cs := #[I_ o.at_.t, I_ o.at_.w, .slice A61 n62 c63]) (T := 116) (V := fun b => sl b 0 1 1) (r_buildSlice (n := 1) (ps := [(0, .agg #[I_ o.at_.t, I_ o.at_.w, .slice A61 n62 c63])]) Ty.un112 Ty.sz116 Ty.zv116 (by decide) (by decide) (by kernel_rfl) (by kernel_rfl)) fun b67 w68 e69 h70 u71 => ?_
    have h74 := md_ob M66 nin0 hb4
    have l75 := lsz e69 h74
    have h76 := (up_ob u65 h58)
    have l77 := lsz e69 h76
    have h78 := (up_ob u65 (up_ob u56 h50))
    have l79 := lsz e69 h78
    have g80 := gsz e69 M66
    have M81 := mtu M66 u71
    refine hxu u71 ?_
    have h82 := md_ob M81 nin0 hb4
    refine h1a 0 2 rfl (sv rfl (v := .slice none 0 0) (ld 0 Ty.ag112 h82) ?_)
    refine hx (Y := [b4]) (Mod.refl _ _) (fun y hy => .inl hy) ?_
    refine h1a 8 1 rfl (snV rfl (b := b67) (x := o.at_.t) (y := o.at_.w) (dA := A61) (dn := n62) (dc := c63) (by kernel_rfl) (by kernel_rfl) Ty.un112 h70 fun g83 c84 w85 h86 h87 h88 h89 h90 u91 => ?_)
    have l92 : b4 ≠ g83 := Nat.ne_of_lt (Nat.lt_of_lt_of_le (lt_ob h82) h86)
    have M93 := mtu M81 u91
    refine hxu u91 ?_
    have h94 := md_ob M93 nin0 hb4
    have hN4_b4 := NotU8.of h94 (by decide)
    refine h1a 9 0 rfl (ss rfl (k := 0) (v := .slice (some ⟨g83, 0, none⟩) 1 c84) (vs := [.slice (some ⟨g83, 0, none⟩) 1 c84]) (cs' := [.slice (some ⟨g83, 0, none⟩) 1 c84]) (by kernel_rfl) (by kernel_rfl) rfl Ty.sz112 h94 rfl (Nat.le_of_ble_eq_true rfl) rfl fun w96 h97 c98 => ?_)
    have M99 := md_old M93 c98
    obtain ⟨cg95, hcg95⟩ := h88
    have hog95 := chg_ob c98 (Ne.symm l92) hcg95
    have hcl95 : w96.cell? ⟨g83, 2, none⟩ = some (.slice A61 n62 c63) := by simp only [World.cell?, hcg95] at h89; simp only [World.cell?, hog95]; exact h89
    refine hxc c98 ?_
    refine hend (by kernel_rfl) ?_
    refine bodyPost_end (v := .tuple #[]) (res0 rfl ) (by kernel_rfl) ?_
    have h101 := (Dat.chg (Dat.up h64 (up_up u71 u91)) c98 ⟨hB4, hN4_b4⟩)
    have zr : rightB o = true := v39
    have zk : o.kind = 4 := p44
    have zn : o.node = m := p49
    have zb : (gotI L m).by_ = o.at_ := p54
    have v100 : hitV o L m = true := by simp [hitV, zr, zk, zn, zb]
    exact ⟨rfl, .inr ⟨v100, ⟨g83, c84, _, _, _, h97, l92, (lt_ob hog95), ⟨_, hog95⟩, hcl95, h101, h90⟩, (Mod.chg M99)⟩⟩
set_option maxHeartbeats 2000000 in
theorem vers0_at {B : Nat} {w : World} {tb r b3 b4 : Nat} {L : List Item} {m : Stamp} (h : TreeIs B w tb r L) (o : OpD) (oA : Option Addr) (on oc : Nat) (hon : o.data.length = on) (hname : o.name.size ≤ 9223372036854775807)
    (hb3 : w.heap[b3]? = some (.cells #[.int .i64 m.t, .int .i64 m.w] 24 (0, 0))) (hz : hitV o L m = false) :
    Calls Tryz.prog 128 #[opV o (.slice oA on oc), trP tb, .pointer (some ⟨b3, 0, none⟩), .pointer (some ⟨b4, 0, none⟩)] w fun e w' => e = .returned (.tuple #[]) ∧ Up w w' := by
  go_enter Tryz.func128, Tryz.ntmps128
  refine wp_seq (rg_lit (wl (sn rfl (cs := (opC o (.slice oA on oc)).toArray) (T := 49) (V := fun b => pt b 0) (r_box (v := opV o (.slice oA on oc)) (by kernel_rfl) rfl) fun pb w1 e2 h3 u4 => ?_)))
  have M7 := mtu (Mod.refl [] w) u4
  refine wnil (then_n (wp_seq (rg_lit (wmv (v := pt tb 0) ?_))))
  have h8 := md_ob M7 nin0 hb3
  refine wlv (v := .agg #[I_ m.t, I_ m.w]) (lds 0 Ty.ag24 Ty.sz24 h8) ?_
  have h9 := (TreeIs.up h (Mod.up M7))
  refine wl (sca [pt tb 0, .agg #[I_ m.t, I_ m.w]] En.f20 (get_x h9 ⟨m.t, m.w⟩ (x := (gotI L ⟨m.t, m.w⟩)) (b := (hasI L ⟨m.t, m.w⟩)) rfl rfl) ?_)
  rintro e w10 ⟨A11, n12, c13, rfl, h14, u15⟩
  refine ⟨_, rfl, ?_⟩
  have M16 := mtu M7 u15
  refine wmv (v := .tuple #[itV (gotI L ⟨m.t, m.w⟩) (.slice A11 n12 c13), B_ (hasI L ⟨m.t, m.w⟩)]) (wlv (v := itV (gotI L ⟨m.t, m.w⟩) (.slice A11 n12 c13)) (xt [itV (gotI L ⟨m.t, m.w⟩) (.slice A11 n12 c13), B_ (hasI L ⟨m.t, m.w⟩)]) (wlv (v := B_ (hasI L ⟨m.t, m.w⟩)) (xt [itV (gotI L ⟨m.t, m.w⟩) (.slice A11 n12 c13), B_ (hasI L ⟨m.t, m.w⟩)]) (wl (sn rfl (cs := #[I_ 0, I_ 0, I_ 0, I_ 0, S_ (⟨#[]⟩), B_ false, B_ false, .slice none 0 0, I_ 0, I_ 0]) (T := 42) (V := fun b => pt b 0) (r_alloc Ty.zv42 rfl) fun b17 w18 e19 h20 u21 => ?_))))
  have h24 := (up_ob u15 h3)
  have l25 := lsz e19 h24
  have g26 := gsz e19 M16
  have M27 := mtu M16 u21
  refine wl (ss rfl (k := 0) (v := itV (gotI L ⟨m.t, m.w⟩) (.slice A11 n12 c13)) (vs := (itC (gotI L ⟨m.t, m.w⟩) (.slice A11 n12 c13))) (cs' := (itC (gotI L ⟨m.t, m.w⟩) (.slice A11 n12 c13))) (by kernel_rfl) (by kernel_rfl) rfl Ty.sz42 h20 rfl (Nat.le_of_ble_eq_true rfl) rfl fun w28 h29 c30 => ?_)
  have M31 := mtn M27 c30 g26
  refine was (v := B_ (hasI L ⟨m.t, m.w⟩)) (wnil (then_n (wp_seq (rg_lit ?_))))
  have h32 := (chg_ob c30 (Nat.ne_of_lt l25) (up_ob u21 h24))
  refine wlv (v := opV o (.slice oA on oc)) (lds 0 Ty.ag49 Ty.sz49 h32) (wl (sca [opV o (.slice oA on oc)] En.f66 (opright_any o oA on oc hon hname _) ?_))
  rintro e w33 ⟨rfl, u34⟩
  refine ⟨_, rfl, ?_⟩
  have M35 := mtu M31 u34
  refine wmv (v := B_ (rightB o)) ?_
  refine bcase (rightB o) (fun v36 => ?_) (fun v36 => ?_)
  ·
   iterate 3 refine wls rfl v36 ?_
   refine wlv (v := B_ false) (pkF (eb v36)) (wmv (v := B_ false) ?_)
   iterate 4 refine wsp ?_
   refine wlv (v := B_ false) (pkF (by kernel_rfl)) (wmv (v := B_ false) ?_)
   iterate 5 refine wsp ?_
   refine wlv (v := B_ false) (pkF (by kernel_rfl)) (wnil (then_n (wp_cond_false (by kernel_rfl) (wp_skip ?_))))
   refine bodyPost_end (v := .tuple #[]) (res0 rfl ) (by kernel_rfl) ?_
   exact ⟨rfl, (Mod.up M35)⟩
  refine wlw rfl v36 (v := pt pb 0) (fa (pt pb 0)) ?_
  have h37 := (up_ob u34 h32)
  refine wlw rfl v36 (v := I_ o.kind) (ld 0 Ty.ag3 h37) (wl (sb (wt (b := (rightB o)) rfl (by kernel_rfl) v36) (eqI o.kind 4) fun b38 k39 => wlv (v := B_ b38) (pkT (eb v36)) (wmv (v := B_ b38) ?_)))
  refine bcd k39 (fun v40 p41 => ?_) (fun v40 p41 => ?_)
  ·
   iterate 4 refine wls rfl v40 ?_
   refine wlv (v := B_ false) (pkF (eb v40)) (wmv (v := B_ false) ?_)
   iterate 5 refine wsp ?_
   refine wlv (v := B_ false) (pkF (by kernel_rfl)) (wnil (then_n (wp_cond_false (by kernel_rfl) (wp_skip ?_))))
   refine bodyPost_end (v := .tuple #[]) (res0 rfl ) (by kernel_rfl) ?_
   exact ⟨rfl, (Mod.up M35)⟩
  refine wlw rfl v40 (v := pt pb 3) (fa (pt pb 0)) (wlw rfl v40 (v := .agg #[I_ o.node.t, I_ o.node.w]) (lds 3 Ty.ag24 Ty.sz24 h37) ?_)
  have h42 := md_ob M35 nin0 hb3
  refine wlw rfl v40 (v := .agg #[I_ m.t, I_ m.w]) (lds 0 Ty.ag24 Ty.sz24 h42) (wl (sb (wt (b := b38) rfl (by kernel_rfl) v40) (r_eqS (a := o.node.t) (b := o.node.w) (c := m.t) (e := m.w) (by kernel_rfl) (by kernel_rfl)) fun b43 k44 => wlv (v := B_ b43) (pkT (eb v40)) (wmv (v := B_ b43) ?_)))
  refine bcd k44 (fun v45 p46 => ?_) (fun v45 p46 => ?_)
  ·
   iterate 5 refine wls rfl v45 ?_
   refine wlv (v := B_ false) (pkF (eb v45)) (wnil (then_n (wp_cond_false (by kernel_rfl) (wp_skip ?_))))
   refine bodyPost_end (v := .tuple #[]) (res0 rfl ) (by kernel_rfl) ?_
   exact ⟨rfl, (Mod.up M35)⟩
  refine wlw rfl v45 (v := pt b17 8) (fa (pt b17 0)) ?_
  have h47 := (up_ob u34 h29)
  refine wlw rfl v45 (v := .agg #[I_ ((gotI L ⟨m.t, m.w⟩).by_.t), I_ ((gotI L ⟨m.t, m.w⟩).by_.w)]) (lds 8 Ty.ag24 Ty.sz24 h47) (wlw rfl v45 (v := pt pb 1) (fa (pt pb 0)) (wlw rfl v45 (v := .agg #[I_ o.at_.t, I_ o.at_.w]) (lds 1 Ty.ag24 Ty.sz24 h37) (wl (sb (wt (b := b43) rfl (by kernel_rfl) v45) (r_eqS (a := ((gotI L ⟨m.t, m.w⟩).by_.t)) (b := ((gotI L ⟨m.t, m.w⟩).by_.w)) (c := o.at_.t) (e := o.at_.w) (by kernel_rfl) (by kernel_rfl)) fun b48 k49 => wlv (v := B_ b48) (pkT (eb v45)) (wnil (then_n ?_))))))
  refine bcd k49 (fun v50 p51 => ?_) (fun v50 p51 => ?_)
  ·
   refine wp_cond_false (eb v50) (wp_skip ?_)
   refine bodyPost_end (v := .tuple #[]) (res0 rfl ) (by kernel_rfl) ?_
   exact ⟨rfl, (Mod.up M35)⟩
  exfalso
  have zr : rightB o = true := v36
  have zk : o.kind = 4 := p41
  have zn : o.node = m := p46
  have zb : (gotI L m).by_ = o.at_ := p51
  simp [hitV, zr, zk, zn, zb] at hz
end Go.Proofs.YtefhfoioeoijlaaGreatDoor
set_option linter.unusedVariables false
set_option linter.unusedSimpArgs false
namespace Go.Proofs.YtefhfoioeoijlaaGreatDoor
open Go Go.RowKit Go.Sort
theorem hit_1 : hitV vo1 ((vos.take 1).foldl playI []) ⟨1, 1⟩ = false := by kernel_rfl
theorem hit_2 : hitV vo2 ((vos.take 2).foldl playI []) ⟨1, 1⟩ = true := by kernel_rfl
theorem hit_3 : hitV vo3 ((vos.take 3).foldl playI []) ⟨1, 1⟩ = false := by kernel_rfl
theorem versK_at {B : Nat} {w : World} {tb r b3 b4 k : Nat} {o : OpD} (hk : vos[k]? = some o) (h : TreeIs B w tb r ((vos.take (k + 1)).foldl playI [])) (oA : Option Addr) (on oc : Nat) (hd : Dat B w (.slice oA on oc) o.data)
    (hb3 : w.heap[b3]? = some (.cells #[.int .i64 1, .int .i64 1] 24 (0, 0))) (hst : VSt B w b4 (decide (1 < k))) (h34 : b3 ≠ b4) (hB4 : B ≤ b4) :
    Calls Tryz.prog 128 #[opV o (.slice oA on oc), trP tb, .pointer (some ⟨b3, 0, none⟩), .pointer (some ⟨b4, 0, none⟩)] w fun e w' => e = .returned (.tuple #[]) ∧ VSt B w' b4 (decide (1 < k + 1)) ∧ Chg w w' b4 := by
  have hn := vos_names o (List.mem_of_getElem? hk)
  match k, hk with
  | 0, hk =>
    simp [vos] at hk; subst hk
    refine (vers0_at (m := ⟨1, 1⟩) h vo1 oA on oc (Dat.len hd).1 hn hb3 hit_1).mono fun e w' ⟨h1, u⟩ => ⟨h1, VSt.up hst u, to_chg u b4⟩
  | 1, hk =>
    simp [vos] at hk; subst hk
    refine (vers1_at (m := ⟨1, 1⟩) h vo2 oA on oc hd (Dat.len hd).1 hn hb3 hst h34 hB4).mono fun e w' ⟨h1, h2⟩ => ?_
    rcases h2 with ⟨h2, _⟩ | ⟨_, h3, c⟩
    · rw [show ((vos.take (1 + 1)).foldl playI []) = ((vos.take 2).foldl playI []) from rfl, hit_2] at h2; cases h2
    · exact ⟨h1, h3, c⟩
  | 2, hk =>
    simp [vos] at hk; subst hk
    refine (vers0_at (m := ⟨1, 1⟩) h vo3 oA on oc (Dat.len hd).1 hn hb3 hit_3).mono fun e w' ⟨h1, u⟩ => ⟨h1, VSt.up hst u, to_chg u b4⟩
  | k + 3, hk => simp [vos] at hk
theorem vsort_at {B : Nat} {w : World} {lA : Option Addr} {lc : Nat} (h : OpRow B w lA vos) (hB : B ≤ w.heap.size) :
    Calls Tryz.prog 56 #[.slice lA 3 lc] w fun e w' => ∃ A c, e = .returned (.slice A 3 c) ∧ ORow 49 B w.heap.size w' (.slice A 3 c) vos ∧ Up w w' := by
  have h1 := orow_sl (opsort_at (os := vos) (lc := lc) h hB (by decide))
  rw [vos_sort] at h1
  exact h1
theorem TreeIs.mapr {B : Nat} {w : World} {tb r : Nat} {L : List Item} (h : TreeIs B w tb r L) : ∀ cs T fr, w.heap[r]? ≠ some (.cells cs T fr) := by
  obtain ⟨es, cl, xs, hr, _⟩ := h.2.2.2.1
  intro cs T fr e
  rw [hr] at e; cases e
theorem tree_next {B : Nat} {w : World} {tb r k : Nat} {o : OpD} (hk : vos[k]? = some o) (h : TreeIs B w tb r (playI ((vos.take k).foldl playI []) o)) : TreeIs B w tb r ((vos.take (k + 1)).foldl playI []) := by
  rw [tkO hk, List.foldl_append]; exact h
theorem TreeIs.chgV {B : Nat} {w w' : World} {tb r b : Nat} {L : List Item} (h : TreeIs B w tb r L) (c : Chg w w' b) (hc : B ≤ b ∧ NotU8 w b) (h1 : tb ≠ b) (h2 : r ≠ b) : TreeIs B w' tb r L := by
  obtain ⟨k1, k2, k3, k4, k5⟩ := h
  exact ⟨chg_ob c h1 k1, k2, k3, k4.grown c hc.1 h2 hc.2, k5⟩
end Go.Proofs.YtefhfoioeoijlaaGreatDoor
set_option linter.unusedVariables false
set_option linter.unusedSimpArgs false
namespace Go.Proofs.YtefhfoioeoijlaaGreatDoor
open Go Go.RowKit Go.Sort
set_option maxHeartbeats 2000000 in
theorem each_at {B : Nat} {w : World} {lA : Option Addr} {lc b3 b4 : Nat} (h : OpRow B w lA vos) (hB : B ≤ w.heap.size) (hb3 : w.heap[b3]? = some (.cells #[.int .i64 1, .int .i64 1] 24 (0, 0))) (hst : VSt B w b4 false) (h34 : b3 ≠ b4) (hB4 : B ≤ b4) :
    Calls Tryz.prog 127 #[.slice lA 3 lc, .func (.func 128) #[] #[.pointer (some ⟨b3, 0, none⟩), .pointer (some ⟨b4, 0, none⟩)]] w fun e w' => ∃ v, e = .returned v ∧ VSt B w' b4 true ∧ Chg w w' b4 := by
  go_enter Tryz.func127, Tryz.ntmps127
  refine wp_seq (rg_lit (was (v := .pointer none) (wnil (then_n (wp_seq (rg_lit (wl (sca [] En.f30 (tnew_any (Nat.le_trans hB (Mod.refl [] w).size)) ?_))))))))
  rintro e w1 ⟨tb, r, rfl, h2, u3, z4, z5⟩
  refine ⟨_, rfl, ?_⟩
  have hgr : w.heap.size ≤ r := Nat.le_trans (Mod.refl [] w).size z5
  have hgt : w.heap.size ≤ tb := Nat.le_trans (Mod.refl [] w).size z4
  have hl4r : b4 < r := Nat.lt_of_lt_of_le hst.lt.1 hgr
  have hl4t : b4 < tb := Nat.lt_of_lt_of_le hst.lt.1 hgt
  have M6 := mtu (Mod.refl [] w) u3
  refine was (v := pt tb 0) (wnil (then_n (wp_seq (wp_seq (rg_lit (wmv (v := .slice lA 3 lc) ?_))))))
  have h7 := (OpRow.up h (Mod.up M6))
  have hlr : r < w1.heap.size := by obtain ⟨_, _, _, hx, _⟩ := h2.2.2.2.1; exact lt_ob hx
  have hl4 : b4 < w1.heap.size := Nat.lt_of_lt_of_le hst.lt.1 M6.size
  refine wl (sca [.slice lA 3 lc] En.f56 (vsort_at h7 (Nat.le_trans hB M6.size)) ?_)
  rintro e w8 ⟨sA, sCp, rfl, h11, u12⟩
  refine ⟨_, rfl, ?_⟩
  have M14 := mtu M6 u12
  refine wlv (v := I_ 3) (ln sA 3 sCp Ty.un22) (wmv (v := I_ 0) (wnil (then_n (wp_block ?_))))
  have h15 := md_ob M14 nin0 hb3
  have h16 := (TreeIs.up h2 u12)
  have h17 := (VSt.up hst (up_up u3 u12))
  refine lp (fun n a r1 => ∃ (kk : Nat) (z7 z13 z14 z15 z16 z17 z18 z19 z20 z21 z22 z23 : Value), (n = 3 - kk) ∧ (a = ⟨#[.slice lA 3 lc, .func (.func 128) #[] #[pt b3 0, pt b4 0], ud, ud, .pointer none, pt tb 0, ud, z7, pt tb 0, .slice lA 3 lc, .slice sA 3 sCp, I_ 3, I_ kk, z13, z14, z15, z16, z17, z18, z19, z20, z21, z22, z23, ud], []⟩) ∧ (Mod [b4] w r1) ∧ (kk ≤ 3) ∧ (TreeIs B r1 tb r ((vos.take kk).foldl playI [])) ∧ (ORow 49 B w1.heap.size r1 (.slice sA 3 sCp) vos) ∧ (VSt B r1 b4 (decide (1 < kk))) ∧ (r1.heap[b3]? = some (.cells #[I_ 1, I_ 1] 24 (0, 0)))) ⟨_, 0, ud, ud, ud, ud, ud, ud, ud, ud, ud, ud, ud, ud, rfl, (by kernel_rfl), (Mod.of_up (X := [b4]) (Mod.up M14)), (Nat.zero_le _), h16, h11, h17, h15⟩ ?_
  rintro _ _ r1 ⟨kk, z7, z13, z14, z15, z16, z17, z18, z19, z20, z21, z22, z23, rfl, rfl, hU1, hF1_0, hF1_1, hF1_2, hF1_3, hF1_4⟩
  obtain ⟨eshr18, clhr18, xshr18, hr18, _⟩ := hF1_1.2.2.2.1
  refine wp_seq (rg_lit (wl (sb rfl (ltI kk 3) fun b19 k20 => wnil (then_n (wp_seq ?_)))))
  refine bcd k20 (fun v21 p22 => ?_) (fun v21 p22 => ?_)
  ·
   refine wp_cond_false (eb v21) (wp_exit (then_x (by nofun) (then_x (by nofun) (inb_hit (then_n (wp_seq (rg_lit (wmv (v := pt tb 0) (was (v := pt tb 0) (wnil (then_n (wp_ret ?_))))))))))))
   refine br1 (v := pt tb 0) rfl ?_
   obtain rfl : kk = 3 := by omega
   exact ⟨_, rfl, hF1_3, (Mod.chg hU1)⟩
  refine wp_cond_true (eb v21) (wp_skip (then_n (wp_seq (wp_block (wp_seq (rg_lit ?_))))))
  obtain ⟨o23, ho23⟩ : ∃ x, vos[kk]? = some x := ⟨_, List.getElem?_eq_getElem (show kk < 3 by omega)⟩
  obtain ⟨g23, cp23, cu23, dA23, dn23, dc23, hA23, hg23, hb23, he23, hD23⟩ := ORow.get hF1_2 ho23
  injection hA23 with hA23 _ _
  replace he23 : (cu23.toList.drop (0 + kk * 10)).take 10 = opC o23 (.slice dA23 dn23 dc23) := by rw [Nat.zero_add]; exact he23
  refine wlv (v := pt g23 (0 + kk * 10)) (ixa 3 sCp 10 kk hA23 Ty.un22 Ty.sz49) (wlv (v := opV o23 (.slice dA23 dn23 dc23)) (r_loads (k := 0 + kk * 10) (by kernel_rfl) Ty.ag49 Ty.sz49 hb23 (el_sub0 he23 rfl)) (wl (sn rfl (cs := #[I_ 0, I_ 0, I_ 0, I_ 0, I_ 0, I_ 0, I_ 0, B_ false, S_ (⟨#[]⟩), .slice none 0 0]) (T := 49) (V := fun b => pt b 0) (r_alloc Ty.zv49 rfl) fun b24 w25 e26 h27 u28 => ?_)))
  have l29 := lsz e26 hr18
  have l30 := lsz e26 hF1_4
  have g32 := gsz e26 hU1
  have M33 := mtu hU1 u28
  refine wl (ss rfl (k := 0) (v := opV o23 (.slice dA23 dn23 dc23)) (vs := (opC o23 (.slice dA23 dn23 dc23))) (cs' := (opC o23 (.slice dA23 dn23 dc23))) (by kernel_rfl) (by kernel_rfl) rfl Ty.sz49 h27 rfl (Nat.le_of_ble_eq_true rfl) rfl fun w34 h35 c36 => ?_)
  have M37 := mtn M33 c36 g32
  refine wnil (then_n (wp_seq (rg_lit (wmv (v := pt tb 0) (wlv (v := opV o23 (.slice dA23 dn23 dc23)) (lds 0 Ty.ag49 Ty.sz49 h35) ?_)))))
  have h38 := (TreeIs.up hF1_1 (up_chgn u28 c36 (by rw [e26]; exact Nat.le_refl _)))
  have h39 := (Dat.up hD23 (up_chgn u28 c36 (by rw [e26]; exact Nat.le_refl _)))
  have h47 := (chg_ob c36 (Nat.ne_of_lt l29) (up_ob u28 hr18))
  have h48 := (chg_ob c36 (Nat.ne_of_lt l30) (up_ob u28 hF1_4))
  refine wl (sca [pt tb 0, opV o23 (.slice dA23 dn23 dc23)] En.f22 (do_x (L' := (playI ((vos.take kk).foldl playI []) o23)) h38 (Nat.le_trans hB M37.size) o23 dA23 dn23 dc23 h39 (vos_names _ (List.mem_of_getElem? ho23)) rfl) ?_)
  rintro e w40 ⟨A41, n42, c43, rfl, h44, h45, u46⟩
  refine ⟨_, rfl, ?_⟩
  have M50 := mtn M37 u46 hgr
  have h51 := tree_next ho23 h45
  obtain ⟨eshr52, clhr52, xshr52, hr52, _⟩ := h51.2.2.2.1
  refine wnil (then_n (rg_lit (wmv (v := .func (.func 128) #[] #[pt b3 0, pt b4 0]) ?_)))
  have h53 := (chg_ob u46 (Nat.ne_of_gt l29) h35)
  refine wlv (v := opV o23 (.slice dA23 dn23 dc23)) (lds 0 Ty.ag49 Ty.sz49 h53) (wmv (v := pt tb 0) ?_)
  have h54 := (Dat.chg h39 u46 ⟨h38.2.2.1, NotU8.map h47⟩)
  have h55 := (VSt.chg (VSt.up hF1_3 (up_chgn u28 c36 (by rw [e26]; exact Nat.le_refl _))) u46 ⟨h38.2.2.1, NotU8.map h47⟩ (Nat.ne_of_lt hl4r) h38.mapr)
  have h56 := (chg_ob u46 (Nat.ne_of_lt (Nat.lt_of_lt_of_le (lt_ob hb3) hgr)) h48)
  have n60 := h55.lt.2
  refine wl (sc rfl (r_callv (caps := [pt b3 0, pt b4 0]) (all := [opV o23 (.slice dA23 dn23 dc23), pt tb 0, pt b3 0, pt b4 0]) En.f128 (by kernel_rfl) (by kernel_rfl)) (versK_at ho23 h51 dA23 dn23 dc23 h54 h56 h55 h34 hB4) ?_)
  rintro e w57 ⟨rfl, h58, u59⟩
  refine ⟨_, rfl, ?_⟩
  have M61 := mtx M50 u59
  refine wnil (inb_n (then_n (rg_lit (wlv (v := I_ ((kk + 1 : Nat) : Int)) (adI (c := ((kk + 1 : Nat) : Int)) kk 1 ((IntWalk.i64_in _ (by omega)).trans (by omega))) (wmv (v := I_ ((kk + 1 : Nat) : Int)) (wnil (then_n ?_)))))))
  have h62 := (TreeIs.chgV h51 u59 ⟨hB4, n60⟩ (Nat.ne_of_gt hl4t) (Nat.ne_of_gt hl4r))
  have h63 := (ORow.chgn (ORow.chgn (ORow.up hF1_2 (up_chgn u28 c36 (by rw [e26]; exact Nat.le_refl _))) u46 ⟨h38.2.2.1, NotU8.map h47⟩ (ORow.ne_old (ORow.up hF1_2 (up_chgn u28 c36 (by rw [e26]; exact Nat.le_refl _))) hlr)) u59 ⟨hB4, n60⟩ (ORow.ne_old (ORow.chgn (ORow.up hF1_2 (up_chgn u28 c36 (by rw [e26]; exact Nat.le_refl _))) u46 ⟨h38.2.2.1, NotU8.map h47⟩ (ORow.ne_old (ORow.up hF1_2 (up_chgn u28 c36 (by rw [e26]; exact Nat.le_refl _))) hlr)) hl4))
  have h64 := (chg_ob u59 h34 h56)
  refine ⟨3 - (kk + 1), ?_, (kk + 1), pt b24 0, B_ b19, pt g23 (0 + kk * 10), opV o23 (.slice dA23 dn23 dc23), pt tb 0, opV o23 (.slice dA23 dn23 dc23), .tuple #[.agg #[I_ ((doI ((vos.take kk).foldl playI []) o23).1.1.node.t), I_ ((doI ((vos.take kk).foldl playI []) o23).1.1.node.w), I_ ((doI ((vos.take kk).foldl playI []) o23).1.1.parent.t), I_ ((doI ((vos.take kk).foldl playI []) o23).1.1.parent.w), S_ ((doI ((vos.take kk).foldl playI []) o23).1.1.name), B_ ((doI ((vos.take kk).foldl playI []) o23).1.1.dir), B_ ((doI ((vos.take kk).foldl playI []) o23).1.1.gone), .slice A41 n42 c43, I_ ((doI ((vos.take kk).foldl playI []) o23).1.1.by_.t), I_ ((doI ((vos.take kk).foldl playI []) o23).1.1.by_.w)], B_ ((doI ((vos.take kk).foldl playI []) o23).1.2.1), I_ ((doI ((vos.take kk).foldl playI []) o23).1.2.2)], .func (.func 128) #[] #[pt b3 0, pt b4 0], opV o23 (.slice dA23 dn23 dc23), pt tb 0, ud, I_ ((kk + 1 : Nat) : Int), rfl, (by kernel_rfl), M61, (by omega), h62, h63, h58, h64⟩
  · omega
end Go.Proofs.YtefhfoioeoijlaaGreatDoor
set_option linter.unusedVariables false
set_option linter.unusedSimpArgs false
namespace Go.Proofs.YtefhfoioeoijlaaGreatDoor
open Go Go.RowKit Go.Sort
def VGot (B : Nat) (w : World) (g : Nat) : Prop := ∃ dA dn dc, (∃ cs, w.heap[g]? = some (.cells cs 116 (0, 0))) ∧ w.cell? ⟨g, 2, none⟩ = some (.slice dA dn dc) ∧ Dat B w (.slice dA dn dc) [120]
theorem VGot.up {B g : Nat} {w w' : World} (h : VGot B w g) (u : Up w w') : VGot B w' g := by
  obtain ⟨dA, dn, dc, ⟨cs, h1⟩, h2, h3⟩ := h
  exact ⟨dA, dn, dc, ⟨cs, up_ob u h1⟩, (u.cell (p := ⟨g, 2, none⟩) (lt_ob h1)).trans h2, h3.up u⟩
theorem VOne.got {B b4 : Nat} {w : World} (h : VOne B w b4 [120]) : ∃ g c, w.heap[b4]? = some (.cells #[.slice (some ⟨g, 0, none⟩) 1 c] 112 (0, 0)) ∧ VGot B w g ∧ b4 ≠ g ∧ 1 ≤ c := by
  obtain ⟨g, c, dA, dn, dc, h1, h2, h3, h4, h5, h6, h7⟩ := h
  exact ⟨g, c, h1, ⟨dA, dn, dc, h4, h5, h6⟩, h2, h7⟩
theorem VGot.chg {B g b : Nat} {w w' : World} (h : VGot B w g) (c : Chg w w' b) (hd : B ≤ b ∧ NotU8 w b) (hg : b ≠ g) : VGot B w' g := by
  obtain ⟨dA, dn, dc, ⟨cs, h1⟩, h2, h3⟩ := h
  have h4 := chg_ob c (Ne.symm hg) h1
  refine ⟨dA, dn, dc, ⟨cs, h4⟩, ?_, h3.chg c hd⟩
  simp only [World.cell?, h1] at h2
  simp only [World.cell?, h4]; exact h2
theorem Dat.ats {B : Nat} {w : World} {A : Option Addr} {n c : Nat} {xs : List Int} (h : Dat B w (.slice A n c) xs) (h0 : 0 < xs.length) : xs.length = n ∧ ∃ b o, A = some ⟨b, o, none⟩ ∧ ∀ i, i < n → w.cell? ⟨b, o + i, none⟩ = some (.int .u8 (xs.getD i 0)) := by
  obtain ⟨A', n', c', e, h1, h2, h3, h4, h5⟩ := h
  injection e with e1 e2 e3
  subst e1 e2 e3
  obtain ⟨b, o, e, _, _, hc⟩ := h5 (by omega)
  exact ⟨h1, b, o, e, hc⟩
theorem r_convD {ρ : Operand → Value} {w : World} {d : Option Tmp} {ty : TypeId} {pos : String} {af : Array Edge} {gd : Option (Nat × Bool)} {t t2 : TypeId} {x : Operand} {B : Nat} {A : Option Addr} {n c : Nat} {xs : List Int} {s : ByteArray} (hx : ρ x = .slice A n c) (h : Dat B w (.slice A n c) xs) (h0 : 0 < xs.length) (hs : strOfNums xs = s)
    (ht : Tryz.prog.underlying t = some (.slice 5)) (ht2 : Tryz.prog.underlying t2 = some .string) : (execOp ρ ⟨d, .convert t t2 x, ty, pos, af, gd⟩).run Tryz.prog w = .ok (.value (.string s)) w := by
  obtain ⟨h1, b, o, e, hc⟩ := h.ats h0
  have hr := run_convert_bytes_arg (P := Tryz.prog) w t 5 ht (by kernel_rfl) b o n c xs h1 hc t2 ht2
  rw [hs] at hr
  rw [e] at hx
  simp [execOp, hx, hr]
theorem OpRow.chgV {B : Nat} {w w' : World} {g b : Nat} {os : List OpD} (h : OpRow B w (some ⟨g, 0, none⟩) os) (c : Chg w w' b) (hd : B ≤ b ∧ NotU8 w b) (hne : g ≠ b) : OpRow B w' (some ⟨g, 0, none⟩) os := fun i o ho => by
  obtain ⟨g', f, oA, on, oc, hA, hg, hc, hD, hs⟩ := h i o ho
  have hA2 := hA
  injection hA with hA
  injection hA with e1 e2 _
  subst e1 e2
  exact ⟨g, 0, oA, on, oc, rfl, Nat.lt_of_lt_of_le hg c.size, fun j v hj => by
    have h1 := hc j v hj
    simp only [World.cell?] at h1 ⊢
    rw [c.block g hg (fun e => hne (Option.some.inj e))]; exact h1, hD.chg c hd, hs⟩
theorem sFz {ops : Array Oper} {Q : Exit → Act → World → Prop} {a : Act} {w : World} {J : Act → World → Prop} {d : Option Tmp} {ty : TypeId} {pos : String} {af : Array Edge} {gd : Option (Nat × Bool)} {t : TypeId} {x : Operand} {b n c : Nat} {C : Array Value}
    (hw : Region.wanted (⟨d, .convert t t x, ty, pos, af, gd⟩ : Oper) (yielded ops a.tmps) = true) (hx : a.eval x = .slice (some ⟨b, 0, none⟩) n c) (ht : Tryz.prog.underlying t = some (.slice 5)) (hb : w.heap[b]? = some (.cells C 5 (0, 0)))
    (k : ∀ w', w'.heap[b]? = some (.cells C 5 (C.size, C.size + 1)) → Chg w w' b → J (a.put d (.slice (some ⟨b, 0, none⟩) n c)) w') : St1 Tryz.prog ops Q ⟨d, .convert t t x, ty, pos, af, gd⟩ J a w := by
  have hsh : w.shape? b = some (5, C.size) := by unfold World.shape?; rw [hb]
  have he : Tryz.prog.underlying 5 = some (.int .u8) := by kernel_rfl
  refine sv hw (w' := w.freeze ⟨b, C.size, none⟩ 1) ?_ (k _ ?_ ?_)
  · simp [execOp, hx, convert, run_underlying ht, run_underlying he, markStringish, hsh]
  · unfold World.freeze
    rw [if_neg (by decide)]
    simp only [Array.getElem?_modify, if_pos, hb]; rfl
  · unfold World.freeze
    rw [if_neg (by decide)]
    refine ⟨rfl, rfl, rfl, by simp, fun j hj hn => ?_⟩
    simp only [Array.getElem?_modify]
    rw [if_neg (fun e => hn (by rw [← e]))]
theorem v_has : hasI (buildI [vo1, vo2]) ⟨1, 1⟩ = true := by kernel_rfl
theorem v_name : (gotI (buildI [vo1, vo2]) ⟨1, 1⟩).name = ⟨#[97]⟩ := by kernel_rfl
theorem v_bytes : ((bytesI (buildI vos) (buildI vos) : Nat) : Int) = 1 := by kernel_rfl
end Go.Proofs.YtefhfoioeoijlaaGreatDoor
set_option linter.unusedVariables false
set_option linter.unusedSimpArgs false
namespace Go.Proofs.YtefhfoioeoijlaaGreatDoor
open Go Go.RowKit Go.Sort
set_option maxHeartbeats 2000000 in
theorem versions_at {B : Nat} {w : World} {lA : Option Addr} {lc : Nat} (h : OpRow B w lA vos) (hB : B ≤ w.heap.size) :
    Calls Tryz.prog 71 #[.slice lA 3 lc, .agg #[.int .i64 1, .int .i64 1]] w fun e w' => ∃ g c, e = .returned (.slice (some ⟨g, 0, none⟩) 1 c) ∧ VGot B w' g ∧ 1 ≤ c ∧ Up w w' := by
  go_enter Tryz.func71, Tryz.ntmps71
  refine wp_seq (rg_lit (wl (sn rfl (cs := #[I_ 1, I_ 1]) (T := 24) (V := fun b => pt b 0) (r_box (v := .agg #[I_ 1, I_ 1]) (by kernel_rfl) rfl) fun b3 w1 e2 h3 u4 => ?_)))
  have M6 := mtu (Mod.refl [] w) u4
  refine wl (sn rfl (cs := #[.slice none 0 0]) (T := 112) (V := fun b => pt b 0) (r_alloc Ty.zv112 rfl) fun b4 w7 e8 h9 u10 => ?_)
  have l11 := lsz e8 h3
  have g12 := gsz e8 M6
  have M13 := mtu M6 u10
  refine wnil (then_n (wp_seq (rg_lit (wmv (v := .slice lA 3 lc) (wlv (v := .func (.func 128) #[] #[pt b3 0, pt b4 0]) (r_makeFunc (us := []) (vs := [pt b3 0, pt b4 0]) rfl (by kernel_rfl)) ?_)))))
  have h14 := (OpRow.up h (Mod.up M13))
  have h15 := (up_ob u10 h3)
  have hB4 : B ≤ b4 := Nat.le_trans hB g12
  refine wl (sca [.slice lA 3 lc, .func (.func 128) #[] #[pt b3 0, pt b4 0]] En.f127 (each_at h14 (Nat.le_trans hB M13.size) h15 h9 (Nat.ne_of_lt l11) hB4) ?_)
  rintro e w16 ⟨v17, rfl, h18, u19⟩
  refine ⟨_, rfl, ?_⟩
  obtain ⟨vg, vc, h21, h20, hvne, hvc⟩ := VOne.got h18
  have M22 := mtn M13 u19 g12
  refine wnil (then_n (wp_seq (rg_lit (wlv (v := .slice (some ⟨vg, 0, none⟩) 1 vc) (ld 0 Ty.ag112 h21) (wl (ss rfl (k := 0) (v := .slice (some ⟨vg, 0, none⟩) 1 vc) (vs := [.slice (some ⟨vg, 0, none⟩) 1 vc]) (cs' := [.slice (some ⟨vg, 0, none⟩) 1 vc]) (by kernel_rfl) (by kernel_rfl) rfl Ty.sz112 h21 rfl (Nat.le_of_ble_eq_true rfl) rfl fun w23 h24 c25 => ?_))))))
  have M26 := mtn M22 c25 g12
  refine wnil (then_n (wp_ret ?_))
  refine bodyPost_ret (v := .slice (some ⟨vg, 0, none⟩) 1 vc) (res1 rfl (rv_c (p := ⟨b4, 0, none⟩) (by kernel_rfl) (run_loadVar1 Ty.ag112 h24 (by kernel_rfl)))) (by kernel_rfl) ?_
  have h27 := (VGot.chg h20 c25 ⟨hB4, NotU8.of h21 (by decide)⟩ hvne)
  exact ⟨vg, vc, rfl, h27, hvc, (Mod.up M26)⟩
set_option maxHeartbeats 2000000 in
theorem alive20_at {w : World} : Calls Tryz.prog 23 #[] w fun e w' => e = .returned (.bool true) ∧ Up w w' := by
  obtain ⟨B, hBe⟩ : ∃ B, B = w.heap.size := ⟨_, rfl⟩
  have hB : B ≤ w.heap.size := Nat.le_of_eq hBe
  go_enter Tryz.func23, Tryz.ntmps23
  refine wp_seq (rg_lit (was (v := B_ false) (wnil (then_n (wp_seq (rg_lit (wlv (v := .agg #[I_ 1, I_ 1]) (r_build (ps := [(0, I_ 1), (1, I_ 1)]) (cs := [I_ 1, I_ 1]) Ty.un24 Ty.zv24 Ty.pl24 (by kernel_rfl) (by kernel_rfl)) (wl (sn rfl (cs := #[I_ 0, I_ 0]) (T := 24) (V := fun b => pt b 0) (r_alloc Ty.zv24 rfl) fun b1 w2 e3 h4 u5 => ?_)))))))))
  have g6 := gsz e3 (Mod.refl [] w)
  have M7 := mtu (Mod.refl [] w) u5
  refine wl (ss rfl (k := 0) (v := .agg #[I_ 1, I_ 1]) (vs := [I_ 1, I_ 1]) (cs' := [I_ 1, I_ 1]) (by kernel_rfl) (by kernel_rfl) rfl Ty.sz24 h4 rfl (Nat.le_of_ble_eq_true rfl) rfl fun w8 h9 c10 => ?_)
  have M11 := mtn M7 c10 g6
  refine wnil (then_n (wp_seq (rg_lit ?_)))
  iterate 2 refine wlv (v := .agg #[I_ 1, I_ 1]) (lds 0 Ty.ag24 Ty.sz24 h9) ?_
  refine wlv (v := .agg #[I_ 1, I_ 1, I_ 1, I_ 1, I_ 1, I_ 0, I_ 0, B_ false, S_ (⟨#[97]⟩), .slice none 0 0]) (r_build (ps := [(0, I_ 1), (1, .agg #[I_ 1, I_ 1]), (2, .agg #[I_ 1, I_ 1]), (5, S_ (⟨#[97]⟩))]) (cs := [I_ 1, I_ 1, I_ 1, I_ 1, I_ 1, I_ 0, I_ 0, B_ false, S_ (⟨#[97]⟩), .slice none 0 0]) Ty.un49 Ty.zv49 Ty.pl49 (by kernel_rfl) (by kernel_rfl)) (wlv (v := .agg #[I_ 2, I_ 1]) (r_build (ps := [(0, I_ 2), (1, I_ 1)]) (cs := [I_ 2, I_ 1]) Ty.un24 Ty.zv24 Ty.pl24 (by kernel_rfl) (by kernel_rfl)) (wlv (v := .agg #[I_ 1, I_ 1]) (lds 0 Ty.ag24 Ty.sz24 h9) (wl (sn rfl (cs := #[.int .u8 120]) (T := 5) (V := fun b => sl b 0 1 1) (r_buildSlice (n := 1) (ps := [(0, .int .u8 120)]) Ty.un40 Ty.sz5 Ty.zv5 (by decide) (by decide) (by kernel_rfl) (by kernel_rfl)) fun b12 w13 e14 h15 u16 => ?_))))
  have l17 := lsz e14 h9
  have g18 := gsz e14 M11
  have M19 := mtu M11 u16
  refine wl (sFz rfl (b := b12) (n := 1) (c := 1) (by kernel_rfl) Ty.un40 h15 fun w20 h21 c22 => ?_)
  have M23 := mtn M19 c22 g18
  refine wlv (v := .agg #[I_ 4, I_ 2, I_ 1, I_ 1, I_ 1, I_ 0, I_ 0, B_ false, S_ (⟨#[]⟩), sl b12 0 1 1]) (r_build (ps := [(0, I_ 4), (1, .agg #[I_ 2, I_ 1]), (2, .agg #[I_ 1, I_ 1]), (6, sl b12 0 1 1)]) (cs := [I_ 4, I_ 2, I_ 1, I_ 1, I_ 1, I_ 0, I_ 0, B_ false, S_ (⟨#[]⟩), sl b12 0 1 1]) Ty.un49 Ty.zv49 Ty.pl49 (by kernel_rfl) (by kernel_rfl)) (wlv (v := .agg #[I_ 3, I_ 1]) (r_build (ps := [(0, I_ 3), (1, I_ 1)]) (cs := [I_ 3, I_ 1]) Ty.un24 Ty.zv24 Ty.pl24 (by kernel_rfl) (by kernel_rfl)) ?_)
  have h24 := (chg_ob c22 (Nat.ne_of_lt l17) (up_ob u16 h9))
  refine wlv (v := .agg #[I_ 1, I_ 1]) (lds 0 Ty.ag24 Ty.sz24 h24) (wlv (v := .agg #[I_ 2, I_ 3, I_ 1, I_ 1, I_ 1, I_ 0, I_ 0, B_ false, S_ (⟨#[98]⟩), .slice none 0 0]) (r_build (ps := [(0, I_ 2), (1, .agg #[I_ 3, I_ 1]), (2, .agg #[I_ 1, I_ 1]), (5, S_ (⟨#[98]⟩))]) (cs := [I_ 2, I_ 3, I_ 1, I_ 1, I_ 1, I_ 0, I_ 0, B_ false, S_ (⟨#[98]⟩), .slice none 0 0]) Ty.un49 Ty.zv49 Ty.pl49 (by kernel_rfl) (by kernel_rfl)) (wl (sn rfl (cs := #[I_ 1, I_ 1, I_ 1, I_ 1, I_ 1, I_ 0, I_ 0, B_ false, S_ (⟨#[97]⟩), .slice none 0 0, I_ 4, I_ 2, I_ 1, I_ 1, I_ 1, I_ 0, I_ 0, B_ false, S_ (⟨#[]⟩), sl b12 0 1 1, I_ 2, I_ 3, I_ 1, I_ 1, I_ 1, I_ 0, I_ 0, B_ false, S_ (⟨#[98]⟩), .slice none 0 0]) (T := 49) (V := fun b => sl b 0 3 3) (r_buildSlice (n := 3) (ps := [(0, .agg #[I_ 1, I_ 1, I_ 1, I_ 1, I_ 1, I_ 0, I_ 0, B_ false, S_ (⟨#[97]⟩), .slice none 0 0]), (1, .agg #[I_ 4, I_ 2, I_ 1, I_ 1, I_ 1, I_ 0, I_ 0, B_ false, S_ (⟨#[]⟩), sl b12 0 1 1]), (2, .agg #[I_ 2, I_ 3, I_ 1, I_ 1, I_ 1, I_ 0, I_ 0, B_ false, S_ (⟨#[98]⟩), .slice none 0 0])]) Ty.un22 Ty.sz49 Ty.zv49 (by decide) (by decide) (by kernel_rfl) (by kernel_rfl)) fun b25 w26 e27 h28 u29 => ?_)))
  have M33 := mtu M23 u29
  have h34 := (up_ob u29 h21)
  have h35 : OpRow B w26 (some ⟨b25, 0, none⟩) vos := three_row h28 (lit_dat h34)
  refine was (v := sl b25 0 3 3) (wnil (then_n (wp_seq (rg_lit (wmv (v := sl b25 0 3 3) ?_)))))
  have h36 := (up_ob u29 h24)
  refine wlv (v := .agg #[I_ 1, I_ 1]) (lds 0 Ty.ag24 Ty.sz24 h36) (wl (sca [sl b25 0 3 3, .agg #[I_ 1, I_ 1]] En.f71 (versions_at h35 (Nat.le_trans hB M33.size)) ?_))
  rintro e w37 ⟨vg, vc, rfl, h38, h39, u40⟩
  refine ⟨_, rfl, ?_⟩
  have M41 := mtu M33 u40
  have hvk := h38
  obtain ⟨_, _, _, ⟨vcs, hvgb⟩, _⟩ := hvk
  refine was (v := .slice (some ⟨vg, 0, none⟩) 1 vc) (wnil (then_n (wp_seq ?_)))
  refine rg_held [] (n := 10) (by kernel_rfl) rfl ?_
  intro w42 u43
  have M44 := mtu M41 u43
  refine hqk 0 9 rfl rfl (v := sl b25 0 3 3) (fun _ _ => mv) ?_
  have h45 := (up_ob u43 (up_ob u40 h36))
  refine hqk 2 8 rfl rfl (v := .agg #[I_ 1, I_ 1]) (fun _ uz => lds 0 Ty.ag24 Ty.sz24 (md_ob uz nin0 h45)) ?_
  refine h2a 1 7 7 rfl rfl ?_ ?_
  ·
   have h46 := (OpRow.up h35 (up_up u40 u43))
   refine sca [sl b25 0 3 3, I_ 2] En.f72 (asOf_at h46 (Nat.le_trans hB M44.size)) ?_
   rintro e w47 ⟨ta, ra, rfl, h48, u49⟩
   refine ⟨_, rfl, ?_⟩
   have M50 := mtu M44 u49
   refine hxu u49 ?_
   refine h2a 3 7 6 rfl rfl ?_ ?_
   ·
    refine sca [pt ta 0, .agg #[I_ 1, I_ 1]] En.f20 (get_x h48 ⟨1, 1⟩ (x := (gotI (buildI [vo1, vo2]) ⟨1, 1⟩)) (b := true) rfl v_has) ?_
    rintro e w51 ⟨A52, n53, c54, rfl, h55, u56⟩
    refine ⟨_, rfl, ?_⟩
    have M57 := mtu M50 u56
    refine hxu u56 (hqk 4 5 rfl rfl (v := .tuple #[itV (gotI (buildI [vo1, vo2]) ⟨1, 1⟩) (.slice A52 n53 c54), B_ true]) (fun _ _ => mv) (hqk 5 4 rfl rfl (v := itV (gotI (buildI [vo1, vo2]) ⟨1, 1⟩) (.slice A52 n53 c54)) (fun _ _ => xt [itV (gotI (buildI [vo1, vo2]) ⟨1, 1⟩) (.slice A52 n53 c54), B_ true]) (hqk 6 3 rfl rfl (v := B_ true) (fun _ _ => xt [itV (gotI (buildI [vo1, vo2]) ⟨1, 1⟩) (.slice A52 n53 c54), B_ true]) (h1a 7 2 rfl (sn rfl (cs := #[I_ 0, I_ 0, I_ 0, I_ 0, S_ (⟨#[]⟩), B_ false, B_ false, .slice none 0 0, I_ 0, I_ 0]) (T := 42) (V := fun b => pt b 0) (r_alloc Ty.zv42 rfl) fun b58 w59 e60 h61 u62 => ?_)))))
    have h69 := (up_ob u56 (up_ob u49 (up_ob u43 hvgb)))
    have g71 := gsz e60 M57
    have M72 := mtu M57 u62
    refine hxy u62 e60 (h1a 8 1 rfl (ss rfl (k := 0) (v := itV (gotI (buildI [vo1, vo2]) ⟨1, 1⟩) (.slice A52 n53 c54)) (vs := (itC (gotI (buildI [vo1, vo2]) ⟨1, 1⟩) (.slice A52 n53 c54))) (cs' := (itC (gotI (buildI [vo1, vo2]) ⟨1, 1⟩) (.slice A52 n53 c54))) (by kernel_rfl) (by kernel_rfl) rfl Ty.sz42 h61 rfl (Nat.le_of_ble_eq_true rfl) rfl fun w73 h74 c75 => ?_))
    have M76 := mtn M72 c75 g71
    refine hxc c75 (hqk 9 0 rfl rfl (v := B_ true) (fun _ _ => r_assign (by kernel_rfl)) ?_)
    refine hend (by kernel_rfl) ?_
    refine then_n (wp_seq (rg_lit (wmv (v := .slice (some ⟨vg, 0, none⟩) 1 vc) (wlv (v := I_ 1) (ln (some ⟨vg, 0, none⟩) 1 vc Ty.un112) (wl (sv (w' := w73) rfl (v := B_ true) (by kernel_rfl) (wmv (v := B_ true) (wl (sv (by kernel_rfl) (v := .slice (some ⟨vg, 0, none⟩) 1 vc) (mv) ?_)))))))))
    have h77 := (VGot.up h38 (up_chgn (up_up (up_up (up_up u43 u49) u56) u62) c75 (by rw [e60]; exact (up_up (up_up u43 u49) u56).size)))
    obtain ⟨vA78, vn78, vd78, ⟨vs78, hv78⟩, hw78, hx78⟩ := h77
    refine wl (sv (by kernel_rfl) (v := pt vg 0) (ixa (A := (some ⟨vg, 0, none⟩)) 1 vc 3 0 rfl Ty.un112 Ty.sz116) (wl (sv (by kernel_rfl) (v := pt vg (0 + 2)) (fa (pt vg 0)) (wl (sv (by kernel_rfl) (v := .slice vA78 vn78 vd78) (r_loadc (by kernel_rfl) Ty.ag40 hw78) (wl (sv (by kernel_rfl) (v := S_ (⟨#[120]⟩)) (r_convD (xs := [120]) (s := ⟨#[120]⟩) (by kernel_rfl) hx78 (by decide) rfl Ty.un40 Ty.un9) (wl (sb (by kernel_rfl) (r_eqs (m := (⟨#[120]⟩)) (n := (⟨#[120]⟩)) (by kernel_rfl) (by kernel_rfl)) fun b79 k80 => wlv (v := B_ b79) (pkT (by kernel_rfl)) (wmv (v := B_ b79) ?_))))))))))
    refine bcd k80 (fun v81 p82 => ?_) (fun v81 p82 => ?_)
    ·
     exact absurd rfl p82
    refine wlw rfl v81 (v := B_ true) (mv) (wlv (v := B_ true) (pkT (eb v81)) (wmv (v := B_ true) (wl (sv (by kernel_rfl) (v := pt b58 4) (fa (pt b58 0)) (wl (sv (by kernel_rfl) (v := S_ ((gotI (buildI [vo1, vo2]) ⟨1, 1⟩).name)) (ld 4 Ty.ag9 h74) (wl (sb (by kernel_rfl) (r_eqs (m := ((gotI (buildI [vo1, vo2]) ⟨1, 1⟩).name)) (n := (⟨#[97]⟩)) (by kernel_rfl) (by kernel_rfl)) fun b83 k84 => wlv (v := B_ b83) (pkT (by kernel_rfl)) (wmv (v := B_ b83) ?_)))))))))
    refine bcd k84 (fun v85 p86 => ?_) (fun v85 p86 => ?_)
    ·
     exact absurd v_name p86
    refine wlw rfl v85 (v := sl b25 0 3 3) (mv) ?_
    have h87 := (OpRow.up h46 (up_chgn (up_up (up_up u49 u56) u62) c75 (by rw [e60]; exact (up_up u49 u56).size)))
    refine wl (sc (wt (b := b83) rfl (by kernel_rfl) v85) (r_callv (caps := []) (all := [sl b25 0 3 3]) En.f15 (by kernel_rfl) (by kernel_rfl)) (build_at (os := vos) h87 (Nat.le_trans hB M76.size) (by decide)) ?_)
    rintro e w88 ⟨tz, rz, rfl, h89, u90, z91, z92⟩
    refine ⟨_, rfl, ?_⟩
    have M93 := mtu M76 u90
    refine wl (sc (wt (b := b83) rfl (by kernel_rfl) v85) (r_callv (caps := []) (all := [pt tz 0]) En.f29 (by kernel_rfl) (by kernel_rfl)) (bytes20_at (OT.of h89) (Nat.le_trans hB M93.size) (fit_build vos)) ?_)
    rintro e w94 ⟨rfl, u95⟩
    refine ⟨_, rfl, ?_⟩
    have M96 := mtu M93 u95
    refine wl (sb (wt (b := b83) rfl (by kernel_rfl) v85) (eqI ((bytesI (buildI vos) (buildI vos) : Nat) : Int) 1) fun b97 k98 => wlv (v := B_ b97) (pkT (eb v85)) (was (v := B_ b97) (wnil (then_n (wp_ret ?_)))))
    refine br1 (v := B_ b97) rfl ?_
    exact ⟨ret_bool (k98.symm.trans (decide_eq_true v_bytes)), (Mod.up M96)⟩
   ·
    refine sn rfl (cs := #[I_ 0, I_ 0, I_ 0, I_ 0, S_ (⟨#[]⟩), B_ false, B_ false, .slice none 0 0, I_ 0, I_ 0]) (T := 42) (V := fun b => pt b 0) (r_alloc Ty.zv42 rfl) fun b51 w52 e53 h54 u55 => ?_
    have h56 := (up_ob u49 h45)
    have l57 := lsz e53 h56
    have h60 := (up_ob u49 (up_ob u43 (up_ob u40 h28)))
    have h62 := (up_ob u49 (up_ob u43 hvgb))
    have g64 := gsz e53 M50
    have M65 := mtu M50 u55
    refine hxy u55 e53 ?_
    have h66 := (TreeIs.up h48 u55)
    refine h1a 3 5 rfl (sca [pt ta 0, .agg #[I_ 1, I_ 1]] En.f20 (get_x h66 ⟨1, 1⟩ (x := (gotI (buildI [vo1, vo2]) ⟨1, 1⟩)) (b := true) rfl v_has) ?_)
    rintro e w67 ⟨A68, n69, c70, rfl, h71, u72⟩
    refine ⟨_, rfl, ?_⟩
    have M73 := mtu M65 u72
    refine hxu u72 (hqk 4 4 rfl rfl (v := .tuple #[itV (gotI (buildI [vo1, vo2]) ⟨1, 1⟩) (.slice A68 n69 c70), B_ true]) (fun _ _ => mv) (hqk 5 3 rfl rfl (v := itV (gotI (buildI [vo1, vo2]) ⟨1, 1⟩) (.slice A68 n69 c70)) (fun _ _ => xt [itV (gotI (buildI [vo1, vo2]) ⟨1, 1⟩) (.slice A68 n69 c70), B_ true]) (hqk 6 2 rfl rfl (v := B_ true) (fun _ _ => xt [itV (gotI (buildI [vo1, vo2]) ⟨1, 1⟩) (.slice A68 n69 c70), B_ true]) ?_)))
    have h74 := (up_ob u72 h54)
    refine h1a 8 1 rfl (ss rfl (k := 0) (v := itV (gotI (buildI [vo1, vo2]) ⟨1, 1⟩) (.slice A68 n69 c70)) (vs := (itC (gotI (buildI [vo1, vo2]) ⟨1, 1⟩) (.slice A68 n69 c70))) (cs' := (itC (gotI (buildI [vo1, vo2]) ⟨1, 1⟩) (.slice A68 n69 c70))) (by kernel_rfl) (by kernel_rfl) rfl Ty.sz42 h74 rfl (Nat.le_of_ble_eq_true rfl) rfl fun w75 h76 c77 => ?_)
    have M78 := mtn M73 c77 g64
    refine hxc c77 (hqk 9 0 rfl rfl (v := B_ true) (fun _ _ => r_assign (by kernel_rfl)) ?_)
    refine hend (by kernel_rfl) ?_
    refine then_n (wp_seq (rg_lit (wmv (v := .slice (some ⟨vg, 0, none⟩) 1 vc) (wlv (v := I_ 1) (ln (some ⟨vg, 0, none⟩) 1 vc Ty.un112) (wl (sv (w' := w75) rfl (v := B_ true) (by kernel_rfl) (wmv (v := B_ true) (wl (sv (by kernel_rfl) (v := .slice (some ⟨vg, 0, none⟩) 1 vc) (mv) ?_)))))))))
    have h79 := (VGot.up h38 (up_chgn (up_up (up_up (up_up u43 u49) u55) u72) c77 (by rw [e53]; exact (up_up u43 u49).size)))
    obtain ⟨vA80, vn80, vd80, ⟨vs80, hv80⟩, hw80, hx80⟩ := h79
    refine wl (sv (by kernel_rfl) (v := pt vg 0) (ixa (A := (some ⟨vg, 0, none⟩)) 1 vc 3 0 rfl Ty.un112 Ty.sz116) (wl (sv (by kernel_rfl) (v := pt vg (0 + 2)) (fa (pt vg 0)) (wl (sv (by kernel_rfl) (v := .slice vA80 vn80 vd80) (r_loadc (by kernel_rfl) Ty.ag40 hw80) (wl (sv (by kernel_rfl) (v := S_ (⟨#[120]⟩)) (r_convD (xs := [120]) (s := ⟨#[120]⟩) (by kernel_rfl) hx80 (by decide) rfl Ty.un40 Ty.un9) (wl (sb (by kernel_rfl) (r_eqs (m := (⟨#[120]⟩)) (n := (⟨#[120]⟩)) (by kernel_rfl) (by kernel_rfl)) fun b81 k82 => wlv (v := B_ b81) (pkT (by kernel_rfl)) (wmv (v := B_ b81) ?_))))))))))
    refine bcd k82 (fun v83 p84 => ?_) (fun v83 p84 => ?_)
    ·
     exact absurd rfl p84
    refine wlw rfl v83 (v := B_ true) (mv) (wlv (v := B_ true) (pkT (eb v83)) (wmv (v := B_ true) (wl (sv (by kernel_rfl) (v := pt b51 4) (fa (pt b51 0)) (wl (sv (by kernel_rfl) (v := S_ ((gotI (buildI [vo1, vo2]) ⟨1, 1⟩).name)) (ld 4 Ty.ag9 h76) (wl (sb (by kernel_rfl) (r_eqs (m := ((gotI (buildI [vo1, vo2]) ⟨1, 1⟩).name)) (n := (⟨#[97]⟩)) (by kernel_rfl) (by kernel_rfl)) fun b85 k86 => wlv (v := B_ b85) (pkT (by kernel_rfl)) (wmv (v := B_ b85) ?_)))))))))
    refine bcd k86 (fun v87 p88 => ?_) (fun v87 p88 => ?_)
    ·
     exact absurd v_name p88
    refine wlw rfl v87 (v := sl b25 0 3 3) (mv) ?_
    have h89 := (OpRow.up h46 (up_chgn (up_up (up_up u49 u55) u72) c77 (by rw [e53]; exact u49.size)))
    refine wl (sc (wt (b := b85) rfl (by kernel_rfl) v87) (r_callv (caps := []) (all := [sl b25 0 3 3]) En.f15 (by kernel_rfl) (by kernel_rfl)) (build_at (os := vos) h89 (Nat.le_trans hB M78.size) (by decide)) ?_)
    rintro e w90 ⟨tz, rz, rfl, h91, u92, z93, z94⟩
    refine ⟨_, rfl, ?_⟩
    have M95 := mtu M78 u92
    refine wl (sc (wt (b := b85) rfl (by kernel_rfl) v87) (r_callv (caps := []) (all := [pt tz 0]) En.f29 (by kernel_rfl) (by kernel_rfl)) (bytes20_at (OT.of h91) (Nat.le_trans hB M95.size) (fit_build vos)) ?_)
    rintro e w96 ⟨rfl, u97⟩
    refine ⟨_, rfl, ?_⟩
    have M98 := mtu M95 u97
    refine wl (sb (wt (b := b85) rfl (by kernel_rfl) v87) (eqI ((bytesI (buildI vos) (buildI vos) : Nat) : Int) 1) fun b99 k100 => wlv (v := B_ b99) (pkT (eb v87)) (was (v := B_ b99) (wnil (then_n (wp_ret ?_)))))
    refine br1 (v := B_ b99) rfl ?_
    exact ⟨ret_bool (k100.symm.trans (decide_eq_true v_bytes)), (Mod.up M98)⟩
  ·
   refine sn rfl (cs := #[I_ 0, I_ 0, I_ 0, I_ 0, S_ (⟨#[]⟩), B_ false, B_ false, .slice none 0 0, I_ 0, I_ 0]) (T := 42) (V := fun b => pt b 0) (r_alloc Ty.zv42 rfl) fun b46 w47 e48 h49 u50 => ?_
   have h54 := (up_ob u43 (up_ob u40 h28))
   have l55 := lsz e48 h54
   have h56 := (up_ob u43 hvgb)
   have l57 := lsz e48 h56
   have g58 := gsz e48 M44
   have M59 := mtu M44 u50
   refine hxy u50 e48 ?_
   have h60 := (OpRow.up h35 (up_up (up_up u40 u43) u50))
   refine h1a 1 6 rfl (sca [sl b25 0 3 3, I_ 2] En.f72 (asOf_at h60 (Nat.le_trans hB M59.size)) ?_)
   rintro e w61 ⟨ta, ra, rfl, h62, u63⟩
   refine ⟨_, rfl, ?_⟩
   have M64 := mtu M59 u63
   refine hxu u63 (h1a 3 5 rfl (sca [pt ta 0, .agg #[I_ 1, I_ 1]] En.f20 (get_x h62 ⟨1, 1⟩ (x := (gotI (buildI [vo1, vo2]) ⟨1, 1⟩)) (b := true) rfl v_has) ?_))
   rintro e w65 ⟨A66, n67, c68, rfl, h69, u70⟩
   refine ⟨_, rfl, ?_⟩
   have M71 := mtu M64 u70
   refine hxu u70 (hqk 4 4 rfl rfl (v := .tuple #[itV (gotI (buildI [vo1, vo2]) ⟨1, 1⟩) (.slice A66 n67 c68), B_ true]) (fun _ _ => mv) (hqk 5 3 rfl rfl (v := itV (gotI (buildI [vo1, vo2]) ⟨1, 1⟩) (.slice A66 n67 c68)) (fun _ _ => xt [itV (gotI (buildI [vo1, vo2]) ⟨1, 1⟩) (.slice A66 n67 c68), B_ true]) (hqk 6 2 rfl rfl (v := B_ true) (fun _ _ => xt [itV (gotI (buildI [vo1, vo2]) ⟨1, 1⟩) (.slice A66 n67 c68), B_ true]) ?_)))
   have h72 := (up_ob u70 (up_ob u63 h49))
   refine h1a 8 1 rfl (ss rfl (k := 0) (v := itV (gotI (buildI [vo1, vo2]) ⟨1, 1⟩) (.slice A66 n67 c68)) (vs := (itC (gotI (buildI [vo1, vo2]) ⟨1, 1⟩) (.slice A66 n67 c68))) (cs' := (itC (gotI (buildI [vo1, vo2]) ⟨1, 1⟩) (.slice A66 n67 c68))) (by kernel_rfl) (by kernel_rfl) rfl Ty.sz42 h72 rfl (Nat.le_of_ble_eq_true rfl) rfl fun w73 h74 c75 => ?_)
   have M76 := mtn M71 c75 g58
   refine hxc c75 (hqk 9 0 rfl rfl (v := B_ true) (fun _ _ => r_assign (by kernel_rfl)) ?_)
   refine hend (by kernel_rfl) ?_
   refine then_n (wp_seq (rg_lit (wmv (v := .slice (some ⟨vg, 0, none⟩) 1 vc) (wlv (v := I_ 1) (ln (some ⟨vg, 0, none⟩) 1 vc Ty.un112) (wl (sv (w' := w73) rfl (v := B_ true) (by kernel_rfl) (wmv (v := B_ true) (wl (sv (by kernel_rfl) (v := .slice (some ⟨vg, 0, none⟩) 1 vc) (mv) ?_)))))))))
   have h77 := (VGot.up h38 (up_chgn (up_up (up_up (up_up u43 u50) u63) u70) c75 (by rw [e48]; exact u43.size)))
   obtain ⟨vA78, vn78, vd78, ⟨vs78, hv78⟩, hw78, hx78⟩ := h77
   refine wl (sv (by kernel_rfl) (v := pt vg 0) (ixa (A := (some ⟨vg, 0, none⟩)) 1 vc 3 0 rfl Ty.un112 Ty.sz116) (wl (sv (by kernel_rfl) (v := pt vg (0 + 2)) (fa (pt vg 0)) (wl (sv (by kernel_rfl) (v := .slice vA78 vn78 vd78) (r_loadc (by kernel_rfl) Ty.ag40 hw78) (wl (sv (by kernel_rfl) (v := S_ (⟨#[120]⟩)) (r_convD (xs := [120]) (s := ⟨#[120]⟩) (by kernel_rfl) hx78 (by decide) rfl Ty.un40 Ty.un9) (wl (sb (by kernel_rfl) (r_eqs (m := (⟨#[120]⟩)) (n := (⟨#[120]⟩)) (by kernel_rfl) (by kernel_rfl)) fun b79 k80 => wlv (v := B_ b79) (pkT (by kernel_rfl)) (wmv (v := B_ b79) ?_))))))))))
   refine bcd k80 (fun v81 p82 => ?_) (fun v81 p82 => ?_)
   ·
    exact absurd rfl p82
   refine wlw rfl v81 (v := B_ true) (mv) (wlv (v := B_ true) (pkT (eb v81)) (wmv (v := B_ true) (wl (sv (by kernel_rfl) (v := pt b46 4) (fa (pt b46 0)) (wl (sv (by kernel_rfl) (v := S_ ((gotI (buildI [vo1, vo2]) ⟨1, 1⟩).name)) (ld 4 Ty.ag9 h74) (wl (sb (by kernel_rfl) (r_eqs (m := ((gotI (buildI [vo1, vo2]) ⟨1, 1⟩).name)) (n := (⟨#[97]⟩)) (by kernel_rfl) (by kernel_rfl)) fun b83 k84 => wlv (v := B_ b83) (pkT (by kernel_rfl)) (wmv (v := B_ b83) ?_)))))))))
   refine bcd k84 (fun v85 p86 => ?_) (fun v85 p86 => ?_)
   ·
    exact absurd v_name p86
   refine wlw rfl v85 (v := sl b25 0 3 3) (mv) ?_
   have h87 := (OpRow.chgV (OpRow.up h60 (up_up u63 u70)) c75 ⟨(Nat.le_trans hB g58), NotU8.of h72 (by decide)⟩ (Nat.ne_of_lt l55))
   refine wl (sc (wt (b := b83) rfl (by kernel_rfl) v85) (r_callv (caps := []) (all := [sl b25 0 3 3]) En.f15 (by kernel_rfl) (by kernel_rfl)) (build_at (os := vos) h87 (Nat.le_trans hB M76.size) (by decide)) ?_)
   rintro e w88 ⟨tz, rz, rfl, h89, u90, z91, z92⟩
   refine ⟨_, rfl, ?_⟩
   have M93 := mtu M76 u90
   refine wl (sc (wt (b := b83) rfl (by kernel_rfl) v85) (r_callv (caps := []) (all := [pt tz 0]) En.f29 (by kernel_rfl) (by kernel_rfl)) (bytes20_at (OT.of h89) (Nat.le_trans hB M93.size) (fit_build vos)) ?_)
   rintro e w94 ⟨rfl, u95⟩
   refine ⟨_, rfl, ?_⟩
   have M96 := mtu M93 u95
   refine wl (sb (wt (b := b83) rfl (by kernel_rfl) v85) (eqI ((bytesI (buildI vos) (buildI vos) : Nat) : Int) 1) fun b97 k98 => wlv (v := B_ b97) (pkT (eb v85)) (was (v := B_ b97) (wnil (then_n (wp_ret ?_)))))
   refine br1 (v := B_ b97) rfl ?_
   exact ⟨ret_bool (k98.symm.trans (decide_eq_true v_bytes)), (Mod.up M96)⟩
end Go.Proofs.YtefhfoioeoijlaaGreatDoor
set_option linter.unusedVariables false
set_option linter.unusedSimpArgs false
namespace Go.Proofs.YtefhfoioeoijlaaGreatDoor
open Go Go.RowKit Go.Sort
theorem chgs_600 {La Lb : List Item} {D : List Stamp} (hFa : Fit La) (hFb : Fit Lb) (h : Thn (nodesI (La ++ Lb)) D) : (chgs La Lb D).length ≤ 600 := by
  have h1 := chgs_len La Lb D
  have h2 := h.len
  have h3 := hFa.len
  have h4 := hFb.len
  simp only [nodesI, List.length_map, List.length_append] at h2
  omega
theorem changesX_at {B : Nat} {w : World} {p q : Option Addr} {La Lb : List Item} (ha : OT B w p La) (hb : OT B w q Lb) (hB : B ≤ w.heap.size) (hFa : Fit La) (hFb : Fit Lb) (htab : Tab w) :
    Calls Tryz.prog 26 #[.pointer p, .pointer q] w fun e w' => ∃ A c D X, X = chgs La Lb D ∧ Thn (nodesI (La ++ Lb)) D ∧ X.length ≤ 600 ∧ e = .returned (.slice A X.length c) ∧ CRow 61 w.heap.size w' (.slice A X.length c) X ∧ Up w w' :=
  (changes_at ha hb hB hFa hFb htab).mono fun e w' ⟨A, c, D, h1, h2, h3, h4⟩ => ⟨A, c, D, _, rfl, h3, chgs_600 hFa hFb h3, h1, h2, h4⟩
end Go.Proofs.YtefhfoioeoijlaaGreatDoor
set_option linter.unusedVariables false
set_option linter.unusedSimpArgs false
namespace Go.Proofs.YtefhfoioeoijlaaGreatDoor
open Go Go.RowKit Go.Sort
structure Enc {α : Type} (T : TypeId) (f : α → List Value) (sz by_ : Nat) : Prop where
  len : ∀ x, (f x).length = sz
  one : ∀ x, ∀ u ∈ f x, u.oneCell' = true
  info : ∃ i z, Tryz.prog.info? T = some i ∧ i.zero = some z ∧ i.size = sz ∧ i.bytes = by_ ∧ z.cells.size = sz
  pos : 0 < sz
  small : by_ ≤ 1000
end Go.Proofs.YtefhfoioeoijlaaGreatDoor

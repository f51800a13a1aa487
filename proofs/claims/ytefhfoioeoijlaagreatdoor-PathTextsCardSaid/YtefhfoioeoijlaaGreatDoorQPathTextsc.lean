/- PH, OpenS -/
import Derived.SliceStrings
import Derived.Test.YtefhfoioeoijlaaGreatDoorQaa
import Derived.Test.YtefhfoioeoijlaaGreatDoorQab
import Derived.Test.YtefhfoioeoijlaaGreatDoorQac
import Derived.Test.YtefhfoioeoijlaaGreatDoorQad
import Derived.Test.YtefhfoioeoijlaaGreatDoorQae
import Derived.Test.YtefhfoioeoijlaaGreatDoorQaf
import Derived.Test.YtefhfoioeoijlaaGreatDoorQag
import Derived.Test.YtefhfoioeoijlaaGreatDoorQah
import Derived.Test.YtefhfoioeoijlaaGreatDoorQai
import Derived.Test.YtefhfoioeoijlaaGreatDoorQaj
import Derived.Test.YtefhfoioeoijlaaGreatDoorQak
import Derived.Test.YtefhfoioeoijlaaGreatDoorQal
import Derived.Test.YtefhfoioeoijlaaGreatDoorQam
import Derived.Test.YtefhfoioeoijlaaGreatDoorQan
import Derived.Test.YtefhfoioeoijlaaGreatDoorQao
import Derived.Test.YtefhfoioeoijlaaGreatDoorQap
import Derived.Test.YtefhfoioeoijlaaGreatDoorQaq
import Derived.Test.YtefhfoioeoijlaaGreatDoorQar
import Derived.Test.YtefhfoioeoijlaaGreatDoorQas
import Derived.Test.YtefhfoioeoijlaaGreatDoorQat
import Derived.Test.YtefhfoioeoijlaaGreatDoorQau
import Derived.Test.YtefhfoioeoijlaaGreatDoorQav
import Derived.Test.YtefhfoioeoijlaaGreatDoorQPathTextsa
import Derived.Test.YtefhfoioeoijlaaGreatDoorQPathTextsb
set_option linter.unusedVariables false
set_option linter.unusedSimpArgs false
namespace Go.Proofs.YtefhfoioeoijlaaGreatDoor
open Go Go.RowKit Go.Sort
set_option maxRecDepth 20000 in
set_option maxHeartbeats 2000000 in
theorem pathTexts_at {w : World} (htab : Tab w) (hmx : Mx w) (s : ByteArray) (hs9 : s.size ≤ 9223372036854775807) {l : List ByteArray} {xA : Option Addr} {xc : Nat} (hl : SSRow w (.slice xA l.length xc) l) (hln : l.length ≤ 9223372036854775807) : Calls Tryz.prog 9 #[.string s, .slice xA l.length xc] w fun e w' => e = .returned (.bool true) ∧ Up w w' := by
  go_enter Tryz.func9, Tryz.ntmps9
  refine wp_seq (rg_lit ?_)
  refine was (v := .bool false) ?_
  refine wnil (then_n (wp_seq (wp_seq (rg_lit ?_))))
  refine wmv (v := .string s) ?_
  refine wl (sv rfl (v := .int .i64 (s.size : Int)) (r_lens Ty.un9 (s := s) (by kernel_rfl)) ?_)
  refine wl (sb rfl (r_gt (k := .i64) (m := (s.size : Int)) (n := 600) (by kernel_rfl) (by kernel_rfl)) ?_)
  intro b1 k2
  refine wmv (v := .bool b1) ?_
  refine bcase b1 (fun v3 => ?_) (fun v3 => ?_)
  ·
   have p4 := of_decide_eq_false (k2.trans v3)
   refine wl (sv (wt (b := b1) rfl (by kernel_rfl) v3) (v := .slice xA l.length xc) (r_move (by kernel_rfl)) ?_)
   refine wl (sv (wt (b := b1) rfl (by kernel_rfl) v3) (v := .int .i64 (l.length : Int)) (r_len Ty.un69 (ad := xA) (n := l.length) (c := xc) (by kernel_rfl)) ?_)
   refine wl (sb (wt (b := b1) rfl (by kernel_rfl) v3) (r_gt (k := .i64) (m := (l.length : Int)) (n := 30) (by kernel_rfl) (by kernel_rfl)) ?_)
   intro b5 k6
   refine wl (sv rfl (v := .bool b5) (r_pkF (ebool (b := b1) (by kernel_rfl) v3) (by kernel_rfl)) ?_)
   refine wnil (then_n ?_)
   refine bcase b5 (fun v7 => ?_) (fun v7 => ?_)
   ·
    have p8 := of_decide_eq_false (k6.trans v7)
    refine wp_cond_false (ebool (b := b5) (by kernel_rfl) v7) ?_
    refine wp_skip (then_n (wp_seq (wp_seq (rg_lit ?_))))
    refine was (v := .int .i64 0) ?_
    refine wnil (then_n (wp_block ?_))
    refine lp (fun n a r1 => ∃ (k : Nat) (z4 z33 z34 z35 z36 z37 z38 z39 z40 z41 z42 z43 z44 z45 : Value), (n = l.length - k) ∧ (a = ⟨#[.string s, .slice xA l.length xc, undef, undef, z4, .int .i64 (k : Int), undef, undef, undef, undef, undef, undef, undef, undef, undef, undef, undef, undef, undef, undef, undef, undef, undef, undef, .string s, .int .i64 (s.size : Int), .bool b1, .bool b1, .slice xA l.length xc, .int .i64 (l.length : Int), .bool b5, .bool b5, undef, z33, z34, z35, z36, z37, z38, z39, z40, z41, z42, z43, z44, z45, undef, undef, undef, undef, undef, undef, undef, undef, undef, undef, undef, undef, undef, undef, undef, undef, undef, undef, undef, undef, undef, undef, undef, undef, undef, undef, undef, undef, undef, undef, undef, undef, undef, undef, undef, undef, undef, undef, undef, undef, undef, undef, undef, undef, undef, undef, undef, undef, undef, undef, undef, undef, undef, undef, undef, undef, undef, undef, undef, undef, undef, undef, undef, undef, undef, undef, undef, undef, undef, undef, undef, undef, undef, undef, undef, undef, undef, undef, undef, undef, undef, undef, undef, undef, undef, undef, undef, undef], []⟩) ∧ (Mod [] w r1) ∧ (k ≤ l.length) ∧ (Hid (∀ (j : Nat) (y : ByteArray), j < k → l[j]? = some y → y.size ≤ 100))) ⟨_, 0, .bool false, undef, undef, undef, undef, undef, undef, undef, undef, undef, undef, undef, undef, undef, rfl, (by kernel_rfl), Mod.refl _ _, (Nat.zero_le _), (fun j y hj => absurd hj (Nat.not_lt_zero _))⟩ ?_
    rintro _ _ r1 ⟨k, z4, z33, z34, z35, z36, z37, z38, z39, z40, z41, z42, z43, z44, z45, rfl, rfl, hM1, hF1_0, hF1_1⟩
    have M9 := Mod.thin (Mod.refl [] w) hM1 (by simp)
    refine wp_seq (wp_seq (rg_lit ?_))
    refine wmv (v := .int .i64 (k : Int)) ?_
    refine wmv (v := .slice xA l.length xc) ?_
    refine wl (sv rfl (v := .int .i64 (l.length : Int)) (r_len Ty.un69 (ad := xA) (n := l.length) (c := xc) (by kernel_rfl)) ?_)
    refine wl (sb rfl (r_lt (k := .i64) (m := (k : Int)) (n := (l.length : Int)) (by kernel_rfl) (by kernel_rfl)) ?_)
    intro b10 k11
    refine wnil (then_n ?_)
    refine bcase b10 (fun v12 => ?_) (fun v12 => ?_)
    ·
     have p13 := of_decide_eq_false (k11.trans v12)
     have hzl := small_end hF1_1 (by omega)
     have hjl := join_100 hzl (by omega)
     refine wp_cond_false (ebool (b := b10) (by kernel_rfl) v12) ?_
     refine wp_exit (then_x (by nofun) (then_x (by nofun) (inb_hit (then_n (wp_seq (rg_lit ?_))))))
     refine wmv (v := .string s) ?_
     refine wl (sc rfl (r_callv (caps := []) (all := [.string s]) En.f44 (by kernel_rfl) (by kernel_rfl)) (parse_at (Mx.up hmx (Mod.up M9)) s (by omega)) ?_)
     rintro e w14 ⟨A15, c16, rfl, h17, h18, u19⟩
     refine ⟨.tuple #[.slice A15 ((parseL s).length) c16, .int .i64 (parseK s)], rfl, ?_⟩
     have M20 := Mod.trans M9 (Mod.of_up u19)
     have M21 := Mod.trans hM1 (Mod.of_up u19)
     refine wmv (v := .tuple #[.slice A15 ((parseL s).length) c16, .int .i64 (parseK s)]) ?_
     refine wl (sv rfl (v := .slice A15 ((parseL s).length) c16) (r_extract (vs := [.slice A15 ((parseL s).length) c16, .int .i64 (parseK s)]) (by kernel_rfl) rfl) ?_)
     refine wl (sv rfl (v := .int .i64 (parseK s)) (r_extract (vs := [.slice A15 ((parseL s).length) c16, .int .i64 (parseK s)]) (by kernel_rfl) rfl) ?_)
     refine was (v := .slice A15 ((parseL s).length) c16) ?_
     refine was (v := .int .i64 (parseK s)) ?_
     refine wnil (then_n (wp_seq (rg_lit ?_)))
     refine wmv (v := .string s) ?_
     refine wl (sc rfl (r_callv (caps := []) (all := [.string s]) En.f45 (by kernel_rfl) (by kernel_rfl)) (parseD_at s (by omega)) ?_)
     rintro e w22 ⟨A23, c24, rfl, h25, h26, u27⟩
     refine ⟨.tuple #[.slice A23 ((parseL s).length) c24, .int .i64 (parseK s)], rfl, ?_⟩
     have M28 := Mod.trans M20 (Mod.of_up u27)
     have M29 := Mod.trans M21 (Mod.of_up u27)
     refine wmv (v := .tuple #[.slice A23 ((parseL s).length) c24, .int .i64 (parseK s)]) ?_
     refine wl (sv rfl (v := .slice A23 ((parseL s).length) c24) (r_extract (vs := [.slice A23 ((parseL s).length) c24, .int .i64 (parseK s)]) (by kernel_rfl) rfl) ?_)
     refine wl (sv rfl (v := .int .i64 (parseK s)) (r_extract (vs := [.slice A23 ((parseL s).length) c24, .int .i64 (parseK s)]) (by kernel_rfl) rfl) ?_)
     refine was (v := .slice A23 ((parseL s).length) c24) ?_
     refine was (v := .int .i64 (parseK s)) ?_
     refine wnil (then_n (wp_seq (rg_lit ?_)))
     refine wmv (v := .slice xA l.length xc) ?_
     have h30 := (SSRow.up hl (Mod.up M28))
     refine wl (sc rfl (r_callv (caps := []) (all := [.slice xA l.length xc]) En.f46 (by kernel_rfl) (by kernel_rfl)) (showP_at (l := l) h30 (Mx.up hmx (Mod.up M28)) (fun x hx => by have := hzl x hx; omega) (by omega) hjl) ?_)
     rintro e w31 ⟨rfl, u32⟩
     refine ⟨.tuple #[.string (showB l), .int .i64 (showK l)], rfl, ?_⟩
     have M33 := Mod.trans M28 (Mod.of_up u32)
     have M34 := Mod.trans M29 (Mod.of_up u32)
     refine wmv (v := .tuple #[.string (showB l), .int .i64 (showK l)]) ?_
     refine wl (sv rfl (v := .string (showB l)) (r_extract (vs := [.string (showB l), .int .i64 (showK l)]) (by kernel_rfl) rfl) ?_)
     refine wl (sv rfl (v := .int .i64 (showK l)) (r_extract (vs := [.string (showB l), .int .i64 (showK l)]) (by kernel_rfl) rfl) ?_)
     refine was (v := .string (showB l)) ?_
     refine was (v := .int .i64 (showK l)) ?_
     refine wnil (then_n (wp_seq (rg_lit ?_)))
     refine wmv (v := .slice xA l.length xc) ?_
     have h35 := (SSRow.up hl (Mod.up M33))
     refine wl (sc rfl (r_callv (caps := []) (all := [.slice xA l.length xc]) En.f47 (by kernel_rfl) (by kernel_rfl)) (showD_at (l := l) h35 (fun x hx => by have := hzl x hx; omega) hjl) ?_)
     rintro e w36 ⟨rfl, u37⟩
     refine ⟨.tuple #[.string (showB l), .int .i64 (showK l)], rfl, ?_⟩
     have M38 := Mod.trans M33 (Mod.of_up u37)
     have M39 := Mod.trans M34 (Mod.of_up u37)
     refine wmv (v := .tuple #[.string (showB l), .int .i64 (showK l)]) ?_
     refine wl (sv rfl (v := .string (showB l)) (r_extract (vs := [.string (showB l), .int .i64 (showK l)]) (by kernel_rfl) rfl) ?_)
     refine wl (sv rfl (v := .int .i64 (showK l)) (r_extract (vs := [.string (showB l), .int .i64 (showK l)]) (by kernel_rfl) rfl) ?_)
     refine was (v := .string (showB l)) ?_
     refine was (v := .int .i64 (showK l)) ?_
     refine wnil (then_n (wp_seq (rg_lit ?_)))
     refine wmv (v := .string s) ?_
     refine wl (sc rfl (r_callv (caps := []) (all := [.string s]) En.f48 (by kernel_rfl) (by kernel_rfl)) (pathSplit_at (Mx.up hmx (Mod.up M38)) s (by omega)) ?_)
     rintro e w40 ⟨rfl, u41⟩
     refine ⟨.tuple #[.string (dirB s), .string (lastB s), .int .i64 (splitKd s)], rfl, ?_⟩
     have M42 := Mod.trans M38 (Mod.of_up u41)
     have M43 := Mod.trans M39 (Mod.of_up u41)
     refine wmv (v := .tuple #[.string (dirB s), .string (lastB s), .int .i64 (splitKd s)]) ?_
     refine wl (sv rfl (v := .string (dirB s)) (r_extract (vs := [.string (dirB s), .string (lastB s), .int .i64 (splitKd s)]) (by kernel_rfl) rfl) ?_)
     refine wl (sv rfl (v := .string (lastB s)) (r_extract (vs := [.string (dirB s), .string (lastB s), .int .i64 (splitKd s)]) (by kernel_rfl) rfl) ?_)
     refine wl (sv rfl (v := .int .i64 (splitKd s)) (r_extract (vs := [.string (dirB s), .string (lastB s), .int .i64 (splitKd s)]) (by kernel_rfl) rfl) ?_)
     refine was (v := .string (dirB s)) ?_
     refine was (v := .string (lastB s)) ?_
     refine was (v := .int .i64 (splitKd s)) ?_
     refine wnil (then_n (wp_seq (rg_lit ?_)))
     refine wmv (v := .string s) ?_
     refine wl (sc rfl (r_callv (caps := []) (all := [.string s]) En.f49 (by kernel_rfl) (by kernel_rfl)) (splitD_at s (by omega)) ?_)
     rintro e w44 ⟨rfl, u45⟩
     refine ⟨.tuple #[.string (dirB s), .string (lastB s), .int .i64 (splitKd s)], rfl, ?_⟩
     have M46 := Mod.trans M42 (Mod.of_up u45)
     have M47 := Mod.trans M43 (Mod.of_up u45)
     refine wmv (v := .tuple #[.string (dirB s), .string (lastB s), .int .i64 (splitKd s)]) ?_
     refine wl (sv rfl (v := .string (dirB s)) (r_extract (vs := [.string (dirB s), .string (lastB s), .int .i64 (splitKd s)]) (by kernel_rfl) rfl) ?_)
     refine wl (sv rfl (v := .string (lastB s)) (r_extract (vs := [.string (dirB s), .string (lastB s), .int .i64 (splitKd s)]) (by kernel_rfl) rfl) ?_)
     refine wl (sv rfl (v := .int .i64 (splitKd s)) (r_extract (vs := [.string (dirB s), .string (lastB s), .int .i64 (splitKd s)]) (by kernel_rfl) rfl) ?_)
     refine was (v := .string (dirB s)) ?_
     refine was (v := .string (lastB s)) ?_
     refine was (v := .int .i64 (splitKd s)) ?_
     refine wnil (then_n (wp_seq (rg_lit ?_)))
     refine wmv (v := .string s) ?_
     refine wl (sc rfl (r_callv (caps := []) (all := [.string s]) En.f50 (by kernel_rfl) (by kernel_rfl)) (clean_at (Mx.up hmx (Mod.up M46)) s (by omega)) ?_)
     rintro e w48 ⟨rfl, u49⟩
     refine ⟨.tuple #[.string (cleanB s), .int .i64 (cleanK s)], rfl, ?_⟩
     have M50 := Mod.trans M46 (Mod.of_up u49)
     have M51 := Mod.trans M47 (Mod.of_up u49)
     refine wmv (v := .tuple #[.string (cleanB s), .int .i64 (cleanK s)]) ?_
     refine wl (sv rfl (v := .string (cleanB s)) (r_extract (vs := [.string (cleanB s), .int .i64 (cleanK s)]) (by kernel_rfl) rfl) ?_)
     refine wl (sv rfl (v := .int .i64 (cleanK s)) (r_extract (vs := [.string (cleanB s), .int .i64 (cleanK s)]) (by kernel_rfl) rfl) ?_)
     refine was (v := .string (cleanB s)) ?_
     refine was (v := .int .i64 (cleanK s)) ?_
     refine wnil (then_n (wp_seq (rg_lit ?_)))
     refine wmv (v := .string s) ?_
     refine wl (sc rfl (r_callv (caps := []) (all := [.string s]) En.f51 (by kernel_rfl) (by kernel_rfl)) (cleanD_at s (by omega)) ?_)
     rintro e w52 ⟨rfl, u53⟩
     refine ⟨.tuple #[.string (cleanB s), .int .i64 (cleanK s)], rfl, ?_⟩
     have M54 := Mod.trans M50 (Mod.of_up u53)
     have M55 := Mod.trans M51 (Mod.of_up u53)
     refine wmv (v := .tuple #[.string (cleanB s), .int .i64 (cleanK s)]) ?_
     refine wl (sv rfl (v := .string (cleanB s)) (r_extract (vs := [.string (cleanB s), .int .i64 (cleanK s)]) (by kernel_rfl) rfl) ?_)
     refine wl (sv rfl (v := .int .i64 (cleanK s)) (r_extract (vs := [.string (cleanB s), .int .i64 (cleanK s)]) (by kernel_rfl) rfl) ?_)
     refine was (v := .string (cleanB s)) ?_
     refine was (v := .int .i64 (cleanK s)) ?_
     refine wnil (then_n (wp_seq (rg_lit ?_)))
     refine wmv (v := .slice A15 ((parseL s).length) c16) ?_
     refine wmv (v := .slice A23 ((parseL s).length) c24) ?_
     have hpl := (parse_parts (s := s) (by omega)).2.1
     have h56 := (SSRow.up h17 (up_up (up_up (up_up (up_up (up_up (up_up u27 u32) u37) u41) u45) u49) u53))
     have h57 := (SSRow.up h25 (up_up (up_up (up_up (up_up (up_up u32 u37) u41) u45) u49) u53))
     refine wl (sc rfl (r_callv (caps := []) (all := [.slice A15 ((parseL s).length) c16, .slice A23 ((parseL s).length) c24]) En.f33 (by kernel_rfl) (by kernel_rfl)) (bool_true rfl (texts_at (l := parseL s) (m := parseL s) h56 h57 hpl hpl)) ?_)
     rintro e w58 ⟨rfl, u59⟩
     refine ⟨.bool true, rfl, ?_⟩
     have M60 := Mod.trans M54 (Mod.of_up u59)
     have M61 := Mod.trans M55 (Mod.of_up u59)
     refine wmv (v := .bool true) ?_
     refine wl (sv (by kernel_rfl) (v := .int .i64 (parseK s)) (r_move (by kernel_rfl)) ?_)
     refine wl (sv (by kernel_rfl) (v := .int .i64 (parseK s)) (r_move (by kernel_rfl)) ?_)
     refine wl (sv (by kernel_rfl) (v := .bool true) (r_eqi_same (k := .i64) (m := (parseK s)) (by kernel_rfl) (by kernel_rfl)) ?_)
     refine wl (sv rfl (v := .bool true) (r_pkT (by kernel_rfl) (by kernel_rfl)) ?_)
     refine wmv (v := .bool true) ?_
     refine wl (sv (by kernel_rfl) (v := .string (showB l)) (r_move (by kernel_rfl)) ?_)
     refine wl (sv (by kernel_rfl) (v := .string (showB l)) (r_move (by kernel_rfl)) ?_)
     refine wl (sv (by kernel_rfl) (v := .bool true) (r_eqs_same (m := (showB l)) (by kernel_rfl) (by kernel_rfl)) ?_)
     refine wl (sv rfl (v := .bool true) (r_pkT (by kernel_rfl) (by kernel_rfl)) ?_)
     refine wmv (v := .bool true) ?_
     refine wl (sv (by kernel_rfl) (v := .int .i64 (showK l)) (r_move (by kernel_rfl)) ?_)
     refine wl (sv (by kernel_rfl) (v := .int .i64 (showK l)) (r_move (by kernel_rfl)) ?_)
     refine wl (sv (by kernel_rfl) (v := .bool true) (r_eqi_same (k := .i64) (m := (showK l)) (by kernel_rfl) (by kernel_rfl)) ?_)
     refine wl (sv rfl (v := .bool true) (r_pkT (by kernel_rfl) (by kernel_rfl)) ?_)
     refine wmv (v := .bool true) ?_
     refine wl (sv (by kernel_rfl) (v := .string (dirB s)) (r_move (by kernel_rfl)) ?_)
     refine wl (sv (by kernel_rfl) (v := .string (dirB s)) (r_move (by kernel_rfl)) ?_)
     refine wl (sv (by kernel_rfl) (v := .bool true) (r_eqs_same (m := (dirB s)) (by kernel_rfl) (by kernel_rfl)) ?_)
     refine wl (sv rfl (v := .bool true) (r_pkT (by kernel_rfl) (by kernel_rfl)) ?_)
     refine wmv (v := .bool true) ?_
     refine wl (sv (by kernel_rfl) (v := .string (lastB s)) (r_move (by kernel_rfl)) ?_)
     refine wl (sv (by kernel_rfl) (v := .string (lastB s)) (r_move (by kernel_rfl)) ?_)
     refine wl (sv (by kernel_rfl) (v := .bool true) (r_eqs_same (m := (lastB s)) (by kernel_rfl) (by kernel_rfl)) ?_)
     refine wl (sv rfl (v := .bool true) (r_pkT (by kernel_rfl) (by kernel_rfl)) ?_)
     refine wmv (v := .bool true) ?_
     refine wl (sv (by kernel_rfl) (v := .int .i64 (splitKd s)) (r_move (by kernel_rfl)) ?_)
     refine wl (sv (by kernel_rfl) (v := .int .i64 (splitKd s)) (r_move (by kernel_rfl)) ?_)
     refine wl (sv (by kernel_rfl) (v := .bool true) (r_eqi_same (k := .i64) (m := (splitKd s)) (by kernel_rfl) (by kernel_rfl)) ?_)
     refine wl (sv rfl (v := .bool true) (r_pkT (by kernel_rfl) (by kernel_rfl)) ?_)
     refine wmv (v := .bool true) ?_
     refine wl (sv (by kernel_rfl) (v := .string (cleanB s)) (r_move (by kernel_rfl)) ?_)
     refine wl (sv (by kernel_rfl) (v := .string (cleanB s)) (r_move (by kernel_rfl)) ?_)
     refine wl (sv (by kernel_rfl) (v := .bool true) (r_eqs_same (m := (cleanB s)) (by kernel_rfl) (by kernel_rfl)) ?_)
     refine wl (sv rfl (v := .bool true) (r_pkT (by kernel_rfl) (by kernel_rfl)) ?_)
     refine wmv (v := .bool true) ?_
     refine wl (sv (by kernel_rfl) (v := .int .i64 (cleanK s)) (r_move (by kernel_rfl)) ?_)
     refine wl (sv (by kernel_rfl) (v := .int .i64 (cleanK s)) (r_move (by kernel_rfl)) ?_)
     refine wl (sv (by kernel_rfl) (v := .bool true) (r_eqi_same (k := .i64) (m := (cleanK s)) (by kernel_rfl) (by kernel_rfl)) ?_)
     refine wl (sv rfl (v := .bool true) (r_pkT (by kernel_rfl) (by kernel_rfl)) ?_)
     refine wmv (v := .bool true) ?_
     refine wl (sc (by kernel_rfl) (r_callv (caps := []) (all := []) En.f40 (by kernel_rfl) (by kernel_rfl)) (alive19_at (TabIs.up htab (Mod.up M60)) (Mx.up hmx (Mod.up M60))) ?_)
     rintro e w62 ⟨rfl, u63⟩
     refine ⟨.bool true, rfl, ?_⟩
     have M64 := Mod.trans M60 (Mod.of_up u63)
     have M65 := Mod.trans M61 (Mod.of_up u63)
     refine wl (sv rfl (v := .bool true) (r_pkT (by kernel_rfl) (by kernel_rfl)) ?_)
     refine was (v := .bool true) ?_
     refine wnil (then_n (wp_ret ?_))
     refine bodyPost_ret (v := .bool true) (res1 rfl (rv_t (by kernel_rfl))) (by kernel_rfl) ?_
     exact ⟨rfl, (Mod.up M64)⟩
    have p13 := of_decide_eq_true (k11.trans v12)
    have q14 : k < l.length := by omega
    have q15 : k < l.length := by omega
    refine wp_cond_true (ebool (b := b10) (by kernel_rfl) v12) ?_
    refine wp_skip (then_n (wp_seq (wp_block (wp_seq (rg_lit ?_)))))
    refine wmv (v := .slice xA l.length xc) ?_
    refine wmv (v := .int .i64 (k : Int)) ?_
    have h16 := (SSRow.up hl (Mod.up M9))
    obtain ⟨y17, hy17⟩ : ∃ x, l[k]? = some x := ⟨_, List.getElem?_eq_getElem (by omega)⟩
    obtain ⟨g17, f17, hA17, hl17, hc17⟩ := SSRow.get h16 hy17
    refine wl (sv rfl (v := .pointer (some ⟨g17, f17 + k, none⟩)) (r_ixaddr' (A := xA) (b := g17) (o := f17) (n := l.length) (c := xc) (sz := 1) (j := (k : Int)) (by kernel_rfl) hA17 (by kernel_rfl) Ty.un69 Ty.sz9 (by omega) (by omega) (by simp)) ?_)
    refine wl (sv rfl (v := .string y17) (r_loadc (by kernel_rfl) Ty.ag9 hc17) ?_)
    refine wl (sv rfl (v := .int .i64 (y17.size : Int)) (r_lens Ty.un9 (s := y17) (by kernel_rfl)) ?_)
    refine wl (sb rfl (r_gt (k := .i64) (m := (y17.size : Int)) (n := 100) (by kernel_rfl) (by kernel_rfl)) ?_)
    intro b18 k19
    refine wnil (then_n ?_)
    refine bcase b18 (fun v20 => ?_) (fun v20 => ?_)
    ·
     have p21 := of_decide_eq_false (k19.trans v20)
     refine wp_cond_false (ebool (b := b18) (by kernel_rfl) v20) ?_
     refine wp_skip (inb_n (then_n (rg_lit ?_)))
     refine wmv (v := .int .i64 (k : Int)) ?_
     refine wl (sv rfl (v := .int .i64 ((k + 1 : Nat) : Int)) (r_add (k := .i64) (m := (k : Int)) (n := 1) (c := ((k + 1 : Nat) : Int)) (by kernel_rfl) (by kernel_rfl) ((IntWalk.i64_in _ (by omega)).trans (by omega))) ?_)
     refine was (v := .int .i64 ((k + 1 : Nat) : Int)) ?_
     refine wnil (then_n ?_)
     refine ⟨l.length - (k + 1), ?_, (k + 1), z4, .int .i64 (k : Int), .slice xA l.length xc, .int .i64 (l.length : Int), .bool b10, .int .i64 (k : Int), .int .i64 ((k + 1 : Nat) : Int), .slice xA l.length xc, .int .i64 (k : Int), .pointer (some ⟨g17, f17 + k, none⟩), .string y17, .int .i64 (y17.size : Int), .bool b18, z45, rfl, (by kernel_rfl), hM1, (by omega), (small_next hF1_1 hy17 (by omega))⟩
     · omega
    have p21 := of_decide_eq_true (k19.trans v20)
    refine wp_cond_true (ebool (b := b18) (by kernel_rfl) v20) ?_
    refine wp_seq (rg_lit ?_)
    refine wl (sc rfl (r_callv (caps := []) (all := []) En.f40 (by kernel_rfl) (by kernel_rfl)) (alive19_at (TabIs.up htab (Mod.up M9)) (Mx.up hmx (Mod.up M9))) ?_)
    rintro e w22 ⟨rfl, u23⟩
    refine ⟨.bool true, rfl, ?_⟩
    have M24 := Mod.trans M9 (Mod.of_up u23)
    have M25 := Mod.trans hM1 (Mod.of_up u23)
    refine was (v := .bool true) ?_
    refine wnil (then_n (wp_ret (inb_r (then_x (by nofun) (then_x (by nofun) (inb_r (then_x (by nofun) ?_)))))))
    refine bodyPost_ret (v := .bool true) (res1 rfl (rv_t (by kernel_rfl))) (by kernel_rfl) ?_
    exact ⟨rfl, (Mod.up M24)⟩
   have p8 := of_decide_eq_true (k6.trans v7)
   refine wp_cond_true (ebool (b := b5) (by kernel_rfl) v7) ?_
   refine wp_seq (rg_lit ?_)
   refine wl (sc rfl (r_callv (caps := []) (all := []) En.f40 (by kernel_rfl) (by kernel_rfl)) (alive19_at (TabIs.up htab (Mod.up (Mod.refl [] w))) (Mx.up hmx (Mod.up (Mod.refl [] w)))) ?_)
   rintro e w9 ⟨rfl, u10⟩
   refine ⟨.bool true, rfl, ?_⟩
   have M11 := Mod.trans (Mod.refl [] w) (Mod.of_up u10)
   refine was (v := .bool true) ?_
   refine wnil (then_n (wp_ret (then_x (by nofun) ?_)))
   refine bodyPost_ret (v := .bool true) (res1 rfl (rv_t (by kernel_rfl))) (by kernel_rfl) ?_
   exact ⟨rfl, (Mod.up M11)⟩
  have p4 := of_decide_eq_true (k2.trans v3)
  refine wl (sp (wf (b := b1) rfl (by kernel_rfl) v3) ?_)
  refine wl (sp (wf (b := b1) rfl (by kernel_rfl) v3) ?_)
  refine wl (sp (wf (b := b1) rfl (by kernel_rfl) v3) ?_)
  refine wl (sv rfl (v := .bool true) (r_pkT (ebool (b := b1) (by kernel_rfl) v3) (by kernel_rfl)) ?_)
  refine wnil (then_n ?_)
  refine wp_cond_true (by kernel_rfl) ?_
  refine wp_seq (rg_lit ?_)
  refine wl (sc rfl (r_callv (caps := []) (all := []) En.f40 (by kernel_rfl) (by kernel_rfl)) (alive19_at (TabIs.up htab (Mod.up (Mod.refl [] w))) (Mx.up hmx (Mod.up (Mod.refl [] w)))) ?_)
  rintro e w5 ⟨rfl, u6⟩
  refine ⟨.bool true, rfl, ?_⟩
  have M7 := Mod.trans (Mod.refl [] w) (Mod.of_up u6)
  refine was (v := .bool true) ?_
  refine wnil (then_n (wp_ret (then_x (by nofun) ?_)))
  refine bodyPost_ret (v := .bool true) (res1 rfl (rv_t (by kernel_rfl))) (by kernel_rfl) ?_
  exact ⟨rfl, (Mod.up M7)⟩
end Go.Proofs.YtefhfoioeoijlaaGreatDoor
set_option linter.unusedVariables false
set_option linter.unusedSimpArgs false
namespace Go.Proofs.YtefhfoioeoijlaaGreatDoor
open Go Go.RowKit Go.ChangeShapes Go.WideShapes Go.ChangeAt Go.Deep
section
variable {H : Type} {enc : TypeId × Value → H}
theorem open_strs {W : World} {sp : Nat → Bool} {held : Bool} {n : Nat} {cs : List Value} {x : DataW H × List MemPlace} (h : DataW.trod enc Tryz.prog W 0 sp held n 69 cs = some x) :
    ∃ (A : Option Addr) (l : List ByteArray) (c : Nat), cs = [.slice A l.length c] ∧ l.length ≤ 9223372036854775807 ∧ SSRow W (.slice A l.length c) l := by
  rcases open_strings Tryz.underlying69 Tryz.underlying9 (by kernel_rfl) h with ⟨hc, _⟩ | ⟨a, len, cap, ss, hc, _, hl, hm, hs, _, hcell, _⟩
  · exact ⟨none, [], 0, hc, by simp, SSRow.zero _⟩
  · have hss : len ≤ ss.length := by rw [hs]; split <;> omega
    have hlen : (ss.take len).length = len := by rw [List.length_take]; omega
    refine ⟨some a, ss.take len, cap, by rw [hlen]; exact hc, by rw [hlen]; exact Nat.le_trans hl (Nat.le_trans hm (Nat.le_of_ble_eq_true rfl)), ⟨_, _, rfl, by rw [hlen]; exact hl, ?_⟩⟩
    by_cases h0 : len = 0
    · left; rw [h0]; simp
    · right
      have h1 := hcell 0 (by omega)
      have h2 : W.cell? a = some (.string (ss.getD 0 ByteArray.empty)) := h1
      have ha := spot_none h2
      refine ⟨a.block, a.off, by rw [← ha.1], ha.2, fun j x hx => ?_⟩
      have hj : j < len := by have := (List.getElem?_eq_some_iff.1 hx).1; omega
      have h3 := hcell j (by omega)
      rw [ha.1, add_at] at h3
      rw [List.getElem?_take, if_pos hj] at hx
      rw [h3]
      congr 2
      simp [List.getD, hx]
end
end Go.Proofs.YtefhfoioeoijlaaGreatDoor

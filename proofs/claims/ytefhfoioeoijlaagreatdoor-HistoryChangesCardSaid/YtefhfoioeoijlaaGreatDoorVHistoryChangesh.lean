/- DE -/
import Derived.Test.YtefhfoioeoijlaaGreatDoorVaa
import Derived.Test.YtefhfoioeoijlaaGreatDoorVab
import Derived.Test.YtefhfoioeoijlaaGreatDoorVac
import Derived.Test.YtefhfoioeoijlaaGreatDoorVad
import Derived.Test.YtefhfoioeoijlaaGreatDoorVae
import Derived.Test.YtefhfoioeoijlaaGreatDoorVaf
import Derived.Test.YtefhfoioeoijlaaGreatDoorVag
import Derived.Test.YtefhfoioeoijlaaGreatDoorVah
import Derived.Test.YtefhfoioeoijlaaGreatDoorVai
import Derived.Test.YtefhfoioeoijlaaGreatDoorVaj
import Derived.Test.YtefhfoioeoijlaaGreatDoorVak
import Derived.Test.YtefhfoioeoijlaaGreatDoorVal
import Derived.Test.YtefhfoioeoijlaaGreatDoorVam
import Derived.Test.YtefhfoioeoijlaaGreatDoorVan
import Derived.Test.YtefhfoioeoijlaaGreatDoorVao
import Derived.Test.YtefhfoioeoijlaaGreatDoorVap
import Derived.Test.YtefhfoioeoijlaaGreatDoorVaq
import Derived.Test.YtefhfoioeoijlaaGreatDoorVar
import Derived.Test.YtefhfoioeoijlaaGreatDoorVas
import Derived.Test.YtefhfoioeoijlaaGreatDoorVat
import Derived.Test.YtefhfoioeoijlaaGreatDoorVHistoryChangesa
import Derived.Test.YtefhfoioeoijlaaGreatDoorVHistoryChangesb
import Derived.Test.YtefhfoioeoijlaaGreatDoorVHistoryChangesc
import Derived.Test.YtefhfoioeoijlaaGreatDoorVHistoryChangesd
import Derived.Test.YtefhfoioeoijlaaGreatDoorVHistoryChangese
import Derived.Test.YtefhfoioeoijlaaGreatDoorVHistoryChangesf
import Derived.Test.YtefhfoioeoijlaaGreatDoorVHistoryChangesg
set_option linter.unusedVariables false
set_option linter.unusedSimpArgs false
namespace Go.Proofs.YtefhfoioeoijlaaGreatDoor
open Go Go.RowKit Go.Sort
set_option maxRecDepth 20000 in
set_option maxHeartbeats 2000000 in
theorem historyChanges_at {B : Nat} {w : World} {lA : Option Addr} {lc : Nat} {os : List OpD} (h0 : OpRow0 w lA os) (hfull : Small os → OpRow B w lA os) (hB : B ≤ w.heap.size) (hn : os.length ≤ 9223372036854775807)
    {mA : Option Addr} {mc : Nat} {ps : List OpD} (g0 : OpRow0 w mA ps) (gfull : Small ps → OpRow B w mA ps) (hB' : B ≤ w.heap.size) (gn : ps.length ≤ 9223372036854775807) (htab : Tab w) :
    Calls Tryz.prog 4 #[.slice lA os.length lc, .slice mA ps.length mc] w fun e w' => e = .returned (.bool true) ∧ Up w w' := by
  go_enter Tryz.func4, Tryz.ntmps4
  refine wp_seq (rg_lit (was (v := B_ false) (wnil (then_n (wp_seq (wp_seq (rg_lit (wmv (v := .slice lA os.length lc) (wl (sca [.slice lA os.length lc, I_ 30] En.f13 (light2_at (OpRow0.up h0 (Mod.up (Mod.refl [] w))) hn 30) ?_))))))))))
  rintro e w1 ⟨lb2, rfl, h3, u4⟩
  refine ⟨_, rfl, ?_⟩
  have M5 := mtu (Mod.refl [] w) u4
  refine wlv (v := B_ (!lb2)) (r_not (b := lb2) (by kernel_rfl)) (wmv (v := B_ (!lb2)) ?_)
  refine bcase lb2 (fun v6 => ?_) (fun v6 => ?_)
  ·
   iterate 3 refine wls rfl (bneg v6) ?_
   refine wlv (v := B_ true) (pkT (eb (bneg v6))) (wnil (then_n (wp_cond_true (by kernel_rfl) (wp_seq (rg_lit (wl (sca [] En.f23 (alive20_at) ?_)))))))
   rintro e w7 ⟨rfl, u8⟩
   refine ⟨_, rfl, ?_⟩
   have M9 := mtu M5 u8
   refine was (v := B_ true) (wnil (then_n (wp_ret (then_x (by nofun) ?_))))
   refine br1 (v := B_ true) rfl ?_
   exact ⟨rfl, (Mod.up M9)⟩
  obtain ⟨hsma, hlea⟩ := h3 v6
  have hopsa := hfull hsma
  refine wlw rfl (bneg v6) (v := .slice mA ps.length mc) (mv) (wl (sc (wt (b := !lb2) rfl (by kernel_rfl) (bneg v6)) (r_callv (caps := []) (all := [.slice mA ps.length mc, I_ 30]) En.f13 (by kernel_rfl) (by kernel_rfl)) (light2_at (OpRow0.up g0 (Mod.up M5)) gn 30) ?_))
  rintro e w8 ⟨lb9, rfl, h10, u11⟩
  refine ⟨_, rfl, ?_⟩
  have M12 := mtu M5 u11
  refine wlw rfl (bneg v6) (v := B_ (!lb9)) (r_not (b := lb9) (by kernel_rfl)) (wlv (v := B_ (!lb9)) (pkF (eb (bneg v6))) (wnil (then_n ?_)))
  refine bcase lb9 (fun v13 => ?_) (fun v13 => ?_)
  ·
   refine wp_cond_true (eb (bneg v13)) (wp_seq (rg_lit (wl (sca [] En.f23 (alive20_at) ?_))))
   rintro e w14 ⟨rfl, u15⟩
   refine ⟨_, rfl, ?_⟩
   have M16 := mtu M12 u15
   refine was (v := B_ true) (wnil (then_n (wp_ret (then_x (by nofun) ?_))))
   refine br1 (v := B_ true) rfl ?_
   exact ⟨rfl, (Mod.up M16)⟩
  obtain ⟨hsmb, hleb⟩ := h10 v13
  have hopsb := gfull hsmb
  refine wp_cond_false (eb (bneg v13)) (wp_skip (then_n (wp_seq (rg_lit (wmv (v := .slice lA os.length lc) ?_)))))
  have h15 := (OpRow.up hopsa (Mod.up M12))
  refine wl (sca [.slice lA os.length lc] En.f15 (build_at h15 (Nat.le_trans hB M12.size) (by omega)) ?_)
  rintro e w16 ⟨ta, ra, rfl, h17, u18, z19, z20⟩
  refine ⟨_, rfl, ?_⟩
  have M22 := mtu M12 u18
  have hFa := fit_build os
  obtain ⟨La, hLa⟩ : ∃ L, buildI os = L := ⟨_, rfl⟩
  rw [hLa] at hFa h17
  have h21 := OT.of h17
  refine wmv (v := .slice mA ps.length mc) ?_
  have h23 := (OpRow.up hopsb (Mod.up M22))
  refine wl (sca [.slice mA ps.length mc] En.f15 (build_at h23 (Nat.le_trans hB M22.size) (by omega)) ?_)
  rintro e w24 ⟨tb, rb, rfl, h25, u26, z27, z28⟩
  refine ⟨_, rfl, ?_⟩
  have M30 := mtu M22 u26
  have hFb := fit_build ps
  obtain ⟨Lb, hLb⟩ : ∃ L, buildI ps = L := ⟨_, rfl⟩
  rw [hLb] at hFb h25
  have h29 := OT.of h25
  have h31 := (OT.up h21 u26)
  refine wl (sca [pt ta 0, pt tb 0] En.f26 (changesX_at h31 h29 (Nat.le_trans hB M30.size) hFa hFb (TabIs.up htab (Mod.up M30))) ?_)
  rintro e w32 ⟨Aab, cab, Dab, Xab, hXab, hDab, hlab, rfl, hCab, u33⟩
  refine ⟨_, rfl, ?_⟩
  have M34 := mtu M30 u33
  refine wl (sca [.slice Aab Xab.length cab] En.f25 (back_at hCab hlab) ?_)
  rintro e w35 ⟨A36, c37, rfl, h38, u39⟩
  refine ⟨_, rfl, ?_⟩
  have M40 := mtu M34 u39
  refine wmv (v := .slice lA os.length lc) ?_
  have h41 := (OpRow.up hopsa (Mod.up M40))
  refine wl (sca [.slice lA os.length lc] En.f28 (rbuild_at h41 (Nat.le_trans hB M40.size) (by omega)) ?_)
  rintro e w42 ⟨ua, rfl, h43, u44, z45⟩
  refine ⟨_, rfl, ?_⟩
  have M46 := mtu M40 u44
  rw [hLa] at h43
  refine wmv (v := .slice mA ps.length mc) ?_
  have h47 := (OpRow.up hopsb (Mod.up M46))
  refine wl (sca [.slice mA ps.length mc] En.f28 (rbuild_at h47 (Nat.le_trans hB M46.size) (by omega)) ?_)
  rintro e w48 ⟨ub, rfl, h49, u50, z51⟩
  refine ⟨_, rfl, ?_⟩
  have M52 := mtu M46 u50
  rw [hLb] at h49
  have h59 := (RIs.up h43 u50)
  refine wl (sca [pt ua 0, pt ub 0] En.f27 (changesD_at h59 h49 (Nat.le_trans hB M52.size) hFa hFb) ?_)
  rintro e w53 ⟨A54, c55, D2, rfl, h56, h57, u58⟩
  have hde : chgs La Lb D2 = Xab := by rw [hXab, h57.one hDab]
  rw [hde] at h56
  refine ⟨.slice A54 Xab.length c55, by rw [hde], ?_⟩
  have M60 := mtu M52 u58
  have h61 := (CRow.up h38 (up_up (up_up u44 u50) u58))
  refine wl (sca [.slice A36 Xab.length c37, .slice A54 Xab.length c55] En.f24 (same20_at h61 h56 hlab) ?_)
  rintro e w62 ⟨rfl, u63⟩
  refine ⟨_, rfl, ?_⟩
  have M64 := mtu M60 u63
  refine wmv (v := B_ true) (wl (sc (by kernel_rfl) (r_callv (caps := []) (all := []) En.f23 (by kernel_rfl) (by kernel_rfl)) (alive20_at) ?_))
  rintro e w65 ⟨rfl, u66⟩
  refine ⟨_, rfl, ?_⟩
  have M67 := mtu M64 u66
  refine wlv (v := B_ true) (pkT (by kernel_rfl)) (was (v := B_ true) (wnil (then_n (wp_ret ?_))))
  refine br1 (v := B_ true) rfl ?_
  exact ⟨rfl, (Mod.up M67)⟩
end Go.Proofs.YtefhfoioeoijlaaGreatDoor

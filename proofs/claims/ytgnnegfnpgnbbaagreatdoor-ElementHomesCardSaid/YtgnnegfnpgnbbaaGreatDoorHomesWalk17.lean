/- What functions compute: kcheck. -/
import Derived.Test.YtgnnegfnpgnbbaaGreatDoorHomesFacts
import Derived.Test.YtgnnegfnpgnbbaaGreatDoorHomesPre
import Derived.Test.YtgnnegfnpgnbbaaGreatDoorHomesWalk1
import Derived.Test.YtgnnegfnpgnbbaaGreatDoorHomesWalk13
import Derived.Test.YtgnnegfnpgnbbaaGreatDoorHomesWalk16
import Derived.Test.YtgnnegfnpgnbbaaGreatDoorHomesWalk3
import Derived.Test.YtgnnegfnpgnbbaaGreatDoorHomesWalk5
import Derived.Test.YtgnnegfnpgnbbaaGreatDoorHomesWalk8
set_option maxRecDepth 100000
set_option linter.unusedVariables false
set_option linter.unusedSimpArgs false
namespace Go.Proofs.YtgnnegfnpgnbbaaGreatDoor
open Go Go.RowKit Go.Mix Go.Eng
theorem kcheck_ct (l : List Sg) (sl : Option Addr) (cl : Nat) (F : Nat → Prop) (hc : ChkG l) (w0 : World) (hL : SgS F w0 sl l) (hF : ∀ k, F k → k < w0.heap.size) :
  CT Tryz.prog 84 [.slice sl l.length cl] w0 no (fun v _ => v = .int .i64 0) := by
 have hll := smallG_len hc.sm
 obtain ⟨nm, hmn, hma⟩ := callee_at hc.main.1
 have hmb := smallG_at hc.sm hmn
 have hnl := (List.getElem?_eq_some_iff.1 hmn).1
 have F0 := Fr.refl no w0
 refine ct_bodyM Tryz.func84 rfl Tryz.ntmps84 (Nat.le_of_ble_eq_true rfl) ?_
 refine wk_seq ?_
 refine wk_region ?_
 refine lx_new (want rfl) (rn_alloc ze_24) ?_
 intro b1 w1 hb1 Eb1 B1 hlb1
 have F1 := F0.ext Eb1
 have hzb1 := Eb1.size
 refine lx_nil ?_
 refine wk_seq ?_
 refine wk_region ?_
 refine lx_value (want rfl) (mv_slice rfl) ?_
 refine lx_call (want rfl) (ent_func cf_122 (argsC (t_slice rfl) args0)) (kopen_ct l sl cl F hc w1 (hL.fr (sg_stab F) F1 (fun _ _ h => h))) ?_
 rintro _ w2 E1 ⟨bP, rfl, hpO, hbP, bPa, bPs, hBP, hMP⟩
 have F2 := F1.ext E1
 have hz1 := E1.size
 have hlbP := (hBP).lt
 have hlbPa := (hMP).lt
 generalize hFP : With F _ _ = FP at hpO
 have hFPl : ∀ k, FP k → k < w2.heap.size := fun k hk => by rw [← hFP] at hk; exact hk.elim (fun h => by have := hF k h; omega) (fun h => h.2)
 refine lx_value (want rfl) (as_pointer rfl) ?_
 refine lx_nil ?_
 refine wk_seq ?_
 refine wk_block ?_
 refine wk_seq ?_
 refine wk_region ?_
 refine lx_value (want rfl) (mv_slice rfl) ?_
 refine lx_call (want rfl) (ent_func cf_123 (argsC (t_slice rfl) args0)) (large_ct l sl cl F hc w2 (hL.fr (sg_stab F) F2 (fun _ _ h => h))) ?_
 rintro _ w3 E2 rfl
 have F3 := F2.ext E2
 have hz2 := E2.size
 refine lx_value (want rfl) (as_bool rfl) ?_
 refine lx_nil ?_
 refine wk_cond_f rfl ?_
 refine wk_seq ?_
 refine wk_region ?_
 refine lx_value (want rfl) (mv_pointer rfl) ?_
 refine lx_value (want rfl) (rn_nilCheck rfl) ?_
 refine lx_value (want rfl) (rn_fieldAddr fa_188_1 rfl) ?_
 refine lx_value (want rfl) (rn_load1Blk ag_185 rfl (hBP.ext E2) rfl) ?_
 refine lx_value (want rfl) (rn_lenM Tryz.underlying185 rfl (hMP.ext E2)) ?_
 refine lx_value (want rfl) (mv_slice rfl) ?_
 refine lx_value (want rfl) (rn_len Tryz.underlying128 rfl) ?_
 refine lx_value (want rfl) (rn_neq rfl rfl) ?_
 refine lx_dec_f ((fun g => g (by rw [atL_len]))) ?_
 refine lx_value (want rfl) (as_bool rfl) ?_
 refine lx_nil ?_
 refine wk_cond_f rfl ?_
 refine wk_skip ?_
 refine wk_seq ?_
 refine wk_seq ?_
 refine wk_region ?_
 refine lx_value (want rfl) (mv_pointer rfl) ?_
 refine lx_call (want rfl) (ent_func cf_124 (argsC (t_pointer rfl) args0)) (ksegs_ct _ w3) ?_
 rintro _ w4 E3 ⟨bG, rfl, hBG, hbG⟩
 have F4 := F3.ext E3
 have hz3 := E3.size
 have hlbG := (hBG).lt
 have hpS := hpO.fr (Fr.ext (Fr.ext (Fr.refl no w2) E2) E3) (fun _ _ h => h)
 refine lx_nil ?_
 refine wk_block ?_
 refine wk_abs ?_
 intro ρR1 hR1
 refine wk_range (ps := [24, 25]) ((hR1 23).trans rfl) cf_137 ?_
 intro fR1 db1 l1 w5 RC1 hRC1 hdb1 hl1 hsz1 ER1 HD1 HL1
 have F5 := F4.ext ER1
 have hzR1 := ER1.size
 have hlt1_l := (HL1).lt
 have hlt1_d := (HD1).lt
 refine CT.mono (segs1_ct l1 bG bP l FP hll (fun (i : List Sg) (w : World) => Fr no w0 w ∧ w5.heap.size ≤ w.heap.size ∧ Blk w b1 (cellsOf B1) 24 ∧ Blk w bP (cellsOf hBP) 188 ∧ MapL w bPa kS (atL l) ∧ Blk w bG (cellsOf hBG) 182 ∧ At w l1 (RC1 .ready none) ∧ At w db1 (.deferred (some [])) ∧ (Fr (fun k => ¬ FP k) w5 w)) (fun _ => False) w5 ⟨F5, (by omega), ((((B1.ext E1).ext E2).ext E3).ext ER1), (((hBP.ext E2).ext E3).ext ER1), (((hMP.ext E2).ext E3).ext ER1), (hBG.ext ER1), HL1, HD1, (Fr.refl _ _)⟩ (by rintro i w ⟨FW1, hzW1, BL1_1, BL1_40, BL1_41, BL1_60, BL1_901, BL1_902, hfK⟩; exact ⟨BL1_60, (hpS.ext ER1).fr hfK nn⟩) (by rintro i w ⟨FW1, hzW1, BL1_1, BL1_40, BL1_41, BL1_60, BL1_901, BL1_902, hfK⟩; exact hfK) (by intro w h; exact h.elim) ?_) (fun _ _ h => h) ?_
 ·
  rintro xI1 iR1 w6 w7 n ss cs si ci hi1 ⟨FW1, hzW1, BL1_1, BL1_40, BL1_41, BL1_60, BL1_901, BL1_902, hfK⟩ E1r
  have F6 := FW1.ext E1r
  have hz1r := E1r.size
  refine yd_round hRC1 (BL1_901.ext E1r) rfl ?_
  refine wk_region ?_
  refine lx_new (want rfl) (rn_alloc ze_193) ?_
  intro b2 w8 hb2 Eb2 B2 hlb2
  have F7 := F6.ext Eb2
  have hzb2 := Eb2.size
  refine lx_set (want rfl) sz_193 rfl rfl rfl rfl rfl B2 (Nat.le_of_ble_eq_true rfl) ?_
  intro w9 Es1 Bs1
  have F8 := F7.set Es1 (by omega)
  have hzs1 := Es1.size
  refine lx_nil ?_
  refine ⟨rfl, (((BL1_901.ext E1r).ext Eb2).ne Es1 (by omega)), fun w10 E4 HBE4 => ?_⟩
  have F9 := F8.set E4 (by omega)
  have hz4 := E4.size
  have hgb := smallG_mem hc.sm hi1.1
  have hsg := List.all_eq_true.1 hc.segs _ hi1.1
  have hS := shapedB_parts (Bool.and_eq_true_iff.1 hsg).1
  have hW := (Bool.and_eq_true_iff.1 hsg).2
  refine wk_block ?_
  refine wk_seq ?_
  refine wk_region ?_
  refine lx_value (want rfl) (rn_loadBlk ag_193 sz_193 rfl (Bs1.ne E4 (by omega)) rfl rfl) ?_
  refine lx_call (want rfl) (ent_func cf_125 (argsC (t_agg rfl) args0)) (shaped_ct FP l bP xI1 ss cs si ci hc.sm hgb.2.1 hgb.1 hS w10 (((hpS.ext ER1).fr hfK nn).fr (Fr.trans (Fr.trans (Fr.ext (Fr.ext (Fr.refl (fun k => k = b2 ∨ k = l1) w6) E1r) Eb2) Es1 (fun k _ h => (.inl h))) E4 (fun k _ h => (.inr h))) (fun k hk h => by have := hFPl k hk; (try dsimp only at h); omega)) (hi1.2.fr (Fr.trans (Fr.trans (Fr.ext (Fr.refl (fun k => k = b2 ∨ k = l1) w7) Eb2) Es1 (fun k _ h => (.inl h))) E4 (fun k _ h => (.inr h))) (fun k hk h => by have := hFPl k hk; (try dsimp only at h); omega))) ?_
  rintro _ w11 E5 rfl
  have F10 := F9.ext E5
  have hz5 := E5.size
  refine lx_value (want rfl) (rn_not rfl) ?_
  refine lx_value (want rfl) (mv_bool rfl) ?_
  refine lx_value (want_if (j := 3) (d := 29) (x := false) (y := false) rfl rfl (by decide) rfl) (rn_loadBlk ag_193 sz_193 rfl ((Bs1.ne E4 (by omega)).ext E5) rfl rfl) ?_
  refine lx_call (want_if (j := 3) (d := 29) (x := false) (y := false) rfl rfl (by decide) rfl) (ent_func cf_126 (argsC (t_agg rfl) args0)) (wired_ct FP l bP xI1 ss cs si ci hc.sm hgb.2.1 hgb.1 hS hW hc.st1 w11 (((hpS.ext ER1).fr hfK nn).fr (Fr.ext (Fr.trans (Fr.trans (Fr.ext (Fr.ext (Fr.refl (fun k => k = b2 ∨ k = l1) w6) E1r) Eb2) Es1 (fun k _ h => (.inl h))) E4 (fun k _ h => (.inr h))) E5) (fun k hk h => by have := hFPl k hk; (try dsimp only at h); omega)) (hi1.2.fr (Fr.ext (Fr.trans (Fr.trans (Fr.ext (Fr.refl (fun k => k = b2 ∨ k = l1) w7) Eb2) Es1 (fun k _ h => (.inl h))) E4 (fun k _ h => (.inr h))) E5) (fun k hk h => by have := hFPl k hk; (try dsimp only at h); omega)) (fun k hk => by have := hFPl k hk; omega)) ?_
  rintro _ w12 E6 rfl
  have F11 := F10.ext E6
  have hz6 := E6.size
  refine lx_value (want_if (j := 3) (d := 29) (x := false) (y := false) rfl rfl (by decide) rfl) (rn_not rfl) ?_
  refine lx_value (want rfl) (pick_f rfl rfl) ?_
  refine lx_nil ?_
  refine wk_cond_f rfl ?_
  refine wk_skip ?_
  refine ⟨((HBE4.ext E5).ext E6), fun w13 E7 HRE7 => ?_⟩
  have F12 := F11.set E7 (by omega)
  have hz7 := E7.size
  exact ⟨(by omega), (show Nx _ _ true from ⟨F12, (by omega), (((((((BL1_1.ext E1r).ext Eb2).ne Es1 (by omega)).ne E4 (by omega)).ext E5).ext E6).ne E7 (by omega)), (((((((BL1_40.ext E1r).ext Eb2).ne Es1 (by omega)).ne E4 (by omega)).ext E5).ext E6).ne E7 (by omega)), (((((((BL1_41.ext E1r).ext Eb2).ne Es1 (by omega)).ne E4 (by omega)).ext E5).ext E6).ne E7 (by omega)), (((((((BL1_60.ext E1r).ext Eb2).ne Es1 (by omega)).ne E4 (by omega)).ext E5).ext E6).ne E7 (by omega)), HRE7, (((((((BL1_902.ext E1r).ext Eb2).ne Es1 (by omega)).ne E4 (by omega)).ext E5).ext E6).ne E7 (by omega)), (hfK.trans (Fr.trans (Fr.ext (Fr.ext (Fr.trans (Fr.trans (Fr.ext (Fr.ext (Fr.refl (fun k => k = b2 ∨ k = l1) w6) E1r) Eb2) Es1 (fun k _ h => (.inl h))) E4 (fun k _ h => (.inr h))) E5) E6) E7 (fun k _ h => (.inr h))) (fun i hi h hFi => by have := hFPl i hFi; (try dsimp only at h); omega))⟩)⟩
 ·
  rintro v w7 - (⟨w6, ⟨FW1, hzW1, BL1_1, BL1_40, BL1_41, BL1_60, BL1_901, BL1_902, hfK⟩, E1e⟩ | ⟨w6, hf, E1e⟩)
  ·
   have F13 := FW1.ext E1e
   have hz1e := E1e.size
   refine .inl ⟨(BL1_901.ext E1e), fun w8 E1f => ?_⟩
   have F14 := F13.set E1f (by omega)
   have hz1f := E1f.size
   refine wk_seq ?_
   refine wk_seq ?_
   refine wk_region ?_
   refine lx_value (want rfl) (mv_pointer ((hR1 3).trans rfl)) ?_
   refine lx_value (want rfl) (rn_nilCheck rfl) ?_
   refine lx_value (want rfl) (rn_fieldAddr fa_188_1 rfl) ?_
   refine lx_value (want rfl) (rn_load1Blk ag_185 rfl ((BL1_40.ext E1e).ne E1f (by omega)) rfl) ?_
   refine lx_value (v := .tuple #[.int .i64 (nm : Nat), .bool true]) (want rfl) ((by rw [← look_some (.int .i64 0) hma]; exact rn_lookLOk (k := ⟨#[109, 97, 105, 110]⟩) (l := atL l) mv_185.g rfl rfl ((BL1_41.ext E1e).ne E1f (by omega)))) ?_
   refine lx_value (want rfl) (mv_tuple rfl) ?_
   refine lx_value (want rfl) (rn_extract rfl rfl) ?_
   refine lx_value (want rfl) (rn_extract rfl rfl) ?_
   obtain ⟨by_, oy, hsy, hFy, ss, cs, si, ci, hcy, hst, hins, hroom⟩ := hL nm _ hmn
   subst hsy
   refine lx_value (want rfl) (as_int rfl) ?_
   refine lx_value (want rfl) (as_bool rfl) ?_
   refine lx_nil ?_
   refine wk_seq ?_
   refine wk_region ?_
   refine lx_value (want rfl) (mv_bool rfl) ?_
   refine lx_value (want rfl) (rn_not rfl) ?_
   refine lx_value (want rfl) (mv_bool rfl) ?_
   refine lx_value (want_if (j := 2) (d := 44) (x := false) (y := false) rfl rfl (by decide) rfl) (mv_slice ((hR1 0).trans rfl)) ?_
   refine lx_value (want_if (j := 2) (d := 44) (x := false) (y := false) rfl rfl (by decide) rfl) (mv_int rfl) ?_
   refine lx_value (want_if (j := 2) (d := 44) (x := false) (y := false) rfl rfl (by decide) rfl) (rn_index nm Tryz.underlying128 sz_181 rfl rfl rfl hnl) ?_
   refine lx_value (want_if (j := 2) (d := 44) (x := false) (y := false) rfl rfl (by decide) rfl) (rn_loadN ag_181 sz_181 rfl rfl (hcy.fr F14 (fun h : no _ => h))) ?_
   refine lx_call (want_if (j := 2) (d := 44) (x := false) (y := false) rfl rfl (by decide) rfl) (ent_func cf_127 (argsC (t_agg rfl) args0)) (kloop_ct (callee0 l ⟨#[109, 97, 105, 110]⟩) ss cs si ci F (smallI_len hmb.2.1) w8 (hins.fr (in_stab F) F14 (fun _ _ h => h))) ?_
   rintro _ w9 E8 rfl
   have F15 := F14.ext E8
   have hz8 := E8.size
   refine lx_b_f (hc.main.2) ?_
   refine lx_value (want rfl) (pick_f rfl rfl) ?_
   refine lx_nil ?_
   refine wk_cond_f rfl ?_
   refine wk_skip ?_
   refine wk_seq ?_
   refine wk_region ?_
   refine lx_set (want rfl) sz_24 ((hR1 2).trans rfl) (t_int rfl) rfl rfl rfl (((BL1_1.ext E1e).ne E1f (by omega)).ext E8) (Nat.le_of_ble_eq_true rfl) ?_
   intro w10 Es2 Bs2
   have F16 := F15.set Es2 (by omega)
   have hzs2 := Es2.size
   refine lx_nil ?_
   refine wk_ret ?_
   refine retMc ((((BL1_902.ext E1e).ne E1f (by omega)).ext E8).ne Es2 (by omega)) (fun w11 E9 => ?_)
   have F17 := F16.set E9 (by omega)
   have hz9 := E9.size
   refine retM0 ?_
   refine retR1 Tryz.results84 (.cell ((hR1 2).trans rfl) (run_loadVar_blk1 ag_24 (Bs2.ne E9 (by omega)) rfl)) F17 ?_
   exact rfl
  ·
   exact hf.elim

end Go.Proofs.YtgnnegfnpgnbbaaGreatDoor

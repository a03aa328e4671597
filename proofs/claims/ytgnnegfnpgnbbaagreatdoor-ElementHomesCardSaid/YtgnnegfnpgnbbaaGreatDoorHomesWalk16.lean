/- What functions compute: righte, shaped, sent. -/
import Derived.Test.YtgnnegfnpgnbbaaGreatDoorHomesFacts
import Derived.Test.YtgnnegfnpgnbbaaGreatDoorHomesPre
import Derived.Test.YtgnnegfnpgnbbaaGreatDoorHomesWalk11
import Derived.Test.YtgnnegfnpgnbbaaGreatDoorHomesWalk15
import Derived.Test.YtgnnegfnpgnbbaaGreatDoorHomesWalk2
import Derived.Test.YtgnnegfnpgnbbaaGreatDoorHomesWalk3
import Derived.Test.YtgnnegfnpgnbbaaGreatDoorHomesWalk5
import Derived.Test.YtgnnegfnpgnbbaaGreatDoorHomesWalk6
import Derived.Test.YtgnnegfnpgnbbaaGreatDoorHomesWalk8
set_option maxRecDepth 100000
set_option linter.unusedVariables false
set_option linter.unusedSimpArgs false
namespace Go.Proofs.YtgnnegfnpgnbbaaGreatDoor
open Go Go.RowKit Go.Mix Go.Eng
theorem righte_ct (SS : Sto) (sa : Option Addr) (ca : Nat) (sb : Option Addr) (cb : Nat) (F : Nat → Prop) (hsm : smallS SS = true) (rm : Nat) (La Lb : List Ent) (s1 : Option Addr) (c1 : Nat) (s2 : Option Addr) (c2 : Nat) (G : Nat → Prop) (hR : RightE SS rm La Lb) (w0 : World) (hS : StR F w0 SS sa ca sb cb) (h1 : EnS G w0 s1 La) (h2 : EnS G w0 s2 Lb) :
  CT Tryz.prog 36 [.agg #[.slice sa SS.slots.length ca, .slice sb SS.code.length cb], .agg #[.int .i64 (rm : Nat), .slice s1 La.length c1, .slice s2 Lb.length c2, .slice none 0 0]] w0 no (fun v _ => v = .bool true) := by
 have hrm := hR.rm
 have hlen := hR.len
 have hov := hR.over
 have hl2 := hR.len2
 have F0 := Fr.refl no w0
 refine ct_body Tryz.func36 rfl Tryz.ntmps36 (Nat.le_of_ble_eq_true rfl) ?_
 refine wk_seq ?_
 refine wk_region ?_
 refine lx_new (want rfl) (rn_box (t_agg rfl)) ?_
 intro b1 w1 hb1 Eb1 B1 hlb1
 have F1 := F0.ext Eb1
 have hzb1 := Eb1.size
 refine lx_new (want rfl) (rn_box (t_agg rfl)) ?_
 intro b2 w2 hb2 Eb2 B2 hlb2
 have F2 := F1.ext Eb2
 have hzb2 := Eb2.size
 refine lx_value (want rfl) (as_bool rfl) ?_
 refine lx_nil ?_
 refine wk_seq ?_
 refine wk_seq ?_
 refine wk_region ?_
 refine lx_value (want rfl) (rn_fieldAddr fa_42_0 rfl) ?_
 refine lx_value (want rfl) (rn_load1Blk ag_3 rfl B2 rfl) ?_
 refine lx_newS (want rfl) (rn_bslice (xs := [.tmp 7]) Tryz.underlying68 sz_3 ze_3 rfl (argsC (t_int rfl) args0) (CL.cons rfl rfl CL.nil) rfl (Nat.le_of_ble_eq_true rfl)) ?_
 intro b3 w3 hb3 Eb3 B3 hlb3
 have F3 := F2.ext Eb3
 have hzb3 := Eb3.size
 refine lx_call (want rfl) (ent_func cf_7 (argsC (t_int rfl) (argsC (t_int rfl) (argsC (t_slice rfl) args0)))) (ewithin_ct _ _ _ _ _ w3 (one_sl B3)) ?_
 rintro _ w4 E1 rfl
 have F4 := F3.ext E1
 have hz1 := E1.size
 refine lx_b_t (decide_eq_true (by omega)) ?_
 refine lx_value (want rfl) (rn_not rfl) ?_
 refine lx_value (want rfl) (mv_bool rfl) ?_
 refine lx_value (want_if (j := 5) (d := 11) (x := false) (y := false) rfl rfl (by decide) rfl) (rn_fieldAddr fa_42_1 rfl) ?_
 refine lx_value (want_if (j := 5) (d := 11) (x := false) (y := false) rfl rfl (by decide) rfl) (rn_load1Blk ag_39 rfl ((B2.ext Eb3).ext E1) rfl) ?_
 refine lx_value (want_if (j := 5) (d := 11) (x := false) (y := false) rfl rfl (by decide) rfl) (rn_len Tryz.underlying39 rfl) ?_
 refine lx_value (want_if (j := 5) (d := 11) (x := false) (y := false) rfl rfl (by decide) rfl) (rn_fieldAddr fa_42_0 rfl) ?_
 refine lx_value (want_if (j := 5) (d := 11) (x := false) (y := false) rfl rfl (by decide) rfl) (rn_load1Blk ag_3 rfl ((B2.ext Eb3).ext E1) rfl) ?_
 refine lx_value (want_if (j := 5) (d := 11) (x := false) (y := false) rfl rfl (by decide) rfl) (rn_gtr rfl rfl) ?_
 refine lx_dec_f ((by omega)) ?_
 refine lx_value (want rfl) (pick_f rfl rfl) ?_
 refine lx_value (want rfl) (mv_bool rfl) ?_
 refine lx_value (want_if (j := 13) (d := 19) (x := false) (y := false) rfl rfl (by decide) rfl) (rn_fieldAddr fa_42_2 rfl) ?_
 refine lx_value (want_if (j := 13) (d := 19) (x := false) (y := false) rfl rfl (by decide) rfl) (rn_load1Blk ag_39 rfl ((B2.ext Eb3).ext E1) rfl) ?_
 refine lx_value (want_if (j := 13) (d := 19) (x := false) (y := false) rfl rfl (by decide) rfl) (rn_len Tryz.underlying39 rfl) ?_
 refine lx_value (want_if (j := 13) (d := 19) (x := false) (y := false) rfl rfl (by decide) rfl) (rn_gtr rfl rfl) ?_
 refine lx_dec (fun h23 => ?_) (fun h23 => ?_)
 ·
  have hov2 := hov (by omega)
  refine lx_value (want_if (j := 13) (d := 19) (x := false) (y := false) rfl rfl (by decide) rfl) (mv_bool rfl) ?_
  refine lx_value (want_if (j := 18) (d := 24) (x := true) (y := true) rfl rfl (by decide) rfl) (rn_fieldAddr fa_42_1 rfl) ?_
  refine lx_value (want_if (j := 18) (d := 24) (x := true) (y := true) rfl rfl (by decide) rfl) (rn_load1Blk ag_39 rfl ((B2.ext Eb3).ext E1) rfl) ?_
  refine lx_value (want_if (j := 18) (d := 24) (x := true) (y := true) rfl rfl (by decide) rfl) (rn_len Tryz.underlying39 rfl) ?_
  refine lx_value (want_if (j := 18) (d := 24) (x := true) (y := true) rfl rfl (by decide) rfl) (rn_fieldAddr fa_42_0 rfl) ?_
  refine lx_value (want_if (j := 18) (d := 24) (x := true) (y := true) rfl rfl (by decide) rfl) (rn_load1Blk ag_3 rfl ((B2.ext Eb3).ext E1) rfl) ?_
  refine lx_value (want_if (j := 18) (d := 24) (x := true) (y := true) rfl rfl (by decide) rfl) (rn_lss rfl rfl) ?_
  refine lx_dec_f ((by omega)) ?_
  refine lx_value (want_if (j := 13) (d := 19) (x := false) (y := false) rfl rfl (by decide) rfl) (pick_t rfl rfl) ?_
  refine lx_value (want rfl) (pick_f rfl rfl) ?_
  refine lx_nil ?_
  refine wk_cond_f rfl ?_
  refine wk_skip ?_
  refine wk_seq ?_
  refine wk_region ?_
  refine lx_value (want rfl) (rn_fieldAddr fa_42_1 rfl) ?_
  refine lx_value (want rfl) (rn_load1Blk ag_39 rfl ((B2.ext Eb3).ext E1) rfl) ?_
  refine lx_value (want rfl) (rn_fieldAddr fa_42_2 rfl) ?_
  refine lx_value (want rfl) (rn_load1Blk ag_39 rfl ((B2.ext Eb3).ext E1) rfl) ?_
  refine lx_newS (want rfl) (rn_bslice (xs := [.tmp 34, .tmp 36]) Tryz.underlying168 sz_39 ze_39 rfl (argsC (t_slice rfl) (argsC (t_slice rfl) args0)) (CL.cons rfl rfl (CL.cons rfl rfl CL.nil)) rfl (Nat.le_of_ble_eq_true rfl)) ?_
  intro b4 w5 hb4 Eb4 B4 hlb4
  have F5 := F4.ext Eb4
  have hzb4 := Eb4.size
  refine lx_call (want rfl) (ent_func cf_63 (argsC (t_slice rfl) args0)) (econcat_ct La Lb b4 s1 s2 c1 c2 G (by omega) (by omega) w5 B4 (h1.fr (en_stab _) F5 (fun _ _ h => h)) (h2.fr (en_stab _) F5 (fun _ _ h => h))) ?_
  rintro _ w6 E2 ⟨sC, cC, rfl, hEC⟩
  have F6 := F5.ext E2
  have hz2 := E2.size
  have hCl : (La ++ Lb).length ≤ 2000 := by rw [List.length_append]; omega
  refine lx_value (want rfl) (as_slice rfl) ?_
  refine lx_nil ?_
  refine wk_seq ?_
  refine wk_region ?_
  refine lx_value (want rfl) (mv_slice rfl) ?_
  refine lx_value (want rfl) (rn_loadBlk ag_80 sz_80 rfl (((((B1.ext Eb2).ext Eb3).ext E1).ext Eb4).ext E2) rfl rfl) ?_
  refine lx_value (want rfl) (rn_makeFuncB (argsC (t_agg rfl) args0) args0) ?_
  refine lx_call (want rfl) (ent_func cf_64 (argsC (t_slice rfl) (argsC (t_func rfl) args0))) (alle_ct (La ++ Lb) sC cC _ 65 [.agg #[.slice sa SS.slots.length ca, .slice sb SS.code.length cb]] [] (waitB SS) cf_65 w6 (hEC.fr (en_stab _) (Fr.refl no w6) (fun _ _ h => h)) hCl (fun z so co w hz hv E => (ewaits_ct SS sa ca sb cb F hsm z so co _ (waitB_parts (List.all_eq_true.1 hR.waits z hz)) w ((hS.fr F6 (fun _ _ h => h)).ext E) hv).mono (fun _ _ h => h) (fun v w' _ h => by rw [h, List.all_eq_true.1 hR.waits z hz]))) ?_
  rintro _ w7 E3 rfl
  have F7 := F6.ext E3
  have hz3 := E3.size
  refine lx_b_t (hR.waits) ?_
  refine lx_value (want rfl) (mv_bool rfl) ?_
  refine lx_value (want_if (j := 4) (d := 43) (x := true) (y := true) rfl rfl (by decide) rfl) (rn_fieldAddr fa_42_3 rfl) ?_
  refine lx_value (want_if (j := 4) (d := 43) (x := true) (y := true) rfl rfl (by decide) rfl) (rn_load1Blk ag_40 rfl (((((B2.ext Eb3).ext E1).ext Eb4).ext E2).ext E3) rfl) ?_
  refine lx_value (want_if (j := 4) (d := 43) (x := true) (y := true) rfl rfl (by decide) rfl) (rn_loadBlk ag_80 sz_80 rfl ((((((B1.ext Eb2).ext Eb3).ext E1).ext Eb4).ext E2).ext E3) rfl rfl) ?_
  refine lx_value (want_if (j := 4) (d := 43) (x := true) (y := true) rfl rfl (by decide) rfl) (rn_makeFuncB (argsC (t_agg rfl) args0) args0) ?_
  refine lx_call (want_if (j := 4) (d := 43) (x := true) (y := true) rfl rfl (by decide) rfl) (ent_func cf_66 (argsC (t_slice rfl) (argsC (t_func rfl) args0))) (allp_ct _ _ _ w7) ?_
  rintro _ w8 E4 rfl
  have F8 := F7.ext E4
  have hz4 := E4.size
  refine lx_value (want rfl) (pick_t rfl rfl) ?_
  refine lx_value (want rfl) (mv_bool rfl) ?_
  refine lx_value (want_if (j := 11) (d := 50) (x := true) (y := true) rfl rfl (by decide) rfl) (mv_slice rfl) ?_
  refine lx_call (want_if (j := 11) (d := 50) (x := true) (y := true) rfl rfl (by decide) rfl) (ent_func cf_69 (argsC (t_slice rfl) args0)) (points_ct (La ++ Lb) sC cC _ hCl w8 (hEC.fr (en_stab _) (Fr.ext (Fr.ext (Fr.refl no w6) E3) E4) (fun _ _ h => h))) ?_
  rintro _ w9 E5 ⟨sP, cP, rfl, hDP⟩
  have F9 := F8.ext E5
  have hz5 := E5.size
  refine lx_call (want_if (j := 11) (d := 50) (x := true) (y := true) rfl rfl (by decide) rfl) (ent_func cf_68 (argsC (t_slice rfl) args0)) (differ_ct (ptsL (La ++ Lb)) sP cP _ (by unfold ptsL; rw [List.length_map]; exact hCl) hR.nd w9 (hDP.fr (ds_stab _) (Fr.refl no w9) (fun _ _ h => h))) ?_
  rintro _ w10 E6 rfl
  have F10 := F9.ext E6
  have hz6 := E6.size
  refine lx_value (want rfl) (pick_t rfl rfl) ?_
  refine lx_value (want rfl) (mv_bool rfl) ?_
  refine lx_value (want_if (j := 16) (d := 55) (x := true) (y := true) rfl rfl (by decide) rfl) (rn_fieldAddr fa_42_3 rfl) ?_
  refine lx_value (want_if (j := 16) (d := 55) (x := true) (y := true) rfl rfl (by decide) rfl) (rn_load1Blk ag_40 rfl ((((((((B2.ext Eb3).ext E1).ext Eb4).ext E2).ext E3).ext E4).ext E5).ext E6) rfl) ?_
  refine lx_call (want_if (j := 16) (d := 55) (x := true) (y := true) rfl rfl (by decide) rfl) (ent_func cf_68 (argsC (t_slice rfl) args0)) (differ_ct [] none 0 (fun _ => True) (by decide) List.nodup_nil w10 (Sl.nil _)) ?_
  rintro _ w11 E7 rfl
  have F11 := F10.ext E7
  have hz7 := E7.size
  refine lx_value (want rfl) (pick_t rfl rfl) ?_
  refine lx_value (want rfl) (as_bool rfl) ?_
  refine lx_nil ?_
  refine wk_ret ?_
  refine retR1 Tryz.results36 (.tmp (t_bool rfl)) F11 ?_
  exact rfl
 ·
  refine lx_value (want_if (j := 13) (d := 19) (x := false) (y := false) rfl rfl (by decide) rfl) (mv_bool rfl) ?_
  refine lx_skip (want_if (j := 18) (d := 24) (x := true) (y := false) rfl rfl (by decide) rfl) ?_
  refine lx_skip (want_if (j := 18) (d := 24) (x := true) (y := false) rfl rfl (by decide) rfl) ?_
  refine lx_skip (want_if (j := 18) (d := 24) (x := true) (y := false) rfl rfl (by decide) rfl) ?_
  refine lx_skip (want_if (j := 18) (d := 24) (x := true) (y := false) rfl rfl (by decide) rfl) ?_
  refine lx_skip (want_if (j := 18) (d := 24) (x := true) (y := false) rfl rfl (by decide) rfl) ?_
  refine lx_skip (want_if (j := 18) (d := 24) (x := true) (y := false) rfl rfl (by decide) rfl) ?_
  refine lx_value (want_if (j := 13) (d := 19) (x := false) (y := false) rfl rfl (by decide) rfl) (pick_f rfl rfl) ?_
  refine lx_value (want rfl) (pick_f rfl rfl) ?_
  refine lx_nil ?_
  refine wk_cond_f rfl ?_
  refine wk_skip ?_
  refine wk_seq ?_
  refine wk_region ?_
  refine lx_value (want rfl) (rn_fieldAddr fa_42_1 rfl) ?_
  refine lx_value (want rfl) (rn_load1Blk ag_39 rfl ((B2.ext Eb3).ext E1) rfl) ?_
  refine lx_value (want rfl) (rn_fieldAddr fa_42_2 rfl) ?_
  refine lx_value (want rfl) (rn_load1Blk ag_39 rfl ((B2.ext Eb3).ext E1) rfl) ?_
  refine lx_newS (want rfl) (rn_bslice (xs := [.tmp 34, .tmp 36]) Tryz.underlying168 sz_39 ze_39 rfl (argsC (t_slice rfl) (argsC (t_slice rfl) args0)) (CL.cons rfl rfl (CL.cons rfl rfl CL.nil)) rfl (Nat.le_of_ble_eq_true rfl)) ?_
  intro b5 w5 hb5 Eb5 B5 hlb5
  have F12 := F4.ext Eb5
  have hzb5 := Eb5.size
  refine lx_call (want rfl) (ent_func cf_63 (argsC (t_slice rfl) args0)) (econcat_ct La Lb b5 s1 s2 c1 c2 G (by omega) (by omega) w5 B5 (h1.fr (en_stab _) F12 (fun _ _ h => h)) (h2.fr (en_stab _) F12 (fun _ _ h => h))) ?_
  rintro _ w6 E8 ⟨sC, cC, rfl, hEC⟩
  have F13 := F12.ext E8
  have hz8 := E8.size
  have hCl : (La ++ Lb).length ≤ 2000 := by rw [List.length_append]; omega
  refine lx_value (want rfl) (as_slice rfl) ?_
  refine lx_nil ?_
  refine wk_seq ?_
  refine wk_region ?_
  refine lx_value (want rfl) (mv_slice rfl) ?_
  refine lx_value (want rfl) (rn_loadBlk ag_80 sz_80 rfl (((((B1.ext Eb2).ext Eb3).ext E1).ext Eb5).ext E8) rfl rfl) ?_
  refine lx_value (want rfl) (rn_makeFuncB (argsC (t_agg rfl) args0) args0) ?_
  refine lx_call (want rfl) (ent_func cf_64 (argsC (t_slice rfl) (argsC (t_func rfl) args0))) (alle_ct (La ++ Lb) sC cC _ 65 [.agg #[.slice sa SS.slots.length ca, .slice sb SS.code.length cb]] [] (waitB SS) cf_65 w6 (hEC.fr (en_stab _) (Fr.refl no w6) (fun _ _ h => h)) hCl (fun z so co w hz hv E => (ewaits_ct SS sa ca sb cb F hsm z so co _ (waitB_parts (List.all_eq_true.1 hR.waits z hz)) w ((hS.fr F13 (fun _ _ h => h)).ext E) hv).mono (fun _ _ h => h) (fun v w' _ h => by rw [h, List.all_eq_true.1 hR.waits z hz]))) ?_
  rintro _ w7 E9 rfl
  have F14 := F13.ext E9
  have hz9 := E9.size
  refine lx_b_t (hR.waits) ?_
  refine lx_value (want rfl) (mv_bool rfl) ?_
  refine lx_value (want_if (j := 4) (d := 43) (x := true) (y := true) rfl rfl (by decide) rfl) (rn_fieldAddr fa_42_3 rfl) ?_
  refine lx_value (want_if (j := 4) (d := 43) (x := true) (y := true) rfl rfl (by decide) rfl) (rn_load1Blk ag_40 rfl (((((B2.ext Eb3).ext E1).ext Eb5).ext E8).ext E9) rfl) ?_
  refine lx_value (want_if (j := 4) (d := 43) (x := true) (y := true) rfl rfl (by decide) rfl) (rn_loadBlk ag_80 sz_80 rfl ((((((B1.ext Eb2).ext Eb3).ext E1).ext Eb5).ext E8).ext E9) rfl rfl) ?_
  refine lx_value (want_if (j := 4) (d := 43) (x := true) (y := true) rfl rfl (by decide) rfl) (rn_makeFuncB (argsC (t_agg rfl) args0) args0) ?_
  refine lx_call (want_if (j := 4) (d := 43) (x := true) (y := true) rfl rfl (by decide) rfl) (ent_func cf_66 (argsC (t_slice rfl) (argsC (t_func rfl) args0))) (allp_ct _ _ _ w7) ?_
  rintro _ w8 E10 rfl
  have F15 := F14.ext E10
  have hz10 := E10.size
  refine lx_value (want rfl) (pick_t rfl rfl) ?_
  refine lx_value (want rfl) (mv_bool rfl) ?_
  refine lx_value (want_if (j := 11) (d := 50) (x := true) (y := true) rfl rfl (by decide) rfl) (mv_slice rfl) ?_
  refine lx_call (want_if (j := 11) (d := 50) (x := true) (y := true) rfl rfl (by decide) rfl) (ent_func cf_69 (argsC (t_slice rfl) args0)) (points_ct (La ++ Lb) sC cC _ hCl w8 (hEC.fr (en_stab _) (Fr.ext (Fr.ext (Fr.refl no w6) E9) E10) (fun _ _ h => h))) ?_
  rintro _ w9 E11 ⟨sP, cP, rfl, hDP⟩
  have F16 := F15.ext E11
  have hz11 := E11.size
  refine lx_call (want_if (j := 11) (d := 50) (x := true) (y := true) rfl rfl (by decide) rfl) (ent_func cf_68 (argsC (t_slice rfl) args0)) (differ_ct (ptsL (La ++ Lb)) sP cP _ (by unfold ptsL; rw [List.length_map]; exact hCl) hR.nd w9 (hDP.fr (ds_stab _) (Fr.refl no w9) (fun _ _ h => h))) ?_
  rintro _ w10 E12 rfl
  have F17 := F16.ext E12
  have hz12 := E12.size
  refine lx_value (want rfl) (pick_t rfl rfl) ?_
  refine lx_value (want rfl) (mv_bool rfl) ?_
  refine lx_value (want_if (j := 16) (d := 55) (x := true) (y := true) rfl rfl (by decide) rfl) (rn_fieldAddr fa_42_3 rfl) ?_
  refine lx_value (want_if (j := 16) (d := 55) (x := true) (y := true) rfl rfl (by decide) rfl) (rn_load1Blk ag_40 rfl ((((((((B2.ext Eb3).ext E1).ext Eb5).ext E8).ext E9).ext E10).ext E11).ext E12) rfl) ?_
  refine lx_call (want_if (j := 16) (d := 55) (x := true) (y := true) rfl rfl (by decide) rfl) (ent_func cf_68 (argsC (t_slice rfl) args0)) (differ_ct [] none 0 (fun _ => True) (by decide) List.nodup_nil w10 (Sl.nil _)) ?_
  rintro _ w11 E13 rfl
  have F18 := F17.ext E13
  have hz13 := E13.size
  refine lx_value (want rfl) (pick_t rfl rfl) ?_
  refine lx_value (want rfl) (as_bool rfl) ?_
  refine lx_nil ?_
  refine wk_ret ?_
  refine retR1 Tryz.results36 (.tmp (t_bool rfl)) F18 ?_
  exact rfl

set_option maxHeartbeats 1000000 in
theorem shaped_ct (F : Nat → Prop) (l : List Sg) (b : Nat) (g : Sg) (ss : Option Addr) (cs : Nat) (si : Option Addr) (ci : Nat) (hsm : smallG l = true) (hsi : smallI g.ins = true) (hsd : smallD g.st = true) (hS : Shaped l g) (w0 : World) (hp : PrgO F w0 b l) (hg : GRd F w0 g ss si ci) :
  CT Tryz.prog 125 [.agg #[.pointer (some ⟨b, 0, none⟩), .string g.nm, .int .i64 (g.ex : Nat), .slice ss g.st.length cs, .slice si g.ins.length ci]] w0 no (fun v _ => v = .bool true) := by
 have hg0 := hg
 obtain ⟨hgs, hgi, hgr⟩ := hg0
 have hsl := smallI_len hsi
 have hnl := nodesN_le g.ins
 have hst := hS.st
 have hex := hS.ex
 have hTk := hgi.take (nodesN g.ins)
 have hTd := hgi.drop (k := nodesN g.ins) hgr
 have hlt2 : (g.ins.take (nodesN g.ins)).length = nodesN g.ins := by rw [List.length_take]; omega
 have hld2 : (g.ins.drop (nodesN g.ins)).length = g.ins.length - nodesN g.ins := List.length_drop
 have htail := hS.tail
 have F0 := Fr.refl no w0
 refine ct_body Tryz.func125 rfl Tryz.ntmps125 (Nat.le_of_ble_eq_true rfl) ?_
 refine wk_seq ?_
 refine wk_region ?_
 refine lx_new (want rfl) (rn_box (t_agg rfl)) ?_
 intro b1 w1 hb1 Eb1 B1 hlb1
 have F1 := F0.ext Eb1
 have hzb1 := Eb1.size
 refine lx_value (want rfl) (as_bool rfl) ?_
 refine lx_nil ?_
 refine wk_seq ?_
 refine wk_seq ?_
 refine wk_mix 31 (fun kS => match kS with | 3 => .val (.bool true) | 10 => .val (.bool (decide ((1 : Int) ≤ (g.st.length : Int) ∧ (g.st.length : Int) ≤ 12))) | 17 => .val (.bool (decide ((0 : Int) ≤ ((g.ex : Nat) : Int) ∧ ((g.ex : Nat) : Int) ≤ 12))) | 25 => .val (.int .i64 (nodesN g.ins : Nat)) | 30 => .val (.bool true) | _ => .none) (by kernel_rfl) (by kernel_rfl) (by intro kS G hk; (try dsimp only at hk); (split at hk) <;> first | (cases hk; done) | (injection hk with hk; subst hk; exact ⟨by intro j hkj I v w w' hR hG; first | exact hG, fun ⟨_, _, _, _, hs⟩ => by (try dsimp only at hs); split at hs <;> cases hs⟩)) (by intro kS s y G hk; (try dsimp only at hk); split at hk <;> cases hk) ?_
 simp only [List.take_succ_cons, List.take_zero, List.take_nil, List.drop_succ_cons, List.drop_zero, List.drop_nil]
 refine mx_calm rfl (want rfl) (fun u1 eu1 fu1 => rn_fieldAddr fa_193_1 rfl) ?_
 refine mx_calm rfl (want rfl) (fun u2 eu2 fu2 => rn_fieldAddr fa_181_0 rfl) ?_
 refine mx_calm rfl (want rfl) (fun u3 eu3 fu3 => rn_load1Blk ag_9 rfl (B1.ext ((ext_drawn _).trans' eu3)) rfl) ?_
 refine mx_val rfl (want rfl) (fun u4 eu4 fu4 => do_call (ent_func cf_138 (argsC (t_string rfl) args0)) (isname_ct _ hS.name u4) (fun _ _ E h => ⟨E, h⟩)) ?_
 refine mx_b_t (rfl) ?_
 refine mx_calm rfl (want rfl) (fun u5 eu5 fu5 => rn_not rfl) ?_
 refine mx_calm rfl (want rfl) (fun u6 eu6 fu6 => mv_bool rfl) ?_
 refine mx_calm rfl (want_if (j := 5) (d := 9) (x := false) (y := false) rfl rfl (by decide) rfl) (fun u7 eu7 fu7 => rn_fieldAddr fa_193_1 rfl) ?_
 refine mx_calm rfl (want_if (j := 5) (d := 9) (x := false) (y := false) rfl rfl (by decide) rfl) (fun u8 eu8 fu8 => rn_fieldAddr fa_181_2 rfl) ?_
 refine mx_calm rfl (want_if (j := 5) (d := 9) (x := false) (y := false) rfl rfl (by decide) rfl) (fun u9 eu9 fu9 => rn_load1Blk ag_71 rfl (B1.ext ((ext_drawn _).trans' eu9)) rfl) ?_
 refine mx_calm rfl (want_if (j := 5) (d := 9) (x := false) (y := false) rfl rfl (by decide) rfl) (fun u10 eu10 fu10 => rn_len Tryz.underlying71 rfl) ?_
 refine mx_val rfl (want_if (j := 5) (d := 9) (x := false) (y := false) rfl rfl (by decide) rfl) (fun u11 eu11 fu11 => do_call (ent_func cf_139 (argsC (t_int rfl) (argsC (t_int rfl) (argsC (t_int rfl) args0)))) (kwithin_ct _ _ _ u11) (fun _ _ E h => ⟨E, h⟩)) ?_
 refine mx_b_t ((decide_eq_true (by omega))) ?_
 refine mx_calm rfl (want_if (j := 5) (d := 9) (x := false) (y := false) rfl rfl (by decide) rfl) (fun u12 eu12 fu12 => rn_not rfl) ?_
 refine mx_calm rfl (want rfl) (fun u13 eu13 fu13 => pick_f rfl rfl) ?_
 refine mx_calm rfl (want rfl) (fun u14 eu14 fu14 => mv_bool rfl) ?_
 refine mx_calm rfl (want_if (j := 13) (d := 17) (x := false) (y := false) rfl rfl (by decide) rfl) (fun u15 eu15 fu15 => rn_fieldAddr fa_193_1 rfl) ?_
 refine mx_calm rfl (want_if (j := 13) (d := 17) (x := false) (y := false) rfl rfl (by decide) rfl) (fun u16 eu16 fu16 => rn_fieldAddr fa_181_1 rfl) ?_
 refine mx_calm rfl (want_if (j := 13) (d := 17) (x := false) (y := false) rfl rfl (by decide) rfl) (fun u17 eu17 fu17 => rn_load1Blk ag_3 rfl (B1.ext ((ext_drawn _).trans' eu17)) rfl) ?_
 refine mx_val rfl (want_if (j := 13) (d := 17) (x := false) (y := false) rfl rfl (by decide) rfl) (fun u18 eu18 fu18 => do_call (ent_func cf_139 (argsC (t_int rfl) (argsC (t_int rfl) (argsC (t_int rfl) args0)))) (kwithin_ct _ _ _ u18) (fun _ _ E h => ⟨E, h⟩)) ?_
 refine mx_b_t ((decide_eq_true (by omega))) ?_
 refine mx_calm rfl (want_if (j := 13) (d := 17) (x := false) (y := false) rfl rfl (by decide) rfl) (fun u19 eu19 fu19 => rn_not rfl) ?_
 refine mx_calm rfl (want rfl) (fun u20 eu20 fu20 => pick_f rfl rfl) ?_
 refine mx_calm rfl (want rfl) (fun u21 eu21 fu21 => mv_bool rfl) ?_
 refine mx_calm rfl (want_if (j := 20) (d := 24) (x := false) (y := false) rfl rfl (by decide) rfl) (fun u22 eu22 fu22 => rn_fieldAddr fa_193_1 rfl) ?_
 refine mx_calm rfl (want_if (j := 20) (d := 24) (x := false) (y := false) rfl rfl (by decide) rfl) (fun u23 eu23 fu23 => rn_fieldAddr fa_181_3 rfl) ?_
 refine mx_calm rfl (want_if (j := 20) (d := 24) (x := false) (y := false) rfl rfl (by decide) rfl) (fun u24 eu24 fu24 => rn_load1Blk ag_33 rfl (B1.ext ((ext_drawn _).trans' eu24)) rfl) ?_
 refine mx_calm rfl (want_if (j := 20) (d := 24) (x := false) (y := false) rfl rfl (by decide) rfl) (fun u25 eu25 fu25 => rn_loadBlk ag_193 sz_193 rfl (B1.ext ((ext_drawn _).trans' eu25)) rfl rfl) ?_
 refine mx_val rfl (want_if (j := 20) (d := 24) (x := false) (y := false) rfl rfl (by decide) rfl) (fun u26 eu26 fu26 => do_call (ent_func cf_141 (argsC (t_agg rfl) args0)) (nodes_ct _ g ss cs si ci F hsl u26 (hgi.fr (in_stab F) (F1.ext ((ext_drawn _).trans' eu26)) (fun _ _ h => h))) (fun _ _ E h => ⟨E, h⟩)) ?_
 refine mx_calm rfl (want_if (j := 20) (d := 24) (x := false) (y := false) rfl rfl (by decide) rfl) (fun u27 eu27 fu27 => rn_sliceTo (nodesN g.ins) Tryz.underlying33 sz_73 rfl rfl rfl (by omega)) ?_
 refine mx_calm rfl (want_if (j := 20) (d := 24) (x := false) (y := false) rfl rfl (by decide) rfl) (fun u28 eu28 fu28 => rn_fieldAddr fa_193_0 rfl) ?_
 refine mx_calm rfl (want_if (j := 20) (d := 24) (x := false) (y := false) rfl rfl (by decide) rfl) (fun u29 eu29 fu29 => rn_load1Blk ag_182 rfl (B1.ext ((ext_drawn _).trans' eu29)) rfl) ?_
 refine mx_calm rfl (want_if (j := 20) (d := 24) (x := false) (y := false) rfl rfl (by decide) rfl) (fun u30 eu30 fu30 => rn_makeFuncB (argsC (t_pointer rfl) args0) args0) ?_
 refine mx_val rfl (want_if (j := 20) (d := 24) (x := false) (y := false) rfl rfl (by decide) rfl) (fun u31 eu31 fu31 => do_call (ent_func cf_140 (argsC (t_slice rfl) (argsC (t_func rfl) args0))) ((by have h := alln_ct (g.ins.take (nodesN g.ins)) si ci F 142 [.pointer (some ⟨b, 0, none⟩)] [] (rightB l) cf_142 u31 (hTk.fr (in_stab F) (F1.ext ((ext_drawn _).trans' eu31)) (fun _ _ h => h)) (by omega) (fun x so co w hx E => (kright_ct F l b x so co hsm (List.all_eq_true.1 (all_take hS.ok _) x hx) (List.all_eq_true.1 hS.right x hx) w ((hp.fr (F1.ext ((ext_drawn _).trans' eu31)) (fun _ _ h => h)).ext E)).mono (fun _ _ h => h) (fun v w' _ h => by rw [h, List.all_eq_true.1 hS.right x hx])); rw [hlt2] at h; exact h)) (fun _ _ E h => ⟨E, (by rw [h, hS.right])⟩)) ?_
 refine mx_b_t (rfl) ?_
 refine mx_nil (fun w2 E1' H1 HS => ?_)
 have E1 := (ext_drawn _).trans' E1'
 have F2 := F1.ext E1
 have hz1 := E1.size
 refine lx_value (want_if (j := 20) (d := 24) (x := false) (y := false) rfl rfl (by decide) rfl) (rn_not rfl) ?_
 refine lx_value (want rfl) (pick_f rfl rfl) ?_
 refine lx_nil ?_
 refine wk_cond_f rfl ?_
 refine wk_skip ?_
 refine wk_seq ?_
 refine wk_mix 5 (fun kS => match kS with | 4 => .val (.int .i64 (nodesN g.ins : Nat)) | _ => .none) (by kernel_rfl) (by kernel_rfl) (by intro kS G hk; (try dsimp only at hk); (split at hk) <;> first | (cases hk; done) | (injection hk with hk; subst hk; exact ⟨by intro j hkj I v w w' hR hG; first | exact hG, fun ⟨_, _, _, _, hs⟩ => by (try dsimp only at hs); split at hs <;> cases hs⟩)) (by intro kS s y G hk; (try dsimp only at hk); split at hk <;> cases hk) ?_
 simp only [List.take_succ_cons, List.take_zero, List.take_nil, List.drop_succ_cons, List.drop_zero, List.drop_nil]
 refine mx_calm rfl (want rfl) (fun u32 eu32 fu32 => rn_fieldAddr fa_193_1 rfl) ?_
 refine mx_calm rfl (want rfl) (fun u33 eu33 fu33 => rn_fieldAddr fa_181_3 rfl) ?_
 refine mx_calm rfl (want rfl) (fun u34 eu34 fu34 => rn_load1Blk ag_33 rfl ((B1.ext E1).ext ((ext_drawn _).trans' eu34)) rfl) ?_
 refine mx_calm rfl (want rfl) (fun u35 eu35 fu35 => rn_loadBlk ag_193 sz_193 rfl ((B1.ext E1).ext ((ext_drawn _).trans' eu35)) rfl rfl) ?_
 refine mx_val rfl (want rfl) (fun u36 eu36 fu36 => do_call (ent_func cf_141 (argsC (t_agg rfl) args0)) (nodes_ct _ g ss cs si ci F hsl u36 (hgi.fr (in_stab F) (F2.ext ((ext_drawn _).trans' eu36)) (fun _ _ h => h))) (fun _ _ E h => ⟨E, h⟩)) ?_
 refine mx_nil (fun w3 E2' H2 HS => ?_)
 have E2 := (ext_drawn _).trans' E2'
 have F3 := F2.ext E2
 have hz2 := E2.size
 refine lx_value (want rfl) (rn_sliceFrom (nodesN g.ins) Tryz.underlying33 sz_73 rfl rfl rfl (by omega)) ?_
 refine lx_value (want rfl) (as_slice rfl) ?_
 refine lx_nil ?_
 refine wk_seq ?_
 refine wk_seq ?_
 refine wk_region ?_
 refine lx_value (want rfl) (mv_slice rfl) ?_
 refine lx_value (want rfl) (rn_loadBlk ag_193 sz_193 rfl ((B1.ext E1).ext E2) rfl rfl) ?_
 refine lx_call (want rfl) (ent_func cf_144 (argsC (t_agg rfl) args0)) (tail_ct F l b g ss cs si ci hsm hsi hsd hS w3 (hp.fr F3 (fun _ _ h => h)) (hg.fr F3 (fun _ _ h => h))) ?_
 rintro _ w4 E3 ⟨sT, cT, rfl, hOT, hgT⟩
 have F4 := F3.ext E3
 have hz3 := E3.size
 refine lx_call (want rfl) (ent_func cf_143 (argsC (t_slice rfl) (argsC (t_slice rfl) (argsC rfl args0)))) ((by have h := eqtail_ct (g.ins.drop (nodesN g.ins)) (tailL l g) (dropAt si (nodesN g.ins) ci 4) sT (ci - nodesN g.ins) cT F (fun _ => True) htail (by omega) w4 (hTd.fr (in_stab F) F4 (fun _ _ h => h)) (hOT.sl (by decide) rfl (fun _ _ => rfl) (fun _ _ => trivial)); rw [hld2] at h; exact h)) ?_
 rintro _ w5 E4 rfl
 have F5 := F4.ext E4
 have hz4 := E4.size
 refine lx_value (want rfl) (rn_not rfl) ?_
 refine lx_nil ?_
 refine wk_cond_f rfl ?_
 refine wk_skip ?_
 refine wk_seq ?_
 refine wk_region ?_
 refine lx_value (want rfl) (rn_fieldAddr fa_193_1 rfl) ?_
 refine lx_value (want rfl) (rn_fieldAddr fa_181_3 rfl) ?_
 refine lx_value (want rfl) (rn_load1Blk ag_33 rfl ((((B1.ext E1).ext E2).ext E3).ext E4) rfl) ?_
 refine lx_value (want rfl) (rn_makeFunc (argsC (t_pointer rfl) args0)) ?_
 refine lx_call (want rfl) (ent_func cf_140 (argsC (t_slice rfl) (argsC (t_func rfl) args0))) (alln_ct g.ins si ci F 146 [] [.pointer (some ⟨b1, 0, none⟩)] (fun x => decide ((x.outs.length : Int) = outP l x)) cf_146 w5 (hgi.fr (in_stab F) F5 (fun _ _ h => h)) hsl (fun x so co w hx E => shaped2_ct F l b g ss cs si ci hsm hsi hsd x so co b1 (List.all_eq_true.1 hS.ok x hx) w ((hp.fr F5 (fun _ _ h => h)).ext E) (((((B1.ext E1).ext E2).ext E3).ext E4).ext E))) ?_
 rintro _ w6 E5 rfl
 have F6 := F5.ext E5
 have hz5 := E5.size
 refine lx_value (want rfl) (as_bool rfl) ?_
 refine lx_nil ?_
 refine wk_ret ?_
 refine retR1 Tryz.results125 (.tmp (t_bool rfl)) F6 ?_
 exact congrArg Value.bool hS.outs

theorem sent_ct (SS : Sto) (sa : Option Addr) (ca : Nat) (sb : Option Addr) (cb : Nat) (F : Nat → Prop) (hsm : smallS SS = true) (l : List Tok) (s : Option Addr) (c : Nat) (G : Nat → Prop) (hl1 : l.length ≤ 2000) (hs : l.all (sentB SS) = true) (w0 : World) (hS : StR F w0 SS sa ca sb cb) (hl : TkS G w0 s l) :
  CT Tryz.prog 32 [.agg #[.slice sa SS.slots.length ca, .slice sb SS.code.length cb], .slice s l.length c] w0 no (fun v _ => v = .tuple #[.slice s l.length c, .int .i64 0]) := by
 have F0 := Fr.refl no w0
 refine ct_body Tryz.func32 rfl Tryz.ntmps32 (Nat.le_of_ble_eq_true rfl) ?_
 refine wk_seq ?_
 refine wk_region ?_
 refine lx_new (want rfl) (rn_box (t_agg rfl)) ?_
 intro b1 w1 hb1 Eb1 B1 hlb1
 have F1 := F0.ext Eb1
 have hzb1 := Eb1.size
 refine lx_value (want rfl) (as_slice rfl) ?_
 refine lx_value (want rfl) (as_int rfl) ?_
 refine lx_nil ?_
 refine wk_seq ?_
 refine wk_seq ?_
 refine wk_region ?_
 refine lx_value (want rfl) (rn_loadBlk ag_80 sz_80 rfl B1 rfl rfl) ?_
 refine lx_value (want rfl) (mv_slice rfl) ?_
 refine lx_call (want rfl) (ent_func cf_60 (argsC (t_agg rfl) (argsC (t_slice rfl) args0))) (issent_ct SS sa ca sb cb F hsm l s c G hl1 hs w1 (hS.fr F1 (fun _ _ h => h)) (hl.fr (tk_stab _) F1 (fun _ _ h => h))) ?_
 rintro _ w2 E1 rfl
 have F2 := F1.ext E1
 have hz1 := E1.size
 refine lx_value (want rfl) (as_int rfl) ?_
 refine lx_nil ?_
 refine wk_seq ?_
 refine wk_region ?_
 refine lx_value (want rfl) (mv_int rfl) ?_
 refine lx_value (want rfl) (rn_neq rfl rfl) ?_
 refine lx_dec_f ((fun g => g rfl)) ?_
 refine lx_nil ?_
 refine wk_cond_f rfl ?_
 refine wk_skip ?_
 refine wk_seq ?_
 refine wk_region ?_
 refine lx_value (want rfl) (mv_slice rfl) ?_
 refine lx_value (want rfl) (as_slice rfl) ?_
 refine lx_value (want rfl) (as_int rfl) ?_
 refine lx_nil ?_
 refine wk_ret ?_
 refine retR2 Tryz.results32 (.tmp (t_slice rfl)) (.tmp (t_int rfl)) F2 ?_
 exact rfl

end Go.Proofs.YtgnnegfnpgnbbaaGreatDoor

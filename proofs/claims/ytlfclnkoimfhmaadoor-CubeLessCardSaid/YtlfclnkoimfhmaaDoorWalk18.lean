/- What functions of the cube compute: awake. -/
import Derived.Test.YtlfclnkoimfhmaaDoorFacts
import Derived.Test.YtlfclnkoimfhmaaDoorPre
import Derived.Test.YtlfclnkoimfhmaaDoorWalk1
import Derived.Test.YtlfclnkoimfhmaaDoorWalk15
import Derived.Test.YtlfclnkoimfhmaaDoorWalk16
import Derived.Test.YtlfclnkoimfhmaaDoorWalk17
import Derived.Test.YtlfclnkoimfhmaaDoorWalk8
set_option linter.unusedVariables false
set_option linter.unusedSimpArgs false
namespace Go.Proofs.YtlfclnkoimfhmaaDoor
open Go Go.RowKit Go.Mix Go.Eng
set_option maxHeartbeats 4000000 in
set_option maxRecDepth 100000 in
theorem awake_ct (w0 : World) (hT : Tb w0 1) :
    CT Tryd.prog 21 [] w0 no (fun v _ => v = .bool true) := by
  have hTl := hT.lt
  have F0 := Fr.refl no w0
  refine ct_body Tryd.func21 rfl Tryd.ntmps21 (Nat.le_of_ble_eq_true rfl) ?_
  refine wk_seq ?_
  refine wk_region ?_
  refine lx_value (want rfl) (as_bool rfl) ?_
  refine lx_nil ?_
  refine wk_seq ?_
  refine wk_region ?_
  refine lx_call (want rfl) (ent_func cf_17 (argsC (t_int rfl) (argsC (t_int rfl) (argsC (t_int rfl) args0)))) (xway_ct 3 1 6 w0 hT) ?_
  rintro _ w1 E1 ⟨_, rfl, hW⟩
  have F1 := F0.ext E1
  have hz1 := E1.size
  rw [show wayR 3 1 6 = [1, 0, 2, 6] from by decide +kernel] at hW
  obtain ⟨sW, cW, rfl, hW⟩ := hW
  refine lx_value (want rfl) (mv_tuple rfl) ?_
  refine lx_value (want rfl) (rn_extract rfl rfl) ?_
  refine lx_value (want rfl) (rn_extract rfl rfl) ?_
  refine lx_value (want rfl) (as_slice rfl) ?_
  refine lx_value (want rfl) (as_int rfl) ?_
  refine lx_nil ?_
  refine wk_seq ?_
  refine wk_region ?_
  refine lx_call (want rfl) (ent_func cf_15 (argsC (t_int rfl) (argsC (t_int rfl) args0))) (xnew_ct 1 1 w1 (hT.ext E1)) ?_
  rintro _ w2 E2 ⟨_, rfl, hN⟩
  have F2 := F1.ext E2
  have hz2 := E2.size
  rw [show newC 1 1 = ((1 : Int), (1 : Int), ([[], [], [], []] : List (List Pk))) from by decide +kernel] at hN
  obtain ⟨sN, cN, rfl, hN⟩ := hN
  refine lx_value (want rfl) (mv_tuple rfl) ?_
  refine lx_value (want rfl) (rn_extract rfl rfl) ?_
  refine lx_value (want rfl) (rn_extract rfl rfl) ?_
  refine lx_new (want rfl) (rn_alloc ze_24) ?_
  intro b21 w3 hb21 Eb21 B21 hlb21
  have F3 := F2.ext Eb21
  have hzb21 := Eb21.size
  refine lx_set (want rfl) sz_24 rfl (t_agg rfl) rfl rfl rfl B21 (Nat.le_of_ble_eq_true rfl) ?_
  intro w4 Es1 Bs1
  have F4 := F3.set Es1 (by omega)
  have hzs1 := Es1.size
  refine lx_value (want rfl) (as_int rfl) ?_
  refine lx_nil ?_
  refine wk_seq ?_
  refine wk_region ?_
  refine lx_value (want rfl) (rn_loadBlk ag_24 sz_24 rfl Bs1 rfl rfl) ?_
  refine lx_value (want rfl) (rn_build2 (t_int rfl) (t_int rfl) (fun w => bd_41_1_2 _ _ w)) ?_
  refine lx_call (want rfl) (ent_func cf_28 (argsC (t_agg rfl) (argsC (t_agg rfl) args0))) (xput_ct 1 1 ([[], [], [], []] : List (List Pk)) sN cN _ (show Bd ([[], [], [], []] : List (List Pk)) from ⟨by decide, by decide +kernel⟩) 0 1 7 w4 (hN.fr (buf_stab _) (Fr.trans (Fr.ext (Fr.refl (fun k => k = b21) w2) Eb21) Es1 (fun k _ h => h)) (fun k hk h => by first | exact h | (have := hk.1; have := hk.2; (try dsimp only at h); first | omega | (rcases h with h | h <;> first | omega | (have := ob_some h; omega))))) ((((hT.ext E1).ext E2).ext Eb21).ne Es1 (by omega))) ?_
  rintro _ w5 E3 ⟨_, rfl, hP⟩
  have F5 := F4.ext E3
  have hz3 := E3.size
  rw [show putC 1 1 ([[], [], [], []] : List (List Pk)) (0, 1, 7) = ((1 : Int), (1 : Int), ([[], [(0, 1, 7)], [], []] : List (List Pk))) from by decide +kernel] at hP
  obtain ⟨sP, cP, rfl, hP⟩ := hP
  obtain ⟨bx, ox, hsx, hfx, sx, cx, hcx, _⟩ := hP 1 _ rfl
  subst hsx
  refine lx_value (want rfl) (mv_tuple rfl) ?_
  refine lx_value (want rfl) (rn_extract rfl rfl) ?_
  refine lx_value (want rfl) (rn_extract rfl rfl) ?_
  refine lx_set (want rfl) sz_24 rfl (t_agg rfl) rfl rfl rfl (Bs1.ext E3) (Nat.le_of_ble_eq_true rfl) ?_
  intro w6 Es2 Bs2
  have F6 := F5.set Es2 (by omega)
  have hzs2 := Es2.size
  refine lx_value (want rfl) (as_int rfl) ?_
  refine lx_nil ?_
  refine wk_seq ?_
  refine wk_region ?_
  refine lx_value (want rfl) (rn_loadBlk ag_24 sz_24 rfl Bs2 rfl rfl) ?_
  refine lx_call (want rfl) (ent_func cf_23 (argsC (t_agg rfl) args0)) (copyR (copy_ct 1 1 ([[], [(0, 1, 7)], [], []] : List (List Pk)) _ cP _ (show Bd ([[], [(0, 1, 7)], [], []] : List (List Pk)) from ⟨by decide, by decide +kernel⟩) w6 (hP.fr (buf_stab _) (Fr.trans (Fr.refl (fun k => k = b21) w5) Es2 (fun k _ h => h)) (fun k hk h => by first | exact h | (have := hk.1; have := hk.2; (try dsimp only at h); first | omega | (rcases h with h | h <;> first | omega | (have := ob_some h; omega))))))) ?_
  rintro _ w7 E4 ⟨sC, cC, rfl, hC⟩
  have F7 := F6.ext E4
  have hz4 := E4.size
  refine lx_value (want rfl) (rn_build2 (t_int rfl) (t_int rfl) (fun w => bd_41_1_2 _ _ w)) ?_
  refine lx_call (want rfl) (ent_func cf_28 (argsC (t_agg rfl) (argsC (t_agg rfl) args0))) (xput_ct 1 1 ([[], [(0, 1, 7)], [], []] : List (List Pk)) sC cC _ (show Bd ([[], [(0, 1, 7)], [], []] : List (List Pk)) from ⟨by decide, by decide +kernel⟩) 0 1 8 w7 (hC.fr (buf_stab _) (Fr.refl no w7) (fun k hk h => by first | exact h | (have := hk.1; have := hk.2; (try dsimp only at h); first | omega | (rcases h with h | h <;> first | omega | (have := ob_some h; omega))))) (((((((hT.ext E1).ext E2).ext Eb21).ne Es1 (by omega)).ext E3).ne Es2 (by omega)).ext E4)) ?_
  rintro _ w8 E5 ⟨_, rfl, hX⟩
  have F8 := F7.ext E5
  have hz5 := E5.size
  rw [show putC 1 1 ([[], [(0, 1, 7)], [], []] : List (List Pk)) (0, 1, 8) = ((0 : Int), (0 : Int), ([] : List (List Pk))) from by decide +kernel] at hX
  obtain ⟨sX, cX, rfl, hX⟩ := hX
  refine lx_value (want rfl) (mv_tuple rfl) ?_
  refine lx_value (want rfl) (rn_extract rfl rfl) ?_
  refine lx_value (want rfl) (rn_extract rfl rfl) ?_
  refine lx_new (want rfl) (rn_alloc ze_24) ?_
  intro b22 w9 hb22 Eb22 B22 hlb22
  have F9 := F8.ext Eb22
  have hzb22 := Eb22.size
  refine lx_set (want rfl) sz_24 rfl (t_agg rfl) rfl rfl rfl B22 (Nat.le_of_ble_eq_true rfl) ?_
  intro w10 Es3 Bs3
  have F10 := F9.set Es3 (by omega)
  have hzs3 := Es3.size
  refine lx_value (want rfl) (as_int rfl) ?_
  refine lx_nil ?_
  refine wk_seq ?_
  refine wk_seq ?_
  refine wk_region ?_
  refine lx_value (want rfl) (mv_int rfl) ?_
  refine lx_value (want rfl) (rn_neq rfl rfl) ?_
  refine lx_dec_f (by decide +kernel) ?_
  refine lx_value (want rfl) (mv_bool rfl) ?_
  refine lx_value (want_if (j := 2) (d := 45) (x := false) (y := false) rfl rfl (by decide) rfl) (mv_int rfl) ?_
  refine lx_value (want_if (j := 2) (d := 45) (x := false) (y := false) rfl rfl (by decide) rfl) (rn_neq rfl rfl) ?_
  refine lx_dec_f (by decide +kernel) ?_
  refine lx_value (want rfl) (pick_f rfl rfl) ?_
  refine lx_value (want rfl) (mv_bool rfl) ?_
  refine lx_value (want_if (j := 6) (d := 49) (x := false) (y := false) rfl rfl (by decide) rfl) (mv_int rfl) ?_
  refine lx_value (want_if (j := 6) (d := 49) (x := false) (y := false) rfl rfl (by decide) rfl) (rn_neq rfl rfl) ?_
  refine lx_dec_f (by decide +kernel) ?_
  refine lx_value (want rfl) (pick_f rfl rfl) ?_
  refine lx_value (want rfl) (mv_bool rfl) ?_
  refine lx_value (want_if (j := 10) (d := 53) (x := false) (y := false) rfl rfl (by decide) rfl) (mv_int rfl) ?_
  refine lx_value (want_if (j := 10) (d := 53) (x := false) (y := false) rfl rfl (by decide) rfl) (rn_neq rfl rfl) ?_
  refine lx_dec_f (by decide +kernel) ?_
  refine lx_value (want rfl) (pick_f rfl rfl) ?_
  refine lx_value (want rfl) (mv_bool rfl) ?_
  refine lx_value (want_if (j := 14) (d := 57) (x := false) (y := false) rfl rfl (by decide) rfl) (mv_slice rfl) ?_
  refine lx_newS (want_if (j := 14) (d := 57) (x := false) (y := false) rfl rfl (by decide) rfl) (rn_bslice (xs := [_, _, _, _]) Tryd.underlying28 sz_3 ze_3 rfl (argsC (t_int rfl) (argsC (t_int rfl) (argsC (t_int rfl) (argsC (t_int rfl) args0)))) (CL.cons rfl rfl (CL.cons rfl rfl (CL.cons rfl rfl (CL.cons rfl rfl CL.nil)))) rfl (Nat.le_of_ble_eq_true rfl)) ?_
  intro b23 w11 hb23 Eb23 B23 hlb23
  have F11 := F10.ext Eb23
  have hzb23 := Eb23.size
  refine lx_call (want_if (j := 14) (d := 57) (x := false) (y := false) rfl rfl (by decide) rfl) (ent_func cf_20 (argsC (t_slice rfl) (argsC (t_slice rfl) args0))) (ints_ct [1, 0, 2, 6] [1, 0, 2, 6] _ _ _ _ _ _ w11 (hW.fr (int_stab _) (Fr.ext (Fr.trans (Fr.ext (Fr.ext (Fr.ext (Fr.trans (Fr.ext (Fr.trans (Fr.ext (Fr.ext (Fr.refl (fun k => k = b21 ∨ k = b22) w1) E2) Eb21) Es1 (fun k _ h => (.inl h))) E3) Es2 (fun k _ h => (.inl h))) E4) E5) Eb22) Es3 (fun k _ h => (.inr h))) Eb23) (fun k hk h => by first | exact h | (have := hk.1; have := hk.2; (try dsimp only at h); omega))) (blk_ints [1, 0, 2, 6] B23) (by decide)) ?_
  rintro _ w12 E6 rfl
  have F12 := F11.ext E6
  have hz6 := E6.size
  refine lx_b_t (by decide +kernel) ?_
  refine lx_value (want_if (j := 14) (d := 57) (x := false) (y := false) rfl rfl (by decide) rfl) (rn_not rfl) ?_
  refine lx_value (want rfl) (pick_f rfl rfl) ?_
  refine lx_value (want rfl) (mv_bool rfl) ?_
  refine lx_value (want_if (j := 20) (d := 63) (x := false) (y := false) rfl rfl (by decide) rfl) (rn_fieldAddr fa_24_2 rfl) ?_
  refine lx_value (want_if (j := 20) (d := 63) (x := false) (y := false) rfl rfl (by decide) rfl) (rn_load1Blk ag_22 rfl ((((((Bs2.ext E4).ext E5).ext Eb22).ne Es3 (by omega)).ext Eb23).ext E6) rfl) ?_
  refine lx_value (want_if (j := 20) (d := 63) (x := false) (y := false) rfl rfl (by decide) rfl) (rn_len Tryd.underlying22 rfl) ?_
  refine lx_value (want_if (j := 20) (d := 63) (x := false) (y := false) rfl rfl (by decide) rfl) (rn_neq rfl rfl) ?_
  refine lx_dec_f (by decide +kernel) ?_
  refine lx_value (want rfl) (pick_f rfl rfl) ?_
  refine lx_value (want rfl) (mv_bool rfl) ?_
  refine lx_value (want_if (j := 26) (d := 69) (x := false) (y := false) rfl rfl (by decide) rfl) (rn_fieldAddr fa_24_2 rfl) ?_
  refine lx_value (want_if (j := 26) (d := 69) (x := false) (y := false) rfl rfl (by decide) rfl) (rn_load1Blk ag_22 rfl ((((((Bs2.ext E4).ext E5).ext Eb22).ne Es3 (by omega)).ext Eb23).ext E6) rfl) ?_
  refine lx_value (want_if (j := 26) (d := 69) (x := false) (y := false) rfl rfl (by decide) rfl) (rn_index 1 Tryd.underlying22 sz_49 rfl rfl rfl (by decide)) ?_
  refine lx_value (want_if (j := 26) (d := 69) (x := false) (y := false) rfl rfl (by decide) rfl) (rn_load1 ag_49 rfl ((Fr.ext (Fr.ext (Fr.trans (Fr.ext (Fr.ext (Fr.ext (Fr.trans (Fr.refl (fun k => k = b21 ∨ k = b22) w5) Es2 (fun k _ h => (.inl h))) E4) E5) Eb22) Es3 (fun k _ h => (.inr h))) Eb23) E6).cell (fun h => by first | exact h | (have := hfx.1; have := hfx.2; dsimp only at h; omega)) hcx)) ?_
  refine lx_value (want_if (j := 26) (d := 69) (x := false) (y := false) rfl rfl (by decide) rfl) (rn_len Tryd.underlying49 rfl) ?_
  refine lx_value (want_if (j := 26) (d := 69) (x := false) (y := false) rfl rfl (by decide) rfl) (rn_neq rfl rfl) ?_
  refine lx_dec_f (by decide +kernel) ?_
  refine lx_value (want rfl) (pick_f rfl rfl) ?_
  refine lx_nil ?_
  refine wk_cond_f rfl ?_
  refine wk_skip ?_
  refine wk_seq ?_
  refine wk_region ?_
  refine lx_value (want rfl) (rn_loadBlk ag_24 sz_24 rfl ((((((Bs2.ext E4).ext E5).ext Eb22).ne Es3 (by omega)).ext Eb23).ext E6) rfl rfl) ?_
  refine lx_value (want rfl) (rn_build1 (t_int rfl) (fun w => bd_45_1 _ w)) ?_
  refine lx_call (want rfl) (ent_func cf_31 (argsC (t_agg rfl) (argsC (t_agg rfl) args0))) (xdo_ct 1 1 ([[], [(0, 1, 7)], [], []] : List (List Pk)) _ cP _ (show Bd ([[], [(0, 1, 7)], [], []] : List (List Pk)) from ⟨by decide, by decide +kernel⟩) 0 1 w12 (hP.fr (buf_stab _) (Fr.ext (Fr.ext (Fr.trans (Fr.ext (Fr.ext (Fr.ext (Fr.trans (Fr.refl (fun k => k = b21 ∨ k = b22) w5) Es2 (fun k _ h => (.inl h))) E4) E5) Eb22) Es3 (fun k _ h => (.inr h))) Eb23) E6) (fun k hk h => by first | exact h | (have := hk.1; have := hk.2; (try dsimp only at h); first | omega | (rcases h with h | h <;> first | omega | (have := ob_some h; omega))))) ((((((((((((hT.ext E1).ext E2).ext Eb21).ne Es1 (by omega)).ext E3).ne Es2 (by omega)).ext E4).ext E5).ext Eb22).ne Es3 (by omega)).ext Eb23).ext E6)) ?_
  rintro _ w13 E7 ⟨_, _, rfl, hD, hDo⟩
  have F13 := F12.ext E7
  have hz7 := E7.size
  rw [show doC 1 1 ([[], [(0, 1, 7)], [], []] : List (List Pk)) 0 1 = ((1 : Int), (1 : Int), ([[], [], [(0, 1, 7)], []] : List (List Pk))) from by decide +kernel] at hD
  obtain ⟨sD, cD, rfl, hD⟩ := hD
  rw [show doO 1 1 ([[], [(0, 1, 7)], [], []] : List (List Pk)) 0 1 = [] from by decide +kernel] at hDo
  obtain ⟨sDo, cDo, rfl, _⟩ := hDo
  refine lx_value (want rfl) (mv_tuple rfl) ?_
  refine lx_value (want rfl) (rn_extract rfl rfl) ?_
  refine lx_value (want rfl) (rn_extract rfl rfl) ?_
  refine lx_value (want rfl) (rn_extract rfl rfl) ?_
  refine lx_set (want rfl) sz_24 rfl (t_agg rfl) rfl rfl rfl (((((((Bs2.ext E4).ext E5).ext Eb22).ne Es3 (by omega)).ext Eb23).ext E6).ext E7) (Nat.le_of_ble_eq_true rfl) ?_
  intro w14 Es4 Bs4
  have F14 := F13.set Es4 (by omega)
  have hzs4 := Es4.size
  refine lx_value (want rfl) (as_slice rfl) ?_
  refine lx_value (want rfl) (as_int rfl) ?_
  refine lx_nil ?_
  refine wk_seq ?_
  refine wk_region ?_
  refine lx_value (want rfl) (rn_loadBlk ag_24 sz_24 rfl Bs4 rfl rfl) ?_
  refine lx_value (want rfl) (rn_build2 (t_int rfl) (t_int rfl) (fun w => bd_41_1_2 _ _ w)) ?_
  refine lx_call (want rfl) (ent_func cf_28 (argsC (t_agg rfl) (argsC (t_agg rfl) args0))) (xput_ct 1 1 ([[], [], [(0, 1, 7)], []] : List (List Pk)) sD cD _ (show Bd ([[], [], [(0, 1, 7)], []] : List (List Pk)) from ⟨by decide, by decide +kernel⟩) 0 1 8 w14 (hD.fr (buf_stab _) (Fr.trans (Fr.refl (fun k => k = b21) w13) Es4 (fun k _ h => h)) (fun k hk h => by first | exact h | (have := hk.1; have := hk.2; (try dsimp only at h); first | omega | (rcases h with h | h <;> first | omega | (have := ob_some h; omega))))) ((((((((((((((hT.ext E1).ext E2).ext Eb21).ne Es1 (by omega)).ext E3).ne Es2 (by omega)).ext E4).ext E5).ext Eb22).ne Es3 (by omega)).ext Eb23).ext E6).ext E7).ne Es4 (by omega))) ?_
  rintro _ w15 E8 ⟨_, rfl, hQ⟩
  have F15 := F14.ext E8
  have hz8 := E8.size
  rw [show putC 1 1 ([[], [], [(0, 1, 7)], []] : List (List Pk)) (0, 1, 8) = ((1 : Int), (1 : Int), ([[], [(0, 1, 8)], [(0, 1, 7)], []] : List (List Pk))) from by decide +kernel] at hQ
  obtain ⟨sQ, cQ, rfl, hQ⟩ := hQ
  refine lx_value (want rfl) (mv_tuple rfl) ?_
  refine lx_value (want rfl) (rn_extract rfl rfl) ?_
  refine lx_value (want rfl) (rn_extract rfl rfl) ?_
  refine lx_set (want rfl) sz_24 rfl (t_agg rfl) rfl rfl rfl (Bs4.ext E8) (Nat.le_of_ble_eq_true rfl) ?_
  intro w16 Es5 Bs5
  have F16 := F15.set Es5 (by omega)
  have hzs5 := Es5.size
  refine lx_value (want rfl) (as_int rfl) ?_
  refine lx_nil ?_
  refine wk_seq ?_
  refine wk_region ?_
  refine lx_value (want rfl) (rn_loadBlk ag_24 sz_24 rfl Bs5 rfl rfl) ?_
  refine lx_call (want rfl) (ent_func cf_23 (argsC (t_agg rfl) args0)) (copyR (copy_ct 1 1 ([[], [(0, 1, 8)], [(0, 1, 7)], []] : List (List Pk)) sQ cQ _ (show Bd ([[], [(0, 1, 8)], [(0, 1, 7)], []] : List (List Pk)) from ⟨by decide, by decide +kernel⟩) w16 (hQ.fr (buf_stab _) (Fr.trans (Fr.refl (fun k => k = b21) w15) Es5 (fun k _ h => h)) (fun k hk h => by first | exact h | (have := hk.1; have := hk.2; (try dsimp only at h); first | omega | (rcases h with h | h <;> first | omega | (have := ob_some h; omega))))))) ?_
  rintro _ w17 E9 ⟨sC, cC, rfl, hC⟩
  have F17 := F16.ext E9
  have hz9 := E9.size
  refine lx_call (want rfl) (ent_func cf_25 (argsC (t_agg rfl) args0)) (xleft_ct 1 1 ([[], [(0, 1, 8)], [(0, 1, 7)], []] : List (List Pk)) sC cC _ (show Bd ([[], [(0, 1, 8)], [(0, 1, 7)], []] : List (List Pk)) from ⟨by decide, by decide +kernel⟩) w17 (hC.fr (buf_stab _) (Fr.refl no w17) (fun k hk h => by first | exact h | (have := hk.1; have := hk.2; (try dsimp only at h); first | omega | (rcases h with h | h <;> first | omega | (have := ob_some h; omega))))) (((((((((((((((((hT.ext E1).ext E2).ext Eb21).ne Es1 (by omega)).ext E3).ne Es2 (by omega)).ext E4).ext E5).ext Eb22).ne Es3 (by omega)).ext Eb23).ext E6).ext E7).ne Es4 (by omega)).ext E8).ne Es5 (by omega)).ext E9)) ?_
  rintro _ w18 E10 rfl
  have F18 := F17.ext E10
  have hz10 := E10.size
  refine lx_value (want rfl) (mv_tuple rfl) ?_
  refine lx_value (want rfl) (rn_extract rfl rfl) ?_
  refine lx_value (want rfl) (rn_extract rfl rfl) ?_
  refine lx_value (want rfl) (as_int rfl) ?_
  refine lx_value (want rfl) (as_int rfl) ?_
  refine lx_nil ?_
  refine wk_seq ?_
  refine wk_region ?_
  refine lx_value (want rfl) (rn_loadBlk ag_24 sz_24 rfl ((Bs5.ext E9).ext E10) rfl rfl) ?_
  refine lx_call (want rfl) (ent_func cf_23 (argsC (t_agg rfl) args0)) (copyR (copy_ct 1 1 ([[], [(0, 1, 8)], [(0, 1, 7)], []] : List (List Pk)) sQ cQ _ (show Bd ([[], [(0, 1, 8)], [(0, 1, 7)], []] : List (List Pk)) from ⟨by decide, by decide +kernel⟩) w18 (hQ.fr (buf_stab _) (Fr.ext (Fr.ext (Fr.trans (Fr.refl (fun k => k = b21) w15) Es5 (fun k _ h => h)) E9) E10) (fun k hk h => by first | exact h | (have := hk.1; have := hk.2; (try dsimp only at h); first | omega | (rcases h with h | h <;> first | omega | (have := ob_some h; omega))))))) ?_
  rintro _ w19 E11 ⟨sC, cC, rfl, hC⟩
  have F19 := F18.ext E11
  have hz11 := E11.size
  refine lx_call (want rfl) (ent_func cf_30 (argsC (t_agg rfl) args0)) (xmoves_ct 1 1 ([[], [(0, 1, 8)], [(0, 1, 7)], []] : List (List Pk)) sC cC _ (show Bd ([[], [(0, 1, 8)], [(0, 1, 7)], []] : List (List Pk)) from ⟨by decide, by decide +kernel⟩) w19 (hC.fr (buf_stab _) (Fr.refl no w19) (fun k hk h => by first | exact h | (have := hk.1; have := hk.2; (try dsimp only at h); first | omega | (rcases h with h | h <;> first | omega | (have := ob_some h; omega))))) (((((((((((((((((((hT.ext E1).ext E2).ext Eb21).ne Es1 (by omega)).ext E3).ne Es2 (by omega)).ext E4).ext E5).ext Eb22).ne Es3 (by omega)).ext Eb23).ext E6).ext E7).ne Es4 (by omega)).ext E8).ne Es5 (by omega)).ext E9).ext E10).ext E11)) ?_
  rintro _ w20 E12 ⟨_, rfl, hMv⟩
  have F20 := F19.ext E12
  have hz12 := E12.size
  rw [show movesQ 1 1 ([[], [(0, 1, 8)], [(0, 1, 7)], []] : List (List Pk)) = [(1, 0)] from by decide +kernel] at hMv
  obtain ⟨sV, cV, rfl, hMv⟩ := hMv
  obtain ⟨bv, ov, hsv, hfv, hcv⟩ := hMv 0 _ rfl
  subst hsv
  refine lx_value (want rfl) (mv_tuple rfl) ?_
  refine lx_value (want rfl) (rn_extract rfl rfl) ?_
  refine lx_value (want rfl) (rn_extract rfl rfl) ?_
  refine lx_value (want rfl) (as_slice rfl) ?_
  refine lx_value (want rfl) (as_int rfl) ?_
  refine lx_nil ?_
  refine wk_seq ?_
  refine wk_region ?_
  refine lx_value (want rfl) (rn_loadBlk ag_24 sz_24 rfl ((((Bs5.ext E9).ext E10).ext E11).ext E12) rfl rfl) ?_
  refine lx_call (want rfl) (ent_func cf_23 (argsC (t_agg rfl) args0)) (copyR (copy_ct 1 1 ([[], [(0, 1, 8)], [(0, 1, 7)], []] : List (List Pk)) sQ cQ _ (show Bd ([[], [(0, 1, 8)], [(0, 1, 7)], []] : List (List Pk)) from ⟨by decide, by decide +kernel⟩) w20 (hQ.fr (buf_stab _) (Fr.ext (Fr.ext (Fr.ext (Fr.ext (Fr.trans (Fr.refl (fun k => k = b21) w15) Es5 (fun k _ h => h)) E9) E10) E11) E12) (fun k hk h => by first | exact h | (have := hk.1; have := hk.2; (try dsimp only at h); first | omega | (rcases h with h | h <;> first | omega | (have := ob_some h; omega))))))) ?_
  rintro _ w21 E13 ⟨sC, cC, rfl, hC⟩
  have F21 := F20.ext E13
  have hz13 := E13.size
  refine lx_call (want rfl) (ent_func cf_35 (argsC (t_agg rfl) (argsC (t_slice rfl) args0))) (xrun_ct 1 1 ([[], [(0, 1, 8)], [(0, 1, 7)], []] : List (List Pk)) sC cC _ (show Bd ([[], [(0, 1, 8)], [(0, 1, 7)], []] : List (List Pk)) from ⟨by decide, by decide +kernel⟩) [] none 0 (fun _ => True) w21 (hC.fr (buf_stab _) (Fr.refl no w21) (fun k hk h => by first | exact h | (have := hk.1; have := hk.2; (try dsimp only at h); first | omega | (rcases h with h | h <;> first | omega | (have := ob_some h; omega))))) (((((((((((((((((((((hT.ext E1).ext E2).ext Eb21).ne Es1 (by omega)).ext E3).ne Es2 (by omega)).ext E4).ext E5).ext Eb22).ne Es3 (by omega)).ext Eb23).ext E6).ext E7).ne Es4 (by omega)).ext E8).ne Es5 (by omega)).ext E9).ext E10).ext E11).ext E12).ext E13) (Sl.nil _)) ?_
  rintro _ w22 E14 ⟨_, rfl, hRu⟩
  have F22 := F21.ext E14
  have hz14 := E14.size
  rw [show (runR 1 1 ([[], [(0, 1, 8)], [(0, 1, 7)], []] : List (List Pk)) []).1 = ([(0, 1, 7), (0, 1, 8)] : List Pk) from by decide +kernel] at hRu
  obtain ⟨sRu, cRu, rfl, hRu⟩ := hRu
  refine lx_value (want rfl) (mv_tuple rfl) ?_
  refine lx_value (want rfl) (rn_extract rfl rfl) ?_
  refine lx_value (want rfl) (rn_extract rfl rfl) ?_
  refine lx_value (want rfl) (rn_extract rfl rfl) ?_
  refine lx_value (want rfl) (as_slice rfl) ?_
  refine lx_value (want rfl) (as_int rfl) ?_
  refine lx_value (want rfl) (as_int rfl) ?_
  refine lx_nil ?_
  refine wk_seq ?_
  refine wk_region ?_
  refine lx_value (want rfl) (rn_loadBlk ag_24 sz_24 rfl ((((((Bs5.ext E9).ext E10).ext E11).ext E12).ext E13).ext E14) rfl rfl) ?_
  refine lx_call (want rfl) (ent_func cf_23 (argsC (t_agg rfl) args0)) (copyR (copy_ct 1 1 ([[], [(0, 1, 8)], [(0, 1, 7)], []] : List (List Pk)) sQ cQ _ (show Bd ([[], [(0, 1, 8)], [(0, 1, 7)], []] : List (List Pk)) from ⟨by decide, by decide +kernel⟩) w22 (hQ.fr (buf_stab _) (Fr.ext (Fr.ext (Fr.ext (Fr.ext (Fr.ext (Fr.ext (Fr.trans (Fr.refl (fun k => k = b21) w15) Es5 (fun k _ h => h)) E9) E10) E11) E12) E13) E14) (fun k hk h => by first | exact h | (have := hk.1; have := hk.2; (try dsimp only at h); first | omega | (rcases h with h | h <;> first | omega | (have := ob_some h; omega))))))) ?_
  rintro _ w23 E15 ⟨sC, cC, rfl, hC⟩
  have F23 := F22.ext E15
  have hz15 := E15.size
  refine lx_call (want rfl) (ent_func cf_40 (argsC (t_agg rfl) args0)) (xrounds_ct 1 1 ([[], [(0, 1, 8)], [(0, 1, 7)], []] : List (List Pk)) sC cC _ (show Bd ([[], [(0, 1, 8)], [(0, 1, 7)], []] : List (List Pk)) from ⟨by decide, by decide +kernel⟩) w23 (hC.fr (buf_stab _) (Fr.refl no w23) (fun k hk h => by first | exact h | (have := hk.1; have := hk.2; (try dsimp only at h); first | omega | (rcases h with h | h <;> first | omega | (have := ob_some h; omega))))) (((((((((((((((((((((((hT.ext E1).ext E2).ext Eb21).ne Es1 (by omega)).ext E3).ne Es2 (by omega)).ext E4).ext E5).ext Eb22).ne Es3 (by omega)).ext Eb23).ext E6).ext E7).ne Es4 (by omega)).ext E8).ne Es5 (by omega)).ext E9).ext E10).ext E11).ext E12).ext E13).ext E14).ext E15)) ?_
  rintro _ w24 E16 ⟨_, rfl, hRs⟩
  have F24 := F23.ext E16
  have hz16 := E16.size
  rw [show (rdsR 1 1 ([[], [(0, 1, 8)], [(0, 1, 7)], []] : List (List Pk))).1 = ([(0, 1, 7), (0, 1, 8)] : List Pk) from by decide +kernel] at hRs
  obtain ⟨sRs, cRs, rfl, hRs⟩ := hRs
  refine lx_value (want rfl) (mv_tuple rfl) ?_
  refine lx_value (want rfl) (rn_extract rfl rfl) ?_
  refine lx_value (want rfl) (rn_extract rfl rfl) ?_
  refine lx_value (want rfl) (rn_extract rfl rfl) ?_
  refine lx_value (want rfl) (as_slice rfl) ?_
  refine lx_value (want rfl) (as_int rfl) ?_
  refine lx_value (want rfl) (as_int rfl) ?_
  refine lx_nil ?_
  refine wk_seq ?_
  refine wk_seq ?_
  refine wk_region ?_
  refine lx_value (want rfl) (mv_int rfl) ?_
  refine lx_value (want rfl) (rn_neq rfl rfl) ?_
  refine lx_dec_f (by decide +kernel) ?_
  refine lx_value (want rfl) (mv_bool rfl) ?_
  refine lx_value (want_if (j := 2) (d := 118) (x := false) (y := false) rfl rfl (by decide) rfl) (mv_int rfl) ?_
  refine lx_value (want_if (j := 2) (d := 118) (x := false) (y := false) rfl rfl (by decide) rfl) (rn_neq rfl rfl) ?_
  refine lx_dec_f (by decide +kernel) ?_
  refine lx_value (want rfl) (pick_f rfl rfl) ?_
  refine lx_value (want rfl) (mv_bool rfl) ?_
  refine lx_value (want_if (j := 6) (d := 122) (x := false) (y := false) rfl rfl (by decide) rfl) (mv_int rfl) ?_
  refine lx_value (want_if (j := 6) (d := 122) (x := false) (y := false) rfl rfl (by decide) rfl) (rn_neq rfl rfl) ?_
  refine lx_dec_f (by decide +kernel) ?_
  refine lx_value (want rfl) (pick_f rfl rfl) ?_
  refine lx_value (want rfl) (mv_bool rfl) ?_
  refine lx_value (want_if (j := 10) (d := 126) (x := false) (y := false) rfl rfl (by decide) rfl) (mv_int rfl) ?_
  refine lx_value (want_if (j := 10) (d := 126) (x := false) (y := false) rfl rfl (by decide) rfl) (rn_neq rfl rfl) ?_
  refine lx_dec_f (by decide +kernel) ?_
  refine lx_value (want rfl) (pick_f rfl rfl) ?_
  refine lx_value (want rfl) (mv_bool rfl) ?_
  refine lx_value (want_if (j := 14) (d := 130) (x := false) (y := false) rfl rfl (by decide) rfl) (mv_int rfl) ?_
  refine lx_value (want_if (j := 14) (d := 130) (x := false) (y := false) rfl rfl (by decide) rfl) (rn_neq rfl rfl) ?_
  refine lx_dec_f (by decide +kernel) ?_
  refine lx_value (want rfl) (pick_f rfl rfl) ?_
  refine lx_value (want rfl) (mv_bool rfl) ?_
  refine lx_value (want_if (j := 18) (d := 134) (x := false) (y := false) rfl rfl (by decide) rfl) (mv_int rfl) ?_
  refine lx_value (want_if (j := 18) (d := 134) (x := false) (y := false) rfl rfl (by decide) rfl) (rn_neq rfl rfl) ?_
  refine lx_dec_f (by decide +kernel) ?_
  refine lx_value (want rfl) (pick_f rfl rfl) ?_
  refine lx_value (want rfl) (mv_bool rfl) ?_
  refine lx_value (want_if (j := 22) (d := 138) (x := false) (y := false) rfl rfl (by decide) rfl) (mv_slice rfl) ?_
  refine lx_value (want_if (j := 22) (d := 138) (x := false) (y := false) rfl rfl (by decide) rfl) (rn_len Tryd.underlying49 rfl) ?_
  refine lx_value (want_if (j := 22) (d := 138) (x := false) (y := false) rfl rfl (by decide) rfl) (rn_neq rfl rfl) ?_
  refine lx_dec_f (by decide +kernel) ?_
  refine lx_value (want rfl) (pick_f rfl rfl) ?_
  refine lx_value (want rfl) (mv_bool rfl) ?_
  refine lx_value (want_if (j := 27) (d := 143) (x := false) (y := false) rfl rfl (by decide) rfl) (mv_int rfl) ?_
  refine lx_value (want_if (j := 27) (d := 143) (x := false) (y := false) rfl rfl (by decide) rfl) (rn_neq rfl rfl) ?_
  refine lx_dec_f (by decide +kernel) ?_
  refine lx_value (want rfl) (pick_f rfl rfl) ?_
  refine lx_value (want rfl) (mv_bool rfl) ?_
  refine lx_value (want_if (j := 31) (d := 147) (x := false) (y := false) rfl rfl (by decide) rfl) (mv_slice rfl) ?_
  refine lx_value (want_if (j := 31) (d := 147) (x := false) (y := false) rfl rfl (by decide) rfl) (rn_len Tryd.underlying46 rfl) ?_
  refine lx_value (want_if (j := 31) (d := 147) (x := false) (y := false) rfl rfl (by decide) rfl) (rn_neq rfl rfl) ?_
  refine lx_dec_f (by decide +kernel) ?_
  refine lx_value (want rfl) (pick_f rfl rfl) ?_
  refine lx_value (want rfl) (mv_bool rfl) ?_
  refine lx_value (want_if (j := 36) (d := 152) (x := false) (y := false) rfl rfl (by decide) rfl) (mv_slice rfl) ?_
  refine lx_value (want_if (j := 36) (d := 152) (x := false) (y := false) rfl rfl (by decide) rfl) (rn_index 0 Tryd.underlying46 sz_45 rfl rfl rfl (by decide)) ?_
  refine lx_value (want_if (j := 36) (d := 152) (x := false) (y := false) rfl rfl (by decide) rfl) (rn_load2 ag_45 sz_45 rfl ((Fr.ext (Fr.ext (Fr.ext (Fr.ext (Fr.refl no w20) E13) E14) E15) E16).cell (fun h => by first | exact h | (have := hfv.1; have := hfv.2; dsimp only at h; omega)) (hcv 0 _ rfl)) ((Fr.ext (Fr.ext (Fr.ext (Fr.ext (Fr.refl no w20) E13) E14) E15) E16).cell (fun h => by first | exact h | (have := hfv.1; have := hfv.2; dsimp only at h; omega)) (hcv 1 _ rfl))) ?_
  refine lx_value (want_if (j := 36) (d := 152) (x := false) (y := false) rfl rfl (by decide) rfl) (rn_build1 (t_int rfl) (fun w => bd_45_0 _ w)) ?_
  refine lx_value (want_if (j := 36) (d := 152) (x := false) (y := false) rfl rfl (by decide) rfl) (rn_cmpS (t_agg rfl) (t_agg rfl) (gneq_45 _ _ _ _) (neq_45 _ _ _ _)) ?_
  refine lx_dec_f (by decide +kernel) ?_
  refine lx_value (want rfl) (pick_f rfl rfl) ?_
  refine lx_nil ?_
  refine wk_cond_f rfl ?_
  refine wk_skip ?_
  refine wk_seq ?_
  refine wk_region ?_
  refine lx_value (want rfl) (rn_build2 (t_int rfl) (t_int rfl) (fun w => bd_41_1_2 _ _ w)) ?_
  refine lx_value (want rfl) (rn_build2 (t_int rfl) (t_int rfl) (fun w => bd_41_1_2 _ _ w)) ?_
  refine lx_newS (want rfl) (rn_bslice (xs := [.tmp 159, .tmp 160]) Tryd.underlying49 sz_41 ze_41 rfl (argsC (t_agg rfl) (argsC (t_agg rfl) args0)) (CL.cons rfl rfl (CL.cons rfl rfl CL.nil)) rfl (Nat.le_of_ble_eq_true rfl)) ?_
  intro b24 w25 hb24 Eb24 B24 hlb24
  have F25 := F24.ext Eb24
  have hzb24 := Eb24.size
  have ow24 := OwnS.full (n := 2) (size := 3) B24 rfl (by decide)
  have ge1 : ∀ k, ob (some (⟨b24, 0, none⟩ : Addr)) k → w0.heap.size ≤ k := fun k hk => by have := ob_some hk; omega
  have ne1_800 : ∀ k, ob (some (⟨b24, 0, none⟩ : Addr)) k → k ≠ 1 := fun k hk => by have := ob_some hk; have := (hT).lt; omega
  have ne1_21 : ∀ k, ob (some (⟨b24, 0, none⟩ : Addr)) k → k ≠ b21 := fun k hk => by have := ob_some hk; have := (Bs5).lt; omega
  have ne1_22 : ∀ k, ob (some (⟨b24, 0, none⟩ : Addr)) k → k ≠ b22 := fun k hk => by have := ob_some hk; have := (Bs3).lt; omega
  have ne1_23 : ∀ k, ob (some (⟨b24, 0, none⟩ : Addr)) k → k ≠ b23 := fun k hk => by have := ob_some hk; have := (B23).lt; omega
  have hWn := (ow24).sl (l := ([(0, 1, 7), (0, 1, 8)] : List Pk)) (cells := pkC) (by decide) rfl (fun _ _ => rfl) (F := fun _ => True) (fun _ _ => trivial)
  refine lx_value (want rfl) (as_slice rfl) ?_
  refine lx_nil ?_
  refine wk_seq ?_
  refine wk_region ?_
  refine lx_value (want rfl) (mv_slice rfl) ?_
  refine lx_value (want rfl) (mv_slice rfl) ?_
  refine lx_call (want rfl) (ent_func cf_34 (argsC (t_slice rfl) (argsC (t_slice rfl) args0))) (packets_ct ([(0, 1, 7), (0, 1, 8)] : List Pk) ([(0, 1, 7), (0, 1, 8)] : List Pk) _ _ _ _ _ _ w25 (hRu.fr (pk_stab _) (Fr.ext (Fr.ext (Fr.ext (Fr.refl no w22) E15) E16) Eb24) (fun k hk h => by first | exact h | (have := hk.1; have := hk.2; (try dsimp only at h); omega))) (hWn.fr (pk_stab _) (Fr.refl no w25) (fun _ _ h => h)) (by decide)) ?_
  rintro _ w26 E17 rfl
  have F26 := F25.ext E17
  have hz17 := E17.size
  refine lx_b_t (by decide +kernel) ?_
  refine lx_value (want rfl) (mv_bool rfl) ?_
  refine lx_value (want_if (j := 3) (d := 165) (x := true) (y := true) rfl rfl (by decide) rfl) (mv_int rfl) ?_
  refine lx_value (want_if (j := 3) (d := 165) (x := true) (y := true) rfl rfl (by decide) rfl) (rn_eql rfl rfl) ?_
  refine lx_dec_t (by decide +kernel) ?_
  refine lx_value (want rfl) (pick_t rfl rfl) ?_
  refine lx_value (want rfl) (mv_bool rfl) ?_
  refine lx_value (want_if (j := 7) (d := 169) (x := true) (y := true) rfl rfl (by decide) rfl) (mv_slice rfl) ?_
  refine lx_value (want_if (j := 7) (d := 169) (x := true) (y := true) rfl rfl (by decide) rfl) (mv_slice rfl) ?_
  refine lx_call (want_if (j := 7) (d := 169) (x := true) (y := true) rfl rfl (by decide) rfl) (ent_func cf_34 (argsC (t_slice rfl) (argsC (t_slice rfl) args0))) (packets_ct ([(0, 1, 7), (0, 1, 8)] : List Pk) ([(0, 1, 7), (0, 1, 8)] : List Pk) _ _ _ _ _ _ w26 (hRs.fr (pk_stab _) (Fr.ext (Fr.ext (Fr.refl no w24) Eb24) E17) (fun k hk h => by first | exact h | (have := hk.1; have := hk.2; (try dsimp only at h); omega))) (hWn.fr (pk_stab _) (Fr.ext (Fr.refl no w25) E17) (fun _ _ h => h)) (by decide)) ?_
  rintro _ w27 E18 rfl
  have F27 := F26.ext E18
  have hz18 := E18.size
  refine lx_b_t (by decide +kernel) ?_
  refine lx_value (want rfl) (pick_t rfl rfl) ?_
  refine lx_value (want rfl) (mv_bool rfl) ?_
  refine lx_value (want_if (j := 12) (d := 174) (x := true) (y := true) rfl rfl (by decide) rfl) (mv_int rfl) ?_
  refine lx_value (want_if (j := 12) (d := 174) (x := true) (y := true) rfl rfl (by decide) rfl) (rn_eql rfl rfl) ?_
  refine lx_value (want rfl) (pick_t rfl rfl) ?_
  refine lx_value (want rfl) (as_bool rfl) ?_
  refine lx_nil ?_
  refine wk_ret ?_
  refine retR1 Tryd.results21 (.tmp (t_bool rfl)) F27 ?_
  exact rfl

end Go.Proofs.YtlfclnkoimfhmaaDoor

/- What functions compute: awake. -/
import Derived.Test.YtnhgfmbmfjmonaaGreatDoorNamesFacts
import Derived.Test.YtnhgfmbmfjmonaaGreatDoorNamesPre
import Derived.Test.YtnhgfmbmfjmonaaGreatDoorNamesWalk1
import Derived.Test.YtnhgfmbmfjmonaaGreatDoorNamesWalk12
import Derived.Test.YtnhgfmbmfjmonaaGreatDoorNamesWalk13
import Derived.Test.YtnhgfmbmfjmonaaGreatDoorNamesWalk15
import Derived.Test.YtnhgfmbmfjmonaaGreatDoorNamesWalk2
import Derived.Test.YtnhgfmbmfjmonaaGreatDoorNamesWalk3
import Derived.Test.YtnhgfmbmfjmonaaGreatDoorNamesWalk4
import Derived.Test.YtnhgfmbmfjmonaaGreatDoorNamesWalk5
set_option maxRecDepth 100000
set_option linter.unusedVariables false
set_option linter.unusedSimpArgs false
namespace Go.Proofs.YtnhgfmbmfjmonaaGreatDoor
open Go Go.RowKit Go.Mix Go.Eng
set_option maxHeartbeats 2000000 in
set_option maxRecDepth 100000 in
theorem awake_ct (w0 : World) :
  CT Tryz.prog 19 [] w0 no (fun v _ => v = .bool true) := by
 have F0 := Fr.refl no w0
 refine ct_body Tryz.func19 rfl Tryz.ntmps19 (Nat.le_of_ble_eq_true rfl) ?_
 refine wk_seq ?_
 refine wk_region ?_
 refine lx_value (want rfl) (as_bool rfl) ?_
 refine lx_nil ?_
 refine wk_seq ?_
 refine wk_region ?_
 refine lx_call (want rfl) (ent_func cf_41 (argsC (t_int rfl) args0)) (int_ct _ w0) ?_
 rintro _ w1 E1 rfl
 have F1 := F0.ext E1
 have hz1 := E1.size
 refine lx_call (want rfl) (ent_func cf_41 (argsC (t_int rfl) args0)) (int_ct _ w1) ?_
 rintro _ w2 E2 rfl
 have F2 := F1.ext E2
 have hz2 := E2.size
 refine lx_newS (want rfl) (rn_bslice (xs := [.tmp 16, .tmp 17]) Tryz.underlying30 sz_36 ze_36 rfl (argsC (t_agg rfl) (argsC (t_agg rfl) args0)) (CL.cons rfl rfl (CL.cons rfl rfl CL.nil)) rfl (Nat.le_of_ble_eq_true rfl)) ?_
 intro b1 w3 hb1 Eb1 B1 hlb1
 have F3 := F2.ext Eb1
 have hzb1 := Eb1.size
 refine lx_call (want rfl) (ent_func cf_36 (argsC (t_string rfl) (argsC (t_slice rfl) args0))) ((prim_lit prim_A1 (pprim_ct ⟨#[100, 105, 118]⟩ [(1, -7), (1, 2)] _ _ (fun _ => True) (by decide) w3 (vl_blk [(1, -7), (1, 2)] (by decide) B1)))) ?_
 rintro _ w4 E3 rfl
 have F4 := F3.ext E3
 have hz3 := E3.size
 refine lx_value (want rfl) (mv_tuple rfl) ?_
 refine lx_value (want rfl) (rn_extract rfl rfl) ?_
 refine lx_value (want rfl) (rn_extract rfl rfl) ?_
 refine lx_new (want rfl) (rn_alloc ze_36) ?_
 intro b2 w5 hb2 Eb2 B2 hlb2
 have F5 := F4.ext Eb2
 have hzb2 := Eb2.size
 refine lx_set (want rfl) sz_36 rfl (t_agg rfl) rfl rfl rfl B2 (Nat.le_of_ble_eq_true rfl) ?_
 intro w6 Es1 Bs1
 have F6 := F5.set Es1 (by omega)
 have hzs1 := Es1.size
 refine lx_value (want rfl) (as_int rfl) ?_
 refine lx_nil ?_
 refine wk_seq ?_
 refine wk_region ?_
 refine lx_call (want rfl) (ent_func cf_41 (argsC (t_int rfl) args0)) (int_ct _ w6) ?_
 rintro _ w7 E4 rfl
 have F7 := F6.ext E4
 have hz4 := E4.size
 refine lx_call (want rfl) (ent_func cf_41 (argsC (t_int rfl) args0)) (int_ct _ w7) ?_
 rintro _ w8 E5 rfl
 have F8 := F7.ext E5
 have hz5 := E5.size
 refine lx_newS (want rfl) (rn_bslice (xs := [.tmp 23, .tmp 24]) Tryz.underlying30 sz_36 ze_36 rfl (argsC (t_agg rfl) (argsC (t_agg rfl) args0)) (CL.cons rfl rfl (CL.cons rfl rfl CL.nil)) rfl (Nat.le_of_ble_eq_true rfl)) ?_
 intro b3 w9 hb3 Eb3 B3 hlb3
 have F9 := F8.ext Eb3
 have hzb3 := Eb3.size
 refine lx_call (want rfl) (ent_func cf_36 (argsC (t_string rfl) (argsC (t_slice rfl) args0))) ((prim_lit prim_A2 (pprim_ct ⟨#[109, 111, 100]⟩ [(1, -7), (1, 2)] _ _ (fun _ => True) (by decide) w9 (vl_blk [(1, -7), (1, 2)] (by decide) B3)))) ?_
 rintro _ w10 E6 rfl
 have F10 := F9.ext E6
 have hz6 := E6.size
 refine lx_value (want rfl) (mv_tuple rfl) ?_
 refine lx_value (want rfl) (rn_extract rfl rfl) ?_
 refine lx_value (want rfl) (rn_extract rfl rfl) ?_
 refine lx_new (want rfl) (rn_alloc ze_36) ?_
 intro b4 w11 hb4 Eb4 B4 hlb4
 have F11 := F10.ext Eb4
 have hzb4 := Eb4.size
 refine lx_set (want rfl) sz_36 rfl (t_agg rfl) rfl rfl rfl B4 (Nat.le_of_ble_eq_true rfl) ?_
 intro w12 Es2 Bs2
 have F12 := F11.set Es2 (by omega)
 have hzs2 := Es2.size
 refine lx_value (want rfl) (as_int rfl) ?_
 refine lx_nil ?_
 refine wk_seq ?_
 refine wk_region ?_
 refine lx_call (want rfl) (ent_func cf_41 (argsC (t_int rfl) args0)) (int_ct _ w12) ?_
 rintro _ w13 E7 rfl
 have F13 := F12.ext E7
 have hz7 := E7.size
 refine lx_call (want rfl) (ent_func cf_41 (argsC (t_int rfl) args0)) (int_ct _ w13) ?_
 rintro _ w14 E8 rfl
 have F14 := F13.ext E8
 have hz8 := E8.size
 refine lx_newS (want rfl) (rn_bslice (xs := [.tmp 30, .tmp 31]) Tryz.underlying30 sz_36 ze_36 rfl (argsC (t_agg rfl) (argsC (t_agg rfl) args0)) (CL.cons rfl rfl (CL.cons rfl rfl CL.nil)) rfl (Nat.le_of_ble_eq_true rfl)) ?_
 intro b5 w15 hb5 Eb5 B5 hlb5
 have F15 := F14.ext Eb5
 have hzb5 := Eb5.size
 refine lx_call (want rfl) (ent_func cf_36 (argsC (t_string rfl) (argsC (t_slice rfl) args0))) ((prim_lit prim_A3 (pprim_ct ⟨#[97, 100, 100]⟩ [(1, 1000000000), (1, 1)] _ _ (fun _ => True) (by decide) w15 (vl_blk [(1, 1000000000), (1, 1)] (by decide) B5)))) ?_
 rintro _ w16 E9 rfl
 have F16 := F15.ext E9
 have hz9 := E9.size
 refine lx_value (want rfl) (mv_tuple rfl) ?_
 refine lx_value (want rfl) (rn_extract rfl rfl) ?_
 refine lx_value (want rfl) (rn_extract rfl rfl) ?_
 refine lx_new (want rfl) (rn_alloc ze_36) ?_
 intro b6 w17 hb6 Eb6 B6 hlb6
 have F17 := F16.ext Eb6
 have hzb6 := Eb6.size
 refine lx_set (want rfl) sz_36 rfl (t_agg rfl) rfl rfl rfl B6 (Nat.le_of_ble_eq_true rfl) ?_
 intro w18 Es3 Bs3
 have F18 := F17.set Es3 (by omega)
 have hzs3 := Es3.size
 refine lx_value (want rfl) (as_int rfl) ?_
 refine lx_nil ?_
 refine wk_seq ?_
 refine wk_region ?_
 refine lx_call (want rfl) (ent_func cf_68 (argsC (t_bool rfl) args0)) (refbool_ct _ w18) ?_
 rintro _ w19 E10 rfl
 have F19 := F18.ext E10
 have hz10 := E10.size
 refine lx_call (want rfl) (ent_func cf_41 (argsC (t_int rfl) args0)) (int_ct _ w19) ?_
 rintro _ w20 E11 rfl
 have F20 := F19.ext E11
 have hz11 := E11.size
 refine lx_newS (want rfl) (rn_bslice (xs := [.tmp 37, .tmp 38]) Tryz.underlying30 sz_36 ze_36 rfl (argsC (t_agg rfl) (argsC (t_agg rfl) args0)) (CL.cons rfl rfl (CL.cons rfl rfl CL.nil)) rfl (Nat.le_of_ble_eq_true rfl)) ?_
 intro b7 w21 hb7 Eb7 B7 hlb7
 have F21 := F20.ext Eb7
 have hzb7 := Eb7.size
 refine lx_call (want rfl) (ent_func cf_36 (argsC (t_string rfl) (argsC (t_slice rfl) args0))) ((prim_lit prim_A4 (pprim_ct ⟨#[108, 116]⟩ [(2, 1), (1, 1)] _ _ (fun _ => True) (by decide) w21 (vl_blk [(2, 1), (1, 1)] (by decide) B7)))) ?_
 rintro _ w22 E12 rfl
 have F22 := F21.ext E12
 have hz12 := E12.size
 refine lx_value (want rfl) (mv_tuple rfl) ?_
 refine lx_value (want rfl) (rn_extract rfl rfl) ?_
 refine lx_value (want rfl) (rn_extract rfl rfl) ?_
 refine lx_new (want rfl) (rn_alloc ze_36) ?_
 intro b8 w23 hb8 Eb8 B8 hlb8
 have F23 := F22.ext Eb8
 have hzb8 := Eb8.size
 refine lx_set (want rfl) sz_36 rfl (t_agg rfl) rfl rfl rfl B8 (Nat.le_of_ble_eq_true rfl) ?_
 intro w24 Es4 Bs4
 have F24 := F23.set Es4 (by omega)
 have hzs4 := Es4.size
 refine lx_value (want rfl) (as_int rfl) ?_
 refine lx_nil ?_
 refine wk_seq ?_
 refine wk_seq ?_
 refine wk_mix 32 (fun kS => match kS with | 16 => .val (.agg #[.int .u8 1, .int .i64 (-3)]) | 21 => .val (.agg #[.int .u8 1, .int .i64 (-1)]) | 26 => .val (.agg #[.int .u8 5, .int .i64 2]) | 31 => .val (.agg #[.int .u8 5, .int .i64 5]) | _ => .none) (by kernel_rfl) (by kernel_rfl) (by intro kS G hk; (try dsimp only at hk); (split at hk) <;> first | (cases hk; done) | (injection hk with hk; subst hk; exact ⟨by intro j hkj I v w w' hR hG; first | exact hG, fun ⟨_, _, _, _, hs⟩ => by (try dsimp only at hs); split at hs <;> cases hs⟩)) (by intro kS s y G hk; (try dsimp only at hk); split at hk <;> cases hk) ?_
 simp only [List.take_succ_cons, List.take_zero, List.take_nil, List.drop_succ_cons, List.drop_zero, List.drop_nil]
 refine mx_calm rfl (want rfl) (fun u1 eu1 fu1 => mv_int rfl) ?_
 refine mx_calm rfl (want rfl) (fun u2 eu2 fu2 => rn_neq rfl rfl) ?_
 refine mx_dec_f (by decide) ?_
 refine mx_calm rfl (want rfl) (fun u3 eu3 fu3 => mv_bool rfl) ?_
 refine mx_calm rfl (want_if (j := 2) (d := 45) (x := false) (y := false) rfl rfl (by decide) rfl) (fun u4 eu4 fu4 => mv_int rfl) ?_
 refine mx_calm rfl (want_if (j := 2) (d := 45) (x := false) (y := false) rfl rfl (by decide) rfl) (fun u5 eu5 fu5 => rn_neq rfl rfl) ?_
 refine mx_dec_f (by decide) ?_
 refine mx_calm rfl (want rfl) (fun u6 eu6 fu6 => pick_f rfl rfl) ?_
 refine mx_calm rfl (want rfl) (fun u7 eu7 fu7 => mv_bool rfl) ?_
 refine mx_calm rfl (want_if (j := 6) (d := 49) (x := false) (y := false) rfl rfl (by decide) rfl) (fun u8 eu8 fu8 => mv_int rfl) ?_
 refine mx_calm rfl (want_if (j := 6) (d := 49) (x := false) (y := false) rfl rfl (by decide) rfl) (fun u9 eu9 fu9 => rn_neq rfl rfl) ?_
 refine mx_dec_f (by decide) ?_
 refine mx_calm rfl (want rfl) (fun u10 eu10 fu10 => pick_f rfl rfl) ?_
 refine mx_calm rfl (want rfl) (fun u11 eu11 fu11 => mv_bool rfl) ?_
 refine mx_calm rfl (want_if (j := 10) (d := 53) (x := false) (y := false) rfl rfl (by decide) rfl) (fun u12 eu12 fu12 => mv_int rfl) ?_
 refine mx_calm rfl (want_if (j := 10) (d := 53) (x := false) (y := false) rfl rfl (by decide) rfl) (fun u13 eu13 fu13 => rn_neq rfl rfl) ?_
 refine mx_dec_f (by decide) ?_
 refine mx_calm rfl (want rfl) (fun u14 eu14 fu14 => pick_f rfl rfl) ?_
 refine mx_calm rfl (want rfl) (fun u15 eu15 fu15 => mv_bool rfl) ?_
 refine mx_calm rfl (want_if (j := 14) (d := 57) (x := false) (y := false) rfl rfl (by decide) rfl) (fun u16 eu16 fu16 => rn_loadBlk ag_36 sz_36 rfl (((((((((((((((((((Bs1.ext E4).ext E5).ext Eb3).ext E6).ext Eb4).ne Es2 (by omega)).ext E7).ext E8).ext Eb5).ext E9).ext Eb6).ne Es3 (by omega)).ext E10).ext E11).ext Eb7).ext E12).ext Eb8).ne Es4 (by omega)).ext ((ext_drawn _).trans' eu16)) rfl rfl) ?_
 refine mx_val rfl (want_if (j := 14) (d := 57) (x := false) (y := false) rfl rfl (by decide) rfl) (fun u17 eu17 fu17 => do_call (ent_func cf_41 (argsC (t_int rfl) args0)) (int_ct _ u17) (fun _ _ E h => ⟨E, h⟩)) ?_
 refine mx_calm rfl (want_if (j := 14) (d := 57) (x := false) (y := false) rfl rfl (by decide) rfl) (fun u18 eu18 fu18 => rn_cmpS (t_agg rfl) (t_agg rfl) (gneq_36 _ _ _ _) (neq_36 _ _ _ _)) ?_
 refine mx_dec_f (by decide) ?_
 refine mx_calm rfl (want rfl) (fun u19 eu19 fu19 => pick_f rfl rfl) ?_
 refine mx_calm rfl (want rfl) (fun u20 eu20 fu20 => mv_bool rfl) ?_
 refine mx_calm rfl (want_if (j := 19) (d := 62) (x := false) (y := false) rfl rfl (by decide) rfl) (fun u21 eu21 fu21 => rn_loadBlk ag_36 sz_36 rfl (((((((((((((Bs2.ext E7).ext E8).ext Eb5).ext E9).ext Eb6).ne Es3 (by omega)).ext E10).ext E11).ext Eb7).ext E12).ext Eb8).ne Es4 (by omega)).ext ((ext_drawn _).trans' eu21)) rfl rfl) ?_
 refine mx_val rfl (want_if (j := 19) (d := 62) (x := false) (y := false) rfl rfl (by decide) rfl) (fun u22 eu22 fu22 => do_call (ent_func cf_41 (argsC (t_int rfl) args0)) (int_ct _ u22) (fun _ _ E h => ⟨E, h⟩)) ?_
 refine mx_calm rfl (want_if (j := 19) (d := 62) (x := false) (y := false) rfl rfl (by decide) rfl) (fun u23 eu23 fu23 => rn_cmpS (t_agg rfl) (t_agg rfl) (gneq_36 _ _ _ _) (neq_36 _ _ _ _)) ?_
 refine mx_dec_f (by decide) ?_
 refine mx_calm rfl (want rfl) (fun u24 eu24 fu24 => pick_f rfl rfl) ?_
 refine mx_calm rfl (want rfl) (fun u25 eu25 fu25 => mv_bool rfl) ?_
 refine mx_calm rfl (want_if (j := 24) (d := 67) (x := false) (y := false) rfl rfl (by decide) rfl) (fun u26 eu26 fu26 => rn_loadBlk ag_36 sz_36 rfl (((((((Bs3.ext E10).ext E11).ext Eb7).ext E12).ext Eb8).ne Es4 (by omega)).ext ((ext_drawn _).trans' eu26)) rfl rfl) ?_
 refine mx_val rfl (want_if (j := 24) (d := 67) (x := false) (y := false) rfl rfl (by decide) rfl) (fun u27 eu27 fu27 => do_call (ent_func cf_67 (argsC (t_int rfl) args0)) (refbad_ct _ u27) (fun _ _ E h => ⟨E, h⟩)) ?_
 refine mx_calm rfl (want_if (j := 24) (d := 67) (x := false) (y := false) rfl rfl (by decide) rfl) (fun u28 eu28 fu28 => rn_cmpS (t_agg rfl) (t_agg rfl) (gneq_36 _ _ _ _) (neq_36 _ _ _ _)) ?_
 refine mx_dec_f (by decide) ?_
 refine mx_calm rfl (want rfl) (fun u29 eu29 fu29 => pick_f rfl rfl) ?_
 refine mx_calm rfl (want rfl) (fun u30 eu30 fu30 => mv_bool rfl) ?_
 refine mx_calm rfl (want_if (j := 29) (d := 72) (x := false) (y := false) rfl rfl (by decide) rfl) (fun u31 eu31 fu31 => rn_loadBlk ag_36 sz_36 rfl (Bs4.ext ((ext_drawn _).trans' eu31)) rfl rfl) ?_
 refine mx_val rfl (want_if (j := 29) (d := 72) (x := false) (y := false) rfl rfl (by decide) rfl) (fun u32 eu32 fu32 => do_call (ent_func cf_67 (argsC (t_int rfl) args0)) (refbad_ct _ u32) (fun _ _ E h => ⟨E, h⟩)) ?_
 refine mx_nil (fun w25 E13' H1 HS => ?_)
 have E13 := (ext_drawn _).trans' E13'
 have F25 := F24.ext E13
 have hz13 := E13.size
 refine lx_value (want_if (j := 29) (d := 72) (x := false) (y := false) rfl rfl (by decide) rfl) (rn_cmpS (t_agg rfl) (t_agg rfl) (gneq_36 _ _ _ _) (neq_36 _ _ _ _)) ?_
 refine lx_dec_f (by decide) ?_
 refine lx_value (want rfl) (pick_f rfl rfl) ?_
 refine lx_nil ?_
 refine wk_cond_f rfl ?_
 refine wk_skip ?_
 refine wk_seq ?_
 refine wk_region ?_
 refine lx_value (want rfl) (rn_build0  (fun w => bd_24  w)) ?_
 refine lx_call (want rfl) (ent_func cf_41 (argsC (t_int rfl) args0)) (int_ct _ w25) ?_
 rintro _ w26 E14 rfl
 have F26 := F25.ext E14
 have hz14 := E14.size
 refine lx_value (want rfl) (rn_build2 (t_int rfl) (t_agg rfl) (fun w => bd_38_0_1 _ _ _ w)) ?_
 refine lx_call (want rfl) (ent_func cf_61 (argsC (t_int rfl) args0)) (ref_ct _ w26) ?_
 rintro _ w27 E15 rfl
 have F27 := F26.ext E15
 have hz15 := E15.size
 refine lx_call (want rfl) (ent_func cf_41 (argsC (t_int rfl) args0)) (int_ct _ w27) ?_
 rintro _ w28 E16 rfl
 have F28 := F27.ext E16
 have hz16 := E16.size
 refine lx_value (want rfl) (rn_build4 (t_int rfl) (t_agg rfl) (t_agg rfl) (t_int rfl) (fun w => bd_38_0_1_2_4 _ _ _ _ _ _ w)) ?_
 refine lx_call (want rfl) (ent_func cf_61 (argsC (t_int rfl) args0)) (ref_ct _ w28) ?_
 rintro _ w29 E17 rfl
 have F29 := F28.ext E17
 have hz17 := E17.size
 refine lx_call (want rfl) (ent_func cf_41 (argsC (t_int rfl) args0)) (int_ct _ w29) ?_
 rintro _ w30 E18 rfl
 have F30 := F29.ext E18
 have hz18 := E18.size
 refine lx_call (want rfl) (ent_func cf_41 (argsC (t_int rfl) args0)) (int_ct _ w30) ?_
 rintro _ w31 E19 rfl
 have F31 := F30.ext E19
 have hz19 := E19.size
 refine lx_value (want rfl) (rn_build4 (t_int rfl) (t_agg rfl) (t_agg rfl) (t_agg rfl) (fun w => bd_38_0_1_2_3 _ _ _ _ _ _ _ w)) ?_
 refine lx_call (want rfl) (ent_func cf_61 (argsC (t_int rfl) args0)) (ref_ct _ w31) ?_
 rintro _ w32 E20 rfl
 have F32 := F31.ext E20
 have hz20 := E20.size
 refine lx_call (want rfl) (ent_func cf_41 (argsC (t_int rfl) args0)) (int_ct _ w32) ?_
 rintro _ w33 E21 rfl
 have F33 := F32.ext E21
 have hz21 := E21.size
 refine lx_value (want rfl) (rn_build4 (t_int rfl) (t_agg rfl) (t_agg rfl) (t_int rfl) (fun w => bd_38_0_1_2_4 _ _ _ _ _ _ w)) ?_
 refine lx_newS (want rfl) (rn_bslice (xs := [.tmp 80, .tmp 83, .tmp 87, .tmp 90]) Tryz.underlying25 sz_38 ze_38 rfl (argsC (t_agg rfl) (argsC (t_agg rfl) (argsC (t_agg rfl) (argsC (t_agg rfl) args0)))) (CL.cons rfl rfl (CL.cons rfl rfl (CL.cons rfl rfl (CL.cons rfl rfl CL.nil)))) rfl (Nat.le_of_ble_eq_true rfl)) ?_
 intro b9 w34 hb9 Eb9 B9 hlb9
 have F34 := F33.ext Eb9
 have hzb9 := Eb9.size
 refine lx_call (want rfl) (ent_func cf_22 (argsC (t_agg rfl) (argsC (t_slice rfl) args0))) ((play_lit playR_A (pPlay_ct [] none 0 (fun _ => True) Bm_A opsA _ 4 _ opsA_kind (by decide) w34 (memS_nil _ _) (op_blk opsA (by decide) B9)))) ?_
 rintro _ w35 E22 ⟨sR, nR, cR, sg, cg, st, ct, rfl, rfl, hMg, hVg, hTg⟩
 have F35 := F34.ext E22
 have hz22 := E22.size
 refine lx_value (want rfl) (mv_tuple rfl) ?_
 refine lx_value (want rfl) (rn_extract rfl rfl) ?_
 refine lx_value (want rfl) (rn_extract rfl rfl) ?_
 refine lx_value (want rfl) (rn_extract rfl rfl) ?_
 refine lx_value (want rfl) (rn_extract rfl rfl) ?_
 refine lx_value (want rfl) (rn_extract rfl rfl) ?_
 refine lx_new (want rfl) (rn_alloc ze_24) ?_
 intro b10 w36 hb10 Eb10 B10 hlb10
 have F36 := F35.ext Eb10
 have hzb10 := Eb10.size
 refine lx_set (want rfl) sz_24 rfl (t_agg rfl) rfl rfl rfl B10 (Nat.le_of_ble_eq_true rfl) ?_
 intro w37 Es5 Bs5
 have F37 := F36.set Es5 (by omega)
 have hzs5 := Es5.size
 refine lx_value (want rfl) (as_slice rfl) ?_
 refine lx_value (want rfl) (as_slice rfl) ?_
 refine lx_value (want rfl) (as_int rfl) ?_
 refine lx_value (want rfl) (as_int rfl) ?_
 refine lx_nil ?_
 refine wk_seq ?_
 refine wk_seq ?_
 have hVg8 := hVg.fr (vl_stab _) (Fr.trans (Fr.ext (Fr.refl (fun k => k = b10) w35) Eb10) Es5 (fun k _ h => h)) (fun k hk h => by have hk := hk.2; (try dsimp only at h); omega)
 have hTg8 := hTg.fr (tl_stab _) (Fr.trans (Fr.ext (Fr.refl (fun k => k = b10) w35) Eb10) Es5 (fun k _ h => h)) (fun k hk h => by have hk := hk.2; (try dsimp only at h); omega)
 have hMg8 := hMg.fr (st_stab _) (Fr.trans (Fr.ext (Fr.refl (fun k => k = b10) w35) Eb10) Es5 (fun k _ h => h)) (fun k hk h => by have hk := hk.2; (try dsimp only at h); omega)
 refine wk_mix 33 (fun kS => match kS with | 8 => .val (.agg #[.int .u8 4, .int .i64 0]) | 10 => .val (.agg #[.int .u8 3, .int .i64 0]) | 11 => .val (.agg #[.int .u8 5, .int .i64 3]) | 12 => .any (fun I v w => ∃ s, v = .slice s 4 4 ∧ VlS (fun _ => True) w s [(4, 0), (0, 0), (3, 0), (5, 3)]) | 13 => .val (.bool true) | 18 => .val (.agg #[.int .u8 1, .int .i64 5]) | 20 => .any (fun I v w => ∃ s, v = .slice s 1 1 ∧ TlS (fun _ => True) w s [(7, (1, 5))]) | 21 => .val (.bool true) | 27 => .val (.agg #[.int .u8 1, .int .i64 5]) | 28 => .any (fun I v w => ∃ s, v = .slice s 2 2 ∧ VlS (fun _ => True) w s [(0, 0), (1, 5)]) | 29 => .any (fun I v w => ∃ s, v = .agg #[.slice s 2 2, .slice none 0 0] ∧ VlS (fun _ => True) w s [(0, 0), (1, 5)]) | 30 => .any (fun I v w => ∃ s, v = .slice s 1 1 ∧ MemS (fun _ => True) w s [([(0, 0), (1, 5)], [])]) | 31 => .any (fun I v w => ∃ s, v = .agg #[.slice s 1 1] ∧ MemS (fun _ => True) w s [([(0, 0), (1, 5)], [])]) | 32 => .val (.bool true) | _ => .none) (by kernel_rfl) (by kernel_rfl) (by intro kS G hk; (try dsimp only at hk); (split at hk) <;> first | (cases hk; done) | (injection hk with hk; subst hk; exact ⟨by intro j hkj I v w w' hR hG; first | exact hG | (obtain ⟨s, h1, h2⟩ := hG; exact ⟨s, h1, h2.fr (vl_stab _) hR (fun _ _ h => h)⟩) | (obtain ⟨s, h1, h2⟩ := hG; exact ⟨s, h1, h2.fr (tl_stab _) hR (fun _ _ h => h)⟩) | (obtain ⟨s, h1, h2⟩ := hG; exact ⟨s, h1, h2.fr (vl_stab _) hR (fun _ _ h => h)⟩) | (obtain ⟨s, h1, h2⟩ := hG; exact ⟨s, h1, h2.fr (st_stab _) hR (fun _ _ h => h)⟩) | (obtain ⟨s, h1, h2⟩ := hG; exact ⟨s, h1, h2.fr (vl_stab _) hR (fun _ _ h => h)⟩) | (obtain ⟨s, h1, h2⟩ := hG; exact ⟨s, h1, h2.fr (st_stab _) hR (fun _ _ h => h)⟩), fun ⟨_, _, _, _, hs⟩ => by (try dsimp only at hs); split at hs <;> cases hs⟩)) (by intro kS s y G hk; (try dsimp only at hk); split at hk <;> cases hk) ?_
 simp only [List.take_succ_cons, List.take_zero, List.take_nil, List.drop_succ_cons, List.drop_zero, List.drop_nil]
 refine mx_calm rfl (want rfl) (fun u33 eu33 fu33 => mv_int rfl) ?_
 refine mx_calm rfl (want rfl) (fun u34 eu34 fu34 => rn_neq rfl rfl) ?_
 refine mx_dec_f (by decide) ?_
 refine mx_calm rfl (want rfl) (fun u35 eu35 fu35 => mv_bool rfl) ?_
 refine mx_calm rfl (want_if (j := 2) (d := 100) (x := false) (y := false) rfl rfl (by decide) rfl) (fun u36 eu36 fu36 => mv_int rfl) ?_
 refine mx_calm rfl (want_if (j := 2) (d := 100) (x := false) (y := false) rfl rfl (by decide) rfl) (fun u37 eu37 fu37 => rn_neq rfl rfl) ?_
 refine mx_dec_f (by decide) ?_
 refine mx_calm rfl (want rfl) (fun u38 eu38 fu38 => pick_f rfl rfl) ?_
 refine mx_calm rfl (want rfl) (fun u39 eu39 fu39 => mv_bool rfl) ?_
 refine mx_calm rfl (want_if (j := 6) (d := 104) (x := false) (y := false) rfl rfl (by decide) rfl) (fun u40 eu40 fu40 => mv_slice rfl) ?_
 refine mx_val rfl (want_if (j := 6) (d := 104) (x := false) (y := false) rfl rfl (by decide) rfl) (fun u41 eu41 fu41 => do_call (ent_func cf_61 (argsC (t_int rfl) args0)) (ref_ct _ u41) (fun _ _ E h => ⟨E, h⟩)) ?_
 refine mx_calm rfl (want_if (j := 6) (d := 104) (x := false) (y := false) rfl rfl (by decide) rfl) (fun u42 eu42 fu42 => rn_build0  (fun w => bd_36  w)) ?_
 refine mx_val rfl (want_if (j := 6) (d := 104) (x := false) (y := false) rfl rfl (by decide) rfl) (fun u43 eu43 fu43 => do_call (ent_func cf_66 args0) (nil_ct u43) (fun _ _ E h => ⟨E, h⟩)) ?_
 refine mx_val rfl (want_if (j := 6) (d := 104) (x := false) (y := false) rfl rfl (by decide) rfl) (fun u44 eu44 fu44 => do_call (ent_func cf_67 (argsC (t_int rfl) args0)) (refbad_ct _ u44) (fun _ _ E h => ⟨E, h⟩)) ?_
 refine mx_any rfl rfl (want_if (j := 6) (d := 104) (x := false) (y := false) rfl rfl (by decide) rfl) (fun u45 eu45 fu45 => (do_newS2 (rn_bslice (xs := [.tmp 106, .tmp 107, .tmp 108, .tmp 109]) Tryz.underlying30 sz_36 ze_36 rfl (argsC (t_agg rfl) (argsC (t_agg rfl) (argsC (t_agg rfl) (argsC (t_agg rfl) args0)))) (CL.cons rfl rfl (CL.cons rfl rfl (CL.cons rfl rfl (CL.cons rfl rfl CL.nil)))) rfl (Nat.le_of_ble_eq_true rfl)) (show _ ≤ _ from (((ext_drawn _).trans' eu45)).size)).mono (fun v w' h => ⟨h.1, by obtain ⟨h1, b, h2, _, _, h4⟩ := h; exact ⟨_, h2, vl_blk [(4, 0), (0, 0), (3, 0), (5, 3)] (by decide) h4⟩⟩)) (fun I110 v110 => ?_)
 refine mx_val rfl (want_if (j := 6) (d := 104) (x := false) (y := false) rfl rfl (by decide) rfl) (fun u46 eu46 fu46 => by obtain ⟨s110, rfl, hV110⟩ := fu46 110 _ rfl (show (110 : Nat) ∈ _ from by decide); exact do_call (ent_func cf_25 (argsC (t_slice rfl) (argsC (t_slice rfl) args0))) (samevalues_ct [(4, 0), (0, 0), (3, 0), (5, 3)] [(4, 0), (0, 0), (3, 0), (5, 3)] _ _ _ _ _ _ u46 (hVg8.fr (vl_stab _) ((ext_drawn _).trans' eu46) (fun _ _ h => h)) hV110 (by decide)) (fun _ _ E h => ⟨E, h.trans (by kernel_rfl)⟩)) ?_
 refine mx_b_t (rfl) ?_
 refine mx_calm rfl (want_if (j := 6) (d := 104) (x := false) (y := false) rfl rfl (by decide) rfl) (fun u47 eu47 fu47 => rn_not rfl) ?_
 refine mx_calm rfl (want rfl) (fun u48 eu48 fu48 => pick_f rfl rfl) ?_
 refine mx_calm rfl (want rfl) (fun u49 eu49 fu49 => mv_bool rfl) ?_
 refine mx_calm rfl (want_if (j := 16) (d := 114) (x := false) (y := false) rfl rfl (by decide) rfl) (fun u50 eu50 fu50 => mv_slice rfl) ?_
 refine mx_val rfl (want_if (j := 16) (d := 114) (x := false) (y := false) rfl rfl (by decide) rfl) (fun u51 eu51 fu51 => do_call (ent_func cf_41 (argsC (t_int rfl) args0)) (int_ct _ u51) (fun _ _ E h => ⟨E, h⟩)) ?_
 refine mx_calm rfl (want_if (j := 16) (d := 114) (x := false) (y := false) rfl rfl (by decide) rfl) (fun u52 eu52 fu52 => rn_build2 (t_int rfl) (t_agg rfl) (fun w => bd_106_0_1 _ _ _ w)) ?_
 refine mx_any rfl rfl (want_if (j := 16) (d := 114) (x := false) (y := false) rfl rfl (by decide) rfl) (fun u53 eu53 fu53 => (do_newS2 (rn_bslice (xs := [.tmp 117]) Tryz.underlying31 sz_106 ze_106 rfl (argsC (t_agg rfl) args0) (CL.cons rfl rfl CL.nil) rfl (Nat.le_of_ble_eq_true rfl)) (show _ ≤ _ from (((ext_drawn _).trans' eu53)).size)).mono (fun v w' h => ⟨h.1, by obtain ⟨h1, b, h2, _, _, h4⟩ := h; exact ⟨_, h2, tl_blk [(7, (1, 5))] (by decide) h4⟩⟩)) (fun I118 v118 => ?_)
 refine mx_val rfl (want_if (j := 16) (d := 114) (x := false) (y := false) rfl rfl (by decide) rfl) (fun u54 eu54 fu54 => by obtain ⟨s118, rfl, hV118⟩ := fu54 118 _ rfl (show (118 : Nat) ∈ _ from by decide); exact do_call (ent_func cf_26 (argsC (t_slice rfl) (argsC (t_slice rfl) args0))) (sametold_ct [(7, (1, 5))] [(7, (1, 5))] _ _ _ _ _ _ u54 (hTg8.fr (tl_stab _) ((ext_drawn _).trans' eu54) (fun _ _ h => h)) hV118 (by decide)) (fun _ _ E h => ⟨E, h.trans (by kernel_rfl)⟩)) ?_
 refine mx_b_t (rfl) ?_
 refine mx_calm rfl (want_if (j := 16) (d := 114) (x := false) (y := false) rfl rfl (by decide) rfl) (fun u55 eu55 fu55 => rn_not rfl) ?_
 refine mx_calm rfl (want rfl) (fun u56 eu56 fu56 => pick_f rfl rfl) ?_
 refine mx_calm rfl (want rfl) (fun u57 eu57 fu57 => mv_bool rfl) ?_
 refine mx_calm rfl (want_if (j := 24) (d := 122) (x := false) (y := false) rfl rfl (by decide) rfl) (fun u58 eu58 fu58 => rn_loadBlk ag_24 sz_24 rfl (Bs5.ext ((ext_drawn _).trans' eu58)) rfl rfl) ?_
 refine mx_calm rfl (want_if (j := 24) (d := 122) (x := false) (y := false) rfl rfl (by decide) rfl) (fun u59 eu59 fu59 => rn_build0  (fun w => bd_36  w)) ?_
 refine mx_val rfl (want_if (j := 24) (d := 122) (x := false) (y := false) rfl rfl (by decide) rfl) (fun u60 eu60 fu60 => do_call (ent_func cf_41 (argsC (t_int rfl) args0)) (int_ct _ u60) (fun _ _ E h => ⟨E, h⟩)) ?_
 refine mx_any rfl rfl (want_if (j := 24) (d := 122) (x := false) (y := false) rfl rfl (by decide) rfl) (fun u61 eu61 fu61 => (do_newS2 (rn_bslice (xs := [.tmp 124, .tmp 125]) Tryz.underlying30 sz_36 ze_36 rfl (argsC (t_agg rfl) (argsC (t_agg rfl) args0)) (CL.cons rfl rfl (CL.cons rfl rfl CL.nil)) rfl (Nat.le_of_ble_eq_true rfl)) (show _ ≤ _ from (((ext_drawn _).trans' eu61)).size)).mono (fun v w' h => ⟨h.1, by obtain ⟨h1, b, h2, _, _, h4⟩ := h; exact ⟨_, h2, vl_blk [(0, 0), (1, 5)] (by decide) h4⟩⟩)) (fun I126 v126 => ?_)
 refine mx_any rfl rfl (want_if (j := 24) (d := 122) (x := false) (y := false) rfl rfl (by decide) rfl) (fun u62 eu62 fu62 => by obtain ⟨s126, rfl, hV126⟩ := fu62 126 _ rfl (show (126 : Nat) ∈ _ from by decide); exact do_value (rn_build1 (t_slice rfl) (fun w => bd_65_0 _ _ _ w)) ⟨(Fr.refl no _), ⟨s126, rfl, hV126⟩⟩) (fun I127 v127 => ?_)
 refine mx_any rfl rfl (want_if (j := 24) (d := 122) (x := false) (y := false) rfl rfl (by decide) rfl) (fun u63 eu63 fu63 => by obtain ⟨s126, rfl, hV126⟩ := fu63 127 _ rfl (show (127 : Nat) ∈ _ from by decide); exact (do_newS2 (rn_bslice (xs := [.tmp 127]) Tryz.underlying22 sz_65 ze_65 rfl (argsC (t_agg rfl) args0) (CL.cons rfl rfl CL.nil) rfl (Nat.le_of_ble_eq_true rfl)) (show _ ≤ _ from (((ext_drawn _).trans' eu63)).size)).mono (fun v w' h => ⟨h.1, by obtain ⟨h1, b, h2, _, _, h4⟩ := h; exact ⟨_, h2, mem_blk h4 (one_at ⟨_, _, _, _, rfl, rfl, hV126.fr (vl_stab _) h1 (fun _ _ h => h), rdS_nil _ _⟩)⟩⟩)) (fun I128 v128 => ?_)
 refine mx_any rfl rfl (want_if (j := 24) (d := 122) (x := false) (y := false) rfl rfl (by decide) rfl) (fun u64 eu64 fu64 => by obtain ⟨s128, rfl, hV128⟩ := fu64 128 _ rfl (show (128 : Nat) ∈ _ from by decide); exact do_value (rn_build1 (t_slice rfl) (fun w => bd_24_0 _ _ _ w)) ⟨(Fr.refl no _), ⟨s128, rfl, hV128⟩⟩) (fun I129 v129 => ?_)
 refine mx_val rfl (want_if (j := 24) (d := 122) (x := false) (y := false) rfl rfl (by decide) rfl) (fun u65 eu65 fu65 => by obtain ⟨s128, rfl, hV128⟩ := fu65 129 _ rfl (show (129 : Nat) ∈ _ from by decide); exact do_call (ent_func cf_24 (argsC (t_agg rfl) (argsC (t_agg rfl) args0))) (samemem_ct [([(0, 0), (1, 5)], [])] _ _ _ [([(0, 0), (1, 5)], [])] _ _ _ Bm_M1 u65 (hMg8.fr (st_stab _) ((ext_drawn _).trans' eu65) (fun _ _ h => h)) hV128) (fun _ _ E h => ⟨E, h.trans (by kernel_rfl)⟩)) ?_
 refine mx_b_t (rfl) ?_
 refine mx_nil (fun w38 E23' H2 HS => ?_)
 have E23 := (ext_drawn _).trans' E23'
 have F38 := F37.ext E23
 have hz23 := E23.size
 have hI129 := (HS.1 129 _ rfl).2
 have hI128 := (HS.1 128 _ rfl).2
 have hI127 := (HS.1 127 _ rfl).2
 have hI126 := (HS.1 126 _ rfl).2
 have hI118 := (HS.1 118 _ rfl).2
 have hI110 := (HS.1 110 _ rfl).2
 have hX129_128 := HS.2 129 _ 128 _ rfl rfl (show (129 : Nat) ≠ 128 from by decide)
 have hX129_127 := HS.2 129 _ 127 _ rfl rfl (show (129 : Nat) ≠ 127 from by decide)
 have hX129_126 := HS.2 129 _ 126 _ rfl rfl (show (129 : Nat) ≠ 126 from by decide)
 have hX129_118 := HS.2 129 _ 118 _ rfl rfl (show (129 : Nat) ≠ 118 from by decide)
 have hX129_110 := HS.2 129 _ 110 _ rfl rfl (show (129 : Nat) ≠ 110 from by decide)
 have hX128_127 := HS.2 128 _ 127 _ rfl rfl (show (128 : Nat) ≠ 127 from by decide)
 have hX128_126 := HS.2 128 _ 126 _ rfl rfl (show (128 : Nat) ≠ 126 from by decide)
 have hX128_118 := HS.2 128 _ 118 _ rfl rfl (show (128 : Nat) ≠ 118 from by decide)
 have hX128_110 := HS.2 128 _ 110 _ rfl rfl (show (128 : Nat) ≠ 110 from by decide)
 have hX127_126 := HS.2 127 _ 126 _ rfl rfl (show (127 : Nat) ≠ 126 from by decide)
 have hX127_118 := HS.2 127 _ 118 _ rfl rfl (show (127 : Nat) ≠ 118 from by decide)
 have hX127_110 := HS.2 127 _ 110 _ rfl rfl (show (127 : Nat) ≠ 110 from by decide)
 have hX126_118 := HS.2 126 _ 118 _ rfl rfl (show (126 : Nat) ≠ 118 from by decide)
 have hX126_110 := HS.2 126 _ 110 _ rfl rfl (show (126 : Nat) ≠ 110 from by decide)
 have hX118_110 := HS.2 118 _ 110 _ rfl rfl (show (118 : Nat) ≠ 110 from by decide)
 simp only at hI129
 simp only at hI128
 simp only at hI127
 simp only at hI126
 simp only at hI118
 simp only at hI110
 simp only at hX129_128
 simp only at hX129_127
 simp only at hX129_126
 simp only at hX129_118
 simp only at hX129_110
 simp only at hX128_127
 simp only at hX128_126
 simp only at hX128_118
 simp only at hX128_110
 simp only at hX127_126
 simp only at hX127_118
 simp only at hX127_110
 simp only at hX126_118
 simp only at hX126_110
 simp only at hX118_110
 have g129 := H2 129 _ rfl
 have g128 := H2 128 _ rfl
 have g127 := H2 127 _ rfl
 have g126 := H2 126 _ rfl
 have g118 := H2 118 _ rfl
 have g110 := H2 110 _ rfl
 refine lx_value (want_if (j := 24) (d := 122) (x := false) (y := false) rfl rfl (by decide) rfl) (rn_not rfl) ?_
 refine lx_value (want rfl) (pick_f rfl rfl) ?_
 refine lx_nil ?_
 refine wk_cond_f rfl ?_
 refine wk_skip ?_
 refine wk_seq ?_
 refine wk_region ?_
 refine lx_call (want rfl) (ent_func cf_69 args0) (tangled_ct w38) ?_
 rintro _ w39 E24 ⟨sT, cT, rfl, hMt⟩
 have F39 := F38.ext E24
 have hz24 := E24.size
 refine lx_call (want rfl) (ent_func cf_61 (argsC (t_int rfl) args0)) (ref_ct _ w39) ?_
 rintro _ w40 E25 rfl
 have F40 := F39.ext E25
 have hz25 := E25.size
 refine lx_call (want rfl) (ent_func cf_61 (argsC (t_int rfl) args0)) (ref_ct _ w40) ?_
 rintro _ w41 E26 rfl
 have F41 := F40.ext E26
 have hz26 := E26.size
 refine lx_call (want rfl) (ent_func cf_61 (argsC (t_int rfl) args0)) (ref_ct _ w41) ?_
 rintro _ w42 E27 rfl
 have F42 := F41.ext E27
 have hz27 := E27.size
 refine lx_newS (want rfl) (rn_bslice (xs := [.tmp 135, .tmp 136, .tmp 137]) Tryz.underlying30 sz_36 ze_36 rfl (argsC (t_agg rfl) (argsC (t_agg rfl) (argsC (t_agg rfl) args0))) (CL.cons rfl rfl (CL.cons rfl rfl (CL.cons rfl rfl CL.nil))) rfl (Nat.le_of_ble_eq_true rfl)) ?_
 intro b11 w43 hb11 Eb11 B11 hlb11
 have F43 := F42.ext Eb11
 have hzb11 := Eb11.size
 refine lx_call (want rfl) (ent_func cf_30 (argsC (t_agg rfl) (argsC (t_slice rfl) args0))) ((draw_lit drawR_A (pDraw_ct tangM _ _ _ Bm_T [(4, 1), (4, 0), (4, 1)] _ 3 _ (by decide) w43 (hMt.fr (st_stab _) (Fr.ext (Fr.ext (Fr.ext (Fr.ext (Fr.refl no w39) E25) E26) E27) Eb11) (fun _ _ h => h)) (vl_blk [(4, 1), (4, 0), (4, 1)] (by decide) B11)))) ?_
 rintro _ w44 E28 ⟨_, rfl, sv, cv, sk, ck, rfl, hPv, hPc⟩
 have F44 := F43.ext E28
 have hz28 := E28.size
 refine lx_value (want rfl) (mv_tuple rfl) ?_
 refine lx_value (want rfl) (rn_extract rfl rfl) ?_
 refine lx_value (want rfl) (rn_extract rfl rfl) ?_
 refine lx_new (want rfl) (rn_alloc ze_45) ?_
 intro b12 w45 hb12 Eb12 B12 hlb12
 have F45 := F44.ext Eb12
 have hzb12 := Eb12.size
 refine lx_set (want rfl) sz_45 rfl (t_agg rfl) rfl rfl rfl B12 (Nat.le_of_ble_eq_true rfl) ?_
 intro w46 Es6 Bs6
 have F46 := F45.set Es6 (by omega)
 have hzs6 := Es6.size
 refine lx_value (want rfl) (as_int rfl) ?_
 refine lx_nil ?_
 refine wk_seq ?_
 refine wk_region ?_
 refine lx_value (want rfl) (rn_loadBlk ag_45 sz_45 rfl Bs6 rfl rfl) ?_
 refine lx_call (want rfl) (ent_func cf_29 (argsC (t_agg rfl) args0)) (copypic_ct picA sv cv sk ck _ Bp_A w46 (hPv.fr (vl_stab _) (Fr.trans (Fr.ext (Fr.refl (fun k => k = b12) w44) Eb12) Es6 (fun k _ h => h)) (fun k hk h => by have hk := hk.2; (try dsimp only at h); omega)) (hPc.fr (vv_stab _) (Fr.trans (Fr.ext (Fr.refl (fun k => k = b12) w44) Eb12) Es6 (fun k _ h => h)) (fun k hk h => by have hk := hk.2; (try dsimp only at h); omega))) ?_
 rintro _ w47 E29 ⟨sv2, cv2, sk2, ck2, rfl, hPv2, hPc2⟩
 have F47 := F46.ext E29
 have hz29 := E29.size
 refine lx_call (want rfl) (ent_func cf_51 (argsC (t_agg rfl) (argsC (t_int rfl) args0))) ((show_lit showR_A (pshow_ct picA sv2 cv2 sk2 ck2 _ Bp_A 2 (fun _ => True) (fun _ => False) (fun _ _ h => h) (fun _ v h => picA_noint h) w47 hPv2 hPc2 (fun _ h => h.elim) trivial))) ?_
 rintro _ w48 E30 rfl
 have F48 := F47.ext E30
 have hz30 := E30.size
 refine lx_value (want rfl) (mv_tuple rfl) ?_
 refine lx_value (want rfl) (rn_extract rfl rfl) ?_
 refine lx_value (want rfl) (rn_extract rfl rfl) ?_
 refine lx_value (want rfl) (as_string rfl) ?_
 refine lx_value (want rfl) (as_int rfl) ?_
 refine lx_nil ?_
 refine wk_seq ?_
 have hPv8 := hPv.fr (vl_stab _) (Fr.ext (Fr.ext (Fr.trans (Fr.ext (Fr.refl (fun k => k = b12) w44) Eb12) Es6 (fun k _ h => h)) E29) E30) (fun k hk h => by have hk := hk.2; (try dsimp only at h); omega)
 have hPc8 := hPc.fr (vv_stab _) (Fr.ext (Fr.ext (Fr.trans (Fr.ext (Fr.refl (fun k => k = b12) w44) Eb12) Es6 (fun k _ h => h)) E29) E30) (fun k hk h => by have hk := hk.2; (try dsimp only at h); omega)
 refine wk_mix 24 (fun kS => match kS with | 12 => .val (.agg #[.int .u8 4, .int .i64 0]) | 13 => .val (.agg #[.int .u8 4, .int .i64 1]) | 14 => .val (.agg #[.int .u8 4, .int .i64 0]) | 15 => .any (fun I v w => ∃ s, v = .slice s 3 3 ∧ VlS (fun _ => True) w s [(4, 0), (4, 1), (4, 0)]) | 16 => .val (.agg #[.int .u8 4, .int .i64 0]) | 18 => .any (fun I v w => ∃ s, v = .slice s 2 2 ∧ VlS (fun _ => True) w s [(4, 0), (0, 0)]) | 19 => .val (.agg #[.int .u8 4, .int .i64 0]) | 20 => .any (fun I v w => ∃ s, v = .slice s 1 1 ∧ VlS (fun _ => True) w s [(4, 0)]) | 21 => .any (fun I v w => ∃ s, v = .slice s 2 2 ∧ VvS (fun _ => True) w s [[(4, 0), (0, 0)], [(4, 0)]]) | 22 => .any (fun I v w => ∃ s t, v = .agg #[.slice s 3 3, .slice t 2 2] ∧ VlS (fun _ => True) w s [(4, 0), (4, 1), (4, 0)] ∧ VvS (fun _ => True) w t [[(4, 0), (0, 0)], [(4, 0)]]) | 23 => .val (.bool true) | _ => .none) (by kernel_rfl) (by kernel_rfl) (by intro kS G hk; (try dsimp only at hk); (split at hk) <;> first | (cases hk; done) | (injection hk with hk; subst hk; exact ⟨by intro j hkj I v w w' hR hG; first | exact hG | (obtain ⟨s, h1, h2⟩ := hG; exact ⟨s, h1, h2.fr (vl_stab _) hR (fun _ _ h => h)⟩) | (obtain ⟨s, h1, h2⟩ := hG; exact ⟨s, h1, h2.fr (vl_stab _) hR (fun _ _ h => h)⟩) | (obtain ⟨s, h1, h2⟩ := hG; exact ⟨s, h1, h2.fr (vl_stab _) hR (fun _ _ h => h)⟩) | (obtain ⟨s, h1, h2⟩ := hG; exact ⟨s, h1, h2.fr (vv_stab _) hR (fun _ _ h => h)⟩) | (obtain ⟨s, t, h1, h2, h3⟩ := hG; exact ⟨s, t, h1, h2.fr (vl_stab _) hR (fun _ _ h => h), h3.fr (vv_stab _) hR (fun _ _ h => h)⟩), fun ⟨_, _, _, _, hs⟩ => by (try dsimp only at hs); split at hs <;> cases hs⟩)) (by intro kS s y G hk; (try dsimp only at hk); split at hk <;> cases hk) ?_
 simp only [List.take_succ_cons, List.take_zero, List.take_nil, List.drop_succ_cons, List.drop_zero, List.drop_nil]
 refine mx_calm rfl (want rfl) (fun u66 eu66 fu66 => mv_int rfl) ?_
 refine mx_calm rfl (want rfl) (fun u67 eu67 fu67 => rn_eql rfl rfl) ?_
 refine mx_dec_t (by decide) ?_
 refine mx_calm rfl (want rfl) (fun u68 eu68 fu68 => mv_bool rfl) ?_
 refine mx_calm rfl (want_if (j := 2) (d := 150) (x := true) (y := true) rfl rfl (by decide) rfl) (fun u69 eu69 fu69 => mv_int rfl) ?_
 refine mx_calm rfl (want_if (j := 2) (d := 150) (x := true) (y := true) rfl rfl (by decide) rfl) (fun u70 eu70 fu70 => rn_eql rfl rfl) ?_
 refine mx_dec_t (by decide) ?_
 refine mx_calm rfl (want rfl) (fun u71 eu71 fu71 => pick_t rfl rfl) ?_
 refine mx_calm rfl (want rfl) (fun u72 eu72 fu72 => mv_bool rfl) ?_
 refine mx_calm rfl (want_if (j := 6) (d := 154) (x := true) (y := true) rfl rfl (by decide) rfl) (fun u73 eu73 fu73 => mv_string rfl) ?_
 refine mx_calm rfl (want_if (j := 6) (d := 154) (x := true) (y := true) rfl rfl (by decide) rfl) (fun u74 eu74 fu74 => rn_eqlS rfl rfl) ?_
 refine mx_dec_t (rfl) ?_
 refine mx_calm rfl (want rfl) (fun u75 eu75 fu75 => pick_t rfl rfl) ?_
 refine mx_calm rfl (want rfl) (fun u76 eu76 fu76 => mv_bool rfl) ?_
 refine mx_calm rfl (want_if (j := 10) (d := 158) (x := true) (y := true) rfl rfl (by decide) rfl) (fun u77 eu77 fu77 => rn_loadBlk ag_45 sz_45 rfl (((Bs6.ext E29).ext E30).ext ((ext_drawn _).trans' eu77)) rfl rfl) ?_
 refine mx_val rfl (want_if (j := 10) (d := 158) (x := true) (y := true) rfl rfl (by decide) rfl) (fun u78 eu78 fu78 => do_call (ent_func cf_61 (argsC (t_int rfl) args0)) (ref_ct _ u78) (fun _ _ E h => ⟨E, h⟩)) ?_
 refine mx_val rfl (want_if (j := 10) (d := 158) (x := true) (y := true) rfl rfl (by decide) rfl) (fun u79 eu79 fu79 => do_call (ent_func cf_61 (argsC (t_int rfl) args0)) (ref_ct _ u79) (fun _ _ E h => ⟨E, h⟩)) ?_
 refine mx_val rfl (want_if (j := 10) (d := 158) (x := true) (y := true) rfl rfl (by decide) rfl) (fun u80 eu80 fu80 => do_call (ent_func cf_61 (argsC (t_int rfl) args0)) (ref_ct _ u80) (fun _ _ E h => ⟨E, h⟩)) ?_
 refine mx_any rfl rfl (want_if (j := 10) (d := 158) (x := true) (y := true) rfl rfl (by decide) rfl) (fun u81 eu81 fu81 => (do_newS2 (rn_bslice (xs := [.tmp 160, .tmp 161, .tmp 162]) Tryz.underlying30 sz_36 ze_36 rfl (argsC (t_agg rfl) (argsC (t_agg rfl) (argsC (t_agg rfl) args0))) (CL.cons rfl rfl (CL.cons rfl rfl (CL.cons rfl rfl CL.nil))) rfl (Nat.le_of_ble_eq_true rfl)) (show _ ≤ _ from (((ext_drawn _).trans' eu81)).size)).mono (fun v w' h => ⟨h.1, by obtain ⟨h1, b, h2, _, _, h4⟩ := h; exact ⟨_, h2, vl_blk [(4, 0), (4, 1), (4, 0)] (by decide) h4⟩⟩)) (fun I163 v163 => ?_)
 refine mx_val rfl (want_if (j := 10) (d := 158) (x := true) (y := true) rfl rfl (by decide) rfl) (fun u82 eu82 fu82 => do_call (ent_func cf_61 (argsC (t_int rfl) args0)) (ref_ct _ u82) (fun _ _ E h => ⟨E, h⟩)) ?_
 refine mx_calm rfl (want_if (j := 10) (d := 158) (x := true) (y := true) rfl rfl (by decide) rfl) (fun u83 eu83 fu83 => rn_build0  (fun w => bd_36  w)) ?_
 refine mx_any rfl rfl (want_if (j := 10) (d := 158) (x := true) (y := true) rfl rfl (by decide) rfl) (fun u84 eu84 fu84 => (do_newS2 (rn_bslice (xs := [.tmp 164, .tmp 165]) Tryz.underlying30 sz_36 ze_36 rfl (argsC (t_agg rfl) (argsC (t_agg rfl) args0)) (CL.cons rfl rfl (CL.cons rfl rfl CL.nil)) rfl (Nat.le_of_ble_eq_true rfl)) (show _ ≤ _ from (((ext_drawn _).trans' eu84)).size)).mono (fun v w' h => ⟨h.1, by obtain ⟨h1, b, h2, _, _, h4⟩ := h; exact ⟨_, h2, vl_blk [(4, 0), (0, 0)] (by decide) h4⟩⟩)) (fun I166 v166 => ?_)
 refine mx_val rfl (want_if (j := 10) (d := 158) (x := true) (y := true) rfl rfl (by decide) rfl) (fun u85 eu85 fu85 => do_call (ent_func cf_61 (argsC (t_int rfl) args0)) (ref_ct _ u85) (fun _ _ E h => ⟨E, h⟩)) ?_
 refine mx_any rfl rfl (want_if (j := 10) (d := 158) (x := true) (y := true) rfl rfl (by decide) rfl) (fun u86 eu86 fu86 => (do_newS2 (rn_bslice (xs := [.tmp 167]) Tryz.underlying30 sz_36 ze_36 rfl (argsC (t_agg rfl) args0) (CL.cons rfl rfl CL.nil) rfl (Nat.le_of_ble_eq_true rfl)) (show _ ≤ _ from (((ext_drawn _).trans' eu86)).size)).mono (fun v w' h => ⟨h.1, by obtain ⟨h1, b, h2, _, _, h4⟩ := h; exact ⟨_, h2, vl_blk [(4, 0)] (by decide) h4⟩⟩)) (fun I168 v168 => ?_)
 refine mx_any rfl rfl (want_if (j := 10) (d := 158) (x := true) (y := true) rfl rfl (by decide) rfl) (fun u87 eu87 fu87 => by obtain ⟨s166, rfl, hV166⟩ := fu87 166 _ rfl (show (166 : Nat) ∈ _ from by decide); obtain ⟨s168, rfl, hV168⟩ := fu87 168 _ rfl (show (168 : Nat) ∈ _ from by decide); exact (do_newS2 (rn_bslice (xs := [.tmp 166, .tmp 168]) Tryz.underlying43 sz_30 ze_30 rfl (argsC (t_slice rfl) (argsC (t_slice rfl) args0)) (CL.cons rfl rfl (CL.cons rfl rfl CL.nil)) rfl (Nat.le_of_ble_eq_true rfl)) (show _ ≤ _ from (((ext_drawn _).trans' eu87)).size)).mono (fun v w' h => ⟨h.1, by obtain ⟨h1, b, h2, _, _, h4⟩ := h; exact ⟨_, h2, vv_blk h4 (two_at ⟨_, _, rfl, hV166.fr (vl_stab _) h1 (fun _ _ h => h)⟩ ⟨_, _, rfl, hV168.fr (vl_stab _) h1 (fun _ _ h => h)⟩)⟩⟩)) (fun I169 v169 => ?_)
 refine mx_any rfl rfl (want_if (j := 10) (d := 158) (x := true) (y := true) rfl rfl (by decide) rfl) (fun u88 eu88 fu88 => by obtain ⟨s163, rfl, hV163⟩ := fu88 163 _ rfl (show (163 : Nat) ∈ _ from by decide); obtain ⟨s169, rfl, hV169⟩ := fu88 169 _ rfl (show (169 : Nat) ∈ _ from by decide); exact do_value (rn_build2 (t_slice rfl) (t_slice rfl) (fun w => bd_45_0_1 _ _ _ _ _ _ w)) ⟨(Fr.refl no _), ⟨s163, s169, rfl, hV163, hV169⟩⟩) (fun I170 v170 => ?_)
 refine mx_val rfl (want_if (j := 10) (d := 158) (x := true) (y := true) rfl rfl (by decide) rfl) (fun u89 eu89 fu89 => by obtain ⟨s163, s169, rfl, hV163, hV169⟩ := fu89 170 _ rfl (show (170 : Nat) ∈ _ from by decide); exact do_call (ent_func cf_32 (argsC (t_agg rfl) (argsC (t_agg rfl) args0))) (samepic_ct picA _ _ _ _ _ picA _ _ _ _ _ Bp_A u89 (hPv8.fr (vl_stab _) ((ext_drawn _).trans' eu89) (fun _ _ h => h)) (hPc8.fr (vv_stab _) ((ext_drawn _).trans' eu89) (fun _ _ h => h)) hV163 hV169) (fun _ _ E h => ⟨E, h.trans (by kernel_rfl)⟩)) ?_
 refine mx_nil (fun w49 E31' H3 HS => ?_)
 have E31 := (ext_drawn _).trans' E31'
 have F49 := F48.ext E31
 have hz31 := E31.size
 have hI170 := (HS.1 170 _ rfl).2
 have hI169 := (HS.1 169 _ rfl).2
 have hI168 := (HS.1 168 _ rfl).2
 have hI166 := (HS.1 166 _ rfl).2
 have hI163 := (HS.1 163 _ rfl).2
 have hX170_169 := HS.2 170 _ 169 _ rfl rfl (show (170 : Nat) ≠ 169 from by decide)
 have hX170_168 := HS.2 170 _ 168 _ rfl rfl (show (170 : Nat) ≠ 168 from by decide)
 have hX170_166 := HS.2 170 _ 166 _ rfl rfl (show (170 : Nat) ≠ 166 from by decide)
 have hX170_163 := HS.2 170 _ 163 _ rfl rfl (show (170 : Nat) ≠ 163 from by decide)
 have hX169_168 := HS.2 169 _ 168 _ rfl rfl (show (169 : Nat) ≠ 168 from by decide)
 have hX169_166 := HS.2 169 _ 166 _ rfl rfl (show (169 : Nat) ≠ 166 from by decide)
 have hX169_163 := HS.2 169 _ 163 _ rfl rfl (show (169 : Nat) ≠ 163 from by decide)
 have hX168_166 := HS.2 168 _ 166 _ rfl rfl (show (168 : Nat) ≠ 166 from by decide)
 have hX168_163 := HS.2 168 _ 163 _ rfl rfl (show (168 : Nat) ≠ 163 from by decide)
 have hX166_163 := HS.2 166 _ 163 _ rfl rfl (show (166 : Nat) ≠ 163 from by decide)
 simp only at hI170
 simp only at hI169
 simp only at hI168
 simp only at hI166
 simp only at hI163
 simp only at hX170_169
 simp only at hX170_168
 simp only at hX170_166
 simp only at hX170_163
 simp only at hX169_168
 simp only at hX169_166
 simp only at hX169_163
 simp only at hX168_166
 simp only at hX168_163
 simp only at hX166_163
 have g170 := H3 170 _ rfl
 have g169 := H3 169 _ rfl
 have g168 := H3 168 _ rfl
 have g166 := H3 166 _ rfl
 have g163 := H3 163 _ rfl
 refine lx_value (want rfl) (pick_t rfl rfl) ?_
 refine lx_value (want rfl) (as_bool rfl) ?_
 refine lx_nil ?_
 refine wk_ret ?_
 refine retR1 Tryz.results19 (.tmp (t_bool rfl)) F49 ?_
 exact rfl

end Go.Proofs.YtnhgfmbmfjmonaaGreatDoor

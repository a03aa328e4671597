/- What functions compute: example, execb, give, copied. -/
import Derived.Test.YtgnnegfnpgnbbaaGreatDoorHomesFacts
import Derived.Test.YtgnnegfnpgnbbaaGreatDoorHomesPre
import Derived.Test.YtgnnegfnpgnbbaaGreatDoorHomesWalk2
import Derived.Test.YtgnnegfnpgnbbaaGreatDoorHomesWalk3
set_option maxRecDepth 100000
set_option linter.unusedVariables false
set_option linter.unusedSimpArgs false
namespace Go.Proofs.YtgnnegfnpgnbbaaGreatDoor
open Go Go.RowKit Go.Mix Go.Eng
set_option maxHeartbeats 4000000 in
theorem example_ct (w0 : World) :
  CT Tryz.prog 10 [] w0 no (fun v w => ∃ sa ca sb cb, v = .agg #[.slice sa exS.slots.length ca, .slice sb exS.code.length cb] ∧ StR (fun k => w0.heap.size ≤ k) w exS sa ca sb cb) := by
 have F0 := Fr.refl no w0
 refine ct_body Tryz.func10 rfl Tryz.ntmps10 (Nat.le_of_ble_eq_true rfl) ?_
 refine wk_seq ?_
 refine wk_region ?_
 refine lx_new (want rfl) (rn_alloc ze_35) ?_
 intro b1 w1 hb1 Eb1 B1 hlb1
 have F1 := F0.ext Eb1
 have hzb1 := Eb1.size
 refine lx_nil ?_
 refine wk_seq ?_
 refine wk_region ?_
 refine lx_value (want rfl) (as_func rfl) ?_
 refine lx_nil ?_
 refine wk_seq ?_
 refine wk_region ?_
 refine lx_value (want rfl) (mv_func rfl) ?_
 refine lx_call (want rfl) (ent_value cf_22 rfl (argsC (t_int rfl) (argsC (t_int rfl) args0))) (func1_ct _ _ w1) ?_
 rintro _ w2 E1 ⟨fa1, fb1, rfl, hfa1, hfb1, ga1, gb1, gn1⟩
 have F2 := F1.ext E1
 have hz1 := E1.size
 refine lx_value (want rfl) (rn_build2 (t_int rfl) (t_slice rfl) (fun w => bd_73_0_3 _ _ _ _ w)) ?_
 refine lx_value (want rfl) (mv_func rfl) ?_
 refine lx_call (want rfl) (ent_value cf_22 rfl (argsC (t_int rfl) (argsC (t_int rfl) args0))) (func1_ct _ _ w2) ?_
 rintro _ w3 E2 ⟨fa2, fb2, rfl, hfa2, hfb2, ga2, gb2, gn2⟩
 have F3 := F2.ext E2
 have hz2 := E2.size
 refine lx_value (want rfl) (rn_build3 (t_int rfl) (t_string rfl) (t_slice rfl) (fun w => bd_73_0_1_3 _ _ _ _ _ w)) ?_
 refine lx_value (want rfl) (mv_func rfl) ?_
 refine lx_call (want rfl) (ent_value cf_22 rfl (argsC (t_int rfl) (argsC (t_int rfl) args0))) (func1_ct _ _ w3) ?_
 rintro _ w4 E3 ⟨fa3, fb3, rfl, hfa3, hfb3, ga3, gb3, gn3⟩
 have F4 := F3.ext E3
 have hz3 := E3.size
 refine lx_value (want rfl) (mv_func rfl) ?_
 refine lx_call (want rfl) (ent_value cf_22 rfl (argsC (t_int rfl) (argsC (t_int rfl) args0))) (func1_ct _ _ w4) ?_
 rintro _ w5 E4 ⟨fa4, fb4, rfl, hfa4, hfb4, ga4, gb4, gn4⟩
 have F5 := F4.ext E4
 have hz4 := E4.size
 refine lx_appendF 24 (want rfl) Tryz.underlying71 ti_76 (by decide) rfl (by decide) rfl rfl (hfa3.ext (Fr.ext (Fr.refl no w4) E4)) rfl (by decide) (Src.blk (hfa4.ext (Fr.refl no w5)) rfl rfl) (by decide) ?_
 intro sP cP w6 hOP ExP hgP
 have F6 := F5.ext ExP
 have hzxP := ExP.size
 refine lx_value (want rfl) (rn_build2 (t_int rfl) (t_slice rfl) (fun w => bd_73_0_3 _ _ _ _ w)) ?_
 refine lx_value (want rfl) (mv_func rfl) ?_
 refine lx_call (want rfl) (ent_value cf_22 rfl (argsC (t_int rfl) (argsC (t_int rfl) args0))) (func1_ct _ _ w6) ?_
 rintro _ w7 E5 ⟨fa5, fb5, rfl, hfa5, hfb5, ga5, gb5, gn5⟩
 have F7 := F6.ext E5
 have hz5 := E5.size
 refine lx_value (want rfl) (rn_build3 (t_int rfl) (t_string rfl) (t_slice rfl) (fun w => bd_73_0_1_3 _ _ _ _ _ w)) ?_
 refine lx_value (want rfl) (mv_func rfl) ?_
 refine lx_call (want rfl) (ent_value cf_22 rfl (argsC (t_int rfl) (argsC (t_int rfl) args0))) (func1_ct _ _ w7) ?_
 rintro _ w8 E6 ⟨fa6, fb6, rfl, hfa6, hfb6, ga6, gb6, gn6⟩
 have F8 := F7.ext E6
 have hz6 := E6.size
 refine lx_value (want rfl) (rn_build2 (t_int rfl) (t_slice rfl) (fun w => bd_73_0_3 _ _ _ _ w)) ?_
 refine lx_value (want rfl) (rn_build1 (t_int rfl) (fun w => bd_73_0 _ w)) ?_
 refine lx_newS (want rfl) (rn_bslice (xs := [.tmp 6, .tmp 9, .tmp 15, .tmp 18, .tmp 21, .tmp 22]) Tryz.underlying33 sz_73 ze_73 rfl (argsC (t_agg rfl) (argsC (t_agg rfl) (argsC (t_agg rfl) (argsC (t_agg rfl) (argsC (t_agg rfl) (argsC (t_agg rfl) args0)))))) (CL.cons rfl rfl (CL.cons rfl rfl (CL.cons rfl rfl (CL.cons rfl rfl (CL.cons rfl rfl (CL.cons rfl rfl CL.nil)))))) rfl (Nat.le_of_ble_eq_true rfl)) ?_
 intro b2 w9 hb2 Eb2 B2 hlb2
 have F9 := F8.ext Eb2
 have hzb2 := Eb2.size
 refine lx_value (want rfl) (as_slice rfl) ?_
 refine lx_nil ?_
 refine wk_seq ?_
 refine wk_region ?_
 refine lx_value (want rfl) (mv_func rfl) ?_
 refine lx_call (want rfl) (ent_value cf_22 rfl (argsC (t_int rfl) (argsC (t_int rfl) args0))) (func1_ct _ _ w9) ?_
 rintro _ w10 E7 ⟨fa7, fb7, rfl, hfa7, hfb7, ga7, gb7, gn7⟩
 have F10 := F9.ext E7
 have hz7 := E7.size
 refine lx_value (want rfl) (mv_func rfl) ?_
 refine lx_call (want rfl) (ent_value cf_22 rfl (argsC (t_int rfl) (argsC (t_int rfl) args0))) (func1_ct _ _ w10) ?_
 rintro _ w11 E8 ⟨fa8, fb8, rfl, hfa8, hfb8, ga8, gb8, gn8⟩
 have F11 := F10.ext E8
 have hz8 := E8.size
 refine lx_appendF 24 (want rfl) Tryz.underlying71 ti_76 (by decide) rfl (by decide) rfl rfl (hfa7.ext (Fr.ext (Fr.refl no w10) E8)) rfl (by decide) (Src.blk (hfa8.ext (Fr.refl no w11)) rfl rfl) (by decide) ?_
 intro sQ cQ w12 hOQ ExQ hgQ
 have F12 := F11.ext ExQ
 have hzxQ := ExQ.size
 refine lx_value (want rfl) (rn_build2 (t_int rfl) (t_slice rfl) (fun w => bd_73_0_3 _ _ _ _ w)) ?_
 refine lx_value (want rfl) (rn_build2 (t_int rfl) (t_int rfl) (fun w => bd_73_0_2 _ _ w)) ?_
 refine lx_value (want rfl) (rn_build1 (t_int rfl) (fun w => bd_73_0 _ w)) ?_
 refine lx_newS (want rfl) (rn_bslice (xs := [.tmp 29, .tmp 30, .tmp 31]) Tryz.underlying33 sz_73 ze_73 rfl (argsC (t_agg rfl) (argsC (t_agg rfl) (argsC (t_agg rfl) args0))) (CL.cons rfl rfl (CL.cons rfl rfl (CL.cons rfl rfl CL.nil))) rfl (Nat.le_of_ble_eq_true rfl)) ?_
 intro b3 w13 hb3 Eb3 B3 hlb3
 have F13 := F12.ext Eb3
 have hzb3 := Eb3.size
 refine lx_value (want rfl) (as_slice rfl) ?_
 refine lx_nil ?_
 refine wk_seq ?_
 refine wk_region ?_
 refine lx_value (want rfl) (mv_func rfl) ?_
 refine lx_call (want rfl) (ent_value cf_22 rfl (argsC (t_int rfl) (argsC (t_int rfl) args0))) (func1_ct _ _ w13) ?_
 rintro _ w14 E9 ⟨fa9, fb9, rfl, hfa9, hfb9, ga9, gb9, gn9⟩
 have F14 := F13.ext E9
 have hz9 := E9.size
 refine lx_value (want rfl) (rn_build1 (t_int rfl) (fun w => bd_75_0 _ w)) ?_
 refine lx_value (want rfl) (rn_build2 (t_int rfl) (t_int rfl) (fun w => bd_75_0_1 _ _ w)) ?_
 refine lx_newS (want rfl) (rn_bslice (xs := [.tmp 35, .tmp 36]) Tryz.underlying76 sz_75 ze_75 rfl (argsC (t_agg rfl) (argsC (t_agg rfl) args0)) (CL.cons rfl rfl (CL.cons rfl rfl CL.nil)) rfl (Nat.le_of_ble_eq_true rfl)) ?_
 intro b4 w15 hb4 Eb4 B4 hlb4
 have F15 := F14.ext Eb4
 have hzb4 := Eb4.size
 refine lx_newS (want rfl) (rn_bslice (xs := [.tmp 37]) Tryz.underlying71 sz_76 ze_76 rfl (argsC (t_slice rfl) args0) (CL.cons rfl rfl CL.nil) rfl (Nat.le_of_ble_eq_true rfl)) ?_
 intro b5 w16 hb5 Eb5 B5 hlb5
 have F16 := F15.ext Eb5
 have hzb5 := Eb5.size
 refine lx_appendF 24 (want rfl) Tryz.underlying71 ti_76 (by decide) rfl (by decide) rfl rfl (hfa9.ext (Fr.ext (Fr.ext (Fr.refl no w14) Eb4) Eb5)) rfl (by decide) (Src.blk B5 rfl rfl) (by decide) ?_
 intro sR cR w17 hOR ExR hgR
 have F17 := F16.ext ExR
 have hzxR := ExR.size
 refine lx_value (want rfl) (rn_build4 (t_string rfl) (t_int rfl) (t_int rfl) (t_slice rfl) (fun w => bd_78_0_2_3_5 _ _ _ _ _ _ w)) ?_
 refine lx_value (want rfl) (mv_func rfl) ?_
 refine lx_call (want rfl) (ent_value cf_22 rfl (argsC (t_int rfl) (argsC (t_int rfl) args0))) (func1_ct _ _ w17) ?_
 rintro _ w18 E10 ⟨fa10, fb10, rfl, hfa10, hfb10, ga10, gb10, gn10⟩
 have F18 := F17.ext E10
 have hz10 := E10.size
 refine lx_value (want rfl) (mv_func rfl) ?_
 refine lx_call (want rfl) (ent_value cf_22 rfl (argsC (t_int rfl) (argsC (t_int rfl) args0))) (func1_ct _ _ w18) ?_
 rintro _ w19 E11 ⟨fa11, fb11, rfl, hfa11, hfb11, ga11, gb11, gn11⟩
 have F19 := F18.ext E11
 have hz11 := E11.size
 refine lx_appendF 24 (want rfl) Tryz.underlying71 ti_76 (by decide) rfl (by decide) rfl rfl (hfa10.ext (Fr.ext (Fr.refl no w18) E11)) rfl (by decide) (Src.blk (hfa11.ext (Fr.refl no w19)) rfl rfl) (by decide) ?_
 intro sT cT w20 hOT ExT hgT
 have F20 := F19.ext ExT
 have hzxT := ExT.size
 refine lx_value (want rfl) (rn_build5 (t_string rfl) (t_int rfl) (t_int rfl) (t_int rfl) (t_slice rfl) (fun w => bd_78_0_1_2_3_5 _ _ _ _ _ _ _ w)) ?_
 refine lx_newS (want rfl) (rn_bslice (xs := [.tmp 40, .tmp 46]) Tryz.underlying32 sz_78 ze_78 rfl (argsC (t_agg rfl) (argsC (t_agg rfl) args0)) (CL.cons rfl rfl (CL.cons rfl rfl CL.nil)) rfl (Nat.le_of_ble_eq_true rfl)) ?_
 intro b6 w21 hb6 Eb6 B6 hlb6
 have F21 := F20.ext Eb6
 have hzb6 := Eb6.size
 refine lx_value (want rfl) (mv_slice rfl) ?_
 refine lx_value (want rfl) (mv_slice rfl) ?_
 refine lx_appendF 56 (want rfl) Tryz.underlying33 ti_73 (by decide) rfl (by decide) rfl rfl ((((((((((((B2.ext E7).ext E8).ext ExQ).ext Eb3).ext E9).ext Eb4).ext Eb5).ext ExR).ext E10).ext E11).ext ExT).ext Eb6) rfl (by decide) (Src.blk ((((((((B3.ext E9).ext Eb4).ext Eb5).ext ExR).ext E10).ext E11).ext ExT).ext Eb6) rfl rfl) (by decide) ?_
 intro sC cC w22 hOC ExC hgC
 have F22 := F21.ext ExC
 have hzxC := ExC.size
 refine lx_value (want rfl) (rn_build2 (t_slice rfl) (t_slice rfl) (fun w => bd_35_0_1 _ _ _ _ _ _ w)) ?_
 refine lx_set (want rfl) sz_35 rfl (t_agg rfl) rfl rfl rfl (((((((((((((((((((((B1.ext E1).ext E2).ext E3).ext E4).ext ExP).ext E5).ext E6).ext Eb2).ext E7).ext E8).ext ExQ).ext Eb3).ext E9).ext Eb4).ext Eb5).ext ExR).ext E10).ext E11).ext ExT).ext Eb6).ext ExC) (Nat.le_of_ble_eq_true rfl) ?_
 intro w23 Es1 Bs1
 have F23 := F22.set Es1 (by omega)
 have hzs1 := Es1.size
 refine lx_nil ?_
 refine wk_ret ?_
 refine retR1 Tryz.results10 (.cell rfl (run_loadVar_blk ag_35 sz_35 Bs1 rfl rfl)) F23 ?_
 have hA1 := hfa1.fr (Fr.trans (Fr.ext (Fr.ext (Fr.ext (Fr.ext (Fr.ext (Fr.ext (Fr.ext (Fr.ext (Fr.ext (Fr.ext (Fr.ext (Fr.ext (Fr.ext (Fr.ext (Fr.ext (Fr.ext (Fr.ext (Fr.ext (Fr.ext (Fr.ext (Fr.refl (fun k => k = b1) w2) E2) E3) E4) ExP) E5) E6) Eb2) E7) E8) ExQ) Eb3) E9) Eb4) Eb5) ExR) E10) E11) ExT) Eb6) ExC) Es1 (fun k _ h => h)) (fun h => by (try dsimp only at h); omega)
 have hB1 := hfb1.fr (Fr.trans (Fr.ext (Fr.ext (Fr.ext (Fr.ext (Fr.ext (Fr.ext (Fr.ext (Fr.ext (Fr.ext (Fr.ext (Fr.ext (Fr.ext (Fr.ext (Fr.ext (Fr.ext (Fr.ext (Fr.ext (Fr.ext (Fr.ext (Fr.ext (Fr.refl (fun k => k = b1) w2) E2) E3) E4) ExP) E5) E6) Eb2) E7) E8) ExQ) Eb3) E9) Eb4) Eb5) ExR) E10) E11) ExT) Eb6) ExC) Es1 (fun k _ h => h)) (fun h => by (try dsimp only at h); omega)
 have hA2 := hfa2.fr (Fr.trans (Fr.ext (Fr.ext (Fr.ext (Fr.ext (Fr.ext (Fr.ext (Fr.ext (Fr.ext (Fr.ext (Fr.ext (Fr.ext (Fr.ext (Fr.ext (Fr.ext (Fr.ext (Fr.ext (Fr.ext (Fr.ext (Fr.ext (Fr.refl (fun k => k = b1) w3) E3) E4) ExP) E5) E6) Eb2) E7) E8) ExQ) Eb3) E9) Eb4) Eb5) ExR) E10) E11) ExT) Eb6) ExC) Es1 (fun k _ h => h)) (fun h => by (try dsimp only at h); omega)
 have hB2 := hfb2.fr (Fr.trans (Fr.ext (Fr.ext (Fr.ext (Fr.ext (Fr.ext (Fr.ext (Fr.ext (Fr.ext (Fr.ext (Fr.ext (Fr.ext (Fr.ext (Fr.ext (Fr.ext (Fr.ext (Fr.ext (Fr.ext (Fr.ext (Fr.ext (Fr.refl (fun k => k = b1) w3) E3) E4) ExP) E5) E6) Eb2) E7) E8) ExQ) Eb3) E9) Eb4) Eb5) ExR) E10) E11) ExT) Eb6) ExC) Es1 (fun k _ h => h)) (fun h => by (try dsimp only at h); omega)
 have hA3 := hfa3.fr (Fr.trans (Fr.ext (Fr.ext (Fr.ext (Fr.ext (Fr.ext (Fr.ext (Fr.ext (Fr.ext (Fr.ext (Fr.ext (Fr.ext (Fr.ext (Fr.ext (Fr.ext (Fr.ext (Fr.ext (Fr.ext (Fr.ext (Fr.refl (fun k => k = b1) w4) E4) ExP) E5) E6) Eb2) E7) E8) ExQ) Eb3) E9) Eb4) Eb5) ExR) E10) E11) ExT) Eb6) ExC) Es1 (fun k _ h => h)) (fun h => by (try dsimp only at h); omega)
 have hB3 := hfb3.fr (Fr.trans (Fr.ext (Fr.ext (Fr.ext (Fr.ext (Fr.ext (Fr.ext (Fr.ext (Fr.ext (Fr.ext (Fr.ext (Fr.ext (Fr.ext (Fr.ext (Fr.ext (Fr.ext (Fr.ext (Fr.ext (Fr.ext (Fr.refl (fun k => k = b1) w4) E4) ExP) E5) E6) Eb2) E7) E8) ExQ) Eb3) E9) Eb4) Eb5) ExR) E10) E11) ExT) Eb6) ExC) Es1 (fun k _ h => h)) (fun h => by (try dsimp only at h); omega)
 have hA4 := hfa4.fr (Fr.trans (Fr.ext (Fr.ext (Fr.ext (Fr.ext (Fr.ext (Fr.ext (Fr.ext (Fr.ext (Fr.ext (Fr.ext (Fr.ext (Fr.ext (Fr.ext (Fr.ext (Fr.ext (Fr.ext (Fr.ext (Fr.refl (fun k => k = b1) w5) ExP) E5) E6) Eb2) E7) E8) ExQ) Eb3) E9) Eb4) Eb5) ExR) E10) E11) ExT) Eb6) ExC) Es1 (fun k _ h => h)) (fun h => by (try dsimp only at h); omega)
 have hB4 := hfb4.fr (Fr.trans (Fr.ext (Fr.ext (Fr.ext (Fr.ext (Fr.ext (Fr.ext (Fr.ext (Fr.ext (Fr.ext (Fr.ext (Fr.ext (Fr.ext (Fr.ext (Fr.ext (Fr.ext (Fr.ext (Fr.ext (Fr.refl (fun k => k = b1) w5) ExP) E5) E6) Eb2) E7) E8) ExQ) Eb3) E9) Eb4) Eb5) ExR) E10) E11) ExT) Eb6) ExC) Es1 (fun k _ h => h)) (fun h => by (try dsimp only at h); omega)
 have hA5 := hfa5.fr (Fr.trans (Fr.ext (Fr.ext (Fr.ext (Fr.ext (Fr.ext (Fr.ext (Fr.ext (Fr.ext (Fr.ext (Fr.ext (Fr.ext (Fr.ext (Fr.ext (Fr.ext (Fr.ext (Fr.refl (fun k => k = b1) w7) E6) Eb2) E7) E8) ExQ) Eb3) E9) Eb4) Eb5) ExR) E10) E11) ExT) Eb6) ExC) Es1 (fun k _ h => h)) (fun h => by (try dsimp only at h); omega)
 have hB5 := hfb5.fr (Fr.trans (Fr.ext (Fr.ext (Fr.ext (Fr.ext (Fr.ext (Fr.ext (Fr.ext (Fr.ext (Fr.ext (Fr.ext (Fr.ext (Fr.ext (Fr.ext (Fr.ext (Fr.ext (Fr.refl (fun k => k = b1) w7) E6) Eb2) E7) E8) ExQ) Eb3) E9) Eb4) Eb5) ExR) E10) E11) ExT) Eb6) ExC) Es1 (fun k _ h => h)) (fun h => by (try dsimp only at h); omega)
 have hA6 := hfa6.fr (Fr.trans (Fr.ext (Fr.ext (Fr.ext (Fr.ext (Fr.ext (Fr.ext (Fr.ext (Fr.ext (Fr.ext (Fr.ext (Fr.ext (Fr.ext (Fr.ext (Fr.ext (Fr.refl (fun k => k = b1) w8) Eb2) E7) E8) ExQ) Eb3) E9) Eb4) Eb5) ExR) E10) E11) ExT) Eb6) ExC) Es1 (fun k _ h => h)) (fun h => by (try dsimp only at h); omega)
 have hB6 := hfb6.fr (Fr.trans (Fr.ext (Fr.ext (Fr.ext (Fr.ext (Fr.ext (Fr.ext (Fr.ext (Fr.ext (Fr.ext (Fr.ext (Fr.ext (Fr.ext (Fr.ext (Fr.ext (Fr.refl (fun k => k = b1) w8) Eb2) E7) E8) ExQ) Eb3) E9) Eb4) Eb5) ExR) E10) E11) ExT) Eb6) ExC) Es1 (fun k _ h => h)) (fun h => by (try dsimp only at h); omega)
 have hA7 := hfa7.fr (Fr.trans (Fr.ext (Fr.ext (Fr.ext (Fr.ext (Fr.ext (Fr.ext (Fr.ext (Fr.ext (Fr.ext (Fr.ext (Fr.ext (Fr.ext (Fr.refl (fun k => k = b1) w10) E8) ExQ) Eb3) E9) Eb4) Eb5) ExR) E10) E11) ExT) Eb6) ExC) Es1 (fun k _ h => h)) (fun h => by (try dsimp only at h); omega)
 have hB7 := hfb7.fr (Fr.trans (Fr.ext (Fr.ext (Fr.ext (Fr.ext (Fr.ext (Fr.ext (Fr.ext (Fr.ext (Fr.ext (Fr.ext (Fr.ext (Fr.ext (Fr.refl (fun k => k = b1) w10) E8) ExQ) Eb3) E9) Eb4) Eb5) ExR) E10) E11) ExT) Eb6) ExC) Es1 (fun k _ h => h)) (fun h => by (try dsimp only at h); omega)
 have hA8 := hfa8.fr (Fr.trans (Fr.ext (Fr.ext (Fr.ext (Fr.ext (Fr.ext (Fr.ext (Fr.ext (Fr.ext (Fr.ext (Fr.ext (Fr.ext (Fr.refl (fun k => k = b1) w11) ExQ) Eb3) E9) Eb4) Eb5) ExR) E10) E11) ExT) Eb6) ExC) Es1 (fun k _ h => h)) (fun h => by (try dsimp only at h); omega)
 have hB8 := hfb8.fr (Fr.trans (Fr.ext (Fr.ext (Fr.ext (Fr.ext (Fr.ext (Fr.ext (Fr.ext (Fr.ext (Fr.ext (Fr.ext (Fr.ext (Fr.refl (fun k => k = b1) w11) ExQ) Eb3) E9) Eb4) Eb5) ExR) E10) E11) ExT) Eb6) ExC) Es1 (fun k _ h => h)) (fun h => by (try dsimp only at h); omega)
 have hA9 := hfa9.fr (Fr.trans (Fr.ext (Fr.ext (Fr.ext (Fr.ext (Fr.ext (Fr.ext (Fr.ext (Fr.ext (Fr.refl (fun k => k = b1) w14) Eb4) Eb5) ExR) E10) E11) ExT) Eb6) ExC) Es1 (fun k _ h => h)) (fun h => by (try dsimp only at h); omega)
 have hB9 := hfb9.fr (Fr.trans (Fr.ext (Fr.ext (Fr.ext (Fr.ext (Fr.ext (Fr.ext (Fr.ext (Fr.ext (Fr.refl (fun k => k = b1) w14) Eb4) Eb5) ExR) E10) E11) ExT) Eb6) ExC) Es1 (fun k _ h => h)) (fun h => by (try dsimp only at h); omega)
 have hA10 := hfa10.fr (Fr.trans (Fr.ext (Fr.ext (Fr.ext (Fr.ext (Fr.refl (fun k => k = b1) w18) E11) ExT) Eb6) ExC) Es1 (fun k _ h => h)) (fun h => by (try dsimp only at h); omega)
 have hB10 := hfb10.fr (Fr.trans (Fr.ext (Fr.ext (Fr.ext (Fr.ext (Fr.refl (fun k => k = b1) w18) E11) ExT) Eb6) ExC) Es1 (fun k _ h => h)) (fun h => by (try dsimp only at h); omega)
 have hA11 := hfa11.fr (Fr.trans (Fr.ext (Fr.ext (Fr.ext (Fr.refl (fun k => k = b1) w19) ExT) Eb6) ExC) Es1 (fun k _ h => h)) (fun h => by (try dsimp only at h); omega)
 have hB11 := hfb11.fr (Fr.trans (Fr.ext (Fr.ext (Fr.ext (Fr.refl (fun k => k = b1) w19) ExT) Eb6) ExC) Es1 (fun k _ h => h)) (fun h => by (try dsimp only at h); omega)
 have hOP' := hOP.fr (Fr.trans (Fr.ext (Fr.ext (Fr.ext (Fr.ext (Fr.ext (Fr.ext (Fr.ext (Fr.ext (Fr.ext (Fr.ext (Fr.ext (Fr.ext (Fr.ext (Fr.ext (Fr.ext (Fr.ext (Fr.refl (fun k => k = b1) w6) E5) E6) Eb2) E7) E8) ExQ) Eb3) E9) Eb4) Eb5) ExR) E10) E11) ExT) Eb6) ExC) Es1 (fun k _ h => h)) (fun k hk h => by have := hgP k hk; (try dsimp only at h); omega)
 have hOQ' := hOQ.fr (Fr.trans (Fr.ext (Fr.ext (Fr.ext (Fr.ext (Fr.ext (Fr.ext (Fr.ext (Fr.ext (Fr.ext (Fr.ext (Fr.refl (fun k => k = b1) w12) Eb3) E9) Eb4) Eb5) ExR) E10) E11) ExT) Eb6) ExC) Es1 (fun k _ h => h)) (fun k hk h => by have := hgQ k hk; (try dsimp only at h); omega)
 have hOR' := hOR.fr (Fr.trans (Fr.ext (Fr.ext (Fr.ext (Fr.ext (Fr.ext (Fr.refl (fun k => k = b1) w17) E10) E11) ExT) Eb6) ExC) Es1 (fun k _ h => h)) (fun k hk h => by have := hgR k hk; (try dsimp only at h); omega)
 have hOT' := hOT.fr (Fr.trans (Fr.ext (Fr.ext (Fr.refl (fun k => k = b1) w20) Eb6) ExC) Es1 (fun k _ h => h)) (fun k hk h => by have := hgT k hk; (try dsimp only at h); omega)
 have hOC' := hOC.fr (Fr.trans (Fr.refl (fun k => k = b1) w22) Es1 (fun k _ h => h)) (fun k hk h => by have := hgC k hk; (try dsimp only at h); omega)
 have hC : InS (fun k => w0.heap.size ≤ k) _ _ exS.code := in_hr (HR.cons4 (show QI (fun k => w0.heap.size ≤ k) _ _ _ from ⟨_, _, rfl, dd_1 (F := (fun k => w0.heap.size ≤ k)) hA1 hB1 (show _ ≤ _ by omega) (show _ ≤ _ by omega)⟩) (HR.cons4 (show QI (fun k => w0.heap.size ≤ k) _ _ _ from ⟨_, _, rfl, dd_1 (F := (fun k => w0.heap.size ≤ k)) hA2 hB2 (show _ ≤ _ by omega) (show _ ≤ _ by omega)⟩) (HR.cons4 (show QI (fun k => w0.heap.size ≤ k) _ _ _ from ⟨_, _, rfl, dd_2 (F := (fun k => w0.heap.size ≤ k)) hOP' (ds_1 hB3 (show _ ≤ _ by omega)) (ds_1 hB4 (show _ ≤ _ by omega)) (fun k hk => by have := hgP k hk; show _ ≤ k; omega)⟩) (HR.cons4 (show QI (fun k => w0.heap.size ≤ k) _ _ _ from ⟨_, _, rfl, dd_1 (F := (fun k => w0.heap.size ≤ k)) hA5 hB5 (show _ ≤ _ by omega) (show _ ≤ _ by omega)⟩) (HR.cons4 (show QI (fun k => w0.heap.size ≤ k) _ _ _ from ⟨_, _, rfl, dd_1 (F := (fun k => w0.heap.size ≤ k)) hA6 hB6 (show _ ≤ _ by omega) (show _ ≤ _ by omega)⟩) (HR.cons4 (show QI (fun k => w0.heap.size ≤ k) _ _ _ from ⟨_, _, rfl, Sl.nil _⟩) (HR.cons4 (show QI (fun k => w0.heap.size ≤ k) _ _ _ from ⟨_, _, rfl, dd_2 (F := (fun k => w0.heap.size ≤ k)) hOQ' (ds_1 hB7 (show _ ≤ _ by omega)) (ds_1 hB8 (show _ ≤ _ by omega)) (fun k hk => by have := hgQ k hk; show _ ≤ k; omega)⟩) (HR.cons4 (show QI (fun k => w0.heap.size ≤ k) _ _ _ from ⟨_, _, rfl, Sl.nil _⟩) (HR.cons4 (show QI (fun k => w0.heap.size ≤ k) _ _ _ from ⟨_, _, rfl, Sl.nil _⟩) rfl))))))))) hOC' (fun k hk => by have := hgC k hk; show _ ≤ k; omega)
 have hL : SoS (fun k => w0.heap.size ≤ k) _ _ exS.slots := so_hr (F := (fun k => w0.heap.size ≤ k)) (HR.cons6 (show QL (fun k => w0.heap.size ≤ k) _ _ _ from ⟨_, _, rfl, dd_2 (F := (fun k => w0.heap.size ≤ k)) hOR' (ds_1 hB9 (show _ ≤ _ by omega)) (ds_2 ((((((((B4.ext Eb5).ext ExR).ext E10).ext E11).ext ExT).ext Eb6).ext ExC).ne Es1 (by omega)) (show _ ≤ _ by omega)) (fun k hk => by have := hgR k hk; show _ ≤ k; omega)⟩) (HR.cons6 (show QL (fun k => w0.heap.size ≤ k) _ _ _ from ⟨_, _, rfl, dd_2 (F := (fun k => w0.heap.size ≤ k)) hOT' (ds_1 hB10 (show _ ≤ _ by omega)) (ds_1 hB11 (show _ ≤ _ by omega)) (fun k hk => by have := hgT k hk; show _ ≤ k; omega)⟩) rfl)) (OwnS.full (n := 2) (size := 6) ((B6.ext ExC).ne Es1 (by omega)) rfl (by decide)) (fun k hk => by have := ob_some hk; show _ ≤ k; omega)
 exact ⟨_, _, _, _, rfl, hL, hC, own_cap hOC'⟩

set_option maxHeartbeats 2000000 in
set_option maxRecDepth 100000 in
theorem execb_ct (SS : Sto) (sa : Option Addr) (ca : Nat) (sb : Option Addr) (cb : Nat) (F : Nat → Prop) (hsm : smallS SS = true) (at_ : Int) (hpl : placeB SS at_ = true) (ctx : Int) (xn : ByteArray) (xi : Int) (xs : List (List Ds)) (hca : codeAt SS at_ = ⟨20, xn, xi, xs⟩) (v : Vl) (hv5 : v.1 ≠ 5) (s : Option Addr) (c : Nat) (G : Nat → Prop) (w0 : World) (hS : StR F w0 SS sa ca sb cb) (hl : VlS G w0 s [v]) :
  CT Tryz.prog 31 [.agg #[.slice sa SS.slots.length ca, .slice sb SS.code.length cb], .agg #[.int .i64 ctx, .int .i64 at_, .slice s 1 c]] w0 no (fun u w => ∃ bA cs, u = .agg #[.slice none 0 0, .slice (some ⟨bA, 0, none⟩) 1 1] ∧ Blk w bA (.int .u8 5 :: cs) 67 ∧ w0.heap.size ≤ bA) := by
 obtain ⟨hat, hax⟩ := placeB_at hpl
 have hcl := smallI_len (smallS_code hsm)
 have hS0 := hS
 rw [hca] at hax
 obtain ⟨bx, ox, hsx, _, so, co, hcx, hco⟩ := hS.code _ _ hax
 subst hsx
 have hl0 := hl
 obtain ⟨bv, ov, hsv, _, hcv⟩ := vl_one_at hl
 subst hsv
 have F0 := Fr.refl no w0
 refine ct_body Tryz.func31 rfl Tryz.ntmps31 (Nat.le_of_ble_eq_true rfl) ?_
 refine wk_seq ?_
 refine wk_region ?_
 refine lx_new (want rfl) (rn_box (t_agg rfl)) ?_
 intro b1 w1 hb1 Eb1 B1 hlb1
 have F1 := F0.ext Eb1
 have hzb1 := Eb1.size
 refine lx_new (want rfl) (rn_box (t_agg rfl)) ?_
 intro b2 w2 hb2 Eb2 B2 hlb2
 have F2 := F1.ext Eb2
 have hzb2 := Eb2.size
 refine lx_new (want rfl) (rn_alloc ze_59) ?_
 intro b3 w3 hb3 Eb3 B3 hlb3
 have F3 := F2.ext Eb3
 have hzb3 := Eb3.size
 refine lx_nil ?_
 refine wk_seq ?_
 refine wk_mix 14 (fun kS => match kS with | 10 => .val (.agg #[.int .i64 ctx, .int .i64 at_]) | 11 => .any (fun I v w => v = .pointer (some ⟨I.1, 0, none⟩) ∧ w3.heap.size ≤ I.1 ∧ I.1 < I.2 ∧ Blk w I.1 [.int .u8 0, .string ⟨#[]⟩, .int .i64 0, .slice none 0 0] 73) | 12 => .any (fun I v w => ∃ b, v = .pointer (some ⟨b, 0, none⟩) ∧ w3.heap.size ≤ b ∧ (I.1 ≤ b ∧ b < I.2) ∧ Blk w b [.int .i64 0, .int .i64 0] 23) | 13 => .sto 5 21 (fun J u w => J.1 < J.2 ∧ Blk w J.1 u.cells.toList 73) | _ => .none) (by kernel_rfl) (by kernel_rfl) (by intro kS G hk; (try dsimp only at hk); (split at hk) <;> first | (cases hk; done) | (injection hk with hk; subst hk; exact ⟨by intro j hkj I v w w' hR hG; first | exact hG | (obtain ⟨b, h1, h2, hI, h3⟩ := hG; exact ⟨b, h1, h2, hI, h3.ext hR⟩) | (obtain ⟨h1, h2, hI, h3⟩ := hG; exact ⟨h1, h2, hI, h3.ext hR⟩), fun _ I v w w' hR hG => by first | exact hG | (obtain ⟨b, h1, h2, hI, h3⟩ := hG; exact ⟨b, h1, h2, hI, h3.fr hR (fun h => h.2 hI)⟩) | (obtain ⟨h1, h2, hI, h3⟩ := hG; exact ⟨h1, h2, hI, h3.fr hR (fun h => h.2 ⟨Nat.le_refl _, hI⟩)⟩)⟩)) (by intro kS s y G hk; (try dsimp only at hk); (split at hk) <;> first | (cases hk; done) | (injection hk with hk1 hk2 hk3; subst hk1; subst hk2; subst hk3; exact ⟨by kernel_rfl, by intro j hkj I v w w' hR hG; exact ⟨hG.1, hG.2.ext hR⟩, fun I v w w' hR hG => ⟨hG.1, hG.2.fr hR (fun h => h.2 ⟨Nat.le_refl _, hG.1⟩)⟩⟩)) ?_
 simp only [List.take_succ_cons, List.take_zero, List.take_nil, List.drop_succ_cons, List.drop_zero, List.drop_nil]
 refine mx_calm rfl (want rfl) (fun u1 eu1 fu1 => rn_fieldAddr fa_80_0 rfl) ?_
 refine mx_calm rfl (want rfl) (fun u2 eu2 fu2 => rn_fieldAddr fa_35_1 rfl) ?_
 refine mx_calm rfl (want rfl) (fun u3 eu3 fu3 => rn_load1Blk ag_33 rfl (((B1.ext Eb2).ext Eb3).ext ((ext_drawn _).trans' eu3)) rfl) ?_
 refine mx_calm rfl (want rfl) (fun u4 eu4 fu4 => rn_fieldAddr fa_55_1 rfl) ?_
 refine mx_calm rfl (want rfl) (fun u5 eu5 fu5 => rn_load1Blk ag_3 rfl ((B2.ext Eb3).ext ((ext_drawn _).trans' eu5)) rfl) ?_
 refine mx_calm rfl (want rfl) (fun u6 eu6 fu6 => rn_index at_.toNat Tryz.underlying33 sz_73 rfl rfl (by omega) (by omega)) ?_
 refine mx_calm rfl (want rfl) (fun u7 eu7 fu7 => rn_loadN ag_73 sz_73 rfl rfl (hcx.fr (F3.ext ((ext_drawn _).trans' eu7)) (fun h => h))) ?_
 refine mx_calm rfl (want rfl) (fun u8 eu8 fu8 => rn_fieldAddr fa_55_2 rfl) ?_
 refine mx_calm rfl (want rfl) (fun u9 eu9 fu9 => rn_load1Blk ag_53 rfl ((B2.ext Eb3).ext ((ext_drawn _).trans' eu9)) rfl) ?_
 refine mx_calm rfl (want rfl) (fun u10 eu10 fu10 => rn_loadBlk ag_55 sz_55 rfl ((B2.ext Eb3).ext ((ext_drawn _).trans' eu10)) rfl rfl) ?_
 refine mx_val rfl (want rfl) (fun u11 eu11 fu11 => do_call (ent_func cf_48 (argsC (t_agg rfl) args0)) (point_ct ⟨ctx, at_, [v]⟩ _ c u11) (fun _ _ E h => ⟨E, h⟩)) ?_
 refine mx_any rfl rfl (want rfl) (fun u12 eu12 fu12 => (do_new3 (rn_alloc ze_73) (show _ ≤ _ from (((ext_drawn _).trans' eu12)).size)).mono (fun v w' h => ⟨h.1, h.2⟩)) (fun I5 v5 => ?_)
 refine mx_any rfl rfl (want rfl) (fun u13 eu13 fu13 => (do_new2 (rn_alloc ze_23) (show _ ≤ _ from (((ext_drawn _).trans' eu13)).size)).mono (fun v w' h => ⟨h.1, h.2⟩)) (fun I7 v7 => ?_)
 refine mx_sto rfl rfl rfl rfl (want rfl) (fun u14 eu14 fu14 _ => by obtain ⟨rfl, hl5, hi5, hB5⟩ := fu14 5 _ rfl (show (5 : Nat) ∈ _ from by decide); exact (do_sto sz_73 rfl rfl rfl rfl rfl hB5 rfl ⟨Nat.le_refl _, hi5⟩).mono (fun v w' h => ⟨h.1, h.2.1, hi5, h.2.2⟩)) ?_
 refine mx_nil (fun w4 E1' H1 HS => ?_)
 have E1 := (ext_drawn _).trans' E1'
 have F4 := F3.ext E1
 have hz1 := E1.size
 have hI7 := (HS.1 7 _ rfl).2
 have hI5 := (HS.1 5 _ rfl).2
 have hX7_5 := HS.2 7 _ 5 _ rfl rfl (show (7 : Nat) ≠ 5 from by decide)
 simp only at hI7
 simp only at hI5
 simp only at hX7_5
 have g7 := H1 7 _ rfl
 (try dsimp only at g7); obtain ⟨b87, hv7, hbb87, hib87, Bb87⟩ := g7; subst hv7; have hlbb87 := Bb87.lt
 have g5 := H1 5 _ rfl
 obtain ⟨⟨_, hv5, hb5, _, _⟩, hi5, hB5⟩ := g5; subst hv5; have hlb5 := hB5.lt
 refine lx_value (want rfl) (as_slice rfl) ?_
 refine lx_set (want rfl) sz_23 rfl (t_agg rfl) rfl rfl rfl Bb87 (Nat.le_of_ble_eq_true rfl) ?_
 intro w5 Es1 Bs1
 have F5 := F4.set Es1 (by omega)
 have hzs1 := Es1.size
 refine lx_nil ?_
 refine wk_seq ?_
 refine wk_seq ?_
 refine wk_mix 8 (fun kS => match kS with | 0 => .any (fun I v w => ∃ b, v = .map (some b) ∧ MapL w b kU askL) | _ => .none) (by kernel_rfl) (by kernel_rfl) (by intro kS G hk; (try dsimp only at hk); (split at hk) <;> first | (cases hk; done) | (injection hk with hk; subst hk; exact ⟨by intro j hkj I v w w' hR hG; first | exact hG | (obtain ⟨b, h1, h2⟩ := hG; exact ⟨b, h1, h2.ext hR⟩), fun ⟨_, _, _, _, hs⟩ => by (try dsimp only at hs); split at hs <;> cases hs⟩)) (by intro kS s y G hk; (try dsimp only at hk); split at hk <;> cases hk) ?_
 simp only [List.take_succ_cons, List.take_zero, List.take_nil, List.drop_succ_cons, List.drop_zero, List.drop_nil]
 refine mx_any rfl rfl (want rfl) (fun u15 eu15 fu15 => do_call (ent_func cf_49 args0) (asks_ct u15) (fun v w' E h => ⟨E, (by obtain ⟨b, h1, h2, _⟩ := h; exact ⟨b, h1, h2⟩)⟩)) (fun I27 v27 => ?_)
 refine mx_calm rfl (want rfl) (fun u16 eu16 fu16 => rn_fieldAddr fa_73_0 rfl) ?_
 refine mx_calm rfl (want rfl) (fun u17 eu17 fu17 => rn_load1Blk ag_5 rfl ((hB5.ne Es1 (by omega)).ext ((ext_drawn _).trans' eu17)) rfl) ?_
 refine mx_calm (v := .tuple #[.int .u8 5, .bool true]) rfl (want rfl) (fun u18 eu18 fu18 => by obtain ⟨bK, rfl, hMK⟩ := fu18 27 _ rfl (show (27 : Nat) ∈ _ from by decide); exact (by rw [← askL_20]; exact rn_lookLOk (k := (20 : Int)) mv_114.g rfl rfl hMK)) ?_
 refine mx_calm rfl (want rfl) (fun u19 eu19 fu19 => mv_tuple rfl) ?_
 refine mx_calm rfl (want rfl) (fun u20 eu20 fu20 => rn_extract rfl rfl) ?_
 refine mx_calm rfl (want rfl) (fun u21 eu21 fu21 => rn_extract rfl rfl) ?_
 refine mx_calm rfl (want rfl) (fun u22 eu22 fu22 => as_int rfl) ?_
 refine mx_nil (fun w6 E2' H2 HS => ?_)
 have E2 := (ext_drawn _).trans' E2'
 have F6 := F5.ext E2
 have hz2 := E2.size
 have hI27 := (HS.1 27 _ rfl).2
 simp only at hI27
 have g27 := H2 27 _ rfl
 refine lx_value (want rfl) (as_bool rfl) ?_
 refine lx_nil ?_
 refine wk_seq ?_
 refine wk_mix 7 (fun _ => .none) (by kernel_rfl) (by kernel_rfl) (fun kS G hk => by cases hk) (fun kS s y G hk => by cases hk) ?_
 simp only [List.take_succ_cons, List.take_zero, List.take_nil, List.drop_succ_cons, List.drop_zero, List.drop_nil]
 refine mx_calm rfl (want rfl) (fun u23 eu23 fu23 => mv_bool rfl) ?_
 refine mx_calm rfl (want rfl) (fun u24 eu24 fu24 => mv_bool rfl) ?_
 refine mx_calm rfl (want_if (j := 1) (d := 34) (x := true) (y := true) rfl rfl (by decide) rfl) (fun u25 eu25 fu25 => rn_fieldAddr fa_73_0 rfl) ?_
 refine mx_calm rfl (want_if (j := 1) (d := 34) (x := true) (y := true) rfl rfl (by decide) rfl) (fun u26 eu26 fu26 => rn_load1Blk ag_5 rfl (((hB5.ne Es1 (by omega)).ext E2).ext ((ext_drawn _).trans' eu26)) rfl) ?_
 refine mx_calm rfl (want_if (j := 1) (d := 34) (x := true) (y := true) rfl rfl (by decide) rfl) (fun u27 eu27 fu27 => mv_slice rfl) ?_
 refine mx_calm rfl (want_if (j := 1) (d := 34) (x := true) (y := true) rfl rfl (by decide) rfl) (fun u28 eu28 fu28 => rn_index 0 Tryz.underlying53 sz_48 rfl rfl rfl (by decide)) ?_
 refine mx_calm rfl (want_if (j := 1) (d := 34) (x := true) (y := true) rfl rfl (by decide) rfl) (fun u29 eu29 fu29 => rn_load2 ag_48 sz_48 rfl ((F6.ext ((ext_drawn _).trans' eu29)).cell (fun h => h) (hcv 0 _ rfl)) ((F6.ext ((ext_drawn _).trans' eu29)).cell (fun h => h) (hcv 1 _ rfl))) ?_
 refine mx_nil (fun w7 E3' H3 HS => ?_)
 have E3 := (ext_drawn _).trans' E3'
 have F7 := F6.ext E3
 have hz3 := E3.size
 refine lx_call (want_if (j := 1) (d := 34) (x := true) (y := true) rfl rfl (by decide) rfl) (ent_func cf_50 (argsC (t_int rfl) (argsC (t_agg rfl) args0))) (isidle_ct _ v hv5 w7) ?_
 rintro _ w8 E4 rfl
 have F8 := F7.ext E4
 have hz4 := E4.size
 refine lx_b_f (rfl) ?_
 refine lx_value (want_if (j := 1) (d := 34) (x := true) (y := true) rfl rfl (by decide) rfl) (rn_not rfl) ?_
 refine lx_value (want rfl) (pick_t rfl rfl) ?_
 refine lx_nil ?_
 refine wk_cond_t rfl ?_
 refine wk_seq ?_
 refine wk_mix 7 (fun kS => match kS with | 6 => .any (fun I v w => ∃ s c, v = .slice s 1 c) | _ => .none) (by kernel_rfl) (by kernel_rfl) (by intro kS G hk; (try dsimp only at hk); (split at hk) <;> first | (cases hk; done) | (injection hk with hk; subst hk; exact ⟨by intro j hkj I v w w' hR hG; first | exact hG | (exact hG), fun ⟨_, _, _, _, hs⟩ => by (try dsimp only at hs); split at hs <;> cases hs⟩)) (by intro kS s y G hk; (try dsimp only at hk); split at hk <;> cases hk) ?_
 simp only [List.take_succ_cons, List.take_zero, List.take_nil, List.drop_succ_cons, List.drop_zero, List.drop_nil]
 refine mx_calm rfl (want rfl) (fun u30 eu30 fu30 => mv_int rfl) ?_
 refine mx_calm rfl (want rfl) (fun u31 eu31 fu31 => rn_fieldAddr fa_55_0 rfl) ?_
 refine mx_calm rfl (want rfl) (fun u32 eu32 fu32 => rn_load1Blk ag_3 rfl (((((((B2.ext Eb3).ext E1).ne Es1 (by omega)).ext E2).ext E3).ext E4).ext ((ext_drawn _).trans' eu32)) rfl) ?_
 refine mx_calm rfl (want rfl) (fun u33 eu33 fu33 => rn_fieldAddr fa_55_1 rfl) ?_
 refine mx_calm rfl (want rfl) (fun u34 eu34 fu34 => rn_load1Blk ag_3 rfl (((((((B2.ext Eb3).ext E1).ne Es1 (by omega)).ext E2).ext E3).ext E4).ext ((ext_drawn _).trans' eu34)) rfl) ?_
 refine mx_calm rfl (want rfl) (fun u35 eu35 fu35 => mv_slice rfl) ?_
 refine mx_any rfl rfl (want rfl) (fun u36 eu36 fu36 => do_call (ent_func cf_51 (argsC (t_slice rfl) args0)) (clonev_ct [v] _ c G u36 (hl.fr (vl_stab _) (F8.ext ((ext_drawn _).trans' eu36)) (fun _ _ h => h)) (Nat.le_of_ble_eq_true rfl)) (fun v w' E h => ⟨E, (by obtain ⟨s, c, h1, _⟩ := h; exact ⟨s, c, h1⟩)⟩)) (fun I49 v49 => ?_)
 refine mx_nil (fun w9 E5' H4 HS => ?_)
 have E5 := (ext_drawn _).trans' E5'
 have F9 := F8.ext E5
 have hz5 := E5.size
 have hI49 := (HS.1 49 _ rfl).2
 simp only at hI49
 have g49 := H4 49 _ rfl
 obtain ⟨s49, c49, rfl⟩ := g49
 refine lx_value (want rfl) (rn_build4 (t_int rfl) (t_int rfl) (t_int rfl) (t_slice rfl) (fun w => bd_67_0_1_2_3 _ _ _ _ _ _ w)) ?_
 refine lx_newS (want rfl) (rn_bslice (xs := [.tmp 50]) Tryz.underlying57 sz_67 ze_67 rfl (argsC (t_agg rfl) args0) (CL.cons rfl rfl CL.nil) rfl (Nat.le_of_ble_eq_true rfl)) ?_
 intro b4 w10 hb4 Eb4 B4 hlb4
 have F10 := F9.ext Eb4
 have hzb4 := Eb4.size
 refine lx_value (want rfl) (rn_fieldAddr fa_59_1 rfl) ?_
 refine lx_set (want rfl) sz_57 rfl (t_slice rfl) rfl rfl rfl (((((((B3.ext E1).ne Es1 (by omega)).ext E2).ext E3).ext E4).ext E5).ext Eb4) (Nat.le_of_ble_eq_true rfl) ?_
 intro w11 Es2 Bs2
 have F11 := F10.set Es2 (by omega)
 have hzs2 := Es2.size
 refine lx_nil ?_
 refine wk_seq ?_
 refine wk_region ?_
 refine lx_value (want rfl) (rn_loadBlk ag_59 sz_59 rfl Bs2 rfl rfl) ?_
 refine lx_set (want rfl) sz_59 rfl (t_agg rfl) rfl rfl rfl Bs2 (Nat.le_of_ble_eq_true rfl) ?_
 intro w12 Es3 Bs3
 have F12 := F11.set Es3 (by omega)
 have hzs3 := Es3.size
 refine lx_nil ?_
 refine wk_ret ?_
 refine retR1 Tryz.results31 (.cell rfl (run_loadVar_blk ag_59 sz_59 Bs3 rfl rfl)) F12 ?_
 exact ⟨b4, _, rfl, ((B4.ne Es2 (by omega)).ne Es3 (by omega)), by omega⟩

theorem give_ct (SS : Sto) (sa : Option Addr) (ca : Nat) (sb : Option Addr) (cb : Nat) (F : Nat → Prop) (hsm : smallS SS = true) (at_ : Int) (hpl : placeB SS at_ = true) (ctx : Int) (v : Vl) (hnh : holeB v = false) (s : Option Addr) (c : Nat) (G : Nat → Prop) (ds : List Ds) (hds : (codeAt SS at_).outs[0]? = some ds) (hdl : ds.length ≤ 1000) (w0 : World) (hS : StR F w0 SS sa ca sb cb) (hl : VlS G w0 s [v]) :
  CT Tryz.prog 59 [.agg #[.slice sa SS.slots.length ca, .slice sb SS.code.length cb], .agg #[.int .i64 ctx, .int .i64 at_], .slice s 1 c] w0 no (fun u w => ∃ s c, u = .slice s (tkL ctx v ds).length c ∧ OwnS w 51 5 s (tkL ctx v ds).length c ((tkL ctx v ds).flatMap tkC) ∧ ∀ k, ob s k → w0.heap.size ≤ k) := by
 obtain ⟨hat, hax⟩ := placeB_at hpl
 have hcl := smallI_len (smallS_code hsm)
 obtain ⟨bx, ox, rfl, _, so, co, hcx, hco⟩ := hS.code _ _ hax
 obtain ⟨bv, ov, rfl, _, hcv⟩ := vl_one_at hl
 obtain ⟨bd, od, rfl, hFd, sd, cd, hcd, hdd⟩ := hco 0 ds hds
 have hol := (List.getElem?_eq_some_iff.1 hds).1
 have F0 := Fr.refl no w0
 refine ct_body Tryz.func59 rfl Tryz.ntmps59 (Nat.le_of_ble_eq_true rfl) ?_
 refine wk_seq ?_
 refine wk_region ?_
 refine lx_new (want rfl) (rn_box (t_agg rfl)) ?_
 intro b1 w1 hb1 Eb1 B1 hlb1
 have F1 := F0.ext Eb1
 have hzb1 := Eb1.size
 refine lx_new (want rfl) (rn_box (t_agg rfl)) ?_
 intro b2 w2 hb2 Eb2 B2 hlb2
 have F2 := F1.ext Eb2
 have hzb2 := Eb2.size
 refine lx_value (want rfl) (as_slice rfl) ?_
 refine lx_nil ?_
 refine wk_seq ?_
 refine wk_seq ?_
 refine wk_region ?_
 refine lx_value (want rfl) (mv_slice rfl) ?_
 refine lx_value (want rfl) (rn_len Tryz.underlying53 rfl) ?_
 refine lx_value (want rfl) (mv_int rfl) ?_
 refine lx_nil ?_
 refine wk_block ?_
 refine wk_loopA [6, 7, 8, 10, 13, 14, 15, 16, 17, 18, 19, 20, 21, 22, 23, 24, 25, 26, 27, 28, 29, 30, 31, 32, 33, 34, 35, 36, 37, 38, 39, 40, 41, 42, 43, 44, 45, 46, 47, 48] (fun j => no j ∨ w0.heap.size ≤ j) (fun nM ρ w => ∃ (i n : Nat) (us : List Value) (so1_1 : Option Addr) (co1_1 : Nat), nM = 1 - i ∧ ρ 13 = .int .i64 i ∧ Blk w b1 (cellsOf B1) 80 ∧ Blk w b2 (cellsOf B2) 23 ∧ ρ 6 = .slice so1_1 (n) co1_1 ∧ OwnS w 51 5 so1_1 (n) co1_1 (us) ∧ (∀ k, ob so1_1 k → w0.heap.size ≤ k) ∧ (∀ k, ob so1_1 k → k ≠ b1) ∧ (∀ k, ob so1_1 k → k ≠ b2) ∧ ((i = 0 ∧ n = 0 ∧ us = []) ∨ (i = 1 ∧ n = ds.length ∧ us = (tkL ctx v ds).flatMap tkC))) _ ⟨0, 0, [], none, 0, rfl, rfl, (B1.ext Eb2), B2, rfl, (OwnS.nil w2 51 5), (fun _ h => ob_none h), (fun _ h => ob_none h), (fun _ h => ob_none h), .inl ⟨rfl, rfl, rfl⟩⟩ ?_
 rintro n1 ρ1 w3 A1 EL1 ⟨i, n, us, so1_1, co1_1, rfl, hs1_13, BL1_1, BL1_2, ho1_1, ow1L_1, ge1L_1, ne1L_1_1, ne1L_1_2, hcs⟩
 have F3 := F2.wide EL1
 have hzL1 := EL1.size
 refine wk_seq ?_
 refine wk_region ?_
 refine lx_value (want rfl) (rn_lss hs1_13 (A1.at 12 rfl rfl)) ?_
 refine lx_dec (fun hlt => ?_) (fun hlt => ?_)
 ·
  obtain ⟨rfl, rfl, rfl⟩ : i = 0 ∧ n = 0 ∧ us = [] := hcs.resolve_right (fun h => by have := h.1; omega)
  refine lx_nil ?_
  refine wk_seq ?_
  refine wk_cond_t rfl ?_
  refine wk_skip ?_
  refine wk_seq ?_
  refine wk_block ?_
  refine wk_seq ?_
  refine wk_region ?_
  refine lx_value (want rfl) (mv_int hs1_13) ?_
  refine lx_value (want rfl) (rn_index 0 Tryz.underlying53 sz_48 (A1.at 11 rfl rfl) hs1_13 rfl (by decide)) ?_
  refine lx_value (want rfl) (rn_load2 ag_48 sz_48 rfl (F3.cell (fun h => h) (hcv 0 _ rfl)) (F3.cell (fun h => h) (hcv 1 _ rfl))) ?_
  refine lx_new (want rfl) (rn_alloc ze_48) ?_
  intro b3 w4 hb3 Eb3 B3 hlb3
  have F4 := F3.ext Eb3
  have hzb3 := Eb3.size
  have nb1 : ∀ k, ob so1_1 k → k ≠ b3 := fun k hk => by have := (ow1L_1).lt hk; omega
  refine lx_value (want rfl) (as_int rfl) ?_
  refine lx_set (want rfl) sz_48 rfl (t_agg rfl) rfl rfl rfl B3 (Nat.le_of_ble_eq_true rfl) ?_
  intro w5 Es1 Bs1
  have F5 := F4.set Es1 (by omega)
  have hzs1 := Es1.size
  refine lx_nil ?_
  refine wk_seq ?_
  refine wk_seq ?_
  refine wk_region ?_
  refine lx_value (want rfl) (rn_loadBlk ag_48 sz_48 rfl Bs1 rfl rfl) ?_
  refine lx_call (want rfl) (ent_func cf_43 (argsC (t_agg rfl) args0)) (ishole_ct _ w5) ?_
  rintro _ w6 E1 rfl
  have F6 := F5.ext E1
  have hz1 := E1.size
  refine lx_b_f (hnh) ?_
  refine lx_nil ?_
  refine wk_cond_f rfl ?_
  refine wk_skip ?_
  refine wk_seq ?_
  refine wk_region ?_
  refine lx_value (want rfl) (rn_fieldAddr fa_80_0 (A1.at 3 rfl rfl)) ?_
  refine lx_value (want rfl) (rn_fieldAddr fa_35_1 rfl) ?_
  refine lx_value (want rfl) (rn_load1Blk ag_33 rfl (((BL1_1.ext Eb3).ne Es1 (by omega)).ext E1) rfl) ?_
  refine lx_value (want rfl) (rn_fieldAddr fa_23_1 (A1.at 4 rfl rfl)) ?_
  refine lx_value (want rfl) (rn_load1Blk ag_3 rfl (((BL1_2.ext Eb3).ne Es1 (by omega)).ext E1) rfl) ?_
  refine lx_value (want rfl) (rn_index at_.toNat Tryz.underlying33 sz_73 rfl rfl (by omega) (by omega)) ?_
  refine lx_value (want rfl) (rn_fieldAddr fa_73_3 rfl) ?_
  refine lx_value (want rfl) (rn_load1 ag_71 rfl (F6.cell (fun h => h) (hcx 3 _ rfl))) ?_
  refine lx_value (want rfl) (mv_int rfl) ?_
  refine lx_value (want rfl) (rn_index 0 Tryz.underlying71 sz_76 rfl rfl rfl hol) ?_
  refine lx_value (want rfl) (rn_load1 ag_76 rfl (F6.cell (fun h => h) hcd)) ?_
  refine lx_value (want rfl) (rn_len Tryz.underlying76 rfl) ?_
  refine lx_value (want rfl) (mv_int rfl) ?_
  refine lx_nil ?_
  refine wk_block ?_
  refine wk_loopA [6, 10, 32, 33, 34, 35, 36, 37, 38, 39, 40, 41, 42, 43, 44, 45, 46, 47] (fun j => no j ∨ w0.heap.size ≤ j) (fun nM ρ w => ∃ (j : Nat) (so2_1 : Option Addr) (co2_1 : Nat), nM = ds.length - j ∧ ρ 32 = .int .i64 j ∧ Blk w b1 (cellsOf BL1_1) 80 ∧ Blk w b2 (cellsOf BL1_2) 23 ∧ Blk w b3 (cellsOf Bs1) 48 ∧ ρ 6 = .slice so2_1 (j) co2_1 ∧ OwnS w 51 5 so2_1 (j) co2_1 ((tkL ctx v (ds.take j)).flatMap tkC) ∧ (∀ k, ob so2_1 k → w0.heap.size ≤ k) ∧ (∀ k, ob so2_1 k → k ≠ b1) ∧ (∀ k, ob so2_1 k → k ≠ b2) ∧ (∀ k, ob so2_1 k → k ≠ b3) ∧ (j ≤ ds.length)) _ ⟨0, so1_1, co1_1, rfl, rfl, (((BL1_1.ext Eb3).ne Es1 (by omega)).ext E1), (((BL1_2.ext Eb3).ne Es1 (by omega)).ext E1), (Bs1.ext E1), ho1_1, (((ow1L_1.ext Eb3).ne Es1 (fun h => nb1 _ h rfl)).ext E1), ge1L_1, ne1L_1_1, ne1L_1_2, nb1, by omega⟩ ?_
  rintro n2 ρ2 w7 A2 EL2 ⟨j, so2_1, co2_1, rfl, hs2_32, BL2_1, BL2_2, BL2_3, ho2_1, ow2L_1, ge2L_1, ne2L_1_1, ne2L_1_2, ne2L_1_3, hj⟩
  have F7 := F6.wide EL2
  have hzL2 := EL2.size
  refine wk_seq ?_
  refine wk_region ?_
  refine lx_value (want rfl) (rn_lss hs2_32 (A2.at 31 rfl rfl)) ?_
  refine lx_dec (fun hlt2 => ?_) (fun hlt2 => ?_)
  ·
   obtain ⟨d, hd⟩ := getx hlt2
   obtain ⟨by_, oy, rfl, _, hcy⟩ := hdd j d hd
   refine lx_nil ?_
   refine wk_seq ?_
   refine wk_cond_t rfl ?_
   refine wk_skip ?_
   refine wk_seq ?_
   refine wk_block ?_
   refine wk_seq ?_
   refine wk_region ?_
   refine lx_value (want rfl) (rn_index _ Tryz.underlying76 sz_75 (A2.at 30 rfl rfl) hs2_32 rfl (by omega)) ?_
   refine lx_value (want rfl) (rn_load2 ag_75 sz_75 rfl (F7.cell (fun h => h) (hcy 0 _ rfl)) (F7.cell (fun h => h) (hcy 1 _ rfl))) ?_
   refine lx_new (want rfl) (rn_alloc ze_75) ?_
   intro b4 w8 hb4 Eb4 B4 hlb4
   have F8 := F7.ext Eb4
   have hzb4 := Eb4.size
   have nb2 : ∀ k, ob so2_1 k → k ≠ b4 := fun k hk => by have := (ow2L_1).lt hk; omega
   refine lx_set (want rfl) sz_75 rfl (t_agg rfl) rfl rfl rfl B4 (Nat.le_of_ble_eq_true rfl) ?_
   intro w9 Es2 Bs2
   have F9 := F8.set Es2 (by omega)
   have hzs2 := Es2.size
   refine lx_nil ?_
   refine wk_region ?_
   refine lx_value (want rfl) (mv_slice ho2_1) ?_
   refine lx_value (want rfl) (rn_fieldAddr fa_23_0 (A2.at 4 rfl (A1.at 4 rfl rfl))) ?_
   refine lx_value (want rfl) (rn_load1Blk ag_3 rfl ((BL2_2.ext Eb4).ne Es2 (by omega)) rfl) ?_
   refine lx_value (want rfl) (rn_fieldAddr fa_75_0 rfl) ?_
   refine lx_value (want rfl) (rn_load1Blk ag_3 rfl Bs2 rfl) ?_
   refine lx_value (want rfl) (rn_fieldAddr fa_75_1 rfl) ?_
   refine lx_value (want rfl) (rn_load1Blk ag_3 rfl Bs2 rfl) ?_
   refine lx_value (want rfl) (rn_loadBlk ag_48 sz_48 (A2.at 8 rfl rfl) ((BL2_3.ext Eb4).ne Es2 (by omega)) rfl rfl) ?_
   refine lx_value (want rfl) (rn_build4 (t_int rfl) (t_int rfl) (t_int rfl) (t_agg rfl) (fun w => bd_51_0_1_2_3 _ _ _ _ _ w)) ?_
   refine lx_newS (want rfl) (rn_bslice (xs := [.tmp 44]) Tryz.underlying56 sz_51 ze_51 rfl (argsC (t_agg rfl) args0) (CL.cons rfl rfl CL.nil) rfl (Nat.le_of_ble_eq_true rfl)) ?_
   intro b5 w10 hb5 Eb5 B5 hlb5
   have F10 := F9.ext Eb5
   have hzb5 := Eb5.size
   have nb3 : ∀ k, ob so2_1 k → k ≠ b5 := fun k hk => by have := (ow2L_1).lt hk; omega
   refine lx_append 40 (want rfl) Tryz.underlying56 ti_51 (by decide) rfl (by decide) rfl rfl (((ow2L_1.ext Eb4).ne Es2 (fun h => nb2 _ h rfl)).ext Eb5) ((Src.blk B5 rfl rfl)) (by omega) ?_
   intro sq2 cq2 w11 AP2
   have EA2 := AP2.fr
   have ow2 := AP2.own
   have ge2 : ∀ k, ob sq2 k → w0.heap.size ≤ k := fun k hk => (AP2.blk k hk).elim (ge2L_1 k) (fun h => (Nat.le_trans F10.size h))
   have ne2_1 : ∀ k, ob sq2 k → k ≠ b1 := fun k hk => (AP2.blk k hk).elim (ne2L_1_1 k) (fun h => by have := ((((BL2_1.ext Eb4).ne Es2 (by omega)).ext Eb5)).lt; omega)
   have ne2_2 : ∀ k, ob sq2 k → k ≠ b2 := fun k hk => (AP2.blk k hk).elim (ne2L_1_2 k) (fun h => by have := ((((BL2_2.ext Eb4).ne Es2 (by omega)).ext Eb5)).lt; omega)
   have ne2_3 : ∀ k, ob sq2 k → k ≠ b3 := fun k hk => (AP2.blk k hk).elim (ne2L_1_3 k) (fun h => by have := ((((BL2_3.ext Eb4).ne Es2 (by omega)).ext Eb5)).lt; omega)
   have ne2_4 : ∀ k, ob sq2 k → k ≠ b4 := fun k hk => (AP2.blk k hk).elim (nb2 k) (fun h => by have := ((Bs2.ext Eb5)).lt; omega)
   have ne2_5 : ∀ k, ob sq2 k → k ≠ b5 := fun k hk => (AP2.blk k hk).elim (nb3 k) (fun h => by have := (B5).lt; omega)
   have F11 := F10.new EA2 ge2L_1
   have hzA2 := EA2.size
   have BA2_1 := (((BL2_1.ext Eb4).ne Es2 (by omega)).ext Eb5).fr EA2 (fun h => ne2L_1_1 _ h rfl)
   have BA2_2 := (((BL2_2.ext Eb4).ne Es2 (by omega)).ext Eb5).fr EA2 (fun h => ne2L_1_2 _ h rfl)
   have BA2_3 := (((BL2_3.ext Eb4).ne Es2 (by omega)).ext Eb5).fr EA2 (fun h => ne2L_1_3 _ h rfl)
   have BA2_4 := (Bs2.ext Eb5).fr EA2 (fun h => nb2 _ h rfl)
   have BA2_5 := B5.fr EA2 (fun h => nb3 _ h rfl)
   refine lx_value (want rfl) (as_slice rfl) ?_
   refine lx_nil ?_
   refine wk_region ?_
   refine lx_value (want rfl) (rn_add hs2_32 rfl (by omega)) ?_
   refine lx_value (want rfl) (mv_int rfl) ?_
   refine lx_nil ?_
   exact ⟨rfl, (((((((((((((((((((A2.up rfl _).up rfl _).up rfl _).up rfl _).none _).up rfl _).up rfl _).up rfl _).up rfl _).up rfl _).up rfl _).up rfl _).up rfl _).up rfl _).up rfl _).up rfl _).up rfl _).up rfl _).up rfl _), Fr.between F6 F11 (by omega), _, (by omega), j + 1, sq2, cq2, rfl, rfl, BA2_1, BA2_2, BA2_3, rfl, (by rw [← tkL_step hd]; exact ow2), ge2, ne2_1, ne2_2, ne2_3, by omega⟩
  ·
   refine lx_nil ?_
   refine wk_seq ?_
   refine wk_cond_f rfl ?_
   refine wk_exit ?_
   refine wk_region ?_
   refine lx_value (want rfl) (rn_add (A2.at 13 rfl hs1_13) rfl (by omega)) ?_
   refine lx_value (want rfl) (mv_int rfl) ?_
   refine lx_nil ?_
   obtain rfl : j = ds.length := by omega
   exact ⟨rfl, ((((((((((((((((((((((((((A1.up rfl _).up rfl _).up rfl _).up rfl _).up rfl _).up rfl _).none _).up rfl _).up rfl _).up rfl _).up rfl _).up rfl _).up rfl _).up rfl _).up rfl _).up rfl _).up rfl _).up rfl _).up rfl _).up rfl _).up rfl _).up rfl _).loop A2 rfl).up rfl _).up rfl _).up rfl _), Fr.between F2 F7 (by omega), _, (by omega), (0 + 1), ds.length, ((tkL ctx v ds).flatMap tkC), so2_1, co2_1, rfl, rfl, BL2_1, BL2_2, ho2_1, (by have h := ow2L_1; rwa [List.take_length] at h), ge2L_1, ne2L_1_1, ne2L_1_2, .inr ⟨rfl, rfl, rfl⟩⟩
 ·
  refine lx_nil ?_
  refine wk_seq ?_
  refine wk_cond_f rfl ?_
  refine wk_exit ?_
  refine wk_seq ?_
  refine wk_region ?_
  refine lx_value (want rfl) (mv_slice ho1_1) ?_
  refine lx_value (want rfl) (as_slice rfl) ?_
  refine lx_nil ?_
  refine wk_ret ?_
  refine retR1 Tryz.results59 (.tmp (t_slice rfl)) F3 ?_
  obtain ⟨_, rfl, rfl⟩ : i = 1 ∧ n = ds.length ∧ us = _ := hcs.resolve_left (fun h => by have := h.1; omega)
  exact ⟨_, _, by rw [tkL_len], (by have h := ow1L_1; rw [← tkL_len ctx v ds] at h; exact h), ge1L_1⟩

theorem copied_ct (L : List (List Ds)) (s : Option Addr) (c : Nat) (F : Nat → Prop) (z : Int) (hz1 : -100000 ≤ z ∧ z ≤ 100000) (hsm : smallD L = true) (hbd : bdD L = true) (w0 : World) (hl : DdS F w0 s L) :
  CT Tryz.prog 120 [.slice s L.length c, .int .i64 z] w0 no (fun v w => ∃ s' c', v = .slice s' (mvL z L).length c' ∧ DdS (Iv w0.heap.size w.heap.size) w s' (mvL z L)) := by
 have hll := smallD_len hsm
 have F0 := Fr.refl no w0
 refine ct_body Tryz.func120 rfl Tryz.ntmps120 (Nat.le_of_ble_eq_true rfl) ?_
 refine wk_seq ?_
 refine wk_region ?_
 refine lx_value (want rfl) (as_slice rfl) ?_
 refine lx_nil ?_
 refine wk_seq ?_
 refine wk_seq ?_
 refine wk_region ?_
 refine lx_value (want rfl) (mv_slice rfl) ?_
 refine lx_value (want rfl) (rn_len Tryz.underlying71 rfl) ?_
 refine lx_value (want rfl) (mv_int rfl) ?_
 refine lx_nil ?_
 refine wk_block ?_
 refine wk_loopA [4, 6, 7, 10, 11, 12, 13, 14, 15, 16, 17, 18, 19, 20, 21, 22, 23, 24, 25, 26, 27, 28, 29, 30, 31, 32, 33, 34, 35] (fun j => no j ∨ w0.heap.size ≤ j) (fun nM ρ w => ∃ (i : Nat) (st1_1 : Option Addr) (ct1_1 : Nat) (TT1_1 : List (TE Ds)), nM = L.length - i ∧ ρ 10 = .int .i64 i ∧ ρ 4 = .slice st1_1 TT1_1.length ct1_1 ∧ Tab w 76 75 2 dsC st1_1 ct1_1 TT1_1 ∧ (∀ k, tb st1_1 TT1_1 k → w0.heap.size ≤ k) ∧ (i ≤ L.length) ∧ (TT1_1.map (·.2.2) = mvL z (L.take i))) _ ⟨0, none, 0, ([] : List (TE Ds)), rfl, rfl, rfl, (Tab.nil w0 76 75 2 dsC), (fun _ h => tb_nil h), Nat.zero_le _, rfl⟩ ?_
 rintro n1 ρ1 w1 A1 EL1 ⟨i, st1_1, ct1_1, TT1_1, rfl, hs1_10, hs1_4, tw1L_1, tg1L_1, hi, hT⟩
 have F1 := F0.wide EL1
 have hzL1 := EL1.size
 refine wk_seq ?_
 refine wk_region ?_
 refine lx_value (want rfl) (rn_lss hs1_10 (A1.at 9 rfl rfl)) ?_
 refine lx_dec (fun hlt => ?_) (fun hlt => ?_)
 ·
  obtain ⟨x, hx⟩ := getx hlt
  have hxl := smallD_at hsm hx
  have hxb := bdD_at hbd hx
  obtain ⟨bx, ox, hsx, _, sx, cx, hcx, hdx⟩ := hl i x hx
  subst hsx
  have hTl : TT1_1.length = i := by have := congrArg List.length hT; rw [List.length_map, mvL_len, List.length_take] at this; omega
  refine lx_nil ?_
  refine wk_seq ?_
  refine wk_cond_t rfl ?_
  refine wk_skip ?_
  refine wk_seq ?_
  refine wk_block ?_
  refine wk_seq ?_
  refine wk_region ?_
  refine lx_value (want rfl) (rn_index _ Tryz.underlying71 sz_76 (A1.at 8 rfl rfl) hs1_10 rfl (by omega)) ?_
  refine lx_value (want rfl) (rn_load1 ag_76 rfl (F1.cell (fun h => h) hcx)) ?_
  refine lx_value (want rfl) (as_slice rfl) ?_
  refine lx_nil ?_
  refine wk_seq ?_
  refine wk_region ?_
  refine lx_value (want rfl) (mv_slice rfl) ?_
  refine lx_call (want rfl) (ent_func cf_134 (argsC (t_slice rfl) args0)) (cloned_ct x sx cx F w1 (hdx.fr (ds_stab F) F1 (fun _ _ h => h)) (by omega)) ?_
  rintro _ w2 E1 ⟨sD, cD, rfl, hOD, hgD⟩
  have F2 := F1.ext E1
  have hz1 := E1.size
  have ge1 : ∀ k, ob sD k → w0.heap.size ≤ k := fun k hk => (by have := hgD k hk; omega)
  have sj1_1 : ∀ k, tb st1_1 TT1_1 k → ob sD k → False := fun k hk h2 => by have := (tw1L_1).lt hk; have := hgD k h2; omega
  refine lx_value (want rfl) (as_slice rfl) ?_
  refine lx_nil ?_
  refine wk_seq ?_
  refine wk_seq ?_
  refine wk_region ?_
  refine lx_value (want rfl) (mv_slice rfl) ?_
  refine lx_value (want rfl) (rn_len Tryz.underlying76 rfl) ?_
  refine lx_value (want rfl) (mv_int rfl) ?_
  refine lx_nil ?_
  refine wk_block ?_
  refine wk_loopA [7, 18, 19, 20, 21, 22, 23, 24, 25, 26, 27, 28, 29, 30] (fun j => no j ∨ w0.heap.size ≤ j) (fun nM ρ w => ∃ (j : Nat) (so2_3 : Option Addr) (co2_3 : Nat) (st2_1 : Option Addr) (ct2_1 : Nat) (TT2_1 : List (TE Ds)), nM = x.length - j ∧ ρ 18 = .int .i64 j ∧ ρ 4 = .slice st2_1 TT2_1.length ct2_1 ∧ ρ 6 = .slice so2_3 ((halfS z x j).length) co2_3 ∧ OwnS w 75 2 so2_3 ((halfS z x j).length) co2_3 ((halfS z x j).flatMap dsC) ∧ (∀ k, ob so2_3 k → w0.heap.size ≤ k) ∧ Tab w 76 75 2 dsC st2_1 ct2_1 TT2_1 ∧ (∀ k, tb st2_1 TT2_1 k → w0.heap.size ≤ k) ∧ (∀ k, tb st2_1 TT2_1 k → ob so2_3 k → False) ∧ (j ≤ x.length) ∧ (TT2_1.map (·.2.2) = mvL z (L.take i))) _ ⟨0, sD, cD, st1_1, ct1_1, TT1_1, rfl, rfl, hs1_4, rfl, hOD, ge1, (tw1L_1.ext E1), tg1L_1, sj1_1, Nat.zero_le _, hT⟩ ?_
  rintro n2 ρ2 w3 A2 EL2 ⟨j, so2_3, co2_3, st2_1, ct2_1, TT2_1, rfl, hs2_18, hs2_4, ho2_3, ow2L_3, ge2L_3, tw2L_1, tg2L_1, ts2L_1_3, hj, hT⟩
  have F3 := F2.wide EL2
  have hzL2 := EL2.size
  refine wk_seq ?_
  refine wk_region ?_
  refine lx_value (want rfl) (rn_lss hs2_18 (A2.at 17 rfl rfl)) ?_
  refine lx_dec (fun hlt1 => ?_) (fun hlt1 => ?_)
  ·
   obtain ⟨d, hd⟩ := getx hlt1
   have hdb := bdL_at hxb hd
   have hhd := halfS_at (z := z) hd
   have hhl := halfS_len z x j
   have hVs := OwnS.sl (F := fun _ => True) (ow2L_3) (by decide) rfl (fun _ _ => rfl) (fun _ _ => trivial)
   obtain ⟨bV, oV, hsV, _, hcV⟩ := hVs j d hhd
   subst hsV
   refine lx_nil ?_
   refine wk_seq ?_
   refine wk_cond_t rfl ?_
   refine wk_skip ?_
   refine wk_seq ?_
   refine wk_block ?_
   refine wk_seq ?_
   refine wk_region ?_
   refine lx_value (want rfl) (mv_int hs2_18) ?_
   refine lx_value (want rfl) (as_int rfl) ?_
   refine lx_nil ?_
   refine wk_region ?_
   refine lx_value (want rfl) (mv_slice ho2_3) ?_
   refine lx_value (want rfl) (mv_int rfl) ?_
   refine lx_value (want rfl) (rn_index j Tryz.underlying76 sz_75 rfl rfl rfl (by omega)) ?_
   refine lx_value (want rfl) (rn_fieldAddr fa_75_0 rfl) ?_
   refine lx_value (want rfl) (rn_load1 ag_3 rfl ((Fr.refl no _).cell (fun h => h) (hcV 0 _ rfl))) ?_
   refine lx_value (want rfl) (mv_int (A2.at 1 rfl (A1.at 1 rfl rfl))) ?_
   refine lx_value (want rfl) (rn_add rfl rfl (by omega)) ?_
   refine lx_value (want rfl) (rn_index j Tryz.underlying76 sz_75 rfl rfl rfl (by omega)) ?_
   refine lx_value (want rfl) (rn_fieldAddr fa_75_0 rfl) ?_
   have hOw2 := ow2L_3
   refine lx_owncell (j := j * 2 + 0) (want rfl) sz_3 rfl (t_int rfl) rfl rfl rfl hOw2 (by rw [hhl]; omega) ?_
   intro w4 E2' HO2
   have E2 : Fr (ob (some (⟨bV, oV, none⟩ : Addr))) _ _ := E2'.mono (fun i _ hi => ⟨_, _, by subst hi; rfl⟩)
   have F4 := F3.new E2 ge2L_3
   have hz2 := E2.size
   have hN2 := HO2; rw [ds_set0 hhd] at hN2
   refine lx_nil ?_
   refine wk_region ?_
   refine lx_value (want rfl) (rn_add hs2_18 rfl (by omega)) ?_
   refine lx_value (want rfl) (mv_int rfl) ?_
   refine lx_nil ?_
   exact ⟨rfl, (((((((((((((((A2.up rfl _).up rfl _).up rfl _).up rfl _).up rfl _).up rfl _).up rfl _).up rfl _).up rfl _).up rfl _).up rfl _).up rfl _).none _).up rfl _).up rfl _), Fr.between F2 F4 (by omega), _, (by omega), j + 1, (some (⟨bV, oV, none⟩ : Addr)), co2_3, st2_1, ct2_1, TT2_1, rfl, rfl, hs2_4, ((ho2_3).trans (by rw [halfS_len, halfS_len])), (by rw [halfS_on hd]; rw [List.length_set]; exact hN2), ge2L_3, (tw2L_1.fr E2 (fun k h1 h2 => ts2L_1_3 k h1 h2)), tg2L_1, ts2L_1_3, by omega, hT⟩
  ·
   refine lx_nil ?_
   refine wk_seq ?_
   refine wk_cond_f rfl ?_
   refine wk_exit ?_
   refine wk_region ?_
   refine lx_value (want rfl) (mv_slice hs2_4) ?_
   refine lx_value (want rfl) (mv_slice ho2_3) ?_
   refine lx_newS (want rfl) (rn_bslice (xs := [.tmp 32]) Tryz.underlying71 sz_76 ze_76 rfl (argsC (t_slice rfl) args0) (CL.cons rfl rfl CL.nil) rfl (Nat.le_of_ble_eq_true rfl)) ?_
   intro b1 w4 hb1 Eb1 B1 hlb1
   have F5 := F3.ext Eb1
   have hzb1 := Eb1.size
   have nb1 : ∀ k, ob so2_3 k → k ≠ b1 := fun k hk => by have := (ow2L_3).lt hk; omega
   have nb2 : ∀ k, tb st2_1 TT2_1 k → k ≠ b1 := fun k hk => by have := (tw2L_1).lt hk; omega
   have hTo3 := (tw2L_1.ext Eb1)
   have hOo3 := (ow2L_3.ext Eb1)
   refine lx_append 24 (want rfl) Tryz.underlying71 ti_76 (by decide) rfl (by decide) rfl rfl hTo3.out ((Src.blk B1 rfl rfl)) (by have := congrArg List.length hT; rw [List.length_map, mvL_len, List.length_take] at this; omega) ?_
   intro sq3 cq3 w5 AP3
   have EA3 := AP3.fr
   have F6 := F5.new EA3 (fun k h => tg2L_1 k (.inl h))
   have hzA3 := EA3.size
   obtain ⟨tw3, ti3⟩ := Tab.snoc (e := (so2_3, co2_3, (halfS z x j))) hTo3 hOo3 (fun k hk h => ts2L_1_3 k h hk) AP3
   have tg3 : ∀ k, tb sq3 (TT2_1 ++ [(so2_3, co2_3, (halfS z x j))]) k → w0.heap.size ≤ k := fun k hk => (ti3 k hk).elim (fun h => tg2L_1 k h) (fun h => h.elim (fun h => ge2L_3 k h) (fun h => (by omega)))
   have tn3_1 : ∀ k, tb sq3 (TT2_1 ++ [(so2_3, co2_3, (halfS z x j))]) k → k ≠ b1 := fun k hk => (ti3 k hk).elim (fun h => nb2 k h) (fun h => h.elim (fun h => nb1 k h) (fun h => by have := (B1).lt; omega))
   refine lx_value (want rfl) (as_slice rfl) ?_
   refine lx_nil ?_
   refine wk_region ?_
   refine lx_value (want rfl) (rn_add (A2.at 10 rfl hs1_10) rfl (by omega)) ?_
   refine lx_value (want rfl) (mv_int rfl) ?_
   refine lx_nil ?_
   exact ⟨rfl, (((((((((((((((((((A1.up rfl _).up rfl _).up rfl _).up rfl _).up rfl _).up rfl _).up rfl _).up rfl _).up rfl _).up rfl _).loop A2 rfl).up rfl _).up rfl _).up rfl _).up rfl _).up rfl _).up rfl _).up rfl _).up rfl _), Fr.between F0 F6 (by omega), _, (by omega), i + 1, sq3, cq3, (TT2_1 ++ [(so2_3, co2_3, (halfS z x j))]), rfl, rfl, (by rw [List.length_append]; exact rfl), tw3, tg3, by omega, (by rw [List.map_append, hT, halfS_end hlt1]; exact map_step (f := fun l => l.map (shD z)) hx)⟩
 ·
  refine lx_nil ?_
  refine wk_seq ?_
  refine wk_cond_f rfl ?_
  refine wk_exit ?_
  refine wk_seq ?_
  refine wk_region ?_
  refine lx_value (want rfl) (mv_slice hs1_4) ?_
  refine lx_value (want rfl) (as_slice rfl) ?_
  refine lx_nil ?_
  refine wk_ret ?_
  refine retR1 Tryz.results120 (.tmp (t_slice rfl)) F1 ?_
  exact copied_fin hT hlt tw1L_1 tg1L_1

end Go.Proofs.YtgnnegfnpgnbbaaGreatDoor

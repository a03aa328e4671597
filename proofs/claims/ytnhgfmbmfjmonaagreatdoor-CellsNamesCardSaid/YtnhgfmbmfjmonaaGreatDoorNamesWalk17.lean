/- What functions compute: cellsnames. -/
import Derived.Test.YtnhgfmbmfjmonaaGreatDoorNamesFacts
import Derived.Test.YtnhgfmbmfjmonaaGreatDoorNamesPre
import Derived.Test.YtnhgfmbmfjmonaaGreatDoorNamesWalk1
import Derived.Test.YtnhgfmbmfjmonaaGreatDoorNamesWalk12
import Derived.Test.YtnhgfmbmfjmonaaGreatDoorNamesWalk13
import Derived.Test.YtnhgfmbmfjmonaaGreatDoorNamesWalk15
import Derived.Test.YtnhgfmbmfjmonaaGreatDoorNamesWalk16
import Derived.Test.YtnhgfmbmfjmonaaGreatDoorNamesWalk2
import Derived.Test.YtnhgfmbmfjmonaaGreatDoorNamesWalk3
import Derived.Test.YtnhgfmbmfjmonaaGreatDoorNamesWalk4
import Derived.Test.YtnhgfmbmfjmonaaGreatDoorNamesWalk6
set_option maxRecDepth 100000
set_option linter.unusedVariables false
set_option linter.unusedSimpArgs false
namespace Go.Proofs.YtnhgfmbmfjmonaaGreatDoor
open Go Go.RowKit Go.Mix Go.Eng
set_option maxHeartbeats 4000000 in
set_option maxRecDepth 100000 in
theorem cellsnames_ct (w0 : World) (hTb : ItoaT w0) :
  CT Tryz.prog 17 [] w0 no (fun v _ => v = .bool true) := by
 have hTl := tab_lt itoaG hTb
 have F0 := Fr.refl no w0
 refine ct_body Tryz.func17 rfl Tryz.ntmps17 (Nat.le_of_ble_eq_true rfl) ?_
 refine wk_seq ?_
 refine wk_region ?_
 refine lx_value (want rfl) (as_bool rfl) ?_
 refine lx_nil ?_
 refine wk_seq ?_
 refine wk_region ?_
 refine lx_call (want rfl) (ent_func cf_36 (argsC (t_string rfl) (argsC (t_slice rfl) args0))) ((prim_lit nm_1 (pprim_ct ⟨#[120, 111, 114]⟩ [] none 0 (fun _ => True) (by decide) w0 (vlS_nil _ _)))) ?_
 rintro _ w1 E1 rfl
 have F1 := F0.ext E1
 have hz1 := E1.size
 refine lx_value (want rfl) (mv_tuple rfl) ?_
 refine lx_value (want rfl) (rn_extract rfl rfl) ?_
 refine lx_value (want rfl) (rn_extract rfl rfl) ?_
 refine lx_new (want rfl) (rn_alloc ze_36) ?_
 intro b1 w2 hb1 Eb1 B1 hlb1
 have F2 := F1.ext Eb1
 have hzb1 := Eb1.size
 refine lx_set (want rfl) sz_36 rfl (t_agg rfl) rfl rfl rfl B1 (Nat.le_of_ble_eq_true rfl) ?_
 intro w3 Es1 Bs1
 have F3 := F2.set Es1 (by omega)
 have hzs1 := Es1.size
 refine lx_value (want rfl) (as_int rfl) ?_
 refine lx_nil ?_
 refine wk_seq ?_
 refine wk_region ?_
 refine lx_call (want rfl) (ent_func cf_36 (argsC (t_string rfl) (argsC (t_slice rfl) args0))) ((prim_lit nm_2 (pprim_ct ⟨#[110, 111, 116]⟩ [] none 0 (fun _ => True) (by decide) w3 (vlS_nil _ _)))) ?_
 rintro _ w4 E2 rfl
 have F4 := F3.ext E2
 have hz2 := E2.size
 refine lx_value (want rfl) (mv_tuple rfl) ?_
 refine lx_value (want rfl) (rn_extract rfl rfl) ?_
 refine lx_value (want rfl) (rn_extract rfl rfl) ?_
 refine lx_new (want rfl) (rn_alloc ze_36) ?_
 intro b2 w5 hb2 Eb2 B2 hlb2
 have F5 := F4.ext Eb2
 have hzb2 := Eb2.size
 refine lx_set (want rfl) sz_36 rfl (t_agg rfl) rfl rfl rfl B2 (Nat.le_of_ble_eq_true rfl) ?_
 intro w6 Es2 Bs2
 have F6 := F5.set Es2 (by omega)
 have hzs2 := Es2.size
 refine lx_value (want rfl) (as_int rfl) ?_
 refine lx_nil ?_
 refine wk_seq ?_
 refine wk_region ?_
 refine lx_value (want rfl) (rn_build2 (t_int rfl) (t_int rfl) (fun w => bd_36_0_1 _ _ w)) ?_
 refine lx_newS (want rfl) (rn_bslice (xs := [.tmp 34]) Tryz.underlying30 sz_36 ze_36 rfl (argsC (t_agg rfl) args0) (CL.cons rfl rfl CL.nil) rfl (Nat.le_of_ble_eq_true rfl)) ?_
 intro b3 w7 hb3 Eb3 B3 hlb3
 have F7 := F6.ext Eb3
 have hzb3 := Eb3.size
 refine lx_call (want rfl) (ent_func cf_36 (argsC (t_string rfl) (argsC (t_slice rfl) args0))) ((prim_lit nm_3 (pprim_ct ⟨#[110, 111, 116]⟩ [(1, 1000000001)] _ _ (fun _ => True) (by decide) w7 (vl_blk [(1, 1000000001)] (by decide) B3)))) ?_
 rintro _ w8 E3 rfl
 have F8 := F7.ext E3
 have hz3 := E3.size
 refine lx_value (want rfl) (mv_tuple rfl) ?_
 refine lx_value (want rfl) (rn_extract rfl rfl) ?_
 refine lx_value (want rfl) (rn_extract rfl rfl) ?_
 refine lx_new (want rfl) (rn_alloc ze_36) ?_
 intro b4 w9 hb4 Eb4 B4 hlb4
 have F9 := F8.ext Eb4
 have hzb4 := Eb4.size
 refine lx_set (want rfl) sz_36 rfl (t_agg rfl) rfl rfl rfl B4 (Nat.le_of_ble_eq_true rfl) ?_
 intro w10 Es3 Bs3
 have F10 := F9.set Es3 (by omega)
 have hzs3 := Es3.size
 refine lx_value (want rfl) (as_int rfl) ?_
 refine lx_nil ?_
 refine wk_seq ?_
 refine wk_region ?_
 refine lx_call (want rfl) (ent_func cf_67 (argsC (t_int rfl) args0)) (refbad_ct _ w10) ?_
 rintro _ w11 E4 rfl
 have F11 := F10.ext E4
 have hz4 := E4.size
 refine lx_value (want rfl) (rn_build0  (fun w => bd_36  w)) ?_
 refine lx_newS (want rfl) (rn_bslice (xs := [.tmp 40, .tmp 41]) Tryz.underlying30 sz_36 ze_36 rfl (argsC (t_agg rfl) (argsC (t_agg rfl) args0)) (CL.cons rfl rfl (CL.cons rfl rfl CL.nil)) rfl (Nat.le_of_ble_eq_true rfl)) ?_
 intro b5 w12 hb5 Eb5 B5 hlb5
 have F12 := F11.ext Eb5
 have hzb5 := Eb5.size
 refine lx_call (want rfl) (ent_func cf_36 (argsC (t_string rfl) (argsC (t_slice rfl) args0))) ((prim_lit nm_4 (pprim_ct ⟨#[115, 117, 98]⟩ [(5, 3), (0, 0)] _ _ (fun _ => True) (by decide) w12 (vl_blk [(5, 3), (0, 0)] (by decide) B5)))) ?_
 rintro _ w13 E5 rfl
 have F13 := F12.ext E5
 have hz5 := E5.size
 refine lx_value (want rfl) (mv_tuple rfl) ?_
 refine lx_value (want rfl) (rn_extract rfl rfl) ?_
 refine lx_value (want rfl) (rn_extract rfl rfl) ?_
 refine lx_new (want rfl) (rn_alloc ze_36) ?_
 intro b6 w14 hb6 Eb6 B6 hlb6
 have F14 := F13.ext Eb6
 have hzb6 := Eb6.size
 refine lx_set (want rfl) sz_36 rfl (t_agg rfl) rfl rfl rfl B6 (Nat.le_of_ble_eq_true rfl) ?_
 intro w15 Es4 Bs4
 have F15 := F14.set Es4 (by omega)
 have hzs4 := Es4.size
 refine lx_value (want rfl) (as_int rfl) ?_
 refine lx_nil ?_
 refine wk_seq ?_
 refine wk_region ?_
 refine lx_call (want rfl) (ent_func cf_67 (argsC (t_int rfl) args0)) (refbad_ct _ w15) ?_
 rintro _ w16 E6 rfl
 have F16 := F15.ext E6
 have hz6 := E6.size
 refine lx_call (want rfl) (ent_func cf_67 (argsC (t_int rfl) args0)) (refbad_ct _ w16) ?_
 rintro _ w17 E7 rfl
 have F17 := F16.ext E7
 have hz7 := E7.size
 refine lx_newS (want rfl) (rn_bslice (xs := [.tmp 47, .tmp 48]) Tryz.underlying30 sz_36 ze_36 rfl (argsC (t_agg rfl) (argsC (t_agg rfl) args0)) (CL.cons rfl rfl (CL.cons rfl rfl CL.nil)) rfl (Nat.le_of_ble_eq_true rfl)) ?_
 intro b7 w18 hb7 Eb7 B7 hlb7
 have F18 := F17.ext Eb7
 have hzb7 := Eb7.size
 refine lx_call (want rfl) (ent_func cf_36 (argsC (t_string rfl) (argsC (t_slice rfl) args0))) ((prim_lit nm_5 (pprim_ct ⟨#[115, 117, 98]⟩ [(5, 3), (5, 1)] _ _ (fun _ => True) (by decide) w18 (vl_blk [(5, 3), (5, 1)] (by decide) B7)))) ?_
 rintro _ w19 E8 rfl
 have F19 := F18.ext E8
 have hz8 := E8.size
 refine lx_value (want rfl) (mv_tuple rfl) ?_
 refine lx_value (want rfl) (rn_extract rfl rfl) ?_
 refine lx_value (want rfl) (rn_extract rfl rfl) ?_
 refine lx_new (want rfl) (rn_alloc ze_36) ?_
 intro b8 w20 hb8 Eb8 B8 hlb8
 have F20 := F19.ext Eb8
 have hzb8 := Eb8.size
 refine lx_set (want rfl) sz_36 rfl (t_agg rfl) rfl rfl rfl B8 (Nat.le_of_ble_eq_true rfl) ?_
 intro w21 Es5 Bs5
 have F21 := F20.set Es5 (by omega)
 have hzs5 := Es5.size
 refine lx_value (want rfl) (as_int rfl) ?_
 refine lx_nil ?_
 refine wk_seq ?_
 refine wk_seq ?_
 refine wk_mix 26 (fun kS => match kS with | 25 => .val (.agg #[.int .u8 5, .int .i64 3]) | _ => .none) (by kernel_rfl) (by kernel_rfl) (by intro kS G hk; (try dsimp only at hk); (split at hk) <;> first | (cases hk; done) | (injection hk with hk; subst hk; exact ⟨by intro j hkj I v w w' hR hG; first | exact hG, fun ⟨_, _, _, _, hs⟩ => by (try dsimp only at hs); split at hs <;> cases hs⟩)) (by intro kS s y G hk; (try dsimp only at hk); split at hk <;> cases hk) ?_
 simp only [List.take_succ_cons, List.take_zero, List.take_nil, List.drop_succ_cons, List.drop_zero, List.drop_nil]
 refine mx_calm rfl (want rfl) (fun u1 eu1 fu1 => mv_int rfl) ?_
 refine mx_calm rfl (want rfl) (fun u2 eu2 fu2 => rn_neq rfl rfl) ?_
 refine mx_dec_f (by decide) ?_
 refine mx_calm rfl (want rfl) (fun u3 eu3 fu3 => mv_bool rfl) ?_
 refine mx_calm rfl (want_if (j := 2) (d := 55) (x := false) (y := false) rfl rfl (by decide) rfl) (fun u4 eu4 fu4 => mv_int rfl) ?_
 refine mx_calm rfl (want_if (j := 2) (d := 55) (x := false) (y := false) rfl rfl (by decide) rfl) (fun u5 eu5 fu5 => rn_neq rfl rfl) ?_
 refine mx_dec_f (by decide) ?_
 refine mx_calm rfl (want rfl) (fun u6 eu6 fu6 => pick_f rfl rfl) ?_
 refine mx_calm rfl (want rfl) (fun u7 eu7 fu7 => mv_bool rfl) ?_
 refine mx_calm rfl (want_if (j := 6) (d := 59) (x := false) (y := false) rfl rfl (by decide) rfl) (fun u8 eu8 fu8 => mv_int rfl) ?_
 refine mx_calm rfl (want_if (j := 6) (d := 59) (x := false) (y := false) rfl rfl (by decide) rfl) (fun u9 eu9 fu9 => rn_neq rfl rfl) ?_
 refine mx_dec_f (by decide) ?_
 refine mx_calm rfl (want rfl) (fun u10 eu10 fu10 => pick_f rfl rfl) ?_
 refine mx_calm rfl (want rfl) (fun u11 eu11 fu11 => mv_bool rfl) ?_
 refine mx_calm rfl (want_if (j := 10) (d := 63) (x := false) (y := false) rfl rfl (by decide) rfl) (fun u12 eu12 fu12 => mv_int rfl) ?_
 refine mx_calm rfl (want_if (j := 10) (d := 63) (x := false) (y := false) rfl rfl (by decide) rfl) (fun u13 eu13 fu13 => rn_neq rfl rfl) ?_
 refine mx_dec_f (by decide) ?_
 refine mx_calm rfl (want rfl) (fun u14 eu14 fu14 => pick_f rfl rfl) ?_
 refine mx_calm rfl (want rfl) (fun u15 eu15 fu15 => mv_bool rfl) ?_
 refine mx_calm rfl (want_if (j := 14) (d := 67) (x := false) (y := false) rfl rfl (by decide) rfl) (fun u16 eu16 fu16 => rn_loadBlk ag_36 sz_36 rfl (((((((Bs4.ext E6).ext E7).ext Eb7).ext E8).ext Eb8).ne Es5 (by omega)).ext ((ext_drawn _).trans' eu16)) rfl rfl) ?_
 refine mx_calm rfl (want_if (j := 14) (d := 67) (x := false) (y := false) rfl rfl (by decide) rfl) (fun u17 eu17 fu17 => rn_build0  (fun w => bd_36  w)) ?_
 refine mx_calm rfl (want_if (j := 14) (d := 67) (x := false) (y := false) rfl rfl (by decide) rfl) (fun u18 eu18 fu18 => rn_cmpS (t_agg rfl) (t_agg rfl) (gneq_36 _ _ _ _) (neq_36 _ _ _ _)) ?_
 refine mx_dec_f ((fun h => h ⟨rfl, rfl⟩)) ?_
 refine mx_calm rfl (want rfl) (fun u19 eu19 fu19 => pick_f rfl rfl) ?_
 refine mx_calm rfl (want rfl) (fun u20 eu20 fu20 => mv_bool rfl) ?_
 refine mx_calm rfl (want_if (j := 19) (d := 72) (x := false) (y := false) rfl rfl (by decide) rfl) (fun u21 eu21 fu21 => mv_int rfl) ?_
 refine mx_calm rfl (want_if (j := 19) (d := 72) (x := false) (y := false) rfl rfl (by decide) rfl) (fun u22 eu22 fu22 => rn_neq rfl rfl) ?_
 refine mx_dec_f (by decide) ?_
 refine mx_calm rfl (want rfl) (fun u23 eu23 fu23 => pick_f rfl rfl) ?_
 refine mx_calm rfl (want rfl) (fun u24 eu24 fu24 => mv_bool rfl) ?_
 refine mx_calm rfl (want_if (j := 23) (d := 76) (x := false) (y := false) rfl rfl (by decide) rfl) (fun u25 eu25 fu25 => rn_loadBlk ag_36 sz_36 rfl (Bs5.ext ((ext_drawn _).trans' eu25)) rfl rfl) ?_
 refine mx_val rfl (want_if (j := 23) (d := 76) (x := false) (y := false) rfl rfl (by decide) rfl) (fun u26 eu26 fu26 => do_call (ent_func cf_67 (argsC (t_int rfl) args0)) (refbad_ct _ u26) (fun _ _ E h => ⟨E, h⟩)) ?_
 refine mx_nil (fun w22 E9' H1 HS => ?_)
 have E9 := (ext_drawn _).trans' E9'
 have F22 := F21.ext E9
 have hz9 := E9.size
 refine lx_value (want_if (j := 23) (d := 76) (x := false) (y := false) rfl rfl (by decide) rfl) (rn_cmpS (t_agg rfl) (t_agg rfl) (gneq_36 _ _ _ _) (neq_36 _ _ _ _)) ?_
 refine lx_dec_f ((fun h => h ⟨rfl, rfl⟩)) ?_
 refine lx_value (want rfl) (pick_f rfl rfl) ?_
 refine lx_nil ?_
 refine wk_cond_f rfl ?_
 refine wk_skip ?_
 refine wk_seq ?_
 refine wk_region ?_
 refine lx_newS (want rfl) (rn_bslice (xs := [_, _]) Tryz.underlying77 sz_3 ze_3 rfl (argsC (t_int rfl) (argsC (t_int rfl) args0)) (CL.cons rfl rfl (CL.cons rfl rfl CL.nil)) rfl (Nat.le_of_ble_eq_true rfl)) ?_
 intro b9 w23 hb9 Eb9 B9 hlb9
 have F23 := F22.ext Eb9
 have hzb9 := Eb9.size
 refine lx_newS (want rfl) (rn_bslice (xs := []) Tryz.underlying77 sz_3 ze_3 rfl args0 CL.nil rfl (Nat.le_of_ble_eq_true rfl)) ?_
 intro b10 w24 hb10 Eb10 B10 hlb10
 have F24 := F23.ext Eb10
 have hzb10 := Eb10.size
 refine lx_newS (want rfl) (rn_bslice (xs := []) Tryz.underlying77 sz_3 ze_3 rfl args0 CL.nil rfl (Nat.le_of_ble_eq_true rfl)) ?_
 intro b11 w25 hb11 Eb11 B11 hlb11
 have F25 := F24.ext Eb11
 have hzb11 := Eb11.size
 refine lx_newS (want rfl) (rn_bslice (xs := [.tmp 82, .tmp 83, .tmp 84]) Tryz.underlying95 sz_77 ze_77 rfl (argsC (t_slice rfl) (argsC (t_slice rfl) (argsC (t_slice rfl) args0))) (CL.cons rfl rfl (CL.cons rfl rfl (CL.cons rfl rfl CL.nil))) rfl (Nat.le_of_ble_eq_true rfl)) ?_
 intro b12 w26 hb12 Eb12 B12 hlb12
 have F26 := F25.ext Eb12
 have hzb12 := Eb12.size
 refine lx_newS (want rfl) (rn_bslice (xs := [_, _, _]) Tryz.underlying96 sz_4 ze_4 rfl (argsC (t_bool rfl) (argsC (t_bool rfl) (argsC (t_bool rfl) args0))) (CL.cons rfl rfl (CL.cons rfl rfl (CL.cons rfl rfl CL.nil))) rfl (Nat.le_of_ble_eq_true rfl)) ?_
 intro b13 w27 hb13 Eb13 B13 hlb13
 have F27 := F26.ext Eb13
 have hzb13 := Eb13.size
 refine lx_call (want rfl) (ent_func cf_63 (argsC (t_slice rfl) (argsC (t_slice rfl) args0))) ((build_lit nm_b1 (pBuild_ct [[3, 4], [], []] _ _ (fun _ => True) [true, true, false] _ _ (fun _ => True) (by decide) (by decide) (by decide) w27 (ii_blk (B12.ext Eb13) (three_of ⟨_, _, rfl, int_blk [3, 4] (by decide) ((((B9.ext Eb10).ext Eb11).ext Eb12).ext Eb13)⟩ ⟨_, _, rfl, ints_nil _ _ _⟩ ⟨_, _, rfl, ints_nil _ _ _⟩)) (bo_blk [true, true, false] (by decide) B13)))) ?_
 rintro _ w28 E10 ⟨sR, nR, cR, sv, cv, rfl, rfl, hM1, hV1⟩
 have F28 := F27.ext E10
 have hz10 := E10.size
 refine lx_value (want rfl) (mv_tuple rfl) ?_
 refine lx_value (want rfl) (rn_extract rfl rfl) ?_
 refine lx_value (want rfl) (rn_extract rfl rfl) ?_
 refine lx_value (want rfl) (rn_extract rfl rfl) ?_
 refine lx_new (want rfl) (rn_alloc ze_24) ?_
 intro b14 w29 hb14 Eb14 B14 hlb14
 have F29 := F28.ext Eb14
 have hzb14 := Eb14.size
 refine lx_set (want rfl) sz_24 rfl (t_agg rfl) rfl rfl rfl B14 (Nat.le_of_ble_eq_true rfl) ?_
 intro w30 Es6 Bs6
 have F30 := F29.set Es6 (by omega)
 have hzs6 := Es6.size
 refine lx_value (want rfl) (as_slice rfl) ?_
 refine lx_value (want rfl) (as_int rfl) ?_
 refine lx_nil ?_
 refine wk_seq ?_
 refine wk_seq ?_
 have hVg9 := (hV1.fr (vl_stab _) (Fr.trans (Fr.ext (Fr.refl (fun k => k = b14) w28) Eb14) Es6 (fun k _ h => h)) (fun k hk h => by have hk1 := hk.1; have hk2 := hk.2; (try dsimp only at h hk1 hk2); first | exact h.elim | omega | (rcases (show _ ∨ _ from h) with h | h <;> omega)))
 have hMg9 := (hM1.fr (st_stab _) (Fr.trans (Fr.ext (Fr.refl (fun k => k = b14) w28) Eb14) Es6 (fun k _ h => h)) (fun k hk h => by have hk1 := hk.1; have hk2 := hk.2; (try dsimp only at h hk1 hk2); first | exact h.elim | omega | (rcases (show _ ∨ _ from h) with h | h <;> omega)))
 refine wk_mix 24 (fun kS => match kS with | 4 => .val (.agg #[.int .u8 4, .int .i64 0]) | 5 => .val (.agg #[.int .u8 3, .int .i64 0]) | 7 => .any (fun I v w => ∃ s, v = .slice s 3 3 ∧ VlS (fun _ => True) w s hanB) | 8 => .val (.bool true) | 13 => .val (.agg #[.int .u8 1, .int .i64 3]) | 14 => .val (.agg #[.int .u8 4, .int .i64 1]) | 15 => .any (fun I v w => ∃ s, v = .slice s 2 2 ∧ VlS (fun _ => True) w s [(1, 3), (4, 1)]) | 16 => .any (fun I v w => ∃ s, v = .agg #[.slice s 2 2, .slice none 0 0] ∧ VlS (fun _ => True) w s [(1, 3), (4, 1)]) | 17 => .val (.agg #[.int .u8 1, .int .i64 4]) | 18 => .val (.agg #[.int .u8 3, .int .i64 0]) | 19 => .any (fun I v w => ∃ s, v = .slice s 2 2 ∧ VlS (fun _ => True) w s [(1, 4), (3, 0)]) | 20 => .any (fun I v w => ∃ s, v = .agg #[.slice s 2 2, .slice none 0 0] ∧ VlS (fun _ => True) w s [(1, 4), (3, 0)]) | 21 => .any (fun I v w => ∃ s, v = .slice s 2 2 ∧ MemS (fun _ => True) w s memB) | 22 => .any (fun I v w => ∃ s, v = .agg #[.slice s 2 2] ∧ MemS (fun _ => True) w s memB) | 23 => .val (.bool true) | _ => .none) (by kernel_rfl) (by kernel_rfl) (by intro kS G hk; (try dsimp only at hk); (split at hk) <;> first | (cases hk; done) | (injection hk with hk; subst hk; exact ⟨by intro j hkj I v w w' hR hG; first | exact hG | (obtain ⟨s, h1, h2⟩ := hG; exact ⟨s, h1, h2.fr (vl_stab _) hR (fun _ _ h => h)⟩) | (obtain ⟨s, h1, h2⟩ := hG; exact ⟨s, h1, h2.fr (vl_stab _) hR (fun _ _ h => h)⟩) | (obtain ⟨s, h1, h2⟩ := hG; exact ⟨s, h1, h2.fr (vl_stab _) hR (fun _ _ h => h)⟩) | (obtain ⟨s, h1, h2⟩ := hG; exact ⟨s, h1, h2.fr (vl_stab _) hR (fun _ _ h => h)⟩) | (obtain ⟨s, h1, h2⟩ := hG; exact ⟨s, h1, h2.fr (vl_stab _) hR (fun _ _ h => h)⟩) | (obtain ⟨s, h1, h2⟩ := hG; exact ⟨s, h1, h2.fr (st_stab _) hR (fun _ _ h => h)⟩) | (obtain ⟨s, h1, h2⟩ := hG; exact ⟨s, h1, h2.fr (st_stab _) hR (fun _ _ h => h)⟩), fun ⟨_, _, _, _, hs⟩ => by (try dsimp only at hs); split at hs <;> cases hs⟩)) (by intro kS s y G hk; (try dsimp only at hk); split at hk <;> cases hk) ?_
 simp only [List.take_succ_cons, List.take_zero, List.take_nil, List.drop_succ_cons, List.drop_zero, List.drop_nil]
 refine mx_calm rfl (want rfl) (fun u27 eu27 fu27 => mv_int rfl) ?_
 refine mx_calm rfl (want rfl) (fun u28 eu28 fu28 => rn_neq rfl rfl) ?_
 refine mx_dec_f (by decide) ?_
 refine mx_calm rfl (want rfl) (fun u29 eu29 fu29 => mv_bool rfl) ?_
 refine mx_calm rfl (want_if (j := 2) (d := 93) (x := false) (y := false) rfl rfl (by decide) rfl) (fun u30 eu30 fu30 => mv_slice rfl) ?_
 refine mx_val rfl (want_if (j := 2) (d := 93) (x := false) (y := false) rfl rfl (by decide) rfl) (fun u31 eu31 fu31 => do_call (ent_func cf_61 (argsC (t_int rfl) args0)) (ref_ct _ u31) (fun _ _ E h => ⟨E, h⟩)) ?_
 refine mx_val rfl (want_if (j := 2) (d := 93) (x := false) (y := false) rfl rfl (by decide) rfl) (fun u32 eu32 fu32 => do_call (ent_func cf_66 args0) (nil_ct u32) (fun _ _ E h => ⟨E, h⟩)) ?_
 refine mx_calm rfl (want_if (j := 2) (d := 93) (x := false) (y := false) rfl rfl (by decide) rfl) (fun u33 eu33 fu33 => rn_build0  (fun w => bd_36  w)) ?_
 refine mx_any rfl rfl (want_if (j := 2) (d := 93) (x := false) (y := false) rfl rfl (by decide) rfl) (fun u34 eu34 fu34 => (do_newS2 (rn_bslice (xs := [.tmp 95, .tmp 96, .tmp 97]) Tryz.underlying30 sz_36 ze_36 rfl (argsC (t_agg rfl) (argsC (t_agg rfl) (argsC (t_agg rfl) args0))) (CL.cons rfl rfl (CL.cons rfl rfl (CL.cons rfl rfl CL.nil))) rfl (Nat.le_of_ble_eq_true rfl)) (show _ ≤ _ from (((ext_drawn _).trans' eu34)).size)).mono (fun v w' h => ⟨h.1, by obtain ⟨h1, b, h2, _, _, h4⟩ := h; exact ⟨_, h2, vl_blk hanB (by decide) h4⟩⟩)) (fun I98 v98 => ?_)
 refine mx_val rfl (want_if (j := 2) (d := 93) (x := false) (y := false) rfl rfl (by decide) rfl) (fun u35 eu35 fu35 => by obtain ⟨s98, rfl, hV98⟩ := fu35 98 _ rfl (show (98 : Nat) ∈ _ from by decide); exact do_call (ent_func cf_25 (argsC (t_slice rfl) (argsC (t_slice rfl) args0))) (samevalues_ct hanB hanB _ _ _ _ _ _ u35 (hVg9.fr (vl_stab _) ((ext_drawn _).trans' eu35) (fun _ _ h => h)) hV98 (by decide)) (fun _ _ E h => ⟨E, h.trans (by kernel_rfl)⟩)) ?_
 refine mx_b_t (rfl) ?_
 refine mx_calm rfl (want_if (j := 2) (d := 93) (x := false) (y := false) rfl rfl (by decide) rfl) (fun u36 eu36 fu36 => rn_not rfl) ?_
 refine mx_calm rfl (want rfl) (fun u37 eu37 fu37 => pick_f rfl rfl) ?_
 refine mx_calm rfl (want rfl) (fun u38 eu38 fu38 => mv_bool rfl) ?_
 refine mx_calm rfl (want_if (j := 11) (d := 102) (x := false) (y := false) rfl rfl (by decide) rfl) (fun u39 eu39 fu39 => rn_loadBlk ag_24 sz_24 rfl (Bs6.ext ((ext_drawn _).trans' eu39)) rfl rfl) ?_
 refine mx_val rfl (want_if (j := 11) (d := 102) (x := false) (y := false) rfl rfl (by decide) rfl) (fun u40 eu40 fu40 => do_call (ent_func cf_41 (argsC (t_int rfl) args0)) (int_ct _ u40) (fun _ _ E h => ⟨E, h⟩)) ?_
 refine mx_val rfl (want_if (j := 11) (d := 102) (x := false) (y := false) rfl rfl (by decide) rfl) (fun u41 eu41 fu41 => do_call (ent_func cf_61 (argsC (t_int rfl) args0)) (ref_ct _ u41) (fun _ _ E h => ⟨E, h⟩)) ?_
 refine mx_any rfl rfl (want_if (j := 11) (d := 102) (x := false) (y := false) rfl rfl (by decide) rfl) (fun u42 eu42 fu42 => (do_newS2 (rn_bslice (xs := [.tmp 104, .tmp 105]) Tryz.underlying30 sz_36 ze_36 rfl (argsC (t_agg rfl) (argsC (t_agg rfl) args0)) (CL.cons rfl rfl (CL.cons rfl rfl CL.nil)) rfl (Nat.le_of_ble_eq_true rfl)) (show _ ≤ _ from (((ext_drawn _).trans' eu42)).size)).mono (fun v w' h => ⟨h.1, by obtain ⟨h1, b, h2, _, _, h4⟩ := h; exact ⟨_, h2, vl_blk [(1, 3), (4, 1)] (by decide) h4⟩⟩)) (fun I106 v106 => ?_)
 refine mx_any rfl rfl (want_if (j := 11) (d := 102) (x := false) (y := false) rfl rfl (by decide) rfl) (fun u43 eu43 fu43 => by obtain ⟨s106, rfl, hV106⟩ := fu43 106 _ rfl (show (106 : Nat) ∈ _ from by decide); exact do_value (rn_build1 (t_slice rfl) (fun w => bd_65_0 _ _ _ w)) ⟨(Fr.refl no _), ⟨s106, rfl, hV106⟩⟩) (fun I107 v107 => ?_)
 refine mx_val rfl (want_if (j := 11) (d := 102) (x := false) (y := false) rfl rfl (by decide) rfl) (fun u44 eu44 fu44 => do_call (ent_func cf_41 (argsC (t_int rfl) args0)) (int_ct _ u44) (fun _ _ E h => ⟨E, h⟩)) ?_
 refine mx_val rfl (want_if (j := 11) (d := 102) (x := false) (y := false) rfl rfl (by decide) rfl) (fun u45 eu45 fu45 => do_call (ent_func cf_66 args0) (nil_ct u45) (fun _ _ E h => ⟨E, h⟩)) ?_
 refine mx_any rfl rfl (want_if (j := 11) (d := 102) (x := false) (y := false) rfl rfl (by decide) rfl) (fun u46 eu46 fu46 => (do_newS2 (rn_bslice (xs := [.tmp 108, .tmp 109]) Tryz.underlying30 sz_36 ze_36 rfl (argsC (t_agg rfl) (argsC (t_agg rfl) args0)) (CL.cons rfl rfl (CL.cons rfl rfl CL.nil)) rfl (Nat.le_of_ble_eq_true rfl)) (show _ ≤ _ from (((ext_drawn _).trans' eu46)).size)).mono (fun v w' h => ⟨h.1, by obtain ⟨h1, b, h2, _, _, h4⟩ := h; exact ⟨_, h2, vl_blk [(1, 4), (3, 0)] (by decide) h4⟩⟩)) (fun I110 v110 => ?_)
 refine mx_any rfl rfl (want_if (j := 11) (d := 102) (x := false) (y := false) rfl rfl (by decide) rfl) (fun u47 eu47 fu47 => by obtain ⟨s110, rfl, hV110⟩ := fu47 110 _ rfl (show (110 : Nat) ∈ _ from by decide); exact do_value (rn_build1 (t_slice rfl) (fun w => bd_65_0 _ _ _ w)) ⟨(Fr.refl no _), ⟨s110, rfl, hV110⟩⟩) (fun I111 v111 => ?_)
 refine mx_any rfl rfl (want_if (j := 11) (d := 102) (x := false) (y := false) rfl rfl (by decide) rfl) (fun u48 eu48 fu48 => by obtain ⟨s107, rfl, hV107⟩ := fu48 107 _ rfl (show (107 : Nat) ∈ _ from by decide); obtain ⟨s111, rfl, hV111⟩ := fu48 111 _ rfl (show (111 : Nat) ∈ _ from by decide); exact (do_newS2 (rn_bslice (xs := [.tmp 107, .tmp 111]) Tryz.underlying22 sz_65 ze_65 rfl (argsC (t_agg rfl) (argsC (t_agg rfl) args0)) (CL.cons rfl rfl (CL.cons rfl rfl CL.nil)) rfl (Nat.le_of_ble_eq_true rfl)) (show _ ≤ _ from (((ext_drawn _).trans' eu48)).size)).mono (fun v w' h => ⟨h.1, by obtain ⟨h1, b, h2, _, _, h4⟩ := h; exact ⟨_, h2, mem_blk h4 (two_at ⟨_, _, _, _, rfl, rfl, hV107.fr (vl_stab _) h1 (fun _ _ h => h), rdS_nil _ _⟩ ⟨_, _, _, _, rfl, rfl, hV111.fr (vl_stab _) h1 (fun _ _ h => h), rdS_nil _ _⟩)⟩⟩)) (fun I112 v112 => ?_)
 refine mx_any rfl rfl (want_if (j := 11) (d := 102) (x := false) (y := false) rfl rfl (by decide) rfl) (fun u49 eu49 fu49 => by obtain ⟨s112, rfl, hV112⟩ := fu49 112 _ rfl (show (112 : Nat) ∈ _ from by decide); exact do_value (rn_build1 (t_slice rfl) (fun w => bd_24_0 _ _ _ w)) ⟨(Fr.refl no _), ⟨s112, rfl, hV112⟩⟩) (fun I113 v113 => ?_)
 refine mx_val rfl (want_if (j := 11) (d := 102) (x := false) (y := false) rfl rfl (by decide) rfl) (fun u50 eu50 fu50 => by obtain ⟨s113, rfl, hV113⟩ := fu50 113 _ rfl (show (113 : Nat) ∈ _ from by decide); exact do_call (ent_func cf_24 (argsC (t_agg rfl) (argsC (t_agg rfl) args0))) (samemem_ct memB _ _ _ memB _ _ _ Bm_B u50 (hMg9.fr (st_stab _) ((ext_drawn _).trans' eu50) (fun _ _ h => h)) hV113) (fun _ _ E h => ⟨E, h.trans (by kernel_rfl)⟩)) ?_
 refine mx_b_t (rfl) ?_
 refine mx_nil (fun w31 E11' H2 HS => ?_)
 have E11 := (ext_drawn _).trans' E11'
 have F31 := F30.ext E11
 have hz11 := E11.size
 have hI113 := (HS.1 113 _ rfl).2
 have hI112 := (HS.1 112 _ rfl).2
 have hI111 := (HS.1 111 _ rfl).2
 have hI110 := (HS.1 110 _ rfl).2
 have hI107 := (HS.1 107 _ rfl).2
 have hI106 := (HS.1 106 _ rfl).2
 have hI98 := (HS.1 98 _ rfl).2
 have hX113_112 := HS.2 113 _ 112 _ rfl rfl (show (113 : Nat) ≠ 112 from by decide)
 have hX113_111 := HS.2 113 _ 111 _ rfl rfl (show (113 : Nat) ≠ 111 from by decide)
 have hX113_110 := HS.2 113 _ 110 _ rfl rfl (show (113 : Nat) ≠ 110 from by decide)
 have hX113_107 := HS.2 113 _ 107 _ rfl rfl (show (113 : Nat) ≠ 107 from by decide)
 have hX113_106 := HS.2 113 _ 106 _ rfl rfl (show (113 : Nat) ≠ 106 from by decide)
 have hX113_98 := HS.2 113 _ 98 _ rfl rfl (show (113 : Nat) ≠ 98 from by decide)
 have hX112_111 := HS.2 112 _ 111 _ rfl rfl (show (112 : Nat) ≠ 111 from by decide)
 have hX112_110 := HS.2 112 _ 110 _ rfl rfl (show (112 : Nat) ≠ 110 from by decide)
 have hX112_107 := HS.2 112 _ 107 _ rfl rfl (show (112 : Nat) ≠ 107 from by decide)
 have hX112_106 := HS.2 112 _ 106 _ rfl rfl (show (112 : Nat) ≠ 106 from by decide)
 have hX112_98 := HS.2 112 _ 98 _ rfl rfl (show (112 : Nat) ≠ 98 from by decide)
 have hX111_110 := HS.2 111 _ 110 _ rfl rfl (show (111 : Nat) ≠ 110 from by decide)
 have hX111_107 := HS.2 111 _ 107 _ rfl rfl (show (111 : Nat) ≠ 107 from by decide)
 have hX111_106 := HS.2 111 _ 106 _ rfl rfl (show (111 : Nat) ≠ 106 from by decide)
 have hX111_98 := HS.2 111 _ 98 _ rfl rfl (show (111 : Nat) ≠ 98 from by decide)
 have hX110_107 := HS.2 110 _ 107 _ rfl rfl (show (110 : Nat) ≠ 107 from by decide)
 have hX110_106 := HS.2 110 _ 106 _ rfl rfl (show (110 : Nat) ≠ 106 from by decide)
 have hX110_98 := HS.2 110 _ 98 _ rfl rfl (show (110 : Nat) ≠ 98 from by decide)
 have hX107_106 := HS.2 107 _ 106 _ rfl rfl (show (107 : Nat) ≠ 106 from by decide)
 have hX107_98 := HS.2 107 _ 98 _ rfl rfl (show (107 : Nat) ≠ 98 from by decide)
 have hX106_98 := HS.2 106 _ 98 _ rfl rfl (show (106 : Nat) ≠ 98 from by decide)
 simp only at hI113
 simp only at hI112
 simp only at hI111
 simp only at hI110
 simp only at hI107
 simp only at hI106
 simp only at hI98
 simp only at hX113_112
 simp only at hX113_111
 simp only at hX113_110
 simp only at hX113_107
 simp only at hX113_106
 simp only at hX113_98
 simp only at hX112_111
 simp only at hX112_110
 simp only at hX112_107
 simp only at hX112_106
 simp only at hX112_98
 simp only at hX111_110
 simp only at hX111_107
 simp only at hX111_106
 simp only at hX111_98
 simp only at hX110_107
 simp only at hX110_106
 simp only at hX110_98
 simp only at hX107_106
 simp only at hX107_98
 simp only at hX106_98
 have g113 := H2 113 _ rfl
 have g112 := H2 112 _ rfl
 have g111 := H2 111 _ rfl
 have g110 := H2 110 _ rfl
 have g107 := H2 107 _ rfl
 have g106 := H2 106 _ rfl
 have g98 := H2 98 _ rfl
 refine lx_value (want_if (j := 11) (d := 102) (x := false) (y := false) rfl rfl (by decide) rfl) (rn_not rfl) ?_
 refine lx_value (want rfl) (pick_f rfl rfl) ?_
 refine lx_nil ?_
 refine wk_cond_f rfl ?_
 refine wk_skip ?_
 refine wk_seq ?_
 refine wk_region ?_
 refine lx_newS (want rfl) (rn_bslice (xs := [_]) Tryz.underlying77 sz_3 ze_3 rfl (argsC (t_int rfl) args0) (CL.cons rfl rfl CL.nil) rfl (Nat.le_of_ble_eq_true rfl)) ?_
 intro b15 w32 hb15 Eb15 B15 hlb15
 have F32 := F31.ext Eb15
 have hzb15 := Eb15.size
 refine lx_newS (want rfl) (rn_bslice (xs := [.tmp 118]) Tryz.underlying95 sz_77 ze_77 rfl (argsC (t_slice rfl) args0) (CL.cons rfl rfl CL.nil) rfl (Nat.le_of_ble_eq_true rfl)) ?_
 intro b16 w33 hb16 Eb16 B16 hlb16
 have F33 := F32.ext Eb16
 have hzb16 := Eb16.size
 refine lx_call (want rfl) (ent_func cf_63 (argsC (t_slice rfl) (argsC (t_slice rfl) args0))) ((build_lit nm_b2 (pBuild_ct [[1]] _ _ (fun _ => True) [] none 0 (fun _ => True) (by decide) (by decide) (by decide) w33 (ii_blk B16 (one_at ⟨_, _, rfl, int_blk [1] (by decide) (B15.ext Eb16)⟩)) (fun i x hx => by simp at hx)))) ?_
 rintro _ w34 E12 ⟨_, _, _, _, _, rfl, rfl, _, _⟩
 have F34 := F33.ext E12
 have hz12 := E12.size
 refine lx_value (want rfl) (mv_tuple rfl) ?_
 refine lx_value (want rfl) (rn_extract rfl rfl) ?_
 refine lx_value (want rfl) (rn_extract rfl rfl) ?_
 refine lx_value (want rfl) (rn_extract rfl rfl) ?_
 refine lx_value (want rfl) (as_int rfl) ?_
 refine lx_nil ?_
 refine wk_seq ?_
 refine wk_region ?_
 refine lx_newS (want rfl) (rn_bslice (xs := [_]) Tryz.underlying77 sz_3 ze_3 rfl (argsC (t_int rfl) args0) (CL.cons rfl rfl CL.nil) rfl (Nat.le_of_ble_eq_true rfl)) ?_
 intro b17 w35 hb17 Eb17 B17 hlb17
 have F35 := F34.ext Eb17
 have hzb17 := Eb17.size
 refine lx_newS (want rfl) (rn_bslice (xs := [.tmp 125]) Tryz.underlying95 sz_77 ze_77 rfl (argsC (t_slice rfl) args0) (CL.cons rfl rfl CL.nil) rfl (Nat.le_of_ble_eq_true rfl)) ?_
 intro b18 w36 hb18 Eb18 B18 hlb18
 have F36 := F35.ext Eb18
 have hzb18 := Eb18.size
 refine lx_newS (want rfl) (rn_bslice (xs := [_]) Tryz.underlying96 sz_4 ze_4 rfl (argsC (t_bool rfl) args0) (CL.cons rfl rfl CL.nil) rfl (Nat.le_of_ble_eq_true rfl)) ?_
 intro b19 w37 hb19 Eb19 B19 hlb19
 have F37 := F36.ext Eb19
 have hzb19 := Eb19.size
 refine lx_call (want rfl) (ent_func cf_63 (argsC (t_slice rfl) (argsC (t_slice rfl) args0))) ((build_lit nm_b3 (pBuild_ct [[-1000000001]] _ _ (fun _ => True) [true] _ _ (fun _ => True) (by decide) (by decide) (by decide) w37 (ii_blk (B18.ext Eb19) (one_at ⟨_, _, rfl, int_blk [-1000000001] (by decide) ((B17.ext Eb18).ext Eb19)⟩)) (bo_blk [true] (by decide) B19)))) ?_
 rintro _ w38 E13 ⟨_, _, _, _, _, rfl, rfl, _, _⟩
 have F38 := F37.ext E13
 have hz13 := E13.size
 refine lx_value (want rfl) (mv_tuple rfl) ?_
 refine lx_value (want rfl) (rn_extract rfl rfl) ?_
 refine lx_value (want rfl) (rn_extract rfl rfl) ?_
 refine lx_value (want rfl) (rn_extract rfl rfl) ?_
 refine lx_value (want rfl) (as_int rfl) ?_
 refine lx_nil ?_
 refine wk_seq ?_
 refine wk_region ?_
 refine lx_value (want rfl) (rn_loadBlk ag_24 sz_24 rfl ((((((((Bs6.ext E11).ext Eb15).ext Eb16).ext E12).ext Eb17).ext Eb18).ext Eb19).ext E13) rfl rfl) ?_
 refine lx_call (want rfl) (ent_func cf_20 (argsC (t_agg rfl) args0)) (((copy_ct memB sR cR _ Bm_B w38 (hM1.fr (st_stab _) (Fr.ext (Fr.ext (Fr.ext (Fr.ext (Fr.ext (Fr.ext (Fr.ext (Fr.ext (Fr.trans (Fr.ext (Fr.refl (fun k => k = b14) w28) Eb14) Es6 (fun k _ h => h)) E11) Eb15) Eb16) E12) Eb17) Eb18) Eb19) E13) (fun k hk h => by have hk1 := hk.1; have hk2 := hk.2; (try dsimp only at h hk1 hk2); first | exact h.elim | omega | (rcases (show _ ∨ _ from h) with h | h <;> omega)))).mono (fun _ _ h => h) (fun _ _ _ h => h.read))) ?_
 rintro _ w39 E14 ⟨sC1, cC1, rfl, hMC1⟩
 have F39 := F38.ext E14
 have hz14 := E14.size
 refine lx_call (want rfl) (ent_func cf_61 (argsC (t_int rfl) args0)) (ref_ct _ w39) ?_
 rintro _ w40 E15 rfl
 have F40 := F39.ext E15
 have hz15 := E15.size
 refine lx_call (want rfl) (ent_func cf_41 (argsC (t_int rfl) args0)) (int_ct _ w40) ?_
 rintro _ w41 E16 rfl
 have F41 := F40.ext E16
 have hz16 := E16.size
 refine lx_call (want rfl) (ent_func cf_41 (argsC (t_int rfl) args0)) (int_ct _ w41) ?_
 rintro _ w42 E17 rfl
 have F42 := F41.ext E17
 have hz17 := E17.size
 refine lx_value (want rfl) (rn_build4 (t_int rfl) (t_agg rfl) (t_agg rfl) (t_agg rfl) (fun w => bd_38_0_1_2_3 _ _ _ _ _ _ _ w)) ?_
 refine lx_call (want rfl) (ent_func cf_43 (argsC (t_agg rfl) (argsC (t_agg rfl) args0))) ((do_lit nm_o1 (pDo_ct memB sC1 cC1 _ Bm_B ⟨2, (4, 0), (1, 0), (1, 1), 0⟩ (by decide) w42 (hMC1.fr (st_stab _) (Fr.ext (Fr.ext (Fr.ext (Fr.refl no w39) E15) E16) E17) (fun k hk h => by have hk1 := hk.1; have hk2 := hk.2; (try dsimp only at h hk1 hk2); first | exact h.elim | omega | (rcases (show _ ∨ _ from h) with h | h <;> omega)))))) ?_
 rintro _ w43 E18 ⟨_, _, _, _, _, rfl, _, _, _⟩
 have F43 := F42.ext E18
 have hz18 := E18.size
 refine lx_value (want rfl) (mv_tuple rfl) ?_
 refine lx_value (want rfl) (rn_extract rfl rfl) ?_
 refine lx_value (want rfl) (rn_extract rfl rfl) ?_
 refine lx_value (want rfl) (rn_extract rfl rfl) ?_
 refine lx_value (want rfl) (rn_extract rfl rfl) ?_
 refine lx_value (want rfl) (as_int rfl) ?_
 refine lx_nil ?_
 refine wk_seq ?_
 refine wk_region ?_
 refine lx_value (want rfl) (rn_loadBlk ag_24 sz_24 rfl (((((((((((((Bs6.ext E11).ext Eb15).ext Eb16).ext E12).ext Eb17).ext Eb18).ext Eb19).ext E13).ext E14).ext E15).ext E16).ext E17).ext E18) rfl rfl) ?_
 refine lx_call (want rfl) (ent_func cf_20 (argsC (t_agg rfl) args0)) (((copy_ct memB sR cR _ Bm_B w43 (hM1.fr (st_stab _) (Fr.ext (Fr.ext (Fr.ext (Fr.ext (Fr.ext (Fr.ext (Fr.ext (Fr.ext (Fr.ext (Fr.ext (Fr.ext (Fr.ext (Fr.ext (Fr.trans (Fr.ext (Fr.refl (fun k => k = b14) w28) Eb14) Es6 (fun k _ h => h)) E11) Eb15) Eb16) E12) Eb17) Eb18) Eb19) E13) E14) E15) E16) E17) E18) (fun k hk h => by have hk1 := hk.1; have hk2 := hk.2; (try dsimp only at h hk1 hk2); first | exact h.elim | omega | (rcases (show _ ∨ _ from h) with h | h <;> omega)))).mono (fun _ _ h => h) (fun _ _ _ h => h.read))) ?_
 rintro _ w44 E19 ⟨sC2, cC2, rfl, hMC2⟩
 have F44 := F43.ext E19
 have hz19 := E19.size
 refine lx_call (want rfl) (ent_func cf_61 (argsC (t_int rfl) args0)) (ref_ct _ w44) ?_
 rintro _ w45 E20 rfl
 have F45 := F44.ext E20
 have hz20 := E20.size
 refine lx_call (want rfl) (ent_func cf_41 (argsC (t_int rfl) args0)) (int_ct _ w45) ?_
 rintro _ w46 E21 rfl
 have F46 := F45.ext E21
 have hz21 := E21.size
 refine lx_call (want rfl) (ent_func cf_41 (argsC (t_int rfl) args0)) (int_ct _ w46) ?_
 rintro _ w47 E22 rfl
 have F47 := F46.ext E22
 have hz22 := E22.size
 refine lx_value (want rfl) (rn_build4 (t_int rfl) (t_agg rfl) (t_agg rfl) (t_agg rfl) (fun w => bd_38_0_1_2_3 _ _ _ _ _ _ _ w)) ?_
 refine lx_call (want rfl) (ent_func cf_43 (argsC (t_agg rfl) (argsC (t_agg rfl) args0))) ((do_lit nm_o2 (pDo_ct memB sC2 cC2 _ Bm_B ⟨2, (4, 2), (1, 0), (1, 1), 0⟩ (by decide) w47 (hMC2.fr (st_stab _) (Fr.ext (Fr.ext (Fr.ext (Fr.refl no w44) E20) E21) E22) (fun k hk h => by have hk1 := hk.1; have hk2 := hk.2; (try dsimp only at h hk1 hk2); first | exact h.elim | omega | (rcases (show _ ∨ _ from h) with h | h <;> omega)))))) ?_
 rintro _ w48 E23 ⟨_, _, _, _, _, rfl, _, _, _⟩
 have F48 := F47.ext E23
 have hz23 := E23.size
 refine lx_value (want rfl) (mv_tuple rfl) ?_
 refine lx_value (want rfl) (rn_extract rfl rfl) ?_
 refine lx_value (want rfl) (rn_extract rfl rfl) ?_
 refine lx_value (want rfl) (rn_extract rfl rfl) ?_
 refine lx_value (want rfl) (rn_extract rfl rfl) ?_
 refine lx_value (want rfl) (as_int rfl) ?_
 refine lx_nil ?_
 refine wk_seq ?_
 refine wk_region ?_
 refine lx_value (want rfl) (rn_loadBlk ag_24 sz_24 rfl ((((((((((((((((((Bs6.ext E11).ext Eb15).ext Eb16).ext E12).ext Eb17).ext Eb18).ext Eb19).ext E13).ext E14).ext E15).ext E16).ext E17).ext E18).ext E19).ext E20).ext E21).ext E22).ext E23) rfl rfl) ?_
 refine lx_call (want rfl) (ent_func cf_20 (argsC (t_agg rfl) args0)) (((copy_ct memB sR cR _ Bm_B w48 (hM1.fr (st_stab _) (Fr.ext (Fr.ext (Fr.ext (Fr.ext (Fr.ext (Fr.ext (Fr.ext (Fr.ext (Fr.ext (Fr.ext (Fr.ext (Fr.ext (Fr.ext (Fr.ext (Fr.ext (Fr.ext (Fr.ext (Fr.ext (Fr.trans (Fr.ext (Fr.refl (fun k => k = b14) w28) Eb14) Es6 (fun k _ h => h)) E11) Eb15) Eb16) E12) Eb17) Eb18) Eb19) E13) E14) E15) E16) E17) E18) E19) E20) E21) E22) E23) (fun k hk h => by have hk1 := hk.1; have hk2 := hk.2; (try dsimp only at h hk1 hk2); first | exact h.elim | omega | (rcases (show _ ∨ _ from h) with h | h <;> omega)))).mono (fun _ _ h => h) (fun _ _ _ h => h.read))) ?_
 rintro _ w49 E24 ⟨sC3, cC3, rfl, hMC3⟩
 have F49 := F48.ext E24
 have hz24 := E24.size
 refine lx_value (want rfl) (mv_slice rfl) ?_
 refine lx_call (want rfl) (ent_func cf_30 (argsC (t_agg rfl) (argsC (t_slice rfl) args0))) ((draw_lit nm_d (pDraw_ct memB sC3 cC3 _ Bm_B hanB sv cv _ (by decide) w49 (hMC3.fr (st_stab _) (Fr.refl no w49) (fun k hk h => by have hk1 := hk.1; have hk2 := hk.2; (try dsimp only at h hk1 hk2); first | exact h.elim | omega | (rcases (show _ ∨ _ from h) with h | h <;> omega))) (hV1.fr (vl_stab _) (Fr.ext (Fr.ext (Fr.ext (Fr.ext (Fr.ext (Fr.ext (Fr.ext (Fr.ext (Fr.ext (Fr.ext (Fr.ext (Fr.ext (Fr.ext (Fr.ext (Fr.ext (Fr.ext (Fr.ext (Fr.ext (Fr.ext (Fr.trans (Fr.ext (Fr.refl (fun k => k = b14) w28) Eb14) Es6 (fun k _ h => h)) E11) Eb15) Eb16) E12) Eb17) Eb18) Eb19) E13) E14) E15) E16) E17) E18) E19) E20) E21) E22) E23) E24) (fun k hk h => by have hk1 := hk.1; have hk2 := hk.2; (try dsimp only at h hk1 hk2); first | exact h.elim | omega | (rcases (show _ ∨ _ from h) with h | h <;> omega)))))) ?_
 rintro _ w50 E25 ⟨_, rfl, sV, cV, sK, cK, rfl, hPv, hPc⟩
 have F50 := F49.ext E25
 have hz25 := E25.size
 refine lx_value (want rfl) (mv_tuple rfl) ?_
 refine lx_value (want rfl) (rn_extract rfl rfl) ?_
 refine lx_value (want rfl) (rn_extract rfl rfl) ?_
 refine lx_new (want rfl) (rn_alloc ze_45) ?_
 intro b20 w51 hb20 Eb20 B20 hlb20
 have F51 := F50.ext Eb20
 have hzb20 := Eb20.size
 refine lx_set (want rfl) sz_45 rfl (t_agg rfl) rfl rfl rfl B20 (Nat.le_of_ble_eq_true rfl) ?_
 intro w52 Es7 Bs7
 have F52 := F51.set Es7 (by omega)
 have hzs7 := Es7.size
 refine lx_value (want rfl) (as_int rfl) ?_
 refine lx_nil ?_
 refine wk_seq ?_
 refine wk_region ?_
 refine lx_value (want rfl) (rn_loadBlk ag_45 sz_45 rfl Bs7 rfl rfl) ?_
 refine lx_call (want rfl) (ent_func cf_29 (argsC (t_agg rfl) args0)) (copypic_ct picN9 sV cV sK cK _ Bp_B w52 (hPv.fr (vl_stab _) (Fr.trans (Fr.ext (Fr.refl (fun k => k = b20) w50) Eb20) Es7 (fun k _ h => h)) (fun k hk h => by have hk1 := hk.1; have hk2 := hk.2; (try dsimp only at h hk1 hk2); first | exact h.elim | omega | (rcases (show _ ∨ _ from h) with h | h <;> omega))) (hPc.fr (vv_stab _) (Fr.trans (Fr.ext (Fr.refl (fun k => k = b20) w50) Eb20) Es7 (fun k _ h => h)) (fun k hk h => by have hk1 := hk.1; have hk2 := hk.2; (try dsimp only at h hk1 hk2); first | exact h.elim | omega | (rcases (show _ ∨ _ from h) with h | h <;> omega)))) ?_
 rintro _ w53 E26 ⟨sA1, cA1, sB1, cB1, rfl, hPV1, hPC1⟩
 have F53 := F52.ext E26
 have hz26 := E26.size
 refine lx_call (want rfl) (ent_func cf_49 (argsC (t_agg rfl) (argsC (t_int rfl) args0))) ((str_lit nm_s0 (pStream_ct picN9 sA1 cA1 sB1 cB1 _ Bp_B 0 w53 (hPV1.fr (vl_stab _) (Fr.refl no w53) (fun k hk h => by have hk1 := hk.1; have hk2 := hk.2; (try dsimp only at h hk1 hk2); first | exact h.elim | omega | (rcases (show _ ∨ _ from h) with h | h <;> omega))) (hPC1.fr (vv_stab _) (Fr.refl no w53) (fun k hk h => by have hk1 := hk.1; have hk2 := hk.2; (try dsimp only at h hk1 hk2); first | exact h.elim | omega | (rcases (show _ ∨ _ from h) with h | h <;> omega)))))) ?_
 rintro _ w54 E27 ⟨sT, cT, rfl, hT⟩
 have F54 := F53.ext E27
 have hz27 := E27.size
 refine lx_value (want rfl) (mv_tuple rfl) ?_
 refine lx_value (want rfl) (rn_extract rfl rfl) ?_
 refine lx_value (want rfl) (rn_extract rfl rfl) ?_
 refine lx_value (want rfl) (rn_extract rfl rfl) ?_
 refine lx_new (want rfl) (rn_alloc ze_36) ?_
 intro b21 w55 hb21 Eb21 B21 hlb21
 have F55 := F54.ext Eb21
 have hzb21 := Eb21.size
 refine lx_value (want rfl) (as_slice rfl) ?_
 refine lx_set (want rfl) sz_36 rfl (t_agg rfl) rfl rfl rfl B21 (Nat.le_of_ble_eq_true rfl) ?_
 intro w56 Es8 Bs8
 have F56 := F55.set Es8 (by omega)
 have hzs8 := Es8.size
 refine lx_value (want rfl) (as_int rfl) ?_
 refine lx_nil ?_
 refine wk_seq ?_
 refine wk_region ?_
 refine lx_value (want rfl) (rn_loadBlk ag_45 sz_45 rfl ((((Bs7.ext E26).ext E27).ext Eb21).ne Es8 (by omega)) rfl rfl) ?_
 refine lx_call (want rfl) (ent_func cf_29 (argsC (t_agg rfl) args0)) (copypic_ct picN9 sV cV sK cK _ Bp_B w56 (hPv.fr (vl_stab _) (Fr.trans (Fr.ext (Fr.ext (Fr.ext (Fr.trans (Fr.ext (Fr.refl (fun k => k = b20 ∨ k = b21) w50) Eb20) Es7 (fun k _ h => (.inl h))) E26) E27) Eb21) Es8 (fun k _ h => (.inr h))) (fun k hk h => by have hk1 := hk.1; have hk2 := hk.2; (try dsimp only at h hk1 hk2); first | exact h.elim | omega | (rcases (show _ ∨ _ from h) with h | h <;> omega))) (hPc.fr (vv_stab _) (Fr.trans (Fr.ext (Fr.ext (Fr.ext (Fr.trans (Fr.ext (Fr.refl (fun k => k = b20 ∨ k = b21) w50) Eb20) Es7 (fun k _ h => (.inl h))) E26) E27) Eb21) Es8 (fun k _ h => (.inr h))) (fun k hk h => by have hk1 := hk.1; have hk2 := hk.2; (try dsimp only at h hk1 hk2); first | exact h.elim | omega | (rcases (show _ ∨ _ from h) with h | h <;> omega)))) ?_
 rintro _ w57 E28 ⟨sA2, cA2, sB2, cB2, rfl, hPV2, hPC2⟩
 have F57 := F56.ext E28
 have hz28 := E28.size
 refine lx_call (want rfl) (ent_func cf_51 (argsC (t_agg rfl) (argsC (t_int rfl) args0))) ((show_lit nm_w12 (pshow_ct picN9 sA2 cA2 sB2 cB2 _ Bp_B 12 ItoaT (fun k => k = 0) (fun hf hS h => tab_fr itoaG hf hS h) (fun hp v hv h1 w hw => itoa_ct (by have := isVal_1 (pic_val1 hp hv) h1; omega) (by have := isVal_1 (pic_val1 hp hv) h1; omega) w hw) w57 (hPV2.fr (vl_stab _) (Fr.refl no w57) (fun k hk h => by have hk1 := hk.1; have hk2 := hk.2; (try dsimp only at h hk1 hk2); first | exact h.elim | omega | (rcases (show _ ∨ _ from h) with h | h <;> omega))) (hPC2.fr (vv_stab _) (Fr.refl no w57) (fun k hk h => by have hk1 := hk.1; have hk2 := hk.2; (try dsimp only at h hk1 hk2); first | exact h.elim | omega | (rcases (show _ ∨ _ from h) with h | h <;> omega))) (fun k hk => by subst hk; exact Nat.lt_of_lt_of_le hTl F57.size) (tab_fr itoaG F57 (fun _ _ h => h) hTb)))) ?_
 rintro _ w58 E29 rfl
 have F58 := F57.ext E29
 have hz29 := E29.size
 refine lx_value (want rfl) (mv_tuple rfl) ?_
 refine lx_value (want rfl) (rn_extract rfl rfl) ?_
 refine lx_value (want rfl) (rn_extract rfl rfl) ?_
 refine lx_value (want rfl) (as_string rfl) ?_
 refine lx_value (want rfl) (as_int rfl) ?_
 refine lx_nil ?_
 refine wk_seq ?_
 refine wk_region ?_
 refine lx_value (want rfl) (rn_loadBlk ag_45 sz_45 rfl ((((((Bs7.ext E26).ext E27).ext Eb21).ne Es8 (by omega)).ext E28).ext E29) rfl rfl) ?_
 refine lx_call (want rfl) (ent_func cf_29 (argsC (t_agg rfl) args0)) (copypic_ct picN9 sV cV sK cK _ Bp_B w58 (hPv.fr (vl_stab _) (Fr.ext (Fr.ext (Fr.trans (Fr.ext (Fr.ext (Fr.ext (Fr.trans (Fr.ext (Fr.refl (fun k => k = b20 ∨ k = b21) w50) Eb20) Es7 (fun k _ h => (.inl h))) E26) E27) Eb21) Es8 (fun k _ h => (.inr h))) E28) E29) (fun k hk h => by have hk1 := hk.1; have hk2 := hk.2; (try dsimp only at h hk1 hk2); first | exact h.elim | omega | (rcases (show _ ∨ _ from h) with h | h <;> omega))) (hPc.fr (vv_stab _) (Fr.ext (Fr.ext (Fr.trans (Fr.ext (Fr.ext (Fr.ext (Fr.trans (Fr.ext (Fr.refl (fun k => k = b20 ∨ k = b21) w50) Eb20) Es7 (fun k _ h => (.inl h))) E26) E27) Eb21) Es8 (fun k _ h => (.inr h))) E28) E29) (fun k hk h => by have hk1 := hk.1; have hk2 := hk.2; (try dsimp only at h hk1 hk2); first | exact h.elim | omega | (rcases (show _ ∨ _ from h) with h | h <;> omega)))) ?_
 rintro _ w59 E30 ⟨sA3, cA3, sB3, cB3, rfl, hPV3, hPC3⟩
 have F59 := F58.ext E30
 have hz30 := E30.size
 refine lx_call (want rfl) (ent_func cf_51 (argsC (t_agg rfl) (argsC (t_int rfl) args0))) ((show_lit nm_w13 (pshow_ct picN9 sA3 cA3 sB3 cB3 _ Bp_B 13 ItoaT (fun k => k = 0) (fun hf hS h => tab_fr itoaG hf hS h) (fun hp v hv h1 w hw => itoa_ct (by have := isVal_1 (pic_val1 hp hv) h1; omega) (by have := isVal_1 (pic_val1 hp hv) h1; omega) w hw) w59 (hPV3.fr (vl_stab _) (Fr.refl no w59) (fun k hk h => by have hk1 := hk.1; have hk2 := hk.2; (try dsimp only at h hk1 hk2); first | exact h.elim | omega | (rcases (show _ ∨ _ from h) with h | h <;> omega))) (hPC3.fr (vv_stab _) (Fr.refl no w59) (fun k hk h => by have hk1 := hk.1; have hk2 := hk.2; (try dsimp only at h hk1 hk2); first | exact h.elim | omega | (rcases (show _ ∨ _ from h) with h | h <;> omega))) (fun k hk => by subst hk; exact Nat.lt_of_lt_of_le hTl F59.size) (tab_fr itoaG F59 (fun _ _ h => h) hTb)))) ?_
 rintro _ w60 E31 rfl
 have F60 := F59.ext E31
 have hz31 := E31.size
 refine lx_value (want rfl) (mv_tuple rfl) ?_
 refine lx_value (want rfl) (rn_extract rfl rfl) ?_
 refine lx_value (want rfl) (rn_extract rfl rfl) ?_
 refine lx_value (want rfl) (as_string rfl) ?_
 refine lx_value (want rfl) (as_int rfl) ?_
 refine lx_nil ?_
 refine wk_seq ?_
 refine wk_region ?_
 refine lx_value (want rfl) (rn_loadBlk ag_45 sz_45 rfl ((((((((Bs7.ext E26).ext E27).ext Eb21).ne Es8 (by omega)).ext E28).ext E29).ext E30).ext E31) rfl rfl) ?_
 refine lx_call (want rfl) (ent_func cf_29 (argsC (t_agg rfl) args0)) (copypic_ct picN9 sV cV sK cK _ Bp_B w60 (hPv.fr (vl_stab _) (Fr.ext (Fr.ext (Fr.ext (Fr.ext (Fr.trans (Fr.ext (Fr.ext (Fr.ext (Fr.trans (Fr.ext (Fr.refl (fun k => k = b20 ∨ k = b21) w50) Eb20) Es7 (fun k _ h => (.inl h))) E26) E27) Eb21) Es8 (fun k _ h => (.inr h))) E28) E29) E30) E31) (fun k hk h => by have hk1 := hk.1; have hk2 := hk.2; (try dsimp only at h hk1 hk2); first | exact h.elim | omega | (rcases (show _ ∨ _ from h) with h | h <;> omega))) (hPc.fr (vv_stab _) (Fr.ext (Fr.ext (Fr.ext (Fr.ext (Fr.trans (Fr.ext (Fr.ext (Fr.ext (Fr.trans (Fr.ext (Fr.refl (fun k => k = b20 ∨ k = b21) w50) Eb20) Es7 (fun k _ h => (.inl h))) E26) E27) Eb21) Es8 (fun k _ h => (.inr h))) E28) E29) E30) E31) (fun k hk h => by have hk1 := hk.1; have hk2 := hk.2; (try dsimp only at h hk1 hk2); first | exact h.elim | omega | (rcases (show _ ∨ _ from h) with h | h <;> omega)))) ?_
 rintro _ w61 E32 ⟨sA4, cA4, sB4, cB4, rfl, hPV4, hPC4⟩
 have F61 := F60.ext E32
 have hz32 := E32.size
 refine lx_call (want rfl) (ent_func cf_49 (argsC (t_agg rfl) (argsC (t_int rfl) args0))) ((str_lit nm_s3 (pStream_ct picN9 sA4 cA4 sB4 cB4 _ Bp_B 3 w61 (hPV4.fr (vl_stab _) (Fr.refl no w61) (fun k hk h => by have hk1 := hk.1; have hk2 := hk.2; (try dsimp only at h hk1 hk2); first | exact h.elim | omega | (rcases (show _ ∨ _ from h) with h | h <;> omega))) (hPC4.fr (vv_stab _) (Fr.refl no w61) (fun k hk h => by have hk1 := hk.1; have hk2 := hk.2; (try dsimp only at h hk1 hk2); first | exact h.elim | omega | (rcases (show _ ∨ _ from h) with h | h <;> omega)))))) ?_
 rintro _ w62 E33 ⟨_, _, rfl, _⟩
 have F62 := F61.ext E33
 have hz33 := E33.size
 refine lx_value (want rfl) (mv_tuple rfl) ?_
 refine lx_value (want rfl) (rn_extract rfl rfl) ?_
 refine lx_value (want rfl) (rn_extract rfl rfl) ?_
 refine lx_value (want rfl) (rn_extract rfl rfl) ?_
 refine lx_new (want rfl) (rn_alloc ze_36) ?_
 intro b22 w63 hb22 Eb22 B22 hlb22
 have F63 := F62.ext Eb22
 have hzb22 := Eb22.size
 refine lx_value (want rfl) (as_slice rfl) ?_
 refine lx_set (want rfl) sz_36 rfl (t_agg rfl) rfl rfl rfl B22 (Nat.le_of_ble_eq_true rfl) ?_
 intro w64 Es9 Bs9
 have F64 := F63.set Es9 (by omega)
 have hzs9 := Es9.size
 refine lx_value (want rfl) (as_int rfl) ?_
 refine lx_nil ?_
 refine wk_seq ?_
 have hT9 := (hT.fr (int_stab _) (Fr.trans (Fr.ext (Fr.ext (Fr.ext (Fr.ext (Fr.ext (Fr.ext (Fr.ext (Fr.trans (Fr.ext (Fr.refl (fun k => k = b21 ∨ k = b22) w54) Eb21) Es8 (fun k _ h => (.inl h))) E28) E29) E30) E31) E32) E33) Eb22) Es9 (fun k _ h => (.inr h))) (fun k hk h => by have hk1 := hk.1; have hk2 := hk.2; (try dsimp only at h hk1 hk2); first | exact h.elim | omega | (rcases (show _ ∨ _ from h) with h | h <;> omega)))
 obtain ⟨b1_, o1_, hs1, _, hc1⟩ := hT9 0 3 rfl
 obtain ⟨b2_, o2_, hs2, _, hc2⟩ := hT9 1 4 rfl
 subst hs1
 obtain ⟨rfl, rfl⟩ : b1_ = b2_ ∧ o1_ = o2_ := by injection hs2 with e; injection e with e1 e2; exact ⟨e1, e2⟩
 refine wk_mix 62 (fun kS => match kS with | 41 => .val (.agg #[.int .u8 3, .int .i64 0]) | 61 => .val (.bool true) | _ => .none) (by kernel_rfl) (by kernel_rfl) (by intro kS G hk; (try dsimp only at hk); (split at hk) <;> first | (cases hk; done) | (injection hk with hk; subst hk; exact ⟨by intro j hkj I v w w' hR hG; first | exact hG, fun ⟨_, _, _, _, hs⟩ => by (try dsimp only at hs); split at hs <;> cases hs⟩)) (by intro kS s y G hk; (try dsimp only at hk); split at hk <;> cases hk) ?_
 simp only [List.take_succ_cons, List.take_zero, List.take_nil, List.drop_succ_cons, List.drop_zero, List.drop_nil]
 refine mx_calm rfl (want rfl) (fun u51 eu51 fu51 => mv_int rfl) ?_
 refine mx_calm rfl (want rfl) (fun u52 eu52 fu52 => rn_eql rfl rfl) ?_
 refine mx_dec_t (by decide) ?_
 refine mx_calm rfl (want rfl) (fun u53 eu53 fu53 => mv_bool rfl) ?_
 refine mx_calm rfl (want_if (j := 2) (d := 191) (x := true) (y := true) rfl rfl (by decide) rfl) (fun u54 eu54 fu54 => mv_int rfl) ?_
 refine mx_calm rfl (want_if (j := 2) (d := 191) (x := true) (y := true) rfl rfl (by decide) rfl) (fun u55 eu55 fu55 => rn_eql rfl rfl) ?_
 refine mx_dec_t (by decide) ?_
 refine mx_calm rfl (want rfl) (fun u56 eu56 fu56 => pick_t rfl rfl) ?_
 refine mx_calm rfl (want rfl) (fun u57 eu57 fu57 => mv_bool rfl) ?_
 refine mx_calm rfl (want_if (j := 6) (d := 195) (x := true) (y := true) rfl rfl (by decide) rfl) (fun u58 eu58 fu58 => mv_int rfl) ?_
 refine mx_calm rfl (want_if (j := 6) (d := 195) (x := true) (y := true) rfl rfl (by decide) rfl) (fun u59 eu59 fu59 => rn_eql rfl rfl) ?_
 refine mx_dec_t (by decide) ?_
 refine mx_calm rfl (want rfl) (fun u60 eu60 fu60 => pick_t rfl rfl) ?_
 refine mx_calm rfl (want rfl) (fun u61 eu61 fu61 => mv_bool rfl) ?_
 refine mx_calm rfl (want_if (j := 10) (d := 199) (x := true) (y := true) rfl rfl (by decide) rfl) (fun u62 eu62 fu62 => mv_int rfl) ?_
 refine mx_calm rfl (want_if (j := 10) (d := 199) (x := true) (y := true) rfl rfl (by decide) rfl) (fun u63 eu63 fu63 => rn_eql rfl rfl) ?_
 refine mx_dec_t (by decide) ?_
 refine mx_calm rfl (want rfl) (fun u64 eu64 fu64 => pick_t rfl rfl) ?_
 refine mx_calm rfl (want rfl) (fun u65 eu65 fu65 => mv_bool rfl) ?_
 refine mx_calm rfl (want_if (j := 14) (d := 203) (x := true) (y := true) rfl rfl (by decide) rfl) (fun u66 eu66 fu66 => mv_int rfl) ?_
 refine mx_calm rfl (want_if (j := 14) (d := 203) (x := true) (y := true) rfl rfl (by decide) rfl) (fun u67 eu67 fu67 => rn_eql rfl rfl) ?_
 refine mx_dec_t (by decide) ?_
 refine mx_calm rfl (want rfl) (fun u68 eu68 fu68 => pick_t rfl rfl) ?_
 refine mx_calm rfl (want rfl) (fun u69 eu69 fu69 => mv_bool rfl) ?_
 refine mx_calm rfl (want_if (j := 18) (d := 207) (x := true) (y := true) rfl rfl (by decide) rfl) (fun u70 eu70 fu70 => mv_int rfl) ?_
 refine mx_calm rfl (want_if (j := 18) (d := 207) (x := true) (y := true) rfl rfl (by decide) rfl) (fun u71 eu71 fu71 => rn_eql rfl rfl) ?_
 refine mx_dec_t (by decide) ?_
 refine mx_calm rfl (want rfl) (fun u72 eu72 fu72 => pick_t rfl rfl) ?_
 refine mx_calm rfl (want rfl) (fun u73 eu73 fu73 => mv_bool rfl) ?_
 refine mx_calm rfl (want_if (j := 22) (d := 211) (x := true) (y := true) rfl rfl (by decide) rfl) (fun u74 eu74 fu74 => mv_slice rfl) ?_
 refine mx_calm rfl (want_if (j := 22) (d := 211) (x := true) (y := true) rfl rfl (by decide) rfl) (fun u75 eu75 fu75 => rn_len Tryz.underlying77 rfl) ?_
 refine mx_calm rfl (want_if (j := 22) (d := 211) (x := true) (y := true) rfl rfl (by decide) rfl) (fun u76 eu76 fu76 => rn_eql rfl rfl) ?_
 refine mx_dec_t (rfl) ?_
 refine mx_calm rfl (want rfl) (fun u77 eu77 fu77 => pick_t rfl rfl) ?_
 refine mx_calm rfl (want rfl) (fun u78 eu78 fu78 => mv_bool rfl) ?_
 refine mx_calm rfl (want_if (j := 27) (d := 216) (x := true) (y := true) rfl rfl (by decide) rfl) (fun u79 eu79 fu79 => mv_slice rfl) ?_
 refine mx_calm rfl (want_if (j := 27) (d := 216) (x := true) (y := true) rfl rfl (by decide) rfl) (fun u80 eu80 fu80 => rn_index 0 Tryz.underlying77 sz_3 rfl rfl rfl (show 0 < 2 by decide)) ?_
 refine mx_calm rfl (want_if (j := 27) (d := 216) (x := true) (y := true) rfl rfl (by decide) rfl) (fun u81 eu81 fu81 => rn_load1 ag_3 rfl (((ext_drawn _).trans' eu81).cell (fun h => h) (hc1 0 _ rfl))) ?_
 refine mx_calm rfl (want_if (j := 27) (d := 216) (x := true) (y := true) rfl rfl (by decide) rfl) (fun u82 eu82 fu82 => rn_eql rfl rfl) ?_
 refine mx_dec_t (by decide) ?_
 refine mx_calm rfl (want rfl) (fun u83 eu83 fu83 => pick_t rfl rfl) ?_
 refine mx_calm rfl (want rfl) (fun u84 eu84 fu84 => mv_bool rfl) ?_
 refine mx_calm rfl (want_if (j := 33) (d := 222) (x := true) (y := true) rfl rfl (by decide) rfl) (fun u85 eu85 fu85 => mv_slice rfl) ?_
 refine mx_calm rfl (want_if (j := 33) (d := 222) (x := true) (y := true) rfl rfl (by decide) rfl) (fun u86 eu86 fu86 => rn_index 1 Tryz.underlying77 sz_3 rfl rfl rfl (show 1 < 2 by decide)) ?_
 refine mx_calm rfl (want_if (j := 33) (d := 222) (x := true) (y := true) rfl rfl (by decide) rfl) (fun u87 eu87 fu87 => rn_load1 ag_3 rfl (((ext_drawn _).trans' eu87).cell (fun h => h) (hc2 0 _ rfl))) ?_
 refine mx_calm rfl (want_if (j := 33) (d := 222) (x := true) (y := true) rfl rfl (by decide) rfl) (fun u88 eu88 fu88 => rn_eql rfl rfl) ?_
 refine mx_dec_t (by decide) ?_
 refine mx_calm rfl (want rfl) (fun u89 eu89 fu89 => pick_t rfl rfl) ?_
 refine mx_calm rfl (want rfl) (fun u90 eu90 fu90 => mv_bool rfl) ?_
 refine mx_calm rfl (want_if (j := 39) (d := 228) (x := true) (y := true) rfl rfl (by decide) rfl) (fun u91 eu91 fu91 => rn_loadBlk ag_36 sz_36 rfl (((((((((Bs8.ext E28).ext E29).ext E30).ext E31).ext E32).ext E33).ext Eb22).ne Es9 (by omega)).ext ((ext_drawn _).trans' eu91)) rfl rfl) ?_
 refine mx_val rfl (want_if (j := 39) (d := 228) (x := true) (y := true) rfl rfl (by decide) rfl) (fun u92 eu92 fu92 => do_call (ent_func cf_66 args0) (nil_ct u92) (fun _ _ E h => ⟨E, h⟩)) ?_
 refine mx_calm rfl (want_if (j := 39) (d := 228) (x := true) (y := true) rfl rfl (by decide) rfl) (fun u93 eu93 fu93 => rn_cmpS (t_agg rfl) (t_agg rfl) (geql_36 _ _ _ _) (eql_36 _ _ _ _)) ?_
 refine mx_dec_t (⟨rfl, rfl⟩) ?_
 refine mx_calm rfl (want rfl) (fun u94 eu94 fu94 => pick_t rfl rfl) ?_
 refine mx_calm rfl (want rfl) (fun u95 eu95 fu95 => mv_bool rfl) ?_
 refine mx_calm rfl (want_if (j := 44) (d := 233) (x := true) (y := true) rfl rfl (by decide) rfl) (fun u96 eu96 fu96 => mv_int rfl) ?_
 refine mx_calm rfl (want_if (j := 44) (d := 233) (x := true) (y := true) rfl rfl (by decide) rfl) (fun u97 eu97 fu97 => rn_eql rfl rfl) ?_
 refine mx_dec_t (by decide) ?_
 refine mx_calm rfl (want rfl) (fun u98 eu98 fu98 => pick_t rfl rfl) ?_
 refine mx_calm rfl (want rfl) (fun u99 eu99 fu99 => mv_bool rfl) ?_
 refine mx_calm rfl (want_if (j := 48) (d := 237) (x := true) (y := true) rfl rfl (by decide) rfl) (fun u100 eu100 fu100 => mv_string rfl) ?_
 refine mx_calm rfl (want_if (j := 48) (d := 237) (x := true) (y := true) rfl rfl (by decide) rfl) (fun u101 eu101 fu101 => rn_eqlS rfl rfl) ?_
 refine mx_dec_t (rfl) ?_
 refine mx_calm rfl (want rfl) (fun u102 eu102 fu102 => pick_t rfl rfl) ?_
 refine mx_calm rfl (want rfl) (fun u103 eu103 fu103 => mv_bool rfl) ?_
 refine mx_calm rfl (want_if (j := 52) (d := 241) (x := true) (y := true) rfl rfl (by decide) rfl) (fun u104 eu104 fu104 => mv_int rfl) ?_
 refine mx_calm rfl (want_if (j := 52) (d := 241) (x := true) (y := true) rfl rfl (by decide) rfl) (fun u105 eu105 fu105 => rn_eql rfl rfl) ?_
 refine mx_dec_t (by decide) ?_
 refine mx_calm rfl (want rfl) (fun u106 eu106 fu106 => pick_t rfl rfl) ?_
 refine mx_calm rfl (want rfl) (fun u107 eu107 fu107 => mv_bool rfl) ?_
 refine mx_calm rfl (want_if (j := 56) (d := 245) (x := true) (y := true) rfl rfl (by decide) rfl) (fun u108 eu108 fu108 => mv_int rfl) ?_
 refine mx_calm rfl (want_if (j := 56) (d := 245) (x := true) (y := true) rfl rfl (by decide) rfl) (fun u109 eu109 fu109 => rn_eql rfl rfl) ?_
 refine mx_dec_t (by decide) ?_
 refine mx_calm rfl (want rfl) (fun u110 eu110 fu110 => pick_t rfl rfl) ?_
 refine mx_calm rfl (want rfl) (fun u111 eu111 fu111 => mv_bool rfl) ?_
 refine mx_val rfl (want_if (j := 60) (d := 249) (x := true) (y := true) rfl rfl (by decide) rfl) (fun u112 eu112 fu112 => do_call (ent_func cf_19 args0) (awake_ct u112) (fun _ _ E h => ⟨E, h⟩)) ?_
 refine mx_nil (fun w65 E34' H3 HS => ?_)
 have E34 := (ext_drawn _).trans' E34'
 have F65 := F64.ext E34
 have hz34 := E34.size
 refine lx_value (want rfl) (pick_t rfl rfl) ?_
 refine lx_value (want rfl) (as_bool rfl) ?_
 refine lx_nil ?_
 refine wk_ret ?_
 refine retR1 Tryz.results17 (.tmp (t_bool rfl)) F65 ?_
 exact rfl

end Go.Proofs.YtnhgfmbmfjmonaaGreatDoor

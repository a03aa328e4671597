/- What functions compute: cellsorder. -/
import Derived.Test.YtnhgfmbmfjmonaaGreatDoorOrderFacts
import Derived.Test.YtnhgfmbmfjmonaaGreatDoorOrderPre
import Derived.Test.YtnhgfmbmfjmonaaGreatDoorOrderWalk1
import Derived.Test.YtnhgfmbmfjmonaaGreatDoorOrderWalk14
import Derived.Test.YtnhgfmbmfjmonaaGreatDoorOrderWalk15
import Derived.Test.YtnhgfmbmfjmonaaGreatDoorOrderWalk17
import Derived.Test.YtnhgfmbmfjmonaaGreatDoorOrderWalk2
import Derived.Test.YtnhgfmbmfjmonaaGreatDoorOrderWalk4
import Derived.Test.YtnhgfmbmfjmonaaGreatDoorOrderWalk5
set_option maxRecDepth 100000
set_option linter.unusedVariables false
set_option linter.unusedSimpArgs false
namespace Go.Proofs.YtnhgfmbmfjmonaaGreatDoor
open Go Go.RowKit Go.Mix Go.Eng
set_option maxHeartbeats 2000000 in
set_option maxRecDepth 100000 in
theorem cellsorder_ct (x : List Q4) (s : Option Addr) (c : Nat) (F : Nat → Prop) (hb : q4B x) (w0 : World) (hx : Q4S F w0 s x) :
  CT Tryz.prog 9 [.slice s x.length c] w0 no (fun v _ => v = .bool true) := by
 have hpA : (thL x).Perm (thL x) := List.Perm.refl _
 have hpB : (turnA x (thL x) 256).Perm (thL x) := th_perm hb
 have hkl : (turnA x (thL x) 256).length = (thL x).length := hpB.length_eq
 have hgl1 : (gaveL [] (thL x)).length = (thL x).length := gaveL_len _ _
 have hgl2 : (gaveL [] (turnA x (thL x) 256)).length = (thL x).length := (gaveL_len _ _).trans hkl
 have hml1 := memF_len (thL x)
 have hml2 := memF_len (turnA x (thL x) 256)
 have hthI := thL_inv x
 have F0 := Fr.refl no w0
 refine ct_body Tryz.func9 rfl Tryz.ntmps9 (Nat.le_of_ble_eq_true rfl) ?_
 refine wk_seq ?_
 refine wk_region ?_
 refine lx_value (want rfl) (as_bool rfl) ?_
 refine lx_nil ?_
 refine wk_seq ?_
 refine wk_region ?_
 refine lx_call (want rfl) (ent_func cf_45 args0) (first_ct w0) ?_
 rintro _ w1 E1 ⟨sM, cM, rfl, hM0⟩
 have F1 := F0.ext E1
 have hz1 := E1.size
 refine lx_value (want rfl) (mv_tuple rfl) ?_
 refine lx_value (want rfl) (rn_extract rfl rfl) ?_
 refine lx_value (want rfl) (rn_extract rfl rfl) ?_
 refine lx_b_t (rfl) ?_
 refine lx_new (want rfl) (rn_alloc ze_24) ?_
 intro b1 w2 hb1 Eb1 B1 hlb1
 have F2 := F1.ext Eb1
 have hzb1 := Eb1.size
 refine lx_set (want rfl) sz_24 rfl (t_agg rfl) rfl rfl rfl B1 (Nat.le_of_ble_eq_true rfl) ?_
 intro w3 Es1 Bs1
 have F3 := F2.set Es1 (by omega)
 have hzs1 := Es1.size
 refine lx_value (want rfl) (as_bool rfl) ?_
 refine lx_nil ?_
 refine wk_seq ?_
 refine wk_seq ?_
 refine wk_region ?_
 refine lx_value (want rfl) (mv_bool rfl) ?_
 refine lx_value (want rfl) (rn_not rfl) ?_
 refine lx_nil ?_
 refine wk_cond_f rfl ?_
 refine wk_skip ?_
 refine wk_seq ?_
 refine wk_region ?_
 refine lx_value (want rfl) (mv_slice rfl) ?_
 refine lx_call (want rfl) (ent_func cf_46 (argsC (t_slice rfl) args0)) (things_ct x s c F hb w3 (hx.fr (q4_stab _) F3 (fun _ _ h => h))) ?_
 rintro _ w4 E2 ⟨sl, cl, rfl, hl⟩
 have F4 := F3.ext E2
 have hz2 := E2.size
 refine lx_value (want rfl) (as_slice rfl) ?_
 refine lx_nil ?_
 refine wk_seq ?_
 refine wk_region ?_
 refine lx_value (want rfl) (mv_slice rfl) ?_
 refine lx_value (want rfl) (mv_slice rfl) ?_
 refine lx_call (want rfl) (ent_func cf_47 (argsC (t_slice rfl) (argsC (t_slice rfl) args0))) (turned_ct x s c F hb (thL x) sl cl _ (th_kp hpA).2.2.1 (by rw [thL_len]; exact (thN_le x).2) w4 (hx.fr (q4_stab _) F4 (fun _ _ h => h)) (hl.fr (op_stab _) (Fr.refl no w4) (fun k hk h => by have hk := hk.2; first | exact (show False from h) | ((try dsimp only at h); omega) | (rcases (show _ ∨ _ from h) with h | h <;> omega)))) ?_
 rintro _ w5 E3 ⟨sk, ck, rfl, hk⟩
 have F5 := F4.ext E3
 have hz3 := E3.size
 refine lx_value (want rfl) (as_slice rfl) ?_
 refine lx_nil ?_
 refine wk_seq ?_
 refine wk_region ?_
 refine lx_value (want rfl) (rn_loadBlk ag_24 sz_24 rfl ((Bs1.ext E2).ext E3) rfl rfl) ?_
 refine lx_call (want rfl) (ent_func cf_20 (argsC (t_agg rfl) args0)) (((copy_ct (memF []) _ _ _ memF0_Bm w5 (hM0.fr (st_stab _) (Fr.ext (Fr.ext (Fr.trans (Fr.ext (Fr.refl (fun k => k = b1) w1) Eb1) Es1 (fun k _ h => h)) E2) E3) (fun k hk h => by have hk := hk.2; first | exact (show False from h) | ((try dsimp only at h); omega) | (rcases (show _ ∨ _ from h) with h | h <;> omega)))).mono (fun _ _ h => h) (fun _ _ _ h => h.read))) ?_
 rintro _ w6 E4 ⟨sC1, cC1, rfl, hMC1⟩
 have F6 := F5.ext E4
 have hz4 := E4.size
 refine lx_value (want rfl) (mv_slice rfl) ?_
 refine lx_call (want rfl) (ent_func cf_21 (argsC (t_slice rfl) args0)) (lawops_ct (thL x) _ _ _ w6 (hl.fr (op_stab _) (Fr.ext (Fr.ext (Fr.refl no w4) E3) E4) (fun k hk h => by have hk := hk.2; first | exact (show False from h) | ((try dsimp only at h); omega) | (rcases (show _ ∨ _ from h) with h | h <;> omega))) (by have := (th_kp hpA).2.2.1; omega)) ?_
 rintro _ w7 E5 ⟨sO1, cO1, rfl, hOO1, _⟩
 have F7 := F6.ext E5
 have hz5 := E5.size
 have hOs1 := op_own hOO1
 refine lx_call (want rfl) (ent_func cf_22 (argsC (t_agg rfl) (argsC (t_slice rfl) args0))) ((play_lit (th_playK hpA) (pPlay_ct (memF []) sC1 cC1 _ memF0_Bm (thL x) sO1 cO1 _ (th_kp hpA).2.2.2 (by have := (th_kp hpA).2.2.1; omega) w7 (hMC1.fr (st_stab _) (Fr.ext (Fr.refl no w6) E5) (fun k hk h => by have hk := hk.2; first | exact (show False from h) | ((try dsimp only at h); omega) | (rcases (show _ ∨ _ from h) with h | h <;> omega))) (hOs1.fr (op_stab _) (Fr.refl no w7) (fun k hk h => by have hk := hk.2; first | exact (show False from h) | ((try dsimp only at h); omega) | (rcases (show _ ∨ _ from h) with h | h <;> omega)))))) ?_
 rintro _ w8 E6 ⟨sR1, nR1, cR1, sg1, cg1, su1, cu1, rfl, rfl, hMg1, hVg1, hTg1⟩
 have F8 := F7.ext E6
 have hz6 := E6.size
 refine lx_value (want rfl) (mv_tuple rfl) ?_
 refine lx_value (want rfl) (rn_extract rfl rfl) ?_
 refine lx_value (want rfl) (rn_extract rfl rfl) ?_
 refine lx_value (want rfl) (rn_extract rfl rfl) ?_
 refine lx_value (want rfl) (rn_extract rfl rfl) ?_
 refine lx_value (want rfl) (rn_extract rfl rfl) ?_
 refine lx_new (want rfl) (rn_alloc ze_24) ?_
 intro b2 w9 hb2 Eb2 B2 hlb2
 have F9 := F8.ext Eb2
 have hzb2 := Eb2.size
 refine lx_set (want rfl) sz_24 rfl (t_agg rfl) rfl rfl rfl B2 (Nat.le_of_ble_eq_true rfl) ?_
 intro w10 Es2 Bs2
 have F10 := F9.set Es2 (by omega)
 have hzs2 := Es2.size
 refine lx_value (want rfl) (as_slice rfl) ?_
 refine lx_value (want rfl) (as_slice rfl) ?_
 refine lx_value (want rfl) (as_int rfl) ?_
 refine lx_value (want rfl) (as_int rfl) ?_
 refine lx_nil ?_
 refine wk_seq ?_
 refine wk_region ?_
 refine lx_value (want rfl) (rn_loadBlk ag_24 sz_24 rfl (((((((Bs1.ext E2).ext E3).ext E4).ext E5).ext E6).ext Eb2).ne Es2 (by omega)) rfl rfl) ?_
 refine lx_call (want rfl) (ent_func cf_20 (argsC (t_agg rfl) args0)) (((copy_ct (memF []) _ _ _ memF0_Bm w10 (hM0.fr (st_stab _) (Fr.trans (Fr.ext (Fr.ext (Fr.ext (Fr.ext (Fr.ext (Fr.ext (Fr.trans (Fr.ext (Fr.refl (fun k => k = b1 ∨ k = b2) w1) Eb1) Es1 (fun k _ h => (.inl h))) E2) E3) E4) E5) E6) Eb2) Es2 (fun k _ h => (.inr h))) (fun k hk h => by have hk := hk.2; first | exact (show False from h) | ((try dsimp only at h); omega) | (rcases (show _ ∨ _ from h) with h | h <;> omega)))).mono (fun _ _ h => h) (fun _ _ _ h => h.read))) ?_
 rintro _ w11 E7 ⟨sC2, cC2, rfl, hMC2⟩
 have F11 := F10.ext E7
 have hz7 := E7.size
 refine lx_value (want rfl) (mv_slice rfl) ?_
 refine lx_call (want rfl) (ent_func cf_21 (argsC (t_slice rfl) args0)) (lawops_ct (turnA x (thL x) 256) _ _ _ w11 (hk.fr (op_stab _) (Fr.ext (Fr.trans (Fr.ext (Fr.ext (Fr.ext (Fr.ext (Fr.refl (fun k => k = b2) w5) E4) E5) E6) Eb2) Es2 (fun k _ h => h)) E7) (fun k hk h => by have hk := hk.2; first | exact (show False from h) | ((try dsimp only at h); omega) | (rcases (show _ ∨ _ from h) with h | h <;> omega))) (by have := (th_kp hpB).2.2.1; omega)) ?_
 rintro _ w12 E8 ⟨sO2, cO2, rfl, hOO2, _⟩
 have F12 := F11.ext E8
 have hz8 := E8.size
 have hOs2 := op_own hOO2
 refine lx_call (want rfl) (ent_func cf_22 (argsC (t_agg rfl) (argsC (t_slice rfl) args0))) ((play_lit (th_playK hpB) (pPlay_ct (memF []) sC2 cC2 _ memF0_Bm (turnA x (thL x) 256) sO2 cO2 _ (th_kp hpB).2.2.2 (by have := (th_kp hpB).2.2.1; omega) w12 (hMC2.fr (st_stab _) (Fr.ext (Fr.refl no w11) E8) (fun k hk h => by have hk := hk.2; first | exact (show False from h) | ((try dsimp only at h); omega) | (rcases (show _ ∨ _ from h) with h | h <;> omega))) (hOs2.fr (op_stab _) (Fr.refl no w12) (fun k hk h => by have hk := hk.2; first | exact (show False from h) | ((try dsimp only at h); omega) | (rcases (show _ ∨ _ from h) with h | h <;> omega)))))) ?_
 rintro _ w13 E9 ⟨sR2, nR2, cR2, sg2, cg2, su2, cu2, rfl, rfl, hMg2, hVg2, hTg2⟩
 have F13 := F12.ext E9
 have hz9 := E9.size
 refine lx_value (want rfl) (mv_tuple rfl) ?_
 refine lx_value (want rfl) (rn_extract rfl rfl) ?_
 refine lx_value (want rfl) (rn_extract rfl rfl) ?_
 refine lx_value (want rfl) (rn_extract rfl rfl) ?_
 refine lx_value (want rfl) (rn_extract rfl rfl) ?_
 refine lx_value (want rfl) (rn_extract rfl rfl) ?_
 refine lx_new (want rfl) (rn_alloc ze_24) ?_
 intro b3 w14 hb3 Eb3 B3 hlb3
 have F14 := F13.ext Eb3
 have hzb3 := Eb3.size
 refine lx_set (want rfl) sz_24 rfl (t_agg rfl) rfl rfl rfl B3 (Nat.le_of_ble_eq_true rfl) ?_
 intro w15 Es3 Bs3
 have F15 := F14.set Es3 (by omega)
 have hzs3 := Es3.size
 refine lx_value (want rfl) (as_slice rfl) ?_
 refine lx_value (want rfl) (as_slice rfl) ?_
 refine lx_value (want rfl) (as_int rfl) ?_
 refine lx_value (want rfl) (as_int rfl) ?_
 refine lx_nil ?_
 refine wk_seq ?_
 refine wk_seq ?_
 refine wk_region ?_
 refine lx_value (want rfl) (mv_int rfl) ?_
 refine lx_value (want rfl) (rn_neq rfl rfl) ?_
 refine lx_dec_f ((fun h => h rfl)) ?_
 refine lx_value (want rfl) (mv_bool rfl) ?_
 refine lx_value (want_if (j := 2) (d := 56) (x := false) (y := false) rfl rfl (by decide) rfl) (mv_int rfl) ?_
 refine lx_value (want_if (j := 2) (d := 56) (x := false) (y := false) rfl rfl (by decide) rfl) (rn_neq rfl rfl) ?_
 refine lx_dec_f ((fun h => h rfl)) ?_
 refine lx_value (want rfl) (pick_f rfl rfl) ?_
 refine lx_value (want rfl) (mv_bool rfl) ?_
 refine lx_value (want_if (j := 6) (d := 60) (x := false) (y := false) rfl rfl (by decide) rfl) (mv_int rfl) ?_
 refine lx_value (want_if (j := 6) (d := 60) (x := false) (y := false) rfl rfl (by decide) rfl) (mv_slice rfl) ?_
 refine lx_value (want_if (j := 6) (d := 60) (x := false) (y := false) rfl rfl (by decide) rfl) (rn_len Tryz.underlying25 rfl) ?_
 refine lx_value (want_if (j := 6) (d := 60) (x := false) (y := false) rfl rfl (by decide) rfl) (rn_neq rfl rfl) ?_
 refine lx_dec_f ((by (try dsimp only); omega)) ?_
 refine lx_value (want rfl) (pick_f rfl rfl) ?_
 refine lx_value (want rfl) (mv_bool rfl) ?_
 refine lx_value (want_if (j := 12) (d := 66) (x := false) (y := false) rfl rfl (by decide) rfl) (mv_int rfl) ?_
 refine lx_value (want_if (j := 12) (d := 66) (x := false) (y := false) rfl rfl (by decide) rfl) (mv_slice rfl) ?_
 refine lx_value (want_if (j := 12) (d := 66) (x := false) (y := false) rfl rfl (by decide) rfl) (rn_len Tryz.underlying25 rfl) ?_
 refine lx_value (want_if (j := 12) (d := 66) (x := false) (y := false) rfl rfl (by decide) rfl) (rn_neq rfl rfl) ?_
 refine lx_dec_f ((by (try dsimp only); omega)) ?_
 refine lx_value (want rfl) (pick_f rfl rfl) ?_
 refine lx_value (want rfl) (mv_bool rfl) ?_
 refine lx_value (want_if (j := 18) (d := 72) (x := false) (y := false) rfl rfl (by decide) rfl) (mv_slice rfl) ?_
 refine lx_value (want_if (j := 18) (d := 72) (x := false) (y := false) rfl rfl (by decide) rfl) (rn_len Tryz.underlying30 rfl) ?_
 refine lx_value (want_if (j := 18) (d := 72) (x := false) (y := false) rfl rfl (by decide) rfl) (mv_int rfl) ?_
 refine lx_value (want_if (j := 18) (d := 72) (x := false) (y := false) rfl rfl (by decide) rfl) (rn_neq rfl rfl) ?_
 refine lx_dec_f ((by (try dsimp only); omega)) ?_
 refine lx_value (want rfl) (pick_f rfl rfl) ?_
 refine lx_value (want rfl) (mv_bool rfl) ?_
 refine lx_value (want_if (j := 24) (d := 78) (x := false) (y := false) rfl rfl (by decide) rfl) (mv_slice rfl) ?_
 refine lx_value (want_if (j := 24) (d := 78) (x := false) (y := false) rfl rfl (by decide) rfl) (rn_len Tryz.underlying30 rfl) ?_
 refine lx_value (want_if (j := 24) (d := 78) (x := false) (y := false) rfl rfl (by decide) rfl) (mv_int rfl) ?_
 refine lx_value (want_if (j := 24) (d := 78) (x := false) (y := false) rfl rfl (by decide) rfl) (rn_neq rfl rfl) ?_
 refine lx_dec_f ((by (try dsimp only); omega)) ?_
 refine lx_value (want rfl) (pick_f rfl rfl) ?_
 refine lx_value (want rfl) (mv_bool rfl) ?_
 refine lx_value (want_if (j := 30) (d := 84) (x := false) (y := false) rfl rfl (by decide) rfl) (rn_fieldAddr fa_24_0 rfl) ?_
 refine lx_value (want_if (j := 30) (d := 84) (x := false) (y := false) rfl rfl (by decide) rfl) (rn_load1Blk ag_22 rfl (((((Bs2.ext E7).ext E8).ext E9).ext Eb3).ne Es3 (by omega)) rfl) ?_
 refine lx_value (want_if (j := 30) (d := 84) (x := false) (y := false) rfl rfl (by decide) rfl) (rn_len Tryz.underlying22 rfl) ?_
 refine lx_value (want_if (j := 30) (d := 84) (x := false) (y := false) rfl rfl (by decide) rfl) (rn_fieldAddr fa_24_0 rfl) ?_
 refine lx_value (want_if (j := 30) (d := 84) (x := false) (y := false) rfl rfl (by decide) rfl) (rn_load1Blk ag_22 rfl Bs3 rfl) ?_
 refine lx_value (want_if (j := 30) (d := 84) (x := false) (y := false) rfl rfl (by decide) rfl) (rn_len Tryz.underlying22 rfl) ?_
 refine lx_value (want_if (j := 30) (d := 84) (x := false) (y := false) rfl rfl (by decide) rfl) (rn_neq rfl rfl) ?_
 refine lx_dec_f ((by (try dsimp only); omega)) ?_
 refine lx_value (want rfl) (pick_f rfl rfl) ?_
 refine lx_nil ?_
 refine wk_cond_f rfl ?_
 refine wk_skip ?_
 refine wk_seq ?_
 refine wk_seq ?_
 refine wk_region ?_
 refine lx_value (want rfl) (as_int rfl) ?_
 refine lx_nil ?_
 refine wk_block ?_
 refine wk_loopA [2, 17, 93, 94, 95, 96, 97, 98, 99, 100, 101, 102, 103, 104, 105, 106, 107, 108, 109, 110, 111, 112, 113, 114, 115, 116, 117, 118, 119, 120, 121, 122, 123, 124, 125, 126, 127, 128, 129, 130] no (fun nM ρ w => ∃ (i : Nat), nM = 4 - i ∧ ρ 17 = .int .i64 i ∧ (i ≤ 4)) _ ⟨0, rfl, rfl, by omega⟩ ?_
 rintro n1 ρ1 w16 A1 EL1 ⟨i, rfl, hs1_17, hi⟩
 have F16 := F15.ext EL1
 have hzL1 := EL1.size
 refine wk_seq ?_
 refine wk_seq ?_
 refine wk_region ?_
 refine lx_value (want rfl) (mv_int hs1_17) ?_
 refine lx_value (want rfl) (rn_fieldAddr fa_24_0 (A1.at 7 rfl rfl)) ?_
 refine lx_value (want rfl) (rn_load1Blk ag_22 rfl ((((((Bs2.ext E7).ext E8).ext E9).ext Eb3).ne Es3 (by omega)).ext EL1) rfl) ?_
 refine lx_value (want rfl) (rn_len Tryz.underlying22 rfl) ?_
 refine lx_value (want rfl) (rn_lss rfl rfl) ?_
 refine lx_dec (fun hlt => ?_) (fun hlt => ?_)
 ·
  have hi4 : i < 4 := by (try dsimp only at hlt); omega
  refine lx_nil ?_
  refine wk_cond_t rfl ?_
  refine wk_skip ?_
  refine wk_seq ?_
  refine wk_block ?_
  refine wk_seq ?_
  obtain ⟨ba, oa, rfl, _, sa1, ca1, sa2, ca2, hu1, hv1, hw1, hz1⟩ := (hMg1.fr (st_stab _) (Fr.ext (Fr.trans (Fr.ext (Fr.ext (Fr.ext (Fr.ext (Fr.trans (Fr.ext (Fr.refl (fun k => k = b2 ∨ k = b3) w8) Eb2) Es2 (fun k _ h => (.inl h))) E7) E8) E9) Eb3) Es3 (fun k _ h => (.inr h))) EL1) (fun k hk h => by have hk := hk.2; first | exact (show False from h) | ((try dsimp only at h); omega) | (rcases (show _ ∨ _ from h) with h | h <;> omega))) _ _ (memF_get (thL x) hi4)
  obtain ⟨bb, ob_, rfl, _, sb1, cb1, sb2, cb2, hu2, hv2, hw2, hz2⟩ := (hMg2.fr (st_stab _) (Fr.ext (Fr.trans (Fr.ext (Fr.refl (fun k => k = b3) w13) Eb3) Es3 (fun k _ h => h)) EL1) (fun k hk h => by have hk := hk.2; first | exact (show False from h) | ((try dsimp only at h); omega) | (rcases (show _ ∨ _ from h) with h | h <;> omega))) _ _ (memF_get (turnA x (thL x) 256) hi4)
  refine wk_mix 29 (fun kS => match kS with | 12 => .val (.bool true) | _ => .none) (by kernel_rfl) (by kernel_rfl) (by intro kS G hk; (try dsimp only at hk); (split at hk) <;> first | (cases hk; done) | (injection hk with hk; subst hk; exact ⟨by intro j hkj I v w w' hR hG; first | exact hG, fun ⟨_, _, _, _, hs⟩ => by (try dsimp only at hs); split at hs <;> cases hs⟩)) (by intro kS s y G hk; (try dsimp only at hk); split at hk <;> cases hk) ?_
  simp only [List.take_succ_cons, List.take_zero, List.take_nil, List.drop_succ_cons, List.drop_zero, List.drop_nil]
  refine mx_calm rfl (want rfl) (fun u1 eu1 fu1 => rn_fieldAddr fa_24_0 (A1.at 7 rfl rfl)) ?_
  refine mx_calm rfl (want rfl) (fun u2 eu2 fu2 => rn_load1Blk ag_22 rfl (((((((Bs2.ext E7).ext E8).ext E9).ext Eb3).ne Es3 (by omega)).ext EL1).ext ((ext_drawn _).trans' eu2)) rfl) ?_
  refine mx_calm rfl (want rfl) (fun u3 eu3 fu3 => mv_int hs1_17) ?_
  refine mx_calm rfl (want rfl) (fun u4 eu4 fu4 => rn_index i Tryz.underlying22 sz_65 rfl rfl rfl (by rw [hml1]; omega)) ?_
  refine mx_calm rfl (want rfl) (fun u5 eu5 fu5 => rn_fieldAddr fa_65_0 rfl) ?_
  refine mx_calm rfl (want rfl) (fun u6 eu6 fu6 => rn_load1 ag_30 rfl (((ext_drawn _).trans' eu6).cell (fun h => h) hu1)) ?_
  refine mx_calm rfl (want rfl) (fun u7 eu7 fu7 => rn_fieldAddr fa_24_0 (A1.at 12 rfl rfl)) ?_
  refine mx_calm rfl (want rfl) (fun u8 eu8 fu8 => rn_load1Blk ag_22 rfl ((Bs3.ext EL1).ext ((ext_drawn _).trans' eu8)) rfl) ?_
  refine mx_calm rfl (want rfl) (fun u9 eu9 fu9 => mv_int hs1_17) ?_
  refine mx_calm rfl (want rfl) (fun u10 eu10 fu10 => rn_index i Tryz.underlying22 sz_65 rfl rfl rfl (by rw [hml2]; omega)) ?_
  refine mx_calm rfl (want rfl) (fun u11 eu11 fu11 => rn_fieldAddr fa_65_0 rfl) ?_
  refine mx_calm rfl (want rfl) (fun u12 eu12 fu12 => rn_load1 ag_30 rfl (((ext_drawn _).trans' eu12).cell (fun h => h) hu2)) ?_
  refine mx_val rfl (want rfl) (fun u13 eu13 fu13 => do_call (ent_func cf_25 (argsC (t_slice rfl) (argsC (t_slice rfl) args0))) (samevalues_ct (cellsL (thL x) i) (cellsL (turnA x (thL x) 256) i) _ _ _ _ _ _ u13 (hw1.fr (vl_stab _) ((ext_drawn _).trans' eu13) (fun _ _ h => h)) (hw2.fr (vl_stab _) ((ext_drawn _).trans' eu13) (fun _ _ h => h)) (cells_le _ hi4)) (fun _ _ E h => ⟨E, (h.trans (congrArg Value.bool (decide_eq_true (cells_perm hpB hthI.once i).symm)))⟩)) ?_
  refine mx_b_t (rfl) ?_
  refine mx_calm rfl (want rfl) (fun u14 eu14 fu14 => rn_not rfl) ?_
  refine mx_calm rfl (want rfl) (fun u15 eu15 fu15 => mv_bool rfl) ?_
  refine mx_calm rfl (want_if (j := 14) (d := 114) (x := false) (y := false) rfl rfl (by decide) rfl) (fun u16 eu16 fu16 => rn_fieldAddr fa_24_0 (A1.at 7 rfl rfl)) ?_
  refine mx_calm rfl (want_if (j := 14) (d := 114) (x := false) (y := false) rfl rfl (by decide) rfl) (fun u17 eu17 fu17 => rn_load1Blk ag_22 rfl (((((((Bs2.ext E7).ext E8).ext E9).ext Eb3).ne Es3 (by omega)).ext EL1).ext ((ext_drawn _).trans' eu17)) rfl) ?_
  refine mx_calm rfl (want_if (j := 14) (d := 114) (x := false) (y := false) rfl rfl (by decide) rfl) (fun u18 eu18 fu18 => mv_int hs1_17) ?_
  refine mx_calm rfl (want_if (j := 14) (d := 114) (x := false) (y := false) rfl rfl (by decide) rfl) (fun u19 eu19 fu19 => rn_index i Tryz.underlying22 sz_65 rfl rfl rfl (by rw [hml1]; omega)) ?_
  refine mx_calm rfl (want_if (j := 14) (d := 114) (x := false) (y := false) rfl rfl (by decide) rfl) (fun u20 eu20 fu20 => rn_fieldAddr fa_65_1 rfl) ?_
  refine mx_calm rfl (want_if (j := 14) (d := 114) (x := false) (y := false) rfl rfl (by decide) rfl) (fun u21 eu21 fu21 => rn_load1 ag_63 rfl (((ext_drawn _).trans' eu21).cell (fun h => h) hv1)) ?_
  refine mx_calm rfl (want_if (j := 14) (d := 114) (x := false) (y := false) rfl rfl (by decide) rfl) (fun u22 eu22 fu22 => rn_len Tryz.underlying63 rfl) ?_
  refine mx_calm rfl (want_if (j := 14) (d := 114) (x := false) (y := false) rfl rfl (by decide) rfl) (fun u23 eu23 fu23 => rn_fieldAddr fa_24_0 (A1.at 12 rfl rfl)) ?_
  refine mx_calm rfl (want_if (j := 14) (d := 114) (x := false) (y := false) rfl rfl (by decide) rfl) (fun u24 eu24 fu24 => rn_load1Blk ag_22 rfl ((Bs3.ext EL1).ext ((ext_drawn _).trans' eu24)) rfl) ?_
  refine mx_calm rfl (want_if (j := 14) (d := 114) (x := false) (y := false) rfl rfl (by decide) rfl) (fun u25 eu25 fu25 => mv_int hs1_17) ?_
  refine mx_calm rfl (want_if (j := 14) (d := 114) (x := false) (y := false) rfl rfl (by decide) rfl) (fun u26 eu26 fu26 => rn_index i Tryz.underlying22 sz_65 rfl rfl rfl (by rw [hml2]; omega)) ?_
  refine mx_calm rfl (want_if (j := 14) (d := 114) (x := false) (y := false) rfl rfl (by decide) rfl) (fun u27 eu27 fu27 => rn_fieldAddr fa_65_1 rfl) ?_
  refine mx_calm rfl (want_if (j := 14) (d := 114) (x := false) (y := false) rfl rfl (by decide) rfl) (fun u28 eu28 fu28 => rn_load1 ag_63 rfl (((ext_drawn _).trans' eu28).cell (fun h => h) hv2)) ?_
  refine mx_calm rfl (want_if (j := 14) (d := 114) (x := false) (y := false) rfl rfl (by decide) rfl) (fun u29 eu29 fu29 => rn_len Tryz.underlying63 rfl) ?_
  refine mx_nil (fun w17 E10' H1 HS => ?_)
  have E10 := (ext_drawn _).trans' E10'
  have F17 := F16.ext E10
  have hz10 := E10.size
  refine lx_value (want_if (j := 14) (d := 114) (x := false) (y := false) rfl rfl (by decide) rfl) (rn_neq rfl rfl) ?_
  refine lx_dec_f ((by have := waits_perm hpB hthI.once i; (try dsimp only); omega)) ?_
  refine lx_value (want rfl) (pick_f rfl rfl) ?_
  refine lx_nil ?_
  refine wk_cond_f rfl ?_
  refine wk_skip ?_
  refine wk_region ?_
  refine lx_value (want rfl) (mv_int hs1_17) ?_
  refine lx_value (want rfl) (rn_add rfl rfl (by omega)) ?_
  refine lx_value (want rfl) (as_int rfl) ?_
  refine lx_nil ?_
  exact ⟨rfl, (((((((((((((((((((((((((((((((((((((((A1.up rfl _).up rfl _).up rfl _).up rfl _).up rfl _).up rfl _).up rfl _).up rfl _).up rfl _).up rfl _).up rfl _).up rfl _).up rfl _).up rfl _).up rfl _).up rfl _).up rfl _).up rfl _).up rfl _).up rfl _).up rfl _).up rfl _).up rfl _).up rfl _).up rfl _).up rfl _).up rfl _).up rfl _).up rfl _).up rfl _).up rfl _).up rfl _).up rfl _).up rfl _).up rfl _).up rfl _).up rfl _).up rfl _).up rfl _), (Fr.ext EL1 E10), _, (by omega), i + 1, rfl, rfl, by omega⟩
 ·
  refine lx_nil ?_
  refine wk_cond_f rfl ?_
  refine wk_exit ?_
  refine wk_seq ?_
  refine wk_region ?_
  refine lx_value (want rfl) (mv_slice (A1.at 5 rfl rfl)) ?_
  refine lx_value (want rfl) (mv_slice (A1.at 8 rfl rfl)) ?_
  refine lx_value (want rfl) (mv_slice (A1.at 9 rfl rfl)) ?_
  refine lx_call (want rfl) (ent_func cf_48 (argsC (t_slice rfl) (argsC (t_slice rfl) (argsC (t_slice rfl) args0)))) (given_ct (thL x) _ _ _ (gaveL [] (thL x)) _ _ _ (toldL [] (thL x)) _ _ _ (by have := (th_kp hpA).2.2.1; omega) (th_told hpA) (th_nd hpA) (th_rd hpA) w16 (hl.fr (op_stab _) (Fr.ext (Fr.trans (Fr.ext (Fr.ext (Fr.ext (Fr.ext (Fr.trans (Fr.ext (Fr.ext (Fr.ext (Fr.ext (Fr.ext (Fr.refl (fun k => k = b2 ∨ k = b3) w4) E3) E4) E5) E6) Eb2) Es2 (fun k _ h => (.inl h))) E7) E8) E9) Eb3) Es3 (fun k _ h => (.inr h))) EL1) (fun k hk h => by have hk := hk.2; first | exact (show False from h) | ((try dsimp only at h); omega) | (rcases (show _ ∨ _ from h) with h | h <;> omega))) (hVg1.fr (vl_stab _) (Fr.ext (Fr.trans (Fr.ext (Fr.ext (Fr.ext (Fr.ext (Fr.trans (Fr.ext (Fr.refl (fun k => k = b2 ∨ k = b3) w8) Eb2) Es2 (fun k _ h => (.inl h))) E7) E8) E9) Eb3) Es3 (fun k _ h => (.inr h))) EL1) (fun k hk h => by have hk := hk.2; first | exact (show False from h) | ((try dsimp only at h); omega) | (rcases (show _ ∨ _ from h) with h | h <;> omega))) (hTg1.fr (tl_stab _) (Fr.ext (Fr.trans (Fr.ext (Fr.ext (Fr.ext (Fr.ext (Fr.trans (Fr.ext (Fr.refl (fun k => k = b2 ∨ k = b3) w8) Eb2) Es2 (fun k _ h => (.inl h))) E7) E8) E9) Eb3) Es3 (fun k _ h => (.inr h))) EL1) (fun k hk h => by have hk := hk.2; first | exact (show False from h) | ((try dsimp only at h); omega) | (rcases (show _ ∨ _ from h) with h | h <;> omega)))) ?_
  rintro _ w17 E11 ⟨sE1, cE1, rfl, hE1⟩
  have F18 := F16.ext E11
  have hz11 := E11.size
  refine lx_value (want rfl) (mv_tuple rfl) ?_
  refine lx_value (want rfl) (rn_extract rfl rfl) ?_
  refine lx_value (want rfl) (rn_extract rfl rfl) ?_
  refine lx_b_t (rfl) ?_
  refine lx_value (want rfl) (as_slice rfl) ?_
  refine lx_value (want rfl) (as_bool rfl) ?_
  refine lx_nil ?_
  refine wk_seq ?_
  refine wk_region ?_
  refine lx_value (want rfl) (mv_slice (A1.at 6 rfl rfl)) ?_
  refine lx_value (want rfl) (mv_slice (A1.at 13 rfl rfl)) ?_
  refine lx_value (want rfl) (mv_slice (A1.at 14 rfl rfl)) ?_
  refine lx_call (want rfl) (ent_func cf_48 (argsC (t_slice rfl) (argsC (t_slice rfl) (argsC (t_slice rfl) args0)))) (given_ct (turnA x (thL x) 256) _ _ _ (gaveL [] (turnA x (thL x) 256)) _ _ _ (toldL [] (turnA x (thL x) 256)) _ _ _ (by have := (th_kp hpB).2.2.1; omega) (th_told hpB) (th_nd hpB) (th_rd hpB) w17 (hk.fr (op_stab _) (Fr.ext (Fr.ext (Fr.trans (Fr.ext (Fr.ext (Fr.ext (Fr.ext (Fr.trans (Fr.ext (Fr.ext (Fr.ext (Fr.ext (Fr.refl (fun k => k = b2 ∨ k = b3) w5) E4) E5) E6) Eb2) Es2 (fun k _ h => (.inl h))) E7) E8) E9) Eb3) Es3 (fun k _ h => (.inr h))) EL1) E11) (fun k hk h => by have hk := hk.2; first | exact (show False from h) | ((try dsimp only at h); omega) | (rcases (show _ ∨ _ from h) with h | h <;> omega))) (hVg2.fr (vl_stab _) (Fr.ext (Fr.ext (Fr.trans (Fr.ext (Fr.refl (fun k => k = b3) w13) Eb3) Es3 (fun k _ h => h)) EL1) E11) (fun k hk h => by have hk := hk.2; first | exact (show False from h) | ((try dsimp only at h); omega) | (rcases (show _ ∨ _ from h) with h | h <;> omega))) (hTg2.fr (tl_stab _) (Fr.ext (Fr.ext (Fr.trans (Fr.ext (Fr.refl (fun k => k = b3) w13) Eb3) Es3 (fun k _ h => h)) EL1) E11) (fun k hk h => by have hk := hk.2; first | exact (show False from h) | ((try dsimp only at h); omega) | (rcases (show _ ∨ _ from h) with h | h <;> omega)))) ?_
  rintro _ w18 E12 ⟨sE2, cE2, rfl, hE2⟩
  have F19 := F18.ext E12
  have hz12 := E12.size
  refine lx_value (want rfl) (mv_tuple rfl) ?_
  refine lx_value (want rfl) (rn_extract rfl rfl) ?_
  refine lx_value (want rfl) (rn_extract rfl rfl) ?_
  refine lx_b_t (rfl) ?_
  refine lx_value (want rfl) (as_slice rfl) ?_
  refine lx_value (want rfl) (as_bool rfl) ?_
  refine lx_nil ?_
  refine wk_seq ?_
  refine wk_region ?_
  refine lx_value (want rfl) (mv_bool rfl) ?_
  refine lx_value (want rfl) (mv_bool rfl) ?_
  refine lx_value (want_if (j := 1) (d := 146) (x := true) (y := true) rfl rfl (by decide) rfl) (mv_bool rfl) ?_
  refine lx_value (want rfl) (pick_t rfl rfl) ?_
  refine lx_value (want rfl) (mv_bool rfl) ?_
  refine lx_value (want_if (j := 4) (d := 149) (x := true) (y := true) rfl rfl (by decide) rfl) (mv_slice rfl) ?_
  refine lx_value (want_if (j := 4) (d := 149) (x := true) (y := true) rfl rfl (by decide) rfl) (mv_slice rfl) ?_
  refine lx_call (want_if (j := 4) (d := 149) (x := true) (y := true) rfl rfl (by decide) rfl) (ent_func cf_25 (argsC (t_slice rfl) (argsC (t_slice rfl) args0))) ((same24 (outL_perm hpB) (samevalues_ct _ _ _ _ _ _ _ _ w18 (hE1.fr (vl_stab _) (Fr.ext (Fr.refl no w17) E12) (fun k hk h => by have hk := hk.2; first | exact (show False from h) | ((try dsimp only at h); omega) | (rcases (show _ ∨ _ from h) with h | h <;> omega))) (hE2.fr (vl_stab _) (Fr.refl no w18) (fun k hk h => by have hk := hk.2; first | exact (show False from h) | ((try dsimp only at h); omega) | (rcases (show _ ∨ _ from h) with h | h <;> omega))) (by rw [outL_len]; decide)))) ?_
  rintro _ w19 E13 rfl
  have F20 := F19.ext E13
  have hz13 := E13.size
  refine lx_b_t (rfl) ?_
  refine lx_value (want rfl) (pick_t rfl rfl) ?_
  refine lx_value (want rfl) (mv_bool rfl) ?_
  refine lx_call (want_if (j := 9) (d := 154) (x := true) (y := true) rfl rfl (by decide) rfl) (ent_func cf_19 args0) (awake_ct w19) ?_
  rintro _ w20 E14 rfl
  have F21 := F20.ext E14
  have hz14 := E14.size
  refine lx_value (want rfl) (pick_t rfl rfl) ?_
  refine lx_value (want rfl) (as_bool rfl) ?_
  refine lx_nil ?_
  refine wk_ret ?_
  refine retR1 Tryz.results9 (.tmp (t_bool rfl)) F21 ?_
  exact rfl

end Go.Proofs.YtnhgfmbmfjmonaaGreatDoor

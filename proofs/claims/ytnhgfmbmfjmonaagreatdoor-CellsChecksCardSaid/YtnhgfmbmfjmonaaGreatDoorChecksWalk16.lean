/- What functions compute: cellschecks. -/
import Derived.Test.YtnhgfmbmfjmonaaGreatDoorChecksFacts
import Derived.Test.YtnhgfmbmfjmonaaGreatDoorChecksPre
import Derived.Test.YtnhgfmbmfjmonaaGreatDoorChecksWalk1
import Derived.Test.YtnhgfmbmfjmonaaGreatDoorChecksWalk11
import Derived.Test.YtnhgfmbmfjmonaaGreatDoorChecksWalk12
import Derived.Test.YtnhgfmbmfjmonaaGreatDoorChecksWalk13
import Derived.Test.YtnhgfmbmfjmonaaGreatDoorChecksWalk15
import Derived.Test.YtnhgfmbmfjmonaaGreatDoorChecksWalk3
import Derived.Test.YtnhgfmbmfjmonaaGreatDoorChecksWalk9
set_option maxRecDepth 100000
set_option linter.unusedVariables false
set_option linter.unusedSimpArgs false
namespace Go.Proofs.YtnhgfmbmfjmonaaGreatDoor
open Go Go.RowKit Go.Mix Go.Eng
set_option maxHeartbeats 2000000 in
theorem cellschecks_ct (m : Mem) (s : Option Addr) (c : Nat) (G : Nat → Prop) (w0 : World) (hm : MemS G w0 s m) :
    CT Tryz.prog 11 [.agg #[.slice s m.length c]] w0 no (fun v _ => v = .bool true) := by
  have F0 := Fr.refl no w0
  refine ct_body Tryz.func11 rfl Tryz.ntmps11 (Nat.le_of_ble_eq_true rfl) ?_
  refine wk_seq ?_
  refine wk_region ?_
  refine lx_new (want rfl) (rn_box (t_agg rfl)) ?_
  intro b1 w1 hb1 Eb1 B1 hlb1
  have F1 := F0.ext Eb1
  have hzb1 := Eb1.size
  refine lx_value (want rfl) (as_bool rfl) ?_
  refine lx_nil ?_
  refine wk_seq ?_
  refine wk_seq ?_
  refine wk_region ?_
  refine lx_value (want rfl) (rn_loadBlk ag_24 sz_24 rfl B1 rfl rfl) ?_
  refine lx_call (want rfl) (ent_func cf_18 (argsC (t_agg rfl) args0)) (thin_ct m _ _ _ w1 (hm.fr (st_stab _) F1 (fun _ _ h => h))) ?_
  rintro _ w2 E1 rfl
  have F2 := F1.ext E1
  have hz1 := E1.size
  refine lx_split (fun ht => ?_) (fun ht => ?_)
  ·
    have hBt := thin_Bm ht
    have hHL := holesR_len hBt
    refine lx_value (want rfl) (rn_not rfl) ?_
    refine lx_nil ?_
    refine wk_cond_f rfl ?_
    refine wk_skip ?_
    refine wk_seq ?_
    refine wk_region ?_
    refine lx_value (want rfl) (rn_loadBlk ag_24 sz_24 rfl (B1.ext E1) rfl rfl) ?_
    refine lx_call (want rfl) (ent_func cf_20 (argsC (t_agg rfl) args0)) (((copy_ct m _ _ _ hBt w2 (hm.fr (st_stab _) F2 (fun _ _ h => h))).mono (fun _ _ h => h) (fun _ _ _ h => h.read))) ?_
    rintro _ w3 E2 ⟨sC1, cC1, rfl, hMC1⟩
    have F3 := F2.ext E2
    have hz2 := E2.size
    refine lx_new (want rfl) (rn_alloc ze_24) ?_
    intro b2 w4 hb2 Eb2 B2 hlb2
    have F4 := F3.ext Eb2
    have hzb2 := Eb2.size
    refine lx_set (want rfl) sz_24 rfl (t_agg rfl) rfl rfl rfl B2 (Nat.le_of_ble_eq_true rfl) ?_
    intro w5 Es1 Bs1
    have F5 := F4.set Es1 (by omega)
    have hzs1 := Es1.size
    refine lx_nil ?_
    refine wk_seq ?_
    have hMC18 := (hMC1.fr (st_stab _) (Fr.trans (Fr.ext (Fr.refl (fun k => k = b2) w3) Eb2) Es1 (fun k _ h => h)) (fun k hk h => by have hk := hk.2; first | exact (show False from h) | ((try dsimp only at h); omega) | (rcases (show _ ∨ _ from h) with h | h <;> omega)))
    refine wk_mix 5 (fun kS => match kS with | 1 => .val (.int .i64 (chkE m)) | 3 => .any (fun I v w => HolI I w v (holesR m)) | _ => .none) (by kernel_rfl) (by kernel_rfl) (by intro kS G hk; (try dsimp only at hk); (split at hk) <;> first | (cases hk; done) | (injection hk with hk; subst hk; exact ⟨by intro j hkj I v w w' hR hG; first | exact hG | (exact hG.fr hR (fun _ _ h => h)), fun ⟨_, _, _, _, hs⟩ => by (try dsimp only at hs); split at hs <;> cases hs⟩)) (by intro kS s y G hk; (try dsimp only at hk); split at hk <;> cases hk) ?_
    simp only [List.take_succ_cons, List.take_zero, List.take_nil, List.drop_succ_cons, List.drop_zero, List.drop_nil]
    refine mx_calm rfl (want rfl) (fun u1 eu1 fu1 => rn_loadBlk ag_24 sz_24 rfl (Bs1.ext ((ext_drawn _).trans' eu1)) rfl rfl) ?_
    refine mx_val rfl (want rfl) (fun u2 eu2 fu2 => do_call (ent_func cf_53 (argsC (t_agg rfl) args0)) (pcheck_ct m sC1 cC1 _ hBt u2 (hMC18.fr (st_stab _) ((ext_drawn _).trans' eu2) (fun _ _ h => h))) (fun _ _ E h => ⟨E, h⟩)) ?_
    refine mx_calm rfl (want rfl) (fun u3 eu3 fu3 => rn_loadBlk ag_24 sz_24 rfl (Bs1.ext ((ext_drawn _).trans' eu3)) rfl rfl) ?_
    refine mx_any rfl rfl (want rfl) (fun u4 eu4 fu4 => do_call (ent_func cf_54 (argsC (t_agg rfl) args0)) (pholes_ct m sC1 cC1 _ hBt u4 (hMC18.fr (st_stab _) ((ext_drawn _).trans' eu4) (fun _ _ h => h))) (fun v w' E h => ⟨E, h⟩)) (fun I17 v17 => ?_)
    refine mx_calm rfl (want rfl) (fun u5 eu5 fu5 => rn_loadBlk ag_24 sz_24 rfl (((((B1.ext E1).ext E2).ext Eb2).ne Es1 (by omega)).ext ((ext_drawn _).trans' eu5)) rfl rfl) ?_
    refine mx_nil (fun w6 E3' H1 HS => ?_)
    have E3 := (ext_drawn _).trans' E3'
    have F6 := F5.ext E3
    have hz3 := E3.size
    have hI17 := (HS.1 17 _ rfl).2
    simp only at hI17
    have g17 := H1 17 _ rfl
    obtain ⟨sH, cH, rfl, hH⟩ := g17
    refine lx_call (want rfl) (ent_func cf_55 (argsC (t_agg rfl) args0)) (refholes_ct m _ _ _ hBt w6 (hm.fr (st_stab _) F6 (fun _ _ h => h))) ?_
    rintro _ w7 E4 ⟨sH2, cH2, rfl, hH2⟩
    have F7 := F6.ext E4
    have hz4 := E4.size
    refine lx_value (want rfl) (as_int rfl) ?_
    refine lx_value (want rfl) (as_slice rfl) ?_
    refine lx_value (want rfl) (as_slice rfl) ?_
    refine lx_nil ?_
    refine wk_seq ?_
    refine wk_seq ?_
    refine wk_region ?_
    refine lx_value (want rfl) (mv_int rfl) ?_
    refine lx_value (want rfl) (rn_loadBlk ag_24 sz_24 rfl ((((((B1.ext E1).ext E2).ext Eb2).ne Es1 (by omega)).ext E3).ext E4) rfl rfl) ?_
    refine lx_call (want rfl) (ent_func cf_56 (argsC (t_agg rfl) args0)) (refcheck_ct m _ _ _ hBt w7 (hm.fr (st_stab _) F7 (fun _ _ h => h))) ?_
    rintro _ w8 E5 rfl
    have F8 := F7.ext E5
    have hz5 := E5.size
    refine lx_value (want rfl) (rn_neq rfl rfl) ?_
    refine lx_dec_f ((fun h => h rfl)) ?_
    refine lx_value (want rfl) (mv_bool rfl) ?_
    refine lx_value (want_if (j := 4) (d := 24) (x := false) (y := false) rfl rfl (by decide) rfl) (mv_slice rfl) ?_
    refine lx_value (want_if (j := 4) (d := 24) (x := false) (y := false) rfl rfl (by decide) rfl) (rn_len Tryz.underlying84 rfl) ?_
    refine lx_value (want_if (j := 4) (d := 24) (x := false) (y := false) rfl rfl (by decide) rfl) (mv_slice rfl) ?_
    refine lx_value (want_if (j := 4) (d := 24) (x := false) (y := false) rfl rfl (by decide) rfl) (rn_len Tryz.underlying84 rfl) ?_
    refine lx_value (want_if (j := 4) (d := 24) (x := false) (y := false) rfl rfl (by decide) rfl) (rn_neq rfl rfl) ?_
    refine lx_dec_f ((fun h => h rfl)) ?_
    refine lx_value (want rfl) (pick_f rfl rfl) ?_
    refine lx_value (want rfl) (mv_bool rfl) ?_
    refine lx_value (want_if (j := 11) (d := 31) (x := false) (y := false) rfl rfl (by decide) rfl) (rn_loadBlk ag_24 sz_24 rfl (((Bs1.ext E3).ext E4).ext E5) rfl rfl) ?_
    refine lx_value (want_if (j := 11) (d := 31) (x := false) (y := false) rfl rfl (by decide) rfl) (rn_loadBlk ag_24 sz_24 rfl (((((((B1.ext E1).ext E2).ext Eb2).ne Es1 (by omega)).ext E3).ext E4).ext E5) rfl rfl) ?_
    refine lx_call (want_if (j := 11) (d := 31) (x := false) (y := false) rfl rfl (by decide) rfl) (ent_func cf_24 (argsC (t_agg rfl) (argsC (t_agg rfl) args0))) (samemem_ct m _ _ _ m _ _ _ hBt w8 (hMC1.fr (st_stab _) (Fr.ext (Fr.ext (Fr.ext (Fr.trans (Fr.ext (Fr.refl (fun k => k = b2) w3) Eb2) Es1 (fun k _ h => h)) E3) E4) E5) (fun k hk h => by have hk := hk.2; first | exact (show False from h) | ((try dsimp only at h); omega) | (rcases (show _ ∨ _ from h) with h | h <;> omega))) (hm.fr (st_stab _) F8 (fun _ _ h => h))) ?_
    rintro _ w9 E6 rfl
    have F9 := F8.ext E6
    have hz6 := E6.size
    refine lx_b_t (decide_eq_true rfl) ?_
    refine lx_value (want_if (j := 11) (d := 31) (x := false) (y := false) rfl rfl (by decide) rfl) (rn_not rfl) ?_
    refine lx_value (want rfl) (pick_f rfl rfl) ?_
    refine lx_nil ?_
    refine wk_cond_f rfl ?_
    refine wk_skip ?_
    refine wk_seq ?_
    refine wk_seq ?_
    refine wk_region ?_
    refine lx_value (want rfl) (as_int rfl) ?_
    refine lx_nil ?_
    refine wk_block ?_
    refine wk_loopA [2, 7, 37, 38, 39, 40, 41, 42, 43, 44, 45, 46, 47, 48, 49, 50, 51] no (fun nM ρ w => ∃ (i : Nat), nM = (holesR m).length - i ∧ ρ 7 = .int .i64 i ∧ (i ≤ (holesR m).length)) _ ⟨0, rfl, rfl, by omega⟩ ?_
    rintro n1 ρ1 w10 A1 EL1 ⟨i, rfl, hs1_7, hi⟩
    have F10 := F9.ext EL1
    have hzL1 := EL1.size
    refine wk_seq ?_
    refine wk_seq ?_
    refine wk_region ?_
    refine lx_value (want rfl) (mv_int hs1_7) ?_
    refine lx_value (want rfl) (mv_slice (A1.at 5 rfl rfl)) ?_
    refine lx_value (want rfl) (rn_len Tryz.underlying84 rfl) ?_
    refine lx_value (want rfl) (rn_lss rfl rfl) ?_
    refine lx_dec (fun hlt => ?_) (fun hlt => ?_)
    ·
      refine lx_nil ?_
      refine wk_cond_t rfl ?_
      refine wk_skip ?_
      refine wk_seq ?_
      refine wk_block ?_
      refine wk_seq ?_
      have hH9 := (hH.fr (rd_stab _) (Fr.ext (Fr.ext (Fr.ext (Fr.ext (Fr.refl no w6) E4) E5) E6) EL1) (fun k hk h => by have hk := hk.2; first | exact (show False from h) | ((try dsimp only at h); omega) | (rcases (show _ ∨ _ from h) with h | h <;> omega)))
      have hH29 := (hH2.fr (rd_stab _) (Fr.ext (Fr.ext (Fr.ext (Fr.refl no w7) E5) E6) EL1) (fun k hk h => by have hk := hk.2; first | exact (show False from h) | ((try dsimp only at h); omega) | (rcases (show _ ∨ _ from h) with h | h <;> omega)))
      obtain ⟨r, hr⟩ := getx hlt
      obtain ⟨b1x, o1x, rfl, _, hc1⟩ := hH9 i r hr
      obtain ⟨b2x, o2x, rfl, _, hc2⟩ := hH29 i r hr
      refine wk_mix 8 (fun _ => .none) (by kernel_rfl) (by kernel_rfl) (fun kS G hk => by cases hk) (fun kS s y G hk => by cases hk) ?_
      simp only [List.take_succ_cons, List.take_zero, List.take_nil, List.drop_succ_cons, List.drop_zero, List.drop_nil]
      refine mx_calm rfl (want rfl) (fun u6 eu6 fu6 => mv_slice (A1.at 5 rfl rfl)) ?_
      refine mx_calm rfl (want rfl) (fun u7 eu7 fu7 => mv_int hs1_7) ?_
      refine mx_calm rfl (want rfl) (fun u8 eu8 fu8 => rn_index _ Tryz.underlying84 sz_86 rfl rfl rfl (by omega)) ?_
      refine mx_calm rfl (want rfl) (fun u9 eu9 fu9 => rn_loadN (vs := rdC r) ag_86 sz_86 rfl rfl (fun j u hj => ((ext_drawn _).trans' eu9).cell (fun h => h) (hc1 j u hj))) ?_
      refine mx_calm rfl (want rfl) (fun u10 eu10 fu10 => mv_slice (A1.at 6 rfl rfl)) ?_
      refine mx_calm rfl (want rfl) (fun u11 eu11 fu11 => mv_int hs1_7) ?_
      refine mx_calm rfl (want rfl) (fun u12 eu12 fu12 => rn_index _ Tryz.underlying84 sz_86 rfl rfl rfl (by omega)) ?_
      refine mx_calm rfl (want rfl) (fun u13 eu13 fu13 => rn_loadN (vs := rdC r) ag_86 sz_86 rfl rfl (fun j u hj => ((ext_drawn _).trans' eu13).cell (fun h => h) (hc2 j u hj))) ?_
      refine mx_nil (fun w11 E7' H2 HS => ?_)
      have E7 := (ext_drawn _).trans' E7'
      have F11 := F10.ext E7
      have hz7 := E7.size
      refine lx_value (want rfl) (rn_cmpS (t_agg rfl) (t_agg rfl) (gneq_86 _ _ _ _) (neq_86 _ _ _ _)) ?_
      refine lx_dec_f (by simp) ?_
      refine lx_nil ?_
      refine wk_cond_f rfl ?_
      refine wk_skip ?_
      refine wk_region ?_
      refine lx_value (want rfl) (mv_int hs1_7) ?_
      refine lx_value (want rfl) (rn_add rfl rfl (by omega)) ?_
      refine lx_value (want rfl) (as_int rfl) ?_
      refine lx_nil ?_
      exact ⟨rfl, ((((((((((((((((A1.up rfl _).up rfl _).up rfl _).up rfl _).up rfl _).up rfl _).up rfl _).up rfl _).up rfl _).up rfl _).up rfl _).up rfl _).up rfl _).up rfl _).up rfl _).up rfl _), (Fr.ext EL1 E7), _, (by omega), i + 1, rfl, rfl, by omega⟩
    ·
      refine lx_nil ?_
      refine wk_cond_f rfl ?_
      refine wk_exit ?_
      refine wk_seq ?_
      refine wk_region ?_
      refine lx_call (want rfl) (ent_func cf_19 args0) (awake_ct w10) ?_
      rintro _ w11 E8 rfl
      have F12 := F10.ext E8
      have hz8 := E8.size
      refine lx_value (want rfl) (as_bool rfl) ?_
      refine lx_nil ?_
      refine wk_ret ?_
      refine retR1 Tryz.results11 (.tmp (t_bool rfl)) F12 ?_
      exact rfl
  ·
    refine lx_value (want rfl) (rn_not rfl) ?_
    refine lx_nil ?_
    refine wk_cond_t rfl ?_
    refine wk_seq ?_
    refine wk_region ?_
    refine lx_call (want rfl) (ent_func cf_19 args0) (awake_ct w2) ?_
    rintro _ w3 E9 rfl
    have F13 := F2.ext E9
    have hz9 := E9.size
    refine lx_value (want rfl) (as_bool rfl) ?_
    refine lx_nil ?_
    refine wk_ret ?_
    refine retR1 Tryz.results11 (.tmp (t_bool rfl)) F13 ?_
    exact rfl

end Go.Proofs.YtnhgfmbmfjmonaaGreatDoor

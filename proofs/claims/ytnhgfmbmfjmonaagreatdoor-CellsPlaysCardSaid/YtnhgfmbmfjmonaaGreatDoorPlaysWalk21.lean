/- What functions compute: cellsplays. -/
import Derived.Test.YtnhgfmbmfjmonaaGreatDoorPlaysFacts
import Derived.Test.YtnhgfmbmfjmonaaGreatDoorPlaysPre
import Derived.Test.YtnhgfmbmfjmonaaGreatDoorPlaysWalk1
import Derived.Test.YtnhgfmbmfjmonaaGreatDoorPlaysWalk17
import Derived.Test.YtnhgfmbmfjmonaaGreatDoorPlaysWalk2
import Derived.Test.YtnhgfmbmfjmonaaGreatDoorPlaysWalk20
import Derived.Test.YtnhgfmbmfjmonaaGreatDoorPlaysWalk4
set_option maxRecDepth 100000
set_option linter.unusedVariables false
set_option linter.unusedSimpArgs false
namespace Go.Proofs.YtnhgfmbmfjmonaaGreatDoor
open Go Go.RowKit Go.Mix Go.Eng
set_option maxHeartbeats 2000000 in
set_option maxRecDepth 100000 in
theorem cellsplays_ct (m : Mem) (s : Option Addr) (c : Nat) (G : Nat → Prop) (l : List Op) (sl : Option Addr) (cl : Nat) (H : Nat → Prop) (hkd : ∀ o ∈ l, 0 ≤ o.kind ∧ o.kind < 256) (w0 : World) (hm : MemS G w0 s m) (hl : OpS H w0 sl l) :
    CT Tryz.prog 3 [.agg #[.slice s m.length c], .slice sl l.length cl] w0 no (fun v _ => v = .bool true) := by
  have F0 := Fr.refl no w0
  refine ct_body Tryz.func3 rfl Tryz.ntmps3 (Nat.le_of_ble_eq_true rfl) ?_
  refine wk_seq ?_
  refine wk_region ?_
  refine lx_new (want rfl) (rn_box (t_agg rfl)) ?_
  intro b1 w1 hb1 Eb1 B1 hlb1
  have F1 := F0.ext Eb1
  have hzb1 := Eb1.size
  refine lx_value (want rfl) (as_bool rfl) ?_
  refine lx_nil ?_
  refine wk_seq ?_
  refine wk_seq ?_
  refine wk_region ?_
  refine lx_value (want rfl) (rn_loadBlk ag_24 sz_24 rfl B1 rfl rfl) ?_
  refine lx_call (want rfl) (ent_func cf_18 (argsC (t_agg rfl) args0)) (thin_ct m _ _ _ w1 (hm.fr (st_stab _) F1 (fun _ _ h => h))) ?_
  rintro _ w2 E1 rfl
  have F2 := F1.ext E1
  have hz1 := E1.size
  refine lx_split (fun ht => ?_) (fun ht => ?_)
  ·
    have hBt := thin_Bm ht
    refine lx_value (want rfl) (rn_not rfl) ?_
    refine lx_value (want rfl) (mv_bool rfl) ?_
    refine lx_value (want_if (j := 3) (d := 21) (x := false) (y := false) rfl rfl (by decide) rfl) (mv_slice rfl) ?_
    refine lx_value (want_if (j := 3) (d := 21) (x := false) (y := false) rfl rfl (by decide) rfl) (rn_len Tryz.underlying25 rfl) ?_
    refine lx_value (want_if (j := 3) (d := 21) (x := false) (y := false) rfl rfl (by decide) rfl) (rn_gtr rfl rfl) ?_
    refine lx_dec (fun h30 => ?_) (fun h30 => ?_)
    ·
      refine lx_value (want rfl) (pick_f rfl rfl) ?_
      refine lx_nil ?_
      refine wk_cond_t rfl ?_
      refine wk_seq ?_
      refine wk_region ?_
      refine lx_call (want rfl) (ent_func cf_19 args0) (awake_ct w2) ?_
      rintro _ w3 E2 rfl
      have F3 := F2.ext E2
      have hz2 := E2.size
      refine lx_value (want rfl) (as_bool rfl) ?_
      refine lx_nil ?_
      refine wk_ret ?_
      refine retR1 Tryz.results3 (.tmp (t_bool rfl)) F3 ?_
      exact rfl
    ·
      have hbd := playR_bd (m := m) (l := l) (by omega)
      refine lx_value (want rfl) (pick_f rfl rfl) ?_
      refine lx_nil ?_
      refine wk_cond_f rfl ?_
      refine wk_skip ?_
      refine wk_seq ?_
      refine wk_region ?_
      refine lx_value (want rfl) (rn_loadBlk ag_24 sz_24 rfl (B1.ext E1) rfl rfl) ?_
      refine lx_call (want rfl) (ent_func cf_20 (argsC (t_agg rfl) args0)) (((copy_ct m _ _ _ hBt w2 (hm.fr (st_stab _) F2 (fun _ _ h => h))).mono (fun _ _ h => h) (fun _ _ _ h => h.read))) ?_
      rintro _ w3 E3 ⟨sC1, cC1, rfl, hMC1⟩
      have F4 := F2.ext E3
      have hz3 := E3.size
      refine lx_value (want rfl) (mv_slice rfl) ?_
      refine lx_call (want rfl) (ent_func cf_21 (argsC (t_slice rfl) args0)) (lawops_ct l _ _ _ w3 (hl.fr (op_stab _) F4 (fun _ _ h => h)) (by omega)) ?_
      rintro _ w4 E4 ⟨sO, cO, rfl, hOO, _⟩
      have F5 := F4.ext E4
      have hz4 := E4.size
      have hOs := op_own hOO
      refine lx_new (want rfl) (rn_alloc ze_24) ?_
      intro b2 w5 hb2 Eb2 B2 hlb2
      have F6 := F5.ext Eb2
      have hzb2 := Eb2.size
      refine lx_set (want rfl) sz_24 rfl (t_agg rfl) rfl rfl rfl B2 (Nat.le_of_ble_eq_true rfl) ?_
      intro w6 Es1 Bs1
      have F7 := F6.set Es1 (by omega)
      have hzs1 := Es1.size
      refine lx_value (want rfl) (as_slice rfl) ?_
      refine lx_nil ?_
      refine wk_seq ?_
      refine wk_region ?_
      refine lx_value (want rfl) (rn_loadBlk ag_24 sz_24 rfl Bs1 rfl rfl) ?_
      refine lx_value (want rfl) (mv_slice rfl) ?_
      refine lx_call (want rfl) (ent_func cf_22 (argsC (t_agg rfl) (argsC (t_slice rfl) args0))) (pPlay_ct m sC1 cC1 _ hBt l sO cO _ hkd (by omega) w6 (hMC1.fr (st_stab _) (Fr.trans (Fr.ext (Fr.ext (Fr.refl (fun k => k = b2) w3) E4) Eb2) Es1 (fun k _ h => h)) (fun k hk h => by have hk := hk.2; first | exact (show False from h) | ((try dsimp only at h); omega) | (rcases (show _ ∨ _ from h) with h | h <;> omega))) (hOs.fr (op_stab _) (Fr.trans (Fr.ext (Fr.refl (fun k => k = b2) w4) Eb2) Es1 (fun k _ h => h)) (fun k hk h => by have hk := hk.2; first | exact (show False from h) | ((try dsimp only at h); omega) | (rcases (show _ ∨ _ from h) with h | h <;> omega)))) ?_
      rintro _ w7 E5 ⟨sR, nR, cR, sg, cg, st, ct, rfl, rfl, hMg, hVg, hTg⟩
      have F8 := F7.ext E5
      have hz5 := E5.size
      refine lx_value (want rfl) (mv_tuple rfl) ?_
      refine lx_value (want rfl) (rn_extract rfl rfl) ?_
      refine lx_value (want rfl) (rn_extract rfl rfl) ?_
      refine lx_value (want rfl) (rn_extract rfl rfl) ?_
      refine lx_value (want rfl) (rn_extract rfl rfl) ?_
      refine lx_value (want rfl) (rn_extract rfl rfl) ?_
      refine lx_new (want rfl) (rn_alloc ze_24) ?_
      intro b3 w8 hb3 Eb3 B3 hlb3
      have F9 := F8.ext Eb3
      have hzb3 := Eb3.size
      refine lx_set (want rfl) sz_24 rfl (t_agg rfl) rfl rfl rfl B3 (Nat.le_of_ble_eq_true rfl) ?_
      intro w9 Es2 Bs2
      have F10 := F9.set Es2 (by omega)
      have hzs2 := Es2.size
      refine lx_value (want rfl) (as_slice rfl) ?_
      refine lx_value (want rfl) (as_slice rfl) ?_
      refine lx_value (want rfl) (as_int rfl) ?_
      refine lx_value (want rfl) (as_int rfl) ?_
      refine lx_nil ?_
      refine wk_seq ?_
      refine wk_region ?_
      refine lx_value (want rfl) (rn_loadBlk ag_24 sz_24 rfl ((((((((B1.ext E1).ext E3).ext E4).ext Eb2).ne Es1 (by omega)).ext E5).ext Eb3).ne Es2 (by omega)) rfl rfl) ?_
      refine lx_call (want rfl) (ent_func cf_20 (argsC (t_agg rfl) args0)) (((copy_ct m _ _ _ hBt w9 (hm.fr (st_stab _) F10 (fun _ _ h => h))).mono (fun _ _ h => h) (fun _ _ _ h => h.read))) ?_
      rintro _ w10 E6 ⟨sC2, cC2, rfl, hMC2⟩
      have F11 := F10.ext E6
      have hz6 := E6.size
      refine lx_value (want rfl) (mv_slice rfl) ?_
      refine lx_call (want rfl) (ent_func cf_23 (argsC (t_agg rfl) (argsC (t_slice rfl) args0))) (refplay_ct m sC2 cC2 _ hBt l sl cl H hkd (by omega) w10 (hMC2.fr (st_stab _) (Fr.refl no w10) (fun k hk h => by have hk := hk.2; first | exact (show False from h) | ((try dsimp only at h); omega) | (rcases (show _ ∨ _ from h) with h | h <;> omega))) (hl.fr (op_stab _) F11 (fun _ _ h => h))) ?_
      rintro _ w11 E7 ⟨sR2, nR2, cR2, sg2, cg2, st2, ct2, rfl, rfl, hMg2, hVg2, hTg2⟩
      have F12 := F11.ext E7
      have hz7 := E7.size
      refine lx_value (want rfl) (mv_tuple rfl) ?_
      refine lx_value (want rfl) (rn_extract rfl rfl) ?_
      refine lx_value (want rfl) (rn_extract rfl rfl) ?_
      refine lx_value (want rfl) (rn_extract rfl rfl) ?_
      refine lx_value (want rfl) (rn_extract rfl rfl) ?_
      refine lx_value (want rfl) (rn_extract rfl rfl) ?_
      refine lx_new (want rfl) (rn_alloc ze_24) ?_
      intro b4 w12 hb4 Eb4 B4 hlb4
      have F13 := F12.ext Eb4
      have hzb4 := Eb4.size
      refine lx_set (want rfl) sz_24 rfl (t_agg rfl) rfl rfl rfl B4 (Nat.le_of_ble_eq_true rfl) ?_
      intro w13 Es3 Bs3
      have F14 := F13.set Es3 (by omega)
      have hzs3 := Es3.size
      refine lx_value (want rfl) (as_slice rfl) ?_
      refine lx_value (want rfl) (as_slice rfl) ?_
      refine lx_value (want rfl) (as_int rfl) ?_
      refine lx_value (want rfl) (as_int rfl) ?_
      refine lx_nil ?_
      refine wk_seq ?_
      refine wk_seq ?_
      refine wk_region ?_
      refine lx_value (want rfl) (as_int rfl) ?_
      refine lx_nil ?_
      refine wk_block ?_
      refine wk_loopA [4, 17, 50, 51, 52, 53, 54, 55, 56, 57, 58, 59, 60, 61, 62, 63, 64] no (fun nM ρ w => ∃ (i : Nat), nM = l.length - i ∧ ρ 17 = .int .i64 i ∧ (i ≤ l.length)) _ ⟨0, rfl, rfl, by omega⟩ ?_
      rintro n1 ρ1 w14 A1 EL1 ⟨i, rfl, hs1_17, hi⟩
      have F15 := F14.ext EL1
      have hzL1 := EL1.size
      refine wk_seq ?_
      refine wk_seq ?_
      refine wk_region ?_
      refine lx_value (want rfl) (mv_int hs1_17) ?_
      refine lx_value (want rfl) (mv_slice (A1.at 1 rfl rfl)) ?_
      refine lx_value (want rfl) (rn_len Tryz.underlying25 rfl) ?_
      refine lx_value (want rfl) (rn_lss rfl rfl) ?_
      refine lx_dec (fun hlt => ?_) (fun hlt => ?_)
      ·
        refine lx_nil ?_
        refine wk_cond_t rfl ?_
        refine wk_skip ?_
        refine wk_seq ?_
        refine wk_block ?_
        refine wk_seq ?_
        have hOs9 := (hOs.fr (op_stab _) (Fr.ext (Fr.trans (Fr.ext (Fr.ext (Fr.ext (Fr.trans (Fr.ext (Fr.ext (Fr.trans (Fr.ext (Fr.refl (fun k => k = b2 ∨ k = b3 ∨ k = b4) w4) Eb2) Es1 (fun k _ h => (.inl h))) E5) Eb3) Es2 (fun k _ h => (.inr (.inl h)))) E6) E7) Eb4) Es3 (fun k _ h => (.inr (.inr h)))) EL1) (fun k hk h => by have hk := hk.2; first | exact (show False from h) | ((try dsimp only at h); omega) | (rcases (show _ ∨ _ from h) with h | h <;> omega)))
        have hl9 := (hl.fr (op_stab _) F15 (fun _ _ h => h))
        obtain ⟨o, ho⟩ := getx hlt
        obtain ⟨b1x, o1x, rfl, _, hc1⟩ := hOs9 i o ho
        obtain ⟨b2x, o2x, rfl, _, hc2⟩ := hl9 i o ho
        refine wk_mix 8 (fun _ => .none) (by kernel_rfl) (by kernel_rfl) (fun kS G hk => by cases hk) (fun kS s y G hk => by cases hk) ?_
        simp only [List.take_succ_cons, List.take_zero, List.take_nil, List.drop_succ_cons, List.drop_zero, List.drop_nil]
        refine mx_calm rfl (want rfl) (fun u1 eu1 fu1 => mv_slice (A1.at 6 rfl rfl)) ?_
        refine mx_calm rfl (want rfl) (fun u2 eu2 fu2 => mv_int hs1_17) ?_
        refine mx_calm rfl (want rfl) (fun u3 eu3 fu3 => rn_index _ Tryz.underlying25 sz_38 rfl rfl rfl (by omega)) ?_
        refine mx_calm rfl (want rfl) (fun u4 eu4 fu4 => rn_loadN (vs := opC o) ag_38 sz_38 rfl rfl (fun j u hj => ((ext_drawn _).trans' eu4).cell (fun h => h) (hc1 j u hj))) ?_
        refine mx_calm rfl (want rfl) (fun u5 eu5 fu5 => mv_slice (A1.at 1 rfl rfl)) ?_
        refine mx_calm rfl (want rfl) (fun u6 eu6 fu6 => mv_int hs1_17) ?_
        refine mx_calm rfl (want rfl) (fun u7 eu7 fu7 => rn_index _ Tryz.underlying25 sz_38 rfl rfl rfl (by omega)) ?_
        refine mx_calm rfl (want rfl) (fun u8 eu8 fu8 => rn_loadN (vs := opC o) ag_38 sz_38 rfl rfl (fun j u hj => ((ext_drawn _).trans' eu8).cell (fun h => h) (hc2 j u hj))) ?_
        refine mx_nil (fun w15 E8' H1 HS => ?_)
        have E8 := (ext_drawn _).trans' E8'
        have F16 := F15.ext E8
        have hz8 := E8.size
        refine lx_value (want rfl) (rn_cmpS (t_agg rfl) (t_agg rfl) (gneq_38 _ _ _ _ _ _ _ _ _ _ _ _ _ _ _ _) (neq_38 _ _ _ _ _ _ _ _ _ _ _ _ _ _ _ _)) ?_
        refine lx_dec_f (by simp) ?_
        refine lx_nil ?_
        refine wk_cond_f rfl ?_
        refine wk_skip ?_
        refine wk_region ?_
        refine lx_value (want rfl) (mv_int hs1_17) ?_
        refine lx_value (want rfl) (rn_add rfl rfl (by omega)) ?_
        refine lx_value (want rfl) (as_int rfl) ?_
        refine lx_nil ?_
        exact ⟨rfl, ((((((((((((((((A1.up rfl _).up rfl _).up rfl _).up rfl _).up rfl _).up rfl _).up rfl _).up rfl _).up rfl _).up rfl _).up rfl _).up rfl _).up rfl _).up rfl _).up rfl _).up rfl _), (Fr.ext EL1 E8), _, (by omega), i + 1, rfl, rfl, by omega⟩
      ·
        refine lx_nil ?_
        refine wk_cond_f rfl ?_
        refine wk_exit ?_
        refine wk_seq ?_
        refine wk_region ?_
        refine lx_value (want rfl) (rn_loadBlk ag_24 sz_24 (A1.at 7 rfl rfl) (((((Bs2.ext E6).ext E7).ext Eb4).ne Es3 (by omega)).ext EL1) rfl rfl) ?_
        refine lx_value (want rfl) (rn_loadBlk ag_24 sz_24 (A1.at 12 rfl rfl) (Bs3.ext EL1) rfl rfl) ?_
        refine lx_call (want rfl) (ent_func cf_24 (argsC (t_agg rfl) (argsC (t_agg rfl) args0))) (samemem_ct _ _ _ _ _ _ _ _ hbd.1 w14 (hMg.fr (st_stab _) (Fr.ext (Fr.trans (Fr.ext (Fr.ext (Fr.ext (Fr.trans (Fr.ext (Fr.refl (fun k => k = b3 ∨ k = b4) w7) Eb3) Es2 (fun k _ h => (.inl h))) E6) E7) Eb4) Es3 (fun k _ h => (.inr h))) EL1) (fun k hk h => by have hk := hk.2; first | exact (show False from h) | ((try dsimp only at h); omega) | (rcases (show _ ∨ _ from h) with h | h <;> omega))) (hMg2.fr (st_stab _) (Fr.ext (Fr.trans (Fr.ext (Fr.refl (fun k => k = b4) w11) Eb4) Es3 (fun k _ h => h)) EL1) (fun k hk h => by have hk := hk.2; first | exact (show False from h) | ((try dsimp only at h); omega) | (rcases (show _ ∨ _ from h) with h | h <;> omega)))) ?_
        rintro _ w15 E9 rfl
        have F17 := F15.ext E9
        have hz9 := E9.size
        refine lx_b_t (decide_eq_true rfl) ?_
        refine lx_value (want rfl) (mv_bool rfl) ?_
        refine lx_value (want_if (j := 3) (d := 68) (x := true) (y := true) rfl rfl (by decide) rfl) (mv_slice (A1.at 8 rfl rfl)) ?_
        refine lx_value (want_if (j := 3) (d := 68) (x := true) (y := true) rfl rfl (by decide) rfl) (mv_slice (A1.at 13 rfl rfl)) ?_
        refine lx_call (want_if (j := 3) (d := 68) (x := true) (y := true) rfl rfl (by decide) rfl) (ent_func cf_25 (argsC (t_slice rfl) (argsC (t_slice rfl) args0))) (samevalues_ct _ _ _ _ _ _ _ _ w15 (hVg.fr (vl_stab _) (Fr.ext (Fr.ext (Fr.trans (Fr.ext (Fr.ext (Fr.ext (Fr.trans (Fr.ext (Fr.refl (fun k => k = b3 ∨ k = b4) w7) Eb3) Es2 (fun k _ h => (.inl h))) E6) E7) Eb4) Es3 (fun k _ h => (.inr h))) EL1) E9) (fun k hk h => by have hk := hk.2; first | exact (show False from h) | ((try dsimp only at h); omega) | (rcases (show _ ∨ _ from h) with h | h <;> omega))) (hVg2.fr (vl_stab _) (Fr.ext (Fr.ext (Fr.trans (Fr.ext (Fr.refl (fun k => k = b4) w11) Eb4) Es3 (fun k _ h => h)) EL1) E9) (fun k hk h => by have hk := hk.2; first | exact (show False from h) | ((try dsimp only at h); omega) | (rcases (show _ ∨ _ from h) with h | h <;> omega))) hbd.2.1) ?_
        rintro _ w16 E10 rfl
        have F18 := F17.ext E10
        have hz10 := E10.size
        refine lx_b_t (decide_eq_true rfl) ?_
        refine lx_value (want rfl) (pick_t rfl rfl) ?_
        refine lx_value (want rfl) (mv_bool rfl) ?_
        refine lx_value (want_if (j := 8) (d := 73) (x := true) (y := true) rfl rfl (by decide) rfl) (mv_slice (A1.at 9 rfl rfl)) ?_
        refine lx_value (want_if (j := 8) (d := 73) (x := true) (y := true) rfl rfl (by decide) rfl) (mv_slice (A1.at 14 rfl rfl)) ?_
        refine lx_call (want_if (j := 8) (d := 73) (x := true) (y := true) rfl rfl (by decide) rfl) (ent_func cf_26 (argsC (t_slice rfl) (argsC (t_slice rfl) args0))) (sametold_ct _ _ _ _ _ _ _ _ w16 (hTg.fr (tl_stab _) (Fr.ext (Fr.ext (Fr.ext (Fr.trans (Fr.ext (Fr.ext (Fr.ext (Fr.trans (Fr.ext (Fr.refl (fun k => k = b3 ∨ k = b4) w7) Eb3) Es2 (fun k _ h => (.inl h))) E6) E7) Eb4) Es3 (fun k _ h => (.inr h))) EL1) E9) E10) (fun k hk h => by have hk := hk.2; first | exact (show False from h) | ((try dsimp only at h); omega) | (rcases (show _ ∨ _ from h) with h | h <;> omega))) (hTg2.fr (tl_stab _) (Fr.ext (Fr.ext (Fr.ext (Fr.trans (Fr.ext (Fr.refl (fun k => k = b4) w11) Eb4) Es3 (fun k _ h => h)) EL1) E9) E10) (fun k hk h => by have hk := hk.2; first | exact (show False from h) | ((try dsimp only at h); omega) | (rcases (show _ ∨ _ from h) with h | h <;> omega))) hbd.2.2) ?_
        rintro _ w17 E11 rfl
        have F19 := F18.ext E11
        have hz11 := E11.size
        refine lx_b_t (decide_eq_true rfl) ?_
        refine lx_value (want rfl) (pick_t rfl rfl) ?_
        refine lx_value (want rfl) (mv_bool rfl) ?_
        refine lx_value (want_if (j := 13) (d := 78) (x := true) (y := true) rfl rfl (by decide) rfl) (mv_int (A1.at 10 rfl rfl)) ?_
        refine lx_value (want_if (j := 13) (d := 78) (x := true) (y := true) rfl rfl (by decide) rfl) (mv_int (A1.at 15 rfl rfl)) ?_
        refine lx_value (want_if (j := 13) (d := 78) (x := true) (y := true) rfl rfl (by decide) rfl) (rn_eql rfl rfl) ?_
        refine lx_dec_t (rfl) ?_
        refine lx_value (want rfl) (pick_t rfl rfl) ?_
        refine lx_value (want rfl) (mv_bool rfl) ?_
        refine lx_value (want_if (j := 18) (d := 83) (x := true) (y := true) rfl rfl (by decide) rfl) (mv_int (A1.at 11 rfl rfl)) ?_
        refine lx_value (want_if (j := 18) (d := 83) (x := true) (y := true) rfl rfl (by decide) rfl) (mv_int (A1.at 16 rfl rfl)) ?_
        refine lx_value (want_if (j := 18) (d := 83) (x := true) (y := true) rfl rfl (by decide) rfl) (rn_eql rfl rfl) ?_
        refine lx_dec_t (rfl) ?_
        refine lx_value (want rfl) (pick_t rfl rfl) ?_
        refine lx_value (want rfl) (mv_bool rfl) ?_
        refine lx_value (want_if (j := 23) (d := 88) (x := true) (y := true) rfl rfl (by decide) rfl) (rn_loadBlk ag_24 sz_24 (A1.at 5 rfl rfl) (((((((((((Bs1.ext E5).ext Eb3).ne Es2 (by omega)).ext E6).ext E7).ext Eb4).ne Es3 (by omega)).ext EL1).ext E9).ext E10).ext E11) rfl rfl) ?_
        refine lx_value (want_if (j := 23) (d := 88) (x := true) (y := true) rfl rfl (by decide) rfl) (rn_loadBlk ag_24 sz_24 (A1.at 2 rfl rfl) ((((((((((((((((B1.ext E1).ext E3).ext E4).ext Eb2).ne Es1 (by omega)).ext E5).ext Eb3).ne Es2 (by omega)).ext E6).ext E7).ext Eb4).ne Es3 (by omega)).ext EL1).ext E9).ext E10).ext E11) rfl rfl) ?_
        refine lx_call (want_if (j := 23) (d := 88) (x := true) (y := true) rfl rfl (by decide) rfl) (ent_func cf_24 (argsC (t_agg rfl) (argsC (t_agg rfl) args0))) (samemem_ct m _ _ _ m _ _ _ hBt w17 (hMC1.fr (st_stab _) (Fr.ext (Fr.ext (Fr.ext (Fr.ext (Fr.trans (Fr.ext (Fr.ext (Fr.ext (Fr.trans (Fr.ext (Fr.ext (Fr.trans (Fr.ext (Fr.ext (Fr.refl (fun k => k = b2 ∨ k = b3 ∨ k = b4) w3) E4) Eb2) Es1 (fun k _ h => (.inl h))) E5) Eb3) Es2 (fun k _ h => (.inr (.inl h)))) E6) E7) Eb4) Es3 (fun k _ h => (.inr (.inr h)))) EL1) E9) E10) E11) (fun k hk h => by have hk := hk.2; first | exact (show False from h) | ((try dsimp only at h); omega) | (rcases (show _ ∨ _ from h) with h | h <;> omega))) (hm.fr (st_stab _) F19 (fun _ _ h => h))) ?_
        rintro _ w18 E12 rfl
        have F20 := F19.ext E12
        have hz12 := E12.size
        refine lx_b_t (decide_eq_true rfl) ?_
        refine lx_value (want rfl) (pick_t rfl rfl) ?_
        refine lx_value (want rfl) (mv_bool rfl) ?_
        refine lx_call (want_if (j := 28) (d := 93) (x := true) (y := true) rfl rfl (by decide) rfl) (ent_func cf_19 args0) (awake_ct w18) ?_
        rintro _ w19 E13 rfl
        have F21 := F20.ext E13
        have hz13 := E13.size
        refine lx_value (want rfl) (pick_t rfl rfl) ?_
        refine lx_value (want rfl) (as_bool rfl) ?_
        refine lx_nil ?_
        refine wk_ret ?_
        refine retR1 Tryz.results3 (.tmp (t_bool rfl)) F21 ?_
        exact rfl
  ·
    refine lx_value (want rfl) (rn_not rfl) ?_
    refine lx_value (want rfl) (mv_bool rfl) ?_
    refine lx_skip (want_if (j := 3) (d := 21) (x := false) (y := true) rfl rfl (by decide) rfl) ?_
    refine lx_skip (want_if (j := 3) (d := 21) (x := false) (y := true) rfl rfl (by decide) rfl) ?_
    refine lx_skip (want_if (j := 3) (d := 21) (x := false) (y := true) rfl rfl (by decide) rfl) ?_
    refine lx_value (want rfl) (pick_t rfl rfl) ?_
    refine lx_nil ?_
    refine wk_cond_t rfl ?_
    refine wk_seq ?_
    refine wk_region ?_
    refine lx_call (want rfl) (ent_func cf_19 args0) (awake_ct w2) ?_
    rintro _ w3 E14 rfl
    have F22 := F2.ext E14
    have hz14 := E14.size
    refine lx_value (want rfl) (as_bool rfl) ?_
    refine lx_nil ?_
    refine wk_ret ?_
    refine retR1 Tryz.results3 (.tmp (t_bool rfl)) F22 ?_
    exact rfl

end Go.Proofs.YtnhgfmbmfjmonaaGreatDoor

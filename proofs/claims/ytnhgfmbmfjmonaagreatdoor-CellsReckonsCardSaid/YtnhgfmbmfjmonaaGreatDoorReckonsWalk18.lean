/- What functions compute: cellsreckons. -/
import Derived.Test.YtnhgfmbmfjmonaaGreatDoorReckonsFacts
import Derived.Test.YtnhgfmbmfjmonaaGreatDoorReckonsPre
import Derived.Test.YtnhgfmbmfjmonaaGreatDoorReckonsWalk1
import Derived.Test.YtnhgfmbmfjmonaaGreatDoorReckonsWalk13
import Derived.Test.YtnhgfmbmfjmonaaGreatDoorReckonsWalk17
import Derived.Test.YtnhgfmbmfjmonaaGreatDoorReckonsWalk2
import Derived.Test.YtnhgfmbmfjmonaaGreatDoorReckonsWalk5
import Derived.Test.YtnhgfmbmfjmonaaGreatDoorReckonsWalk6
import Derived.Test.YtnhgfmbmfjmonaaGreatDoorReckonsWalk9
set_option maxRecDepth 100000
set_option linter.unusedVariables false
set_option linter.unusedSimpArgs false
namespace Go.Proofs.YtnhgfmbmfjmonaaGreatDoor
open Go Go.RowKit Go.Mix Go.Eng
set_option maxHeartbeats 2000000 in
theorem cellsreckons_ct (nm : ByteArray) (l : List Vl) (s : Option Addr) (c : Nat) (F : Nat → Prop) (w0 : World) (hl : VlS F w0 s l) :
    CT Tryz.prog 6 [.string nm, .slice s l.length c] w0 no (fun v _ => v = .bool true) := by
  have F0 := Fr.refl no w0
  refine ct_body Tryz.func6 rfl Tryz.ntmps6 (Nat.le_of_ble_eq_true rfl) ?_
  refine wk_seq ?_
  refine wk_region ?_
  refine lx_value (want rfl) (as_bool rfl) ?_
  refine lx_nil ?_
  refine wk_seq ?_
  refine wk_seq ?_
  refine wk_region ?_
  refine lx_value (want rfl) (mv_string rfl) ?_
  refine lx_value (want rfl) (rn_lenS Tryz.underlying9 rfl) ?_
  refine lx_value (want rfl) (rn_gtr rfl rfl) ?_
  refine lx_dec (fun h20 => ?_) (fun h20 => ?_)
  ·
    refine lx_value (want rfl) (mv_bool rfl) ?_
    refine lx_skip (want_if (j := 3) (d := 13) (x := false) (y := true) rfl rfl (by decide) rfl) ?_
    refine lx_skip (want_if (j := 3) (d := 13) (x := false) (y := true) rfl rfl (by decide) rfl) ?_
    refine lx_skip (want_if (j := 3) (d := 13) (x := false) (y := true) rfl rfl (by decide) rfl) ?_
    refine lx_value (want rfl) (pick_t rfl rfl) ?_
    refine lx_nil ?_
    refine wk_cond_t rfl ?_
    refine wk_seq ?_
    refine wk_region ?_
    refine lx_call (want rfl) (ent_func cf_19 args0) (awake_ct w0) ?_
    rintro _ w1 E1 rfl
    have F1 := F0.ext E1
    have hz1 := E1.size
    refine lx_value (want rfl) (as_bool rfl) ?_
    refine lx_nil ?_
    refine wk_ret ?_
    refine retR1 Tryz.results6 (.tmp (t_bool rfl)) F1 ?_
    exact rfl
  ·
    refine lx_value (want rfl) (mv_bool rfl) ?_
    refine lx_value (want_if (j := 3) (d := 13) (x := false) (y := false) rfl rfl (by decide) rfl) (mv_slice rfl) ?_
    refine lx_value (want_if (j := 3) (d := 13) (x := false) (y := false) rfl rfl (by decide) rfl) (rn_len Tryz.underlying30 rfl) ?_
    refine lx_value (want_if (j := 3) (d := 13) (x := false) (y := false) rfl rfl (by decide) rfl) (rn_gtr rfl rfl) ?_
    refine lx_dec (fun h5 => ?_) (fun h5 => ?_)
    ·
      refine lx_value (want rfl) (pick_f rfl rfl) ?_
      refine lx_nil ?_
      refine wk_cond_t rfl ?_
      refine wk_seq ?_
      refine wk_region ?_
      refine lx_call (want rfl) (ent_func cf_19 args0) (awake_ct w0) ?_
      rintro _ w1 E2 rfl
      have F2 := F0.ext E2
      have hz2 := E2.size
      refine lx_value (want rfl) (as_bool rfl) ?_
      refine lx_nil ?_
      refine wk_ret ?_
      refine retR1 Tryz.results6 (.tmp (t_bool rfl)) F2 ?_
      exact rfl
    ·
      refine lx_value (want rfl) (pick_f rfl rfl) ?_
      refine lx_nil ?_
      refine wk_cond_f rfl ?_
      refine wk_skip ?_
      refine wk_seq ?_
      refine wk_region ?_
      refine lx_value (want rfl) (mv_slice rfl) ?_
      refine lx_call (want rfl) (ent_func cf_28 (argsC (t_slice rfl) args0)) (values_ct l _ _ _ w0 (hl.fr (vl_stab _) F0 (fun _ _ h => h)) (by omega)) ?_
      rintro _ w1 E3 ⟨sV, cV, rfl, hOV, _⟩
      have F3 := F0.ext E3
      have hz3 := E3.size
      have hVs : VlS (Iv 0 _) _ sV l := own_vl hOV (fun _ _ => Nat.zero_le _)
      refine lx_value (want rfl) (as_slice rfl) ?_
      refine lx_nil ?_
      refine wk_seq ?_
      refine wk_region ?_
      refine lx_value (want rfl) (mv_string rfl) ?_
      refine lx_value (want rfl) (mv_slice rfl) ?_
      refine lx_call (want rfl) (ent_func cf_36 (argsC (t_string rfl) (argsC (t_slice rfl) args0))) (pprim_ct nm l sV cV _ (by omega) w1 (hVs.fr (vl_stab _) (Fr.refl no w1) (fun k hk h => by have hk := hk.2; first | exact (show False from h) | ((try dsimp only at h); omega) | (rcases (show _ ∨ _ from h) with h | h <;> omega)))) ?_
      rintro _ w2 E4 rfl
      have F4 := F3.ext E4
      have hz4 := E4.size
      refine lx_value (want rfl) (mv_tuple rfl) ?_
      refine lx_value (want rfl) (rn_extract rfl rfl) ?_
      refine lx_value (want rfl) (rn_extract rfl rfl) ?_
      refine lx_new (want rfl) (rn_alloc ze_36) ?_
      intro b1 w3 hb1 Eb1 B1 hlb1
      have F5 := F4.ext Eb1
      have hzb1 := Eb1.size
      refine lx_set (want rfl) sz_36 rfl (t_agg rfl) rfl rfl rfl B1 (Nat.le_of_ble_eq_true rfl) ?_
      intro w4 Es1 Bs1
      have F6 := F5.set Es1 (by omega)
      have hzs1 := Es1.size
      refine lx_value (want rfl) (as_int rfl) ?_
      refine lx_nil ?_
      refine wk_seq ?_
      refine wk_region ?_
      refine lx_value (want rfl) (mv_string rfl) ?_
      refine lx_value (want rfl) (mv_slice rfl) ?_
      refine lx_call (want rfl) (ent_func cf_37 (argsC (t_string rfl) (argsC (t_slice rfl) args0))) (refprim_ct nm l s c F (by omega) w4 (hl.fr (vl_stab _) F6 (fun _ _ h => h))) ?_
      rintro _ w5 E5 rfl
      have F7 := F6.ext E5
      have hz5 := E5.size
      refine lx_value (want rfl) (mv_tuple rfl) ?_
      refine lx_value (want rfl) (rn_extract rfl rfl) ?_
      refine lx_value (want rfl) (rn_extract rfl rfl) ?_
      refine lx_new (want rfl) (rn_alloc ze_36) ?_
      intro b2 w6 hb2 Eb2 B2 hlb2
      have F8 := F7.ext Eb2
      have hzb2 := Eb2.size
      refine lx_set (want rfl) sz_36 rfl (t_agg rfl) rfl rfl rfl B2 (Nat.le_of_ble_eq_true rfl) ?_
      intro w7 Es2 Bs2
      have F9 := F8.set Es2 (by omega)
      have hzs2 := Es2.size
      refine lx_value (want rfl) (as_int rfl) ?_
      refine lx_nil ?_
      refine wk_seq ?_
      refine wk_region ?_
      refine lx_value (want rfl) (rn_loadBlk ag_36 sz_36 rfl (((Bs1.ext E5).ext Eb2).ne Es2 (by omega)) rfl rfl) ?_
      refine lx_value (want rfl) (rn_loadBlk ag_36 sz_36 rfl Bs2 rfl rfl) ?_
      refine lx_value (want rfl) (rn_cmpS (t_agg rfl) (t_agg rfl) (geql_36 _ _ _ _) (eql_36 _ _ _ _)) ?_
      refine lx_dec_t (⟨rfl, rfl⟩) ?_
      refine lx_value (want rfl) (mv_bool rfl) ?_
      refine lx_value (want_if (j := 3) (d := 36) (x := true) (y := true) rfl rfl (by decide) rfl) (mv_int rfl) ?_
      refine lx_value (want_if (j := 3) (d := 36) (x := true) (y := true) rfl rfl (by decide) rfl) (mv_int rfl) ?_
      refine lx_value (want_if (j := 3) (d := 36) (x := true) (y := true) rfl rfl (by decide) rfl) (rn_eql rfl rfl) ?_
      refine lx_dec_t (rfl) ?_
      refine lx_value (want rfl) (pick_t rfl rfl) ?_
      refine lx_value (want rfl) (mv_bool rfl) ?_
      refine lx_value (want_if (j := 8) (d := 41) (x := true) (y := true) rfl rfl (by decide) rfl) (mv_string rfl) ?_
      refine lx_call (want_if (j := 8) (d := 41) (x := true) (y := true) rfl rfl (by decide) rfl) (ent_func cf_38 (argsC (t_string rfl) args0)) (poperands_ct nm w7) ?_
      rintro _ w8 E6 rfl
      have F10 := F9.ext E6
      have hz6 := E6.size
      refine lx_value (want_if (j := 8) (d := 41) (x := true) (y := true) rfl rfl (by decide) rfl) (mv_string rfl) ?_
      refine lx_call (want_if (j := 8) (d := 41) (x := true) (y := true) rfl rfl (by decide) rfl) (ent_func cf_39 (argsC (t_string rfl) args0)) (refoperands_ct nm w8) ?_
      rintro _ w9 E7 rfl
      have F11 := F10.ext E7
      have hz7 := E7.size
      refine lx_value (want_if (j := 8) (d := 41) (x := true) (y := true) rfl rfl (by decide) rfl) (rn_eql rfl rfl) ?_
      refine lx_dec_t ((ar_idS nm).symm) ?_
      refine lx_value (want rfl) (pick_t rfl rfl) ?_
      refine lx_value (want rfl) (mv_bool rfl) ?_
      refine lx_value (want_if (j := 15) (d := 48) (x := true) (y := true) rfl rfl (by decide) rfl) (mv_slice rfl) ?_
      refine lx_value (want_if (j := 15) (d := 48) (x := true) (y := true) rfl rfl (by decide) rfl) (mv_slice rfl) ?_
      refine lx_call (want_if (j := 15) (d := 48) (x := true) (y := true) rfl rfl (by decide) rfl) (ent_func cf_25 (argsC (t_slice rfl) (argsC (t_slice rfl) args0))) (samevalues_ct l l _ _ _ _ _ _ w9 (hVs.fr (vl_stab _) (Fr.ext (Fr.ext (Fr.trans (Fr.ext (Fr.ext (Fr.trans (Fr.ext (Fr.ext (Fr.refl (fun k => k = b1 ∨ k = b2) w1) E4) Eb1) Es1 (fun k _ h => (.inl h))) E5) Eb2) Es2 (fun k _ h => (.inr h))) E6) E7) (fun k hk h => by have hk := hk.2; first | exact (show False from h) | ((try dsimp only at h); omega) | (rcases (show _ ∨ _ from h) with h | h <;> omega))) (hl.fr (vl_stab _) F11 (fun _ _ h => h)) (by omega)) ?_
      rintro _ w10 E8 rfl
      have F12 := F11.ext E8
      have hz8 := E8.size
      refine lx_b_t (decide_eq_true rfl) ?_
      refine lx_value (want rfl) (pick_t rfl rfl) ?_
      refine lx_value (want rfl) (mv_bool rfl) ?_
      refine lx_call (want_if (j := 20) (d := 53) (x := true) (y := true) rfl rfl (by decide) rfl) (ent_func cf_19 args0) (awake_ct w10) ?_
      rintro _ w11 E9 rfl
      have F13 := F12.ext E9
      have hz9 := E9.size
      refine lx_value (want rfl) (pick_t rfl rfl) ?_
      refine lx_value (want rfl) (as_bool rfl) ?_
      refine lx_nil ?_
      refine wk_ret ?_
      refine retR1 Tryz.results6 (.tmp (t_bool rfl)) F13 ?_
      exact rfl

end Go.Proofs.YtnhgfmbmfjmonaaGreatDoor

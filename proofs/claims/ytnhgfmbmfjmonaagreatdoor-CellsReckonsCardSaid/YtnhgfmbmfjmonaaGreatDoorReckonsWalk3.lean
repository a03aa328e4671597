/- What functions compute: reckon. -/
import Derived.Test.YtnhgfmbmfjmonaaGreatDoorReckonsFacts
import Derived.Test.YtnhgfmbmfjmonaaGreatDoorReckonsPre
import Derived.Test.YtnhgfmbmfjmonaaGreatDoorReckonsWalk2
set_option maxRecDepth 100000
set_option linter.unusedVariables false
set_option linter.unusedSimpArgs false
namespace Go.Proofs.YtnhgfmbmfjmonaaGreatDoor
open Go Go.RowKit Go.Mix Go.Eng
set_option maxHeartbeats 4000000 in
set_option maxRecDepth 100000 in
theorem reckon_ct (nm : ByteArray) (a b : Vl) (ha : a.1 = 1 → -1000000000 ≤ a.2 ∧ a.2 ≤ 1000000000) (hb : b.1 = 1 → -1000000000 ≤ b.2 ∧ b.2 ≤ 1000000000) (w0 : World) :
    CT Tryz.prog 85 [.string nm, .agg #[.int .u8 a.1, .int .i64 a.2], .agg #[.int .u8 b.1, .int .i64 b.2]] w0 no (fun v _ => v = vlV (reckL nm a b)) := by
  have F0 := Fr.refl no w0
  refine ct_body Tryz.func85 rfl Tryz.ntmps85 (Nat.le_of_ble_eq_true rfl) ?_
  refine wk_seq ?_
  refine wk_region ?_
  refine lx_new (want rfl) (rn_box (t_agg rfl)) ?_
  intro b1 w1 hb1 Eb1 B1 hlb1
  have F1 := F0.ext Eb1
  have hzb1 := Eb1.size
  refine lx_new (want rfl) (rn_box (t_agg rfl)) ?_
  intro b2 w2 hb2 Eb2 B2 hlb2
  have F2 := F1.ext Eb2
  have hzb2 := Eb2.size
  refine lx_new (want rfl) (rn_alloc ze_36) ?_
  intro b3 w3 hb3 Eb3 B3 hlb3
  have F3 := F2.ext Eb3
  have hzb3 := Eb3.size
  refine lx_nil ?_
  refine wk_seq ?_
  refine wk_region ?_
  refine lx_value (want rfl) (rn_fieldAddr fa_36_0 rfl) ?_
  refine lx_value (want rfl) (rn_load1Blk ag_5 rfl ((B1.ext Eb2).ext Eb3) rfl) ?_
  refine lx_value (want rfl) (rn_fieldAddr fa_36_0 rfl) ?_
  refine lx_value (want rfl) (rn_load1Blk ag_5 rfl (B2.ext Eb3) rfl) ?_
  refine lx_value (want rfl) (rn_eql rfl rfl) ?_
  refine lx_dec (fun hab => ?_) (fun hab => ?_)
  ·
    refine lx_value (want rfl) (as_bool rfl) ?_
    refine lx_nil ?_
    refine wk_seq ?_
    refine wk_seq ?_
    refine wk_region ?_
    refine lx_value (want rfl) (mv_string rfl) ?_
    refine lx_nil ?_
    refine wk_block ?_
    refine wk_seq ?_
    refine wk_region ?_
    refine lx_value (want rfl) (rn_eqlS rfl rfl) ?_
    refine lx_dec (fun hNot => ?_) (fun hNot => ?_)
    ·
      refine lx_value (want rfl) (as_bool rfl) ?_
      refine lx_nil ?_
      refine wk_cond_t rfl ?_
      refine wk_seq ?_
      refine wk_seq ?_
      refine wk_region ?_
      refine lx_value (want rfl) (rn_fieldAddr fa_36_0 rfl) ?_
      refine lx_value (want rfl) (rn_load1Blk ag_5 rfl ((B1.ext Eb2).ext Eb3) rfl) ?_
      refine lx_value (want rfl) (rn_neq rfl rfl) ?_
      refine lx_dec (fun hk2 => ?_) (fun hk2 => ?_)
      ·
        refine lx_nil ?_
        refine wk_cond_t rfl ?_
        refine wk_seq ?_
        refine wk_region ?_
        refine lx_call (want rfl) (ent_func cf_67 (argsC (t_int rfl) args0)) (refbad_ct _ w3) ?_
        rintro _ w4 E1 rfl
        have F4 := F3.ext E1
        have hz1 := E1.size
        refine lx_set (want rfl) sz_36 rfl (t_agg rfl) rfl rfl rfl (B3.ext E1) (Nat.le_of_ble_eq_true rfl) ?_
        intro w5 Es1 Bs1
        have F5 := F4.set Es1 (by omega)
        have hzs1 := Es1.size
        refine lx_nil ?_
        refine wk_ret ?_
        refine retR1 Tryz.results85 (.cell rfl (run_loadVar_blk ag_36 sz_36 Bs1 rfl rfl)) F5 ?_
        first | exact (sz_yes hin).trans (congrArg vlV hz.symm) | exact (sz_no hin).trans (congrArg vlV hz.symm) | exact rk1 hNot hk2 | exact rk2 hNot hk2 | exact rk3 hNot hEq hab | exact rk4 hNot hEq hk1 hk22 | exact rk5 hNot hEq hab (.inl hk1) | exact rk5 hNot hEq hab (.inr hk22) | exact rk6 hNot hEq (.inl hab) | exact rk6 hNot hEq (.inr hk1) | exact congrArg vlV ((rk7 hNot hEq hab hk1).trans (rmLt hLt)).symm | exact congrArg vlV ((rk7 hNot hEq hab hk1).trans (rmLe hLt hLe)).symm | exact congrArg vlV ((rk7 hNot hEq hab hk1).trans (rm0 hLt hLe hAdd hSub hMul hNeg h0)).symm
      ·
        refine lx_nil ?_
        refine wk_cond_f rfl ?_
        refine wk_skip ?_
        refine wk_seq ?_
        refine wk_region ?_
        refine lx_value (want rfl) (rn_fieldAddr fa_36_1 rfl) ?_
        refine lx_value (want rfl) (rn_load1Blk ag_3 rfl ((B1.ext Eb2).ext Eb3) rfl) ?_
        refine lx_value (want rfl) (rn_eql rfl rfl) ?_
        refine lx_call (want rfl) (ent_func cf_68 (argsC (t_bool rfl) args0)) (refbool_ct _ w3) ?_
        rintro _ w4 E2 rfl
        have F6 := F3.ext E2
        have hz2 := E2.size
        refine lx_set (want rfl) sz_36 rfl (t_agg rfl) rfl rfl rfl (B3.ext E2) (Nat.le_of_ble_eq_true rfl) ?_
        intro w5 Es2 Bs2
        have F7 := F6.set Es2 (by omega)
        have hzs2 := Es2.size
        refine lx_nil ?_
        refine wk_ret ?_
        refine retR1 Tryz.results85 (.cell rfl (run_loadVar_blk ag_36 sz_36 Bs2 rfl rfl)) F7 ?_
        first | exact (sz_yes hin).trans (congrArg vlV hz.symm) | exact (sz_no hin).trans (congrArg vlV hz.symm) | exact rk1 hNot hk2 | exact rk2 hNot hk2 | exact rk3 hNot hEq hab | exact rk4 hNot hEq hk1 hk22 | exact rk5 hNot hEq hab (.inl hk1) | exact rk5 hNot hEq hab (.inr hk22) | exact rk6 hNot hEq (.inl hab) | exact rk6 hNot hEq (.inr hk1) | exact congrArg vlV ((rk7 hNot hEq hab hk1).trans (rmLt hLt)).symm | exact congrArg vlV ((rk7 hNot hEq hab hk1).trans (rmLe hLt hLe)).symm | exact congrArg vlV ((rk7 hNot hEq hab hk1).trans (rm0 hLt hLe hAdd hSub hMul hNeg h0)).symm
    ·
      refine lx_value (want rfl) (as_bool rfl) ?_
      refine lx_nil ?_
      refine wk_cond_f rfl ?_
      refine wk_seq ?_
      refine wk_region ?_
      refine lx_value (want rfl) (rn_eqlS rfl rfl) ?_
      refine lx_dec (fun hEq => ?_) (fun hEq => ?_)
      ·
        refine lx_value (want rfl) (as_bool rfl) ?_
        refine lx_nil ?_
        refine wk_cond_t rfl ?_
        refine wk_seq ?_
        refine wk_seq ?_
        refine wk_region ?_
        refine lx_value (want rfl) (mv_bool rfl) ?_
        refine lx_value (want rfl) (rn_not rfl) ?_
        refine lx_value (want rfl) (mv_bool rfl) ?_
        refine lx_value (want_if (j := 2) (d := 29) (x := false) (y := false) rfl rfl (by decide) rfl) (rn_fieldAddr fa_36_0 rfl) ?_
        refine lx_value (want_if (j := 2) (d := 29) (x := false) (y := false) rfl rfl (by decide) rfl) (rn_load1Blk ag_5 rfl ((B1.ext Eb2).ext Eb3) rfl) ?_
        refine lx_value (want_if (j := 2) (d := 29) (x := false) (y := false) rfl rfl (by decide) rfl) (rn_neq rfl rfl) ?_
        refine lx_dec (fun hk1 => ?_) (fun hk1 => ?_)
        ·
          refine lx_value (want_if (j := 2) (d := 29) (x := false) (y := false) rfl rfl (by decide) rfl) (mv_bool rfl) ?_
          refine lx_value (want_if (j := 6) (d := 33) (x := true) (y := true) rfl rfl (by decide) rfl) (rn_fieldAddr fa_36_0 rfl) ?_
          refine lx_value (want_if (j := 6) (d := 33) (x := true) (y := true) rfl rfl (by decide) rfl) (rn_load1Blk ag_5 rfl ((B1.ext Eb2).ext Eb3) rfl) ?_
          refine lx_value (want_if (j := 6) (d := 33) (x := true) (y := true) rfl rfl (by decide) rfl) (rn_neq rfl rfl) ?_
          refine lx_dec (fun hk22 => ?_) (fun hk22 => ?_)
          ·
            refine lx_value (want_if (j := 2) (d := 29) (x := false) (y := false) rfl rfl (by decide) rfl) (pick_t rfl rfl) ?_
            refine lx_value (want rfl) (pick_f rfl rfl) ?_
            refine lx_nil ?_
            refine wk_cond_t rfl ?_
            refine wk_seq ?_
            refine wk_region ?_
            refine lx_call (want rfl) (ent_func cf_67 (argsC (t_int rfl) args0)) (refbad_ct _ w3) ?_
            rintro _ w4 E3 rfl
            have F8 := F3.ext E3
            have hz3 := E3.size
            refine lx_set (want rfl) sz_36 rfl (t_agg rfl) rfl rfl rfl (B3.ext E3) (Nat.le_of_ble_eq_true rfl) ?_
            intro w5 Es3 Bs3
            have F9 := F8.set Es3 (by omega)
            have hzs3 := Es3.size
            refine lx_nil ?_
            refine wk_ret ?_
            refine retR1 Tryz.results85 (.cell rfl (run_loadVar_blk ag_36 sz_36 Bs3 rfl rfl)) F9 ?_
            first | exact (sz_yes hin).trans (congrArg vlV hz.symm) | exact (sz_no hin).trans (congrArg vlV hz.symm) | exact rk1 hNot hk2 | exact rk2 hNot hk2 | exact rk3 hNot hEq hab | exact rk4 hNot hEq hk1 hk22 | exact rk5 hNot hEq hab (.inl hk1) | exact rk5 hNot hEq hab (.inr hk22) | exact rk6 hNot hEq (.inl hab) | exact rk6 hNot hEq (.inr hk1) | exact congrArg vlV ((rk7 hNot hEq hab hk1).trans (rmLt hLt)).symm | exact congrArg vlV ((rk7 hNot hEq hab hk1).trans (rmLe hLt hLe)).symm | exact congrArg vlV ((rk7 hNot hEq hab hk1).trans (rm0 hLt hLe hAdd hSub hMul hNeg h0)).symm
          ·
            refine lx_value (want_if (j := 2) (d := 29) (x := false) (y := false) rfl rfl (by decide) rfl) (pick_t rfl rfl) ?_
            refine lx_value (want rfl) (pick_f rfl rfl) ?_
            refine lx_nil ?_
            refine wk_cond_f rfl ?_
            refine wk_skip ?_
            refine wk_seq ?_
            refine wk_region ?_
            refine lx_value (want rfl) (rn_fieldAddr fa_36_1 rfl) ?_
            refine lx_value (want rfl) (rn_load1Blk ag_3 rfl ((B1.ext Eb2).ext Eb3) rfl) ?_
            refine lx_value (want rfl) (rn_fieldAddr fa_36_1 rfl) ?_
            refine lx_value (want rfl) (rn_load1Blk ag_3 rfl (B2.ext Eb3) rfl) ?_
            refine lx_value (want rfl) (rn_eql rfl rfl) ?_
            refine lx_call (want rfl) (ent_func cf_68 (argsC (t_bool rfl) args0)) (refbool_ct _ w3) ?_
            rintro _ w4 E4 rfl
            have F10 := F3.ext E4
            have hz4 := E4.size
            refine lx_set (want rfl) sz_36 rfl (t_agg rfl) rfl rfl rfl (B3.ext E4) (Nat.le_of_ble_eq_true rfl) ?_
            intro w5 Es4 Bs4
            have F11 := F10.set Es4 (by omega)
            have hzs4 := Es4.size
            refine lx_nil ?_
            refine wk_ret ?_
            refine retR1 Tryz.results85 (.cell rfl (run_loadVar_blk ag_36 sz_36 Bs4 rfl rfl)) F11 ?_
            first | exact (sz_yes hin).trans (congrArg vlV hz.symm) | exact (sz_no hin).trans (congrArg vlV hz.symm) | exact rk1 hNot hk2 | exact rk2 hNot hk2 | exact rk3 hNot hEq hab | exact rk4 hNot hEq hk1 hk22 | exact rk5 hNot hEq hab (.inl hk1) | exact rk5 hNot hEq hab (.inr hk22) | exact rk6 hNot hEq (.inl hab) | exact rk6 hNot hEq (.inr hk1) | exact congrArg vlV ((rk7 hNot hEq hab hk1).trans (rmLt hLt)).symm | exact congrArg vlV ((rk7 hNot hEq hab hk1).trans (rmLe hLt hLe)).symm | exact congrArg vlV ((rk7 hNot hEq hab hk1).trans (rm0 hLt hLe hAdd hSub hMul hNeg h0)).symm
        ·
          refine lx_value (want_if (j := 2) (d := 29) (x := false) (y := false) rfl rfl (by decide) rfl) (mv_bool rfl) ?_
          refine lx_skip (want_if (j := 6) (d := 33) (x := true) (y := false) rfl rfl (by decide) rfl) ?_
          refine lx_skip (want_if (j := 6) (d := 33) (x := true) (y := false) rfl rfl (by decide) rfl) ?_
          refine lx_skip (want_if (j := 6) (d := 33) (x := true) (y := false) rfl rfl (by decide) rfl) ?_
          refine lx_value (want_if (j := 2) (d := 29) (x := false) (y := false) rfl rfl (by decide) rfl) (pick_f rfl rfl) ?_
          refine lx_value (want rfl) (pick_f rfl rfl) ?_
          refine lx_nil ?_
          refine wk_cond_f rfl ?_
          refine wk_skip ?_
          refine wk_seq ?_
          refine wk_region ?_
          refine lx_value (want rfl) (rn_fieldAddr fa_36_1 rfl) ?_
          refine lx_value (want rfl) (rn_load1Blk ag_3 rfl ((B1.ext Eb2).ext Eb3) rfl) ?_
          refine lx_value (want rfl) (rn_fieldAddr fa_36_1 rfl) ?_
          refine lx_value (want rfl) (rn_load1Blk ag_3 rfl (B2.ext Eb3) rfl) ?_
          refine lx_value (want rfl) (rn_eql rfl rfl) ?_
          refine lx_call (want rfl) (ent_func cf_68 (argsC (t_bool rfl) args0)) (refbool_ct _ w3) ?_
          rintro _ w4 E5 rfl
          have F12 := F3.ext E5
          have hz5 := E5.size
          refine lx_set (want rfl) sz_36 rfl (t_agg rfl) rfl rfl rfl (B3.ext E5) (Nat.le_of_ble_eq_true rfl) ?_
          intro w5 Es5 Bs5
          have F13 := F12.set Es5 (by omega)
          have hzs5 := Es5.size
          refine lx_nil ?_
          refine wk_ret ?_
          refine retR1 Tryz.results85 (.cell rfl (run_loadVar_blk ag_36 sz_36 Bs5 rfl rfl)) F13 ?_
          first | exact (sz_yes hin).trans (congrArg vlV hz.symm) | exact (sz_no hin).trans (congrArg vlV hz.symm) | exact rk1 hNot hk2 | exact rk2 hNot hk2 | exact rk3 hNot hEq hab | exact rk4 hNot hEq hk1 hk22 | exact rk5 hNot hEq hab (.inl hk1) | exact rk5 hNot hEq hab (.inr hk22) | exact rk6 hNot hEq (.inl hab) | exact rk6 hNot hEq (.inr hk1) | exact congrArg vlV ((rk7 hNot hEq hab hk1).trans (rmLt hLt)).symm | exact congrArg vlV ((rk7 hNot hEq hab hk1).trans (rmLe hLt hLe)).symm | exact congrArg vlV ((rk7 hNot hEq hab hk1).trans (rm0 hLt hLe hAdd hSub hMul hNeg h0)).symm
      ·
        refine lx_value (want rfl) (as_bool rfl) ?_
        refine lx_nil ?_
        refine wk_cond_f rfl ?_
        refine wk_skip ?_
        refine wk_seq ?_
        refine wk_seq ?_
        refine wk_region ?_
        refine lx_value (want rfl) (mv_bool rfl) ?_
        refine lx_value (want rfl) (rn_not rfl) ?_
        refine lx_value (want rfl) (mv_bool rfl) ?_
        refine lx_value (want_if (j := 2) (d := 48) (x := false) (y := false) rfl rfl (by decide) rfl) (rn_fieldAddr fa_36_0 rfl) ?_
        refine lx_value (want_if (j := 2) (d := 48) (x := false) (y := false) rfl rfl (by decide) rfl) (rn_load1Blk ag_5 rfl ((B1.ext Eb2).ext Eb3) rfl) ?_
        refine lx_value (want_if (j := 2) (d := 48) (x := false) (y := false) rfl rfl (by decide) rfl) (rn_neq rfl rfl) ?_
        refine lx_dec (fun hk1 => ?_) (fun hk1 => ?_)
        ·
          refine lx_value (want rfl) (pick_f rfl rfl) ?_
          refine lx_nil ?_
          refine wk_cond_t rfl ?_
          refine wk_seq ?_
          refine wk_region ?_
          refine lx_call (want rfl) (ent_func cf_67 (argsC (t_int rfl) args0)) (refbad_ct _ w3) ?_
          rintro _ w4 E6 rfl
          have F14 := F3.ext E6
          have hz6 := E6.size
          refine lx_set (want rfl) sz_36 rfl (t_agg rfl) rfl rfl rfl (B3.ext E6) (Nat.le_of_ble_eq_true rfl) ?_
          intro w5 Es6 Bs6
          have F15 := F14.set Es6 (by omega)
          have hzs6 := Es6.size
          refine lx_nil ?_
          refine wk_ret ?_
          refine retR1 Tryz.results85 (.cell rfl (run_loadVar_blk ag_36 sz_36 Bs6 rfl rfl)) F15 ?_
          first | exact (sz_yes hin).trans (congrArg vlV hz.symm) | exact (sz_no hin).trans (congrArg vlV hz.symm) | exact rk1 hNot hk2 | exact rk2 hNot hk2 | exact rk3 hNot hEq hab | exact rk4 hNot hEq hk1 hk22 | exact rk5 hNot hEq hab (.inl hk1) | exact rk5 hNot hEq hab (.inr hk22) | exact rk6 hNot hEq (.inl hab) | exact rk6 hNot hEq (.inr hk1) | exact congrArg vlV ((rk7 hNot hEq hab hk1).trans (rmLt hLt)).symm | exact congrArg vlV ((rk7 hNot hEq hab hk1).trans (rmLe hLt hLe)).symm | exact congrArg vlV ((rk7 hNot hEq hab hk1).trans (rm0 hLt hLe hAdd hSub hMul hNeg h0)).symm
        ·
          have hA := ha (Decidable.not_not.1 hk1)
          have hB := hb (hab.symm.trans (Decidable.not_not.1 hk1))
          refine lx_value (want rfl) (pick_f rfl rfl) ?_
          refine lx_nil ?_
          refine wk_cond_f rfl ?_
          refine wk_skip ?_
          refine wk_seq ?_
          refine wk_region ?_
          refine lx_value (want rfl) (as_int rfl) ?_
          refine lx_nil ?_
          refine wk_seq ?_
          refine wk_seq ?_
          refine wk_region ?_
          refine lx_value (want rfl) (mv_string rfl) ?_
          refine lx_nil ?_
          refine wk_block ?_
          refine wk_seq ?_
          refine wk_region ?_
          refine lx_value (want rfl) (rn_eqlS rfl rfl) ?_
          refine lx_dec (fun hLt => ?_) (fun hLt => ?_)
          ·
            refine lx_value (want rfl) (as_bool rfl) ?_
            refine lx_nil ?_
            refine wk_cond_t rfl ?_
            refine wk_seq ?_
            refine wk_region ?_
            refine lx_value (want rfl) (rn_fieldAddr fa_36_1 rfl) ?_
            refine lx_value (want rfl) (rn_load1Blk ag_3 rfl ((B1.ext Eb2).ext Eb3) rfl) ?_
            refine lx_value (want rfl) (rn_fieldAddr fa_36_1 rfl) ?_
            refine lx_value (want rfl) (rn_load1Blk ag_3 rfl (B2.ext Eb3) rfl) ?_
            refine lx_value (want rfl) (rn_lss rfl rfl) ?_
            refine lx_call (want rfl) (ent_func cf_68 (argsC (t_bool rfl) args0)) (refbool_ct _ w3) ?_
            rintro _ w4 E7 rfl
            have F16 := F3.ext E7
            have hz7 := E7.size
            refine lx_set (want rfl) sz_36 rfl (t_agg rfl) rfl rfl rfl (B3.ext E7) (Nat.le_of_ble_eq_true rfl) ?_
            intro w5 Es7 Bs7
            have F17 := F16.set Es7 (by omega)
            have hzs7 := Es7.size
            refine lx_nil ?_
            refine wk_ret ?_
            refine retR1 Tryz.results85 (.cell rfl (run_loadVar_blk ag_36 sz_36 Bs7 rfl rfl)) F17 ?_
            first | exact (sz_yes hin).trans (congrArg vlV hz.symm) | exact (sz_no hin).trans (congrArg vlV hz.symm) | exact rk1 hNot hk2 | exact rk2 hNot hk2 | exact rk3 hNot hEq hab | exact rk4 hNot hEq hk1 hk22 | exact rk5 hNot hEq hab (.inl hk1) | exact rk5 hNot hEq hab (.inr hk22) | exact rk6 hNot hEq (.inl hab) | exact rk6 hNot hEq (.inr hk1) | exact congrArg vlV ((rk7 hNot hEq hab hk1).trans (rmLt hLt)).symm | exact congrArg vlV ((rk7 hNot hEq hab hk1).trans (rmLe hLt hLe)).symm | exact congrArg vlV ((rk7 hNot hEq hab hk1).trans (rm0 hLt hLe hAdd hSub hMul hNeg h0)).symm
          ·
            refine lx_value (want rfl) (as_bool rfl) ?_
            refine lx_nil ?_
            refine wk_cond_f rfl ?_
            refine wk_seq ?_
            refine wk_region ?_
            refine lx_value (want rfl) (rn_eqlS rfl rfl) ?_
            refine lx_dec (fun hLe => ?_) (fun hLe => ?_)
            ·
              refine lx_value (want rfl) (as_bool rfl) ?_
              refine lx_nil ?_
              refine wk_cond_t rfl ?_
              refine wk_seq ?_
              refine wk_region ?_
              refine lx_value (want rfl) (rn_fieldAddr fa_36_1 rfl) ?_
              refine lx_value (want rfl) (rn_load1Blk ag_3 rfl ((B1.ext Eb2).ext Eb3) rfl) ?_
              refine lx_value (want rfl) (rn_fieldAddr fa_36_1 rfl) ?_
              refine lx_value (want rfl) (rn_load1Blk ag_3 rfl (B2.ext Eb3) rfl) ?_
              refine lx_value (want rfl) (rn_leq rfl rfl) ?_
              refine lx_call (want rfl) (ent_func cf_68 (argsC (t_bool rfl) args0)) (refbool_ct _ w3) ?_
              rintro _ w4 E8 rfl
              have F18 := F3.ext E8
              have hz8 := E8.size
              refine lx_set (want rfl) sz_36 rfl (t_agg rfl) rfl rfl rfl (B3.ext E8) (Nat.le_of_ble_eq_true rfl) ?_
              intro w5 Es8 Bs8
              have F19 := F18.set Es8 (by omega)
              have hzs8 := Es8.size
              refine lx_nil ?_
              refine wk_ret ?_
              refine retR1 Tryz.results85 (.cell rfl (run_loadVar_blk ag_36 sz_36 Bs8 rfl rfl)) F19 ?_
              first | exact (sz_yes hin).trans (congrArg vlV hz.symm) | exact (sz_no hin).trans (congrArg vlV hz.symm) | exact rk1 hNot hk2 | exact rk2 hNot hk2 | exact rk3 hNot hEq hab | exact rk4 hNot hEq hk1 hk22 | exact rk5 hNot hEq hab (.inl hk1) | exact rk5 hNot hEq hab (.inr hk22) | exact rk6 hNot hEq (.inl hab) | exact rk6 hNot hEq (.inr hk1) | exact congrArg vlV ((rk7 hNot hEq hab hk1).trans (rmLt hLt)).symm | exact congrArg vlV ((rk7 hNot hEq hab hk1).trans (rmLe hLt hLe)).symm | exact congrArg vlV ((rk7 hNot hEq hab hk1).trans (rm0 hLt hLe hAdd hSub hMul hNeg h0)).symm
            ·
              refine lx_value (want rfl) (as_bool rfl) ?_
              refine lx_nil ?_
              refine wk_cond_f rfl ?_
              refine wk_seq ?_
              refine wk_region ?_
              refine lx_value (want rfl) (rn_eqlS rfl rfl) ?_
              refine lx_dec (fun hAdd => ?_) (fun hAdd => ?_)
              ·
                refine lx_value (want rfl) (as_bool rfl) ?_
                refine lx_nil ?_
                refine wk_cond_t rfl ?_
                refine wk_region ?_
                refine lx_value (want rfl) (rn_fieldAddr fa_36_1 rfl) ?_
                refine lx_value (want rfl) (rn_load1Blk ag_3 rfl ((B1.ext Eb2).ext Eb3) rfl) ?_
                refine lx_value (want rfl) (rn_fieldAddr fa_36_1 rfl) ?_
                refine lx_value (want rfl) (rn_load1Blk ag_3 rfl (B2.ext Eb3) rfl) ?_
                refine lx_value (want rfl) (rn_add rfl rfl (by omega)) ?_
                have hz : reckL nm a b = sizedV (a.2 + b.2) := (rk7 hNot hEq hab hk1).trans (rmAdd hLt hLe hAdd)
                refine lx_value (want rfl) (as_int rfl) ?_
                refine lx_nil ?_
                refine wk_seq ?_
                refine wk_seq ?_
                refine wk_region ?_
                refine lx_value (want rfl) (mv_int rfl) ?_
                refine lx_call (want rfl) (ent_func cf_65 (argsC (t_int rfl) (argsC (t_int rfl) (argsC (t_int rfl) args0)))) (in_ct _ _ _ w3) ?_
                rintro _ w4 E9 rfl
                have F20 := F3.ext E9
                have hz9 := E9.size
                refine lx_split (fun hin => ?_) (fun hin => ?_)
                ·
                  replace hin := of_decide_eq_true hin
                  refine lx_value (want rfl) (rn_not rfl) ?_
                  refine lx_nil ?_
                  refine wk_cond_f rfl ?_
                  refine wk_skip ?_
                  refine wk_seq ?_
                  refine wk_region ?_
                  refine lx_value (want rfl) (mv_int rfl) ?_
                  refine lx_call (want rfl) (ent_func cf_41 (argsC (t_int rfl) args0)) (int_ct _ w4) ?_
                  rintro _ w5 E10 rfl
                  have F21 := F20.ext E10
                  have hz10 := E10.size
                  refine lx_set (want rfl) sz_36 rfl (t_agg rfl) rfl rfl rfl ((B3.ext E9).ext E10) (Nat.le_of_ble_eq_true rfl) ?_
                  intro w6 Es9 Bs9
                  have F22 := F21.set Es9 (by omega)
                  have hzs9 := Es9.size
                  refine lx_nil ?_
                  refine wk_ret ?_
                  refine retR1 Tryz.results85 (.cell rfl (run_loadVar_blk ag_36 sz_36 Bs9 rfl rfl)) F22 ?_
                  first | exact (sz_yes hin).trans (congrArg vlV hz.symm) | exact (sz_no hin).trans (congrArg vlV hz.symm) | exact rk1 hNot hk2 | exact rk2 hNot hk2 | exact rk3 hNot hEq hab | exact rk4 hNot hEq hk1 hk22 | exact rk5 hNot hEq hab (.inl hk1) | exact rk5 hNot hEq hab (.inr hk22) | exact rk6 hNot hEq (.inl hab) | exact rk6 hNot hEq (.inr hk1) | exact congrArg vlV ((rk7 hNot hEq hab hk1).trans (rmLt hLt)).symm | exact congrArg vlV ((rk7 hNot hEq hab hk1).trans (rmLe hLt hLe)).symm | exact congrArg vlV ((rk7 hNot hEq hab hk1).trans (rm0 hLt hLe hAdd hSub hMul hNeg h0)).symm
                ·
                  replace hin := of_decide_eq_false hin
                  refine lx_value (want rfl) (rn_not rfl) ?_
                  refine lx_nil ?_
                  refine wk_cond_t rfl ?_
                  refine wk_seq ?_
                  refine wk_region ?_
                  refine lx_call (want rfl) (ent_func cf_67 (argsC (t_int rfl) args0)) (refbad_ct _ w4) ?_
                  rintro _ w5 E11 rfl
                  have F23 := F20.ext E11
                  have hz11 := E11.size
                  refine lx_set (want rfl) sz_36 rfl (t_agg rfl) rfl rfl rfl ((B3.ext E9).ext E11) (Nat.le_of_ble_eq_true rfl) ?_
                  intro w6 Es10 Bs10
                  have F24 := F23.set Es10 (by omega)
                  have hzs10 := Es10.size
                  refine lx_nil ?_
                  refine wk_ret ?_
                  refine retR1 Tryz.results85 (.cell rfl (run_loadVar_blk ag_36 sz_36 Bs10 rfl rfl)) F24 ?_
                  first | exact (sz_yes hin).trans (congrArg vlV hz.symm) | exact (sz_no hin).trans (congrArg vlV hz.symm) | exact rk1 hNot hk2 | exact rk2 hNot hk2 | exact rk3 hNot hEq hab | exact rk4 hNot hEq hk1 hk22 | exact rk5 hNot hEq hab (.inl hk1) | exact rk5 hNot hEq hab (.inr hk22) | exact rk6 hNot hEq (.inl hab) | exact rk6 hNot hEq (.inr hk1) | exact congrArg vlV ((rk7 hNot hEq hab hk1).trans (rmLt hLt)).symm | exact congrArg vlV ((rk7 hNot hEq hab hk1).trans (rmLe hLt hLe)).symm | exact congrArg vlV ((rk7 hNot hEq hab hk1).trans (rm0 hLt hLe hAdd hSub hMul hNeg h0)).symm
              ·
                refine lx_value (want rfl) (as_bool rfl) ?_
                refine lx_nil ?_
                refine wk_cond_f rfl ?_
                refine wk_seq ?_
                refine wk_region ?_
                refine lx_value (want rfl) (rn_eqlS rfl rfl) ?_
                refine lx_dec (fun hSub => ?_) (fun hSub => ?_)
                ·
                  refine lx_value (want rfl) (as_bool rfl) ?_
                  refine lx_nil ?_
                  refine wk_cond_t rfl ?_
                  refine wk_region ?_
                  refine lx_value (want rfl) (rn_fieldAddr fa_36_1 rfl) ?_
                  refine lx_value (want rfl) (rn_load1Blk ag_3 rfl ((B1.ext Eb2).ext Eb3) rfl) ?_
                  refine lx_value (want rfl) (rn_fieldAddr fa_36_1 rfl) ?_
                  refine lx_value (want rfl) (rn_load1Blk ag_3 rfl (B2.ext Eb3) rfl) ?_
                  refine lx_value (want rfl) (rn_sub rfl rfl (by omega)) ?_
                  have hz : reckL nm a b = sizedV (a.2 - b.2) := (rk7 hNot hEq hab hk1).trans (rmSub hLt hLe hAdd hSub)
                  refine lx_value (want rfl) (as_int rfl) ?_
                  refine lx_nil ?_
                  refine wk_seq ?_
                  refine wk_seq ?_
                  refine wk_region ?_
                  refine lx_value (want rfl) (mv_int rfl) ?_
                  refine lx_call (want rfl) (ent_func cf_65 (argsC (t_int rfl) (argsC (t_int rfl) (argsC (t_int rfl) args0)))) (in_ct _ _ _ w3) ?_
                  rintro _ w4 E12 rfl
                  have F25 := F3.ext E12
                  have hz12 := E12.size
                  refine lx_split (fun hin => ?_) (fun hin => ?_)
                  ·
                    replace hin := of_decide_eq_true hin
                    refine lx_value (want rfl) (rn_not rfl) ?_
                    refine lx_nil ?_
                    refine wk_cond_f rfl ?_
                    refine wk_skip ?_
                    refine wk_seq ?_
                    refine wk_region ?_
                    refine lx_value (want rfl) (mv_int rfl) ?_
                    refine lx_call (want rfl) (ent_func cf_41 (argsC (t_int rfl) args0)) (int_ct _ w4) ?_
                    rintro _ w5 E13 rfl
                    have F26 := F25.ext E13
                    have hz13 := E13.size
                    refine lx_set (want rfl) sz_36 rfl (t_agg rfl) rfl rfl rfl ((B3.ext E12).ext E13) (Nat.le_of_ble_eq_true rfl) ?_
                    intro w6 Es11 Bs11
                    have F27 := F26.set Es11 (by omega)
                    have hzs11 := Es11.size
                    refine lx_nil ?_
                    refine wk_ret ?_
                    refine retR1 Tryz.results85 (.cell rfl (run_loadVar_blk ag_36 sz_36 Bs11 rfl rfl)) F27 ?_
                    first | exact (sz_yes hin).trans (congrArg vlV hz.symm) | exact (sz_no hin).trans (congrArg vlV hz.symm) | exact rk1 hNot hk2 | exact rk2 hNot hk2 | exact rk3 hNot hEq hab | exact rk4 hNot hEq hk1 hk22 | exact rk5 hNot hEq hab (.inl hk1) | exact rk5 hNot hEq hab (.inr hk22) | exact rk6 hNot hEq (.inl hab) | exact rk6 hNot hEq (.inr hk1) | exact congrArg vlV ((rk7 hNot hEq hab hk1).trans (rmLt hLt)).symm | exact congrArg vlV ((rk7 hNot hEq hab hk1).trans (rmLe hLt hLe)).symm | exact congrArg vlV ((rk7 hNot hEq hab hk1).trans (rm0 hLt hLe hAdd hSub hMul hNeg h0)).symm
                  ·
                    replace hin := of_decide_eq_false hin
                    refine lx_value (want rfl) (rn_not rfl) ?_
                    refine lx_nil ?_
                    refine wk_cond_t rfl ?_
                    refine wk_seq ?_
                    refine wk_region ?_
                    refine lx_call (want rfl) (ent_func cf_67 (argsC (t_int rfl) args0)) (refbad_ct _ w4) ?_
                    rintro _ w5 E14 rfl
                    have F28 := F25.ext E14
                    have hz14 := E14.size
                    refine lx_set (want rfl) sz_36 rfl (t_agg rfl) rfl rfl rfl ((B3.ext E12).ext E14) (Nat.le_of_ble_eq_true rfl) ?_
                    intro w6 Es12 Bs12
                    have F29 := F28.set Es12 (by omega)
                    have hzs12 := Es12.size
                    refine lx_nil ?_
                    refine wk_ret ?_
                    refine retR1 Tryz.results85 (.cell rfl (run_loadVar_blk ag_36 sz_36 Bs12 rfl rfl)) F29 ?_
                    first | exact (sz_yes hin).trans (congrArg vlV hz.symm) | exact (sz_no hin).trans (congrArg vlV hz.symm) | exact rk1 hNot hk2 | exact rk2 hNot hk2 | exact rk3 hNot hEq hab | exact rk4 hNot hEq hk1 hk22 | exact rk5 hNot hEq hab (.inl hk1) | exact rk5 hNot hEq hab (.inr hk22) | exact rk6 hNot hEq (.inl hab) | exact rk6 hNot hEq (.inr hk1) | exact congrArg vlV ((rk7 hNot hEq hab hk1).trans (rmLt hLt)).symm | exact congrArg vlV ((rk7 hNot hEq hab hk1).trans (rmLe hLt hLe)).symm | exact congrArg vlV ((rk7 hNot hEq hab hk1).trans (rm0 hLt hLe hAdd hSub hMul hNeg h0)).symm
                ·
                  refine lx_value (want rfl) (as_bool rfl) ?_
                  refine lx_nil ?_
                  refine wk_cond_f rfl ?_
                  refine wk_seq ?_
                  refine wk_region ?_
                  refine lx_value (want rfl) (rn_eqlS rfl rfl) ?_
                  refine lx_dec (fun hMul => ?_) (fun hMul => ?_)
                  ·
                    refine lx_value (want rfl) (as_bool rfl) ?_
                    refine lx_nil ?_
                    refine wk_cond_t rfl ?_
                    refine wk_region ?_
                    refine lx_value (want rfl) (rn_fieldAddr fa_36_1 rfl) ?_
                    refine lx_value (want rfl) (rn_load1Blk ag_3 rfl ((B1.ext Eb2).ext Eb3) rfl) ?_
                    refine lx_value (want rfl) (rn_fieldAddr fa_36_1 rfl) ?_
                    refine lx_value (want rfl) (rn_load1Blk ag_3 rfl (B2.ext Eb3) rfl) ?_
                    refine lx_value (want rfl) (rn_mul rfl rfl (mul_bd hA hB)) ?_
                    have hz : reckL nm a b = sizedV (a.2 * b.2) := (rk7 hNot hEq hab hk1).trans (rmMul hLt hLe hAdd hSub hMul)
                    refine lx_value (want rfl) (as_int rfl) ?_
                    refine lx_nil ?_
                    refine wk_seq ?_
                    refine wk_seq ?_
                    refine wk_region ?_
                    refine lx_value (want rfl) (mv_int rfl) ?_
                    refine lx_call (want rfl) (ent_func cf_65 (argsC (t_int rfl) (argsC (t_int rfl) (argsC (t_int rfl) args0)))) (in_ct _ _ _ w3) ?_
                    rintro _ w4 E15 rfl
                    have F30 := F3.ext E15
                    have hz15 := E15.size
                    refine lx_split (fun hin => ?_) (fun hin => ?_)
                    ·
                      replace hin := of_decide_eq_true hin
                      refine lx_value (want rfl) (rn_not rfl) ?_
                      refine lx_nil ?_
                      refine wk_cond_f rfl ?_
                      refine wk_skip ?_
                      refine wk_seq ?_
                      refine wk_region ?_
                      refine lx_value (want rfl) (mv_int rfl) ?_
                      refine lx_call (want rfl) (ent_func cf_41 (argsC (t_int rfl) args0)) (int_ct _ w4) ?_
                      rintro _ w5 E16 rfl
                      have F31 := F30.ext E16
                      have hz16 := E16.size
                      refine lx_set (want rfl) sz_36 rfl (t_agg rfl) rfl rfl rfl ((B3.ext E15).ext E16) (Nat.le_of_ble_eq_true rfl) ?_
                      intro w6 Es13 Bs13
                      have F32 := F31.set Es13 (by omega)
                      have hzs13 := Es13.size
                      refine lx_nil ?_
                      refine wk_ret ?_
                      refine retR1 Tryz.results85 (.cell rfl (run_loadVar_blk ag_36 sz_36 Bs13 rfl rfl)) F32 ?_
                      first | exact (sz_yes hin).trans (congrArg vlV hz.symm) | exact (sz_no hin).trans (congrArg vlV hz.symm) | exact rk1 hNot hk2 | exact rk2 hNot hk2 | exact rk3 hNot hEq hab | exact rk4 hNot hEq hk1 hk22 | exact rk5 hNot hEq hab (.inl hk1) | exact rk5 hNot hEq hab (.inr hk22) | exact rk6 hNot hEq (.inl hab) | exact rk6 hNot hEq (.inr hk1) | exact congrArg vlV ((rk7 hNot hEq hab hk1).trans (rmLt hLt)).symm | exact congrArg vlV ((rk7 hNot hEq hab hk1).trans (rmLe hLt hLe)).symm | exact congrArg vlV ((rk7 hNot hEq hab hk1).trans (rm0 hLt hLe hAdd hSub hMul hNeg h0)).symm
                    ·
                      replace hin := of_decide_eq_false hin
                      refine lx_value (want rfl) (rn_not rfl) ?_
                      refine lx_nil ?_
                      refine wk_cond_t rfl ?_
                      refine wk_seq ?_
                      refine wk_region ?_
                      refine lx_call (want rfl) (ent_func cf_67 (argsC (t_int rfl) args0)) (refbad_ct _ w4) ?_
                      rintro _ w5 E17 rfl
                      have F33 := F30.ext E17
                      have hz17 := E17.size
                      refine lx_set (want rfl) sz_36 rfl (t_agg rfl) rfl rfl rfl ((B3.ext E15).ext E17) (Nat.le_of_ble_eq_true rfl) ?_
                      intro w6 Es14 Bs14
                      have F34 := F33.set Es14 (by omega)
                      have hzs14 := Es14.size
                      refine lx_nil ?_
                      refine wk_ret ?_
                      refine retR1 Tryz.results85 (.cell rfl (run_loadVar_blk ag_36 sz_36 Bs14 rfl rfl)) F34 ?_
                      first | exact (sz_yes hin).trans (congrArg vlV hz.symm) | exact (sz_no hin).trans (congrArg vlV hz.symm) | exact rk1 hNot hk2 | exact rk2 hNot hk2 | exact rk3 hNot hEq hab | exact rk4 hNot hEq hk1 hk22 | exact rk5 hNot hEq hab (.inl hk1) | exact rk5 hNot hEq hab (.inr hk22) | exact rk6 hNot hEq (.inl hab) | exact rk6 hNot hEq (.inr hk1) | exact congrArg vlV ((rk7 hNot hEq hab hk1).trans (rmLt hLt)).symm | exact congrArg vlV ((rk7 hNot hEq hab hk1).trans (rmLe hLt hLe)).symm | exact congrArg vlV ((rk7 hNot hEq hab hk1).trans (rm0 hLt hLe hAdd hSub hMul hNeg h0)).symm
                  ·
                    refine lx_value (want rfl) (as_bool rfl) ?_
                    refine lx_nil ?_
                    refine wk_cond_f rfl ?_
                    refine wk_seq ?_
                    refine wk_region ?_
                    refine lx_value (want rfl) (rn_eqlS rfl rfl) ?_
                    refine lx_dec (fun hNeg => ?_) (fun hNeg => ?_)
                    ·
                      refine lx_value (want rfl) (as_bool rfl) ?_
                      refine lx_nil ?_
                      refine wk_cond_t rfl ?_
                      refine wk_region ?_
                      refine lx_value (want rfl) (rn_fieldAddr fa_36_1 rfl) ?_
                      refine lx_value (want rfl) (rn_load1Blk ag_3 rfl ((B1.ext Eb2).ext Eb3) rfl) ?_
                      refine lx_value (want rfl) (rn_neg rfl (by omega)) ?_
                      have hz : reckL nm a b = sizedV (-a.2) := (rk7 hNot hEq hab hk1).trans (rmNeg hLt hLe hAdd hSub hMul hNeg)
                      refine lx_value (want rfl) (as_int rfl) ?_
                      refine lx_nil ?_
                      refine wk_seq ?_
                      refine wk_seq ?_
                      refine wk_region ?_
                      refine lx_value (want rfl) (mv_int rfl) ?_
                      refine lx_call (want rfl) (ent_func cf_65 (argsC (t_int rfl) (argsC (t_int rfl) (argsC (t_int rfl) args0)))) (in_ct _ _ _ w3) ?_
                      rintro _ w4 E18 rfl
                      have F35 := F3.ext E18
                      have hz18 := E18.size
                      refine lx_split (fun hin => ?_) (fun hin => ?_)
                      ·
                        replace hin := of_decide_eq_true hin
                        refine lx_value (want rfl) (rn_not rfl) ?_
                        refine lx_nil ?_
                        refine wk_cond_f rfl ?_
                        refine wk_skip ?_
                        refine wk_seq ?_
                        refine wk_region ?_
                        refine lx_value (want rfl) (mv_int rfl) ?_
                        refine lx_call (want rfl) (ent_func cf_41 (argsC (t_int rfl) args0)) (int_ct _ w4) ?_
                        rintro _ w5 E19 rfl
                        have F36 := F35.ext E19
                        have hz19 := E19.size
                        refine lx_set (want rfl) sz_36 rfl (t_agg rfl) rfl rfl rfl ((B3.ext E18).ext E19) (Nat.le_of_ble_eq_true rfl) ?_
                        intro w6 Es15 Bs15
                        have F37 := F36.set Es15 (by omega)
                        have hzs15 := Es15.size
                        refine lx_nil ?_
                        refine wk_ret ?_
                        refine retR1 Tryz.results85 (.cell rfl (run_loadVar_blk ag_36 sz_36 Bs15 rfl rfl)) F37 ?_
                        first | exact (sz_yes hin).trans (congrArg vlV hz.symm) | exact (sz_no hin).trans (congrArg vlV hz.symm) | exact rk1 hNot hk2 | exact rk2 hNot hk2 | exact rk3 hNot hEq hab | exact rk4 hNot hEq hk1 hk22 | exact rk5 hNot hEq hab (.inl hk1) | exact rk5 hNot hEq hab (.inr hk22) | exact rk6 hNot hEq (.inl hab) | exact rk6 hNot hEq (.inr hk1) | exact congrArg vlV ((rk7 hNot hEq hab hk1).trans (rmLt hLt)).symm | exact congrArg vlV ((rk7 hNot hEq hab hk1).trans (rmLe hLt hLe)).symm | exact congrArg vlV ((rk7 hNot hEq hab hk1).trans (rm0 hLt hLe hAdd hSub hMul hNeg h0)).symm
                      ·
                        replace hin := of_decide_eq_false hin
                        refine lx_value (want rfl) (rn_not rfl) ?_
                        refine lx_nil ?_
                        refine wk_cond_t rfl ?_
                        refine wk_seq ?_
                        refine wk_region ?_
                        refine lx_call (want rfl) (ent_func cf_67 (argsC (t_int rfl) args0)) (refbad_ct _ w4) ?_
                        rintro _ w5 E20 rfl
                        have F38 := F35.ext E20
                        have hz20 := E20.size
                        refine lx_set (want rfl) sz_36 rfl (t_agg rfl) rfl rfl rfl ((B3.ext E18).ext E20) (Nat.le_of_ble_eq_true rfl) ?_
                        intro w6 Es16 Bs16
                        have F39 := F38.set Es16 (by omega)
                        have hzs16 := Es16.size
                        refine lx_nil ?_
                        refine wk_ret ?_
                        refine retR1 Tryz.results85 (.cell rfl (run_loadVar_blk ag_36 sz_36 Bs16 rfl rfl)) F39 ?_
                        first | exact (sz_yes hin).trans (congrArg vlV hz.symm) | exact (sz_no hin).trans (congrArg vlV hz.symm) | exact rk1 hNot hk2 | exact rk2 hNot hk2 | exact rk3 hNot hEq hab | exact rk4 hNot hEq hk1 hk22 | exact rk5 hNot hEq hab (.inl hk1) | exact rk5 hNot hEq hab (.inr hk22) | exact rk6 hNot hEq (.inl hab) | exact rk6 hNot hEq (.inr hk1) | exact congrArg vlV ((rk7 hNot hEq hab hk1).trans (rmLt hLt)).symm | exact congrArg vlV ((rk7 hNot hEq hab hk1).trans (rmLe hLt hLe)).symm | exact congrArg vlV ((rk7 hNot hEq hab hk1).trans (rm0 hLt hLe hAdd hSub hMul hNeg h0)).symm
                    ·
                      refine lx_value (want rfl) (as_bool rfl) ?_
                      refine lx_nil ?_
                      refine wk_cond_f rfl ?_
                      refine wk_seq ?_
                      refine wk_seq ?_
                      refine wk_region ?_
                      refine lx_value (want rfl) (rn_fieldAddr fa_36_1 rfl) ?_
                      refine lx_value (want rfl) (rn_load1Blk ag_3 rfl (B2.ext Eb3) rfl) ?_
                      refine lx_value (want rfl) (rn_eql rfl rfl) ?_
                      refine lx_dec (fun h0 => ?_) (fun h0 => ?_)
                      ·
                        refine lx_nil ?_
                        refine wk_cond_t rfl ?_
                        refine wk_seq ?_
                        refine wk_region ?_
                        refine lx_call (want rfl) (ent_func cf_67 (argsC (t_int rfl) args0)) (refbad_ct _ w3) ?_
                        rintro _ w4 E21 rfl
                        have F40 := F3.ext E21
                        have hz21 := E21.size
                        refine lx_set (want rfl) sz_36 rfl (t_agg rfl) rfl rfl rfl (B3.ext E21) (Nat.le_of_ble_eq_true rfl) ?_
                        intro w5 Es17 Bs17
                        have F41 := F40.set Es17 (by omega)
                        have hzs17 := Es17.size
                        refine lx_nil ?_
                        refine wk_ret ?_
                        refine retR1 Tryz.results85 (.cell rfl (run_loadVar_blk ag_36 sz_36 Bs17 rfl rfl)) F41 ?_
                        first | exact (sz_yes hin).trans (congrArg vlV hz.symm) | exact (sz_no hin).trans (congrArg vlV hz.symm) | exact rk1 hNot hk2 | exact rk2 hNot hk2 | exact rk3 hNot hEq hab | exact rk4 hNot hEq hk1 hk22 | exact rk5 hNot hEq hab (.inl hk1) | exact rk5 hNot hEq hab (.inr hk22) | exact rk6 hNot hEq (.inl hab) | exact rk6 hNot hEq (.inr hk1) | exact congrArg vlV ((rk7 hNot hEq hab hk1).trans (rmLt hLt)).symm | exact congrArg vlV ((rk7 hNot hEq hab hk1).trans (rmLe hLt hLe)).symm | exact congrArg vlV ((rk7 hNot hEq hab hk1).trans (rm0 hLt hLe hAdd hSub hMul hNeg h0)).symm
                      ·
                        refine lx_nil ?_
                        refine wk_cond_f rfl ?_
                        refine wk_skip ?_
                        refine wk_seq ?_
                        refine wk_region ?_
                        refine lx_value (want rfl) (rn_fieldAddr fa_36_1 rfl) ?_
                        refine lx_value (want rfl) (rn_load1Blk ag_3 rfl ((B1.ext Eb2).ext Eb3) rfl) ?_
                        refine lx_value (want rfl) (rn_fieldAddr fa_36_1 rfl) ?_
                        refine lx_value (want rfl) (rn_load1Blk ag_3 rfl (B2.ext Eb3) rfl) ?_
                        refine lx_value (want rfl) (rn_tquo rfl rfl hA h0) ?_
                        refine lx_value (want rfl) (as_int rfl) ?_
                        refine lx_nil ?_
                        refine wk_seq ?_
                        refine wk_region ?_
                        refine lx_value (want rfl) (mv_string rfl) ?_
                        refine lx_value (want rfl) (rn_eqlS rfl rfl) ?_
                        refine lx_dec (fun hMod => ?_) (fun hMod => ?_)
                        ·
                          have hz : reckL nm a b = sizedV (a.2.tmod b.2) := (rk7 hNot hEq hab hk1).trans (rmMod hLt hLe hAdd hSub hMul hNeg h0 hMod)
                          refine lx_nil ?_
                          refine wk_cond_t rfl ?_
                          refine wk_region ?_
                          refine lx_value (want rfl) (rn_fieldAddr fa_36_1 rfl) ?_
                          refine lx_value (want rfl) (rn_load1Blk ag_3 rfl ((B1.ext Eb2).ext Eb3) rfl) ?_
                          refine lx_value (want rfl) (rn_fieldAddr fa_36_1 rfl) ?_
                          refine lx_value (want rfl) (rn_load1Blk ag_3 rfl (B2.ext Eb3) rfl) ?_
                          refine lx_value (want rfl) (rn_trem rfl rfl hA h0) ?_
                          refine lx_value (want rfl) (as_int rfl) ?_
                          refine lx_nil ?_
                          refine wk_seq ?_
                          refine wk_seq ?_
                          refine wk_region ?_
                          refine lx_value (want rfl) (mv_int rfl) ?_
                          refine lx_call (want rfl) (ent_func cf_65 (argsC (t_int rfl) (argsC (t_int rfl) (argsC (t_int rfl) args0)))) (in_ct _ _ _ w3) ?_
                          rintro _ w4 E22 rfl
                          have F42 := F3.ext E22
                          have hz22 := E22.size
                          refine lx_split (fun hin => ?_) (fun hin => ?_)
                          ·
                            replace hin := of_decide_eq_true hin
                            refine lx_value (want rfl) (rn_not rfl) ?_
                            refine lx_nil ?_
                            refine wk_cond_f rfl ?_
                            refine wk_skip ?_
                            refine wk_seq ?_
                            refine wk_region ?_
                            refine lx_value (want rfl) (mv_int rfl) ?_
                            refine lx_call (want rfl) (ent_func cf_41 (argsC (t_int rfl) args0)) (int_ct _ w4) ?_
                            rintro _ w5 E23 rfl
                            have F43 := F42.ext E23
                            have hz23 := E23.size
                            refine lx_set (want rfl) sz_36 rfl (t_agg rfl) rfl rfl rfl ((B3.ext E22).ext E23) (Nat.le_of_ble_eq_true rfl) ?_
                            intro w6 Es18 Bs18
                            have F44 := F43.set Es18 (by omega)
                            have hzs18 := Es18.size
                            refine lx_nil ?_
                            refine wk_ret ?_
                            refine retR1 Tryz.results85 (.cell rfl (run_loadVar_blk ag_36 sz_36 Bs18 rfl rfl)) F44 ?_
                            first | exact (sz_yes hin).trans (congrArg vlV hz.symm) | exact (sz_no hin).trans (congrArg vlV hz.symm) | exact rk1 hNot hk2 | exact rk2 hNot hk2 | exact rk3 hNot hEq hab | exact rk4 hNot hEq hk1 hk22 | exact rk5 hNot hEq hab (.inl hk1) | exact rk5 hNot hEq hab (.inr hk22) | exact rk6 hNot hEq (.inl hab) | exact rk6 hNot hEq (.inr hk1) | exact congrArg vlV ((rk7 hNot hEq hab hk1).trans (rmLt hLt)).symm | exact congrArg vlV ((rk7 hNot hEq hab hk1).trans (rmLe hLt hLe)).symm | exact congrArg vlV ((rk7 hNot hEq hab hk1).trans (rm0 hLt hLe hAdd hSub hMul hNeg h0)).symm
                          ·
                            replace hin := of_decide_eq_false hin
                            refine lx_value (want rfl) (rn_not rfl) ?_
                            refine lx_nil ?_
                            refine wk_cond_t rfl ?_
                            refine wk_seq ?_
                            refine wk_region ?_
                            refine lx_call (want rfl) (ent_func cf_67 (argsC (t_int rfl) args0)) (refbad_ct _ w4) ?_
                            rintro _ w5 E24 rfl
                            have F45 := F42.ext E24
                            have hz24 := E24.size
                            refine lx_set (want rfl) sz_36 rfl (t_agg rfl) rfl rfl rfl ((B3.ext E22).ext E24) (Nat.le_of_ble_eq_true rfl) ?_
                            intro w6 Es19 Bs19
                            have F46 := F45.set Es19 (by omega)
                            have hzs19 := Es19.size
                            refine lx_nil ?_
                            refine wk_ret ?_
                            refine retR1 Tryz.results85 (.cell rfl (run_loadVar_blk ag_36 sz_36 Bs19 rfl rfl)) F46 ?_
                            first | exact (sz_yes hin).trans (congrArg vlV hz.symm) | exact (sz_no hin).trans (congrArg vlV hz.symm) | exact rk1 hNot hk2 | exact rk2 hNot hk2 | exact rk3 hNot hEq hab | exact rk4 hNot hEq hk1 hk22 | exact rk5 hNot hEq hab (.inl hk1) | exact rk5 hNot hEq hab (.inr hk22) | exact rk6 hNot hEq (.inl hab) | exact rk6 hNot hEq (.inr hk1) | exact congrArg vlV ((rk7 hNot hEq hab hk1).trans (rmLt hLt)).symm | exact congrArg vlV ((rk7 hNot hEq hab hk1).trans (rmLe hLt hLe)).symm | exact congrArg vlV ((rk7 hNot hEq hab hk1).trans (rm0 hLt hLe hAdd hSub hMul hNeg h0)).symm
                        ·
                          have hz : reckL nm a b = sizedV (a.2.tdiv b.2) := (rk7 hNot hEq hab hk1).trans (rmDiv hLt hLe hAdd hSub hMul hNeg h0 hMod)
                          refine lx_nil ?_
                          refine wk_cond_f rfl ?_
                          refine wk_skip ?_
                          refine wk_seq ?_
                          refine wk_seq ?_
                          refine wk_region ?_
                          refine lx_value (want rfl) (mv_int rfl) ?_
                          refine lx_call (want rfl) (ent_func cf_65 (argsC (t_int rfl) (argsC (t_int rfl) (argsC (t_int rfl) args0)))) (in_ct _ _ _ w3) ?_
                          rintro _ w4 E25 rfl
                          have F47 := F3.ext E25
                          have hz25 := E25.size
                          refine lx_split (fun hin => ?_) (fun hin => ?_)
                          ·
                            replace hin := of_decide_eq_true hin
                            refine lx_value (want rfl) (rn_not rfl) ?_
                            refine lx_nil ?_
                            refine wk_cond_f rfl ?_
                            refine wk_skip ?_
                            refine wk_seq ?_
                            refine wk_region ?_
                            refine lx_value (want rfl) (mv_int rfl) ?_
                            refine lx_call (want rfl) (ent_func cf_41 (argsC (t_int rfl) args0)) (int_ct _ w4) ?_
                            rintro _ w5 E26 rfl
                            have F48 := F47.ext E26
                            have hz26 := E26.size
                            refine lx_set (want rfl) sz_36 rfl (t_agg rfl) rfl rfl rfl ((B3.ext E25).ext E26) (Nat.le_of_ble_eq_true rfl) ?_
                            intro w6 Es20 Bs20
                            have F49 := F48.set Es20 (by omega)
                            have hzs20 := Es20.size
                            refine lx_nil ?_
                            refine wk_ret ?_
                            refine retR1 Tryz.results85 (.cell rfl (run_loadVar_blk ag_36 sz_36 Bs20 rfl rfl)) F49 ?_
                            first | exact (sz_yes hin).trans (congrArg vlV hz.symm) | exact (sz_no hin).trans (congrArg vlV hz.symm) | exact rk1 hNot hk2 | exact rk2 hNot hk2 | exact rk3 hNot hEq hab | exact rk4 hNot hEq hk1 hk22 | exact rk5 hNot hEq hab (.inl hk1) | exact rk5 hNot hEq hab (.inr hk22) | exact rk6 hNot hEq (.inl hab) | exact rk6 hNot hEq (.inr hk1) | exact congrArg vlV ((rk7 hNot hEq hab hk1).trans (rmLt hLt)).symm | exact congrArg vlV ((rk7 hNot hEq hab hk1).trans (rmLe hLt hLe)).symm | exact congrArg vlV ((rk7 hNot hEq hab hk1).trans (rm0 hLt hLe hAdd hSub hMul hNeg h0)).symm
                          ·
                            replace hin := of_decide_eq_false hin
                            refine lx_value (want rfl) (rn_not rfl) ?_
                            refine lx_nil ?_
                            refine wk_cond_t rfl ?_
                            refine wk_seq ?_
                            refine wk_region ?_
                            refine lx_call (want rfl) (ent_func cf_67 (argsC (t_int rfl) args0)) (refbad_ct _ w4) ?_
                            rintro _ w5 E27 rfl
                            have F50 := F47.ext E27
                            have hz27 := E27.size
                            refine lx_set (want rfl) sz_36 rfl (t_agg rfl) rfl rfl rfl ((B3.ext E25).ext E27) (Nat.le_of_ble_eq_true rfl) ?_
                            intro w6 Es21 Bs21
                            have F51 := F50.set Es21 (by omega)
                            have hzs21 := Es21.size
                            refine lx_nil ?_
                            refine wk_ret ?_
                            refine retR1 Tryz.results85 (.cell rfl (run_loadVar_blk ag_36 sz_36 Bs21 rfl rfl)) F51 ?_
                            first | exact (sz_yes hin).trans (congrArg vlV hz.symm) | exact (sz_no hin).trans (congrArg vlV hz.symm) | exact rk1 hNot hk2 | exact rk2 hNot hk2 | exact rk3 hNot hEq hab | exact rk4 hNot hEq hk1 hk22 | exact rk5 hNot hEq hab (.inl hk1) | exact rk5 hNot hEq hab (.inr hk22) | exact rk6 hNot hEq (.inl hab) | exact rk6 hNot hEq (.inr hk1) | exact congrArg vlV ((rk7 hNot hEq hab hk1).trans (rmLt hLt)).symm | exact congrArg vlV ((rk7 hNot hEq hab hk1).trans (rmLe hLt hLe)).symm | exact congrArg vlV ((rk7 hNot hEq hab hk1).trans (rm0 hLt hLe hAdd hSub hMul hNeg h0)).symm
  ·
    refine lx_value (want rfl) (as_bool rfl) ?_
    refine lx_nil ?_
    refine wk_seq ?_
    refine wk_seq ?_
    refine wk_region ?_
    refine lx_value (want rfl) (mv_string rfl) ?_
    refine lx_nil ?_
    refine wk_block ?_
    refine wk_seq ?_
    refine wk_region ?_
    refine lx_value (want rfl) (rn_eqlS rfl rfl) ?_
    refine lx_dec (fun hNot => ?_) (fun hNot => ?_)
    ·
      refine lx_value (want rfl) (as_bool rfl) ?_
      refine lx_nil ?_
      refine wk_cond_t rfl ?_
      refine wk_seq ?_
      refine wk_seq ?_
      refine wk_region ?_
      refine lx_value (want rfl) (rn_fieldAddr fa_36_0 rfl) ?_
      refine lx_value (want rfl) (rn_load1Blk ag_5 rfl ((B1.ext Eb2).ext Eb3) rfl) ?_
      refine lx_value (want rfl) (rn_neq rfl rfl) ?_
      refine lx_dec (fun hk2 => ?_) (fun hk2 => ?_)
      ·
        refine lx_nil ?_
        refine wk_cond_t rfl ?_
        refine wk_seq ?_
        refine wk_region ?_
        refine lx_call (want rfl) (ent_func cf_67 (argsC (t_int rfl) args0)) (refbad_ct _ w3) ?_
        rintro _ w4 E28 rfl
        have F52 := F3.ext E28
        have hz28 := E28.size
        refine lx_set (want rfl) sz_36 rfl (t_agg rfl) rfl rfl rfl (B3.ext E28) (Nat.le_of_ble_eq_true rfl) ?_
        intro w5 Es22 Bs22
        have F53 := F52.set Es22 (by omega)
        have hzs22 := Es22.size
        refine lx_nil ?_
        refine wk_ret ?_
        refine retR1 Tryz.results85 (.cell rfl (run_loadVar_blk ag_36 sz_36 Bs22 rfl rfl)) F53 ?_
        first | exact (sz_yes hin).trans (congrArg vlV hz.symm) | exact (sz_no hin).trans (congrArg vlV hz.symm) | exact rk1 hNot hk2 | exact rk2 hNot hk2 | exact rk3 hNot hEq hab | exact rk4 hNot hEq hk1 hk22 | exact rk5 hNot hEq hab (.inl hk1) | exact rk5 hNot hEq hab (.inr hk22) | exact rk6 hNot hEq (.inl hab) | exact rk6 hNot hEq (.inr hk1) | exact congrArg vlV ((rk7 hNot hEq hab hk1).trans (rmLt hLt)).symm | exact congrArg vlV ((rk7 hNot hEq hab hk1).trans (rmLe hLt hLe)).symm | exact congrArg vlV ((rk7 hNot hEq hab hk1).trans (rm0 hLt hLe hAdd hSub hMul hNeg h0)).symm
      ·
        refine lx_nil ?_
        refine wk_cond_f rfl ?_
        refine wk_skip ?_
        refine wk_seq ?_
        refine wk_region ?_
        refine lx_value (want rfl) (rn_fieldAddr fa_36_1 rfl) ?_
        refine lx_value (want rfl) (rn_load1Blk ag_3 rfl ((B1.ext Eb2).ext Eb3) rfl) ?_
        refine lx_value (want rfl) (rn_eql rfl rfl) ?_
        refine lx_call (want rfl) (ent_func cf_68 (argsC (t_bool rfl) args0)) (refbool_ct _ w3) ?_
        rintro _ w4 E29 rfl
        have F54 := F3.ext E29
        have hz29 := E29.size
        refine lx_set (want rfl) sz_36 rfl (t_agg rfl) rfl rfl rfl (B3.ext E29) (Nat.le_of_ble_eq_true rfl) ?_
        intro w5 Es23 Bs23
        have F55 := F54.set Es23 (by omega)
        have hzs23 := Es23.size
        refine lx_nil ?_
        refine wk_ret ?_
        refine retR1 Tryz.results85 (.cell rfl (run_loadVar_blk ag_36 sz_36 Bs23 rfl rfl)) F55 ?_
        first | exact (sz_yes hin).trans (congrArg vlV hz.symm) | exact (sz_no hin).trans (congrArg vlV hz.symm) | exact rk1 hNot hk2 | exact rk2 hNot hk2 | exact rk3 hNot hEq hab | exact rk4 hNot hEq hk1 hk22 | exact rk5 hNot hEq hab (.inl hk1) | exact rk5 hNot hEq hab (.inr hk22) | exact rk6 hNot hEq (.inl hab) | exact rk6 hNot hEq (.inr hk1) | exact congrArg vlV ((rk7 hNot hEq hab hk1).trans (rmLt hLt)).symm | exact congrArg vlV ((rk7 hNot hEq hab hk1).trans (rmLe hLt hLe)).symm | exact congrArg vlV ((rk7 hNot hEq hab hk1).trans (rm0 hLt hLe hAdd hSub hMul hNeg h0)).symm
    ·
      refine lx_value (want rfl) (as_bool rfl) ?_
      refine lx_nil ?_
      refine wk_cond_f rfl ?_
      refine wk_seq ?_
      refine wk_region ?_
      refine lx_value (want rfl) (rn_eqlS rfl rfl) ?_
      refine lx_dec (fun hEq => ?_) (fun hEq => ?_)
      ·
        refine lx_value (want rfl) (as_bool rfl) ?_
        refine lx_nil ?_
        refine wk_cond_t rfl ?_
        refine wk_seq ?_
        refine wk_seq ?_
        refine wk_region ?_
        refine lx_value (want rfl) (mv_bool rfl) ?_
        refine lx_value (want rfl) (rn_not rfl) ?_
        refine lx_value (want rfl) (mv_bool rfl) ?_
        refine lx_skip (want_if (j := 2) (d := 29) (x := false) (y := true) rfl rfl (by decide) rfl) ?_
        refine lx_skip (want_if (j := 2) (d := 29) (x := false) (y := true) rfl rfl (by decide) rfl) ?_
        refine lx_skip (want_if (j := 2) (d := 29) (x := false) (y := true) rfl rfl (by decide) rfl) ?_
        refine lx_skip (want_if (j := 2) (d := 29) (x := false) (y := true) rfl rfl (by decide) rfl) ?_
        refine lx_skip (want_un (j := 6) (d := 33) (x := true) rfl rfl (by decide) rfl) ?_
        refine lx_skip (want_un (j := 6) (d := 33) (x := true) rfl rfl (by decide) rfl) ?_
        refine lx_skip (want_un (j := 6) (d := 33) (x := true) rfl rfl (by decide) rfl) ?_
        refine lx_skip (want_if (j := 2) (d := 29) (x := false) (y := true) rfl rfl (by decide) rfl) ?_
        refine lx_value (want rfl) (pick_t rfl rfl) ?_
        refine lx_nil ?_
        refine wk_cond_t rfl ?_
        refine wk_seq ?_
        refine wk_region ?_
        refine lx_call (want rfl) (ent_func cf_67 (argsC (t_int rfl) args0)) (refbad_ct _ w3) ?_
        rintro _ w4 E30 rfl
        have F56 := F3.ext E30
        have hz30 := E30.size
        refine lx_set (want rfl) sz_36 rfl (t_agg rfl) rfl rfl rfl (B3.ext E30) (Nat.le_of_ble_eq_true rfl) ?_
        intro w5 Es24 Bs24
        have F57 := F56.set Es24 (by omega)
        have hzs24 := Es24.size
        refine lx_nil ?_
        refine wk_ret ?_
        refine retR1 Tryz.results85 (.cell rfl (run_loadVar_blk ag_36 sz_36 Bs24 rfl rfl)) F57 ?_
        first | exact (sz_yes hin).trans (congrArg vlV hz.symm) | exact (sz_no hin).trans (congrArg vlV hz.symm) | exact rk1 hNot hk2 | exact rk2 hNot hk2 | exact rk3 hNot hEq hab | exact rk4 hNot hEq hk1 hk22 | exact rk5 hNot hEq hab (.inl hk1) | exact rk5 hNot hEq hab (.inr hk22) | exact rk6 hNot hEq (.inl hab) | exact rk6 hNot hEq (.inr hk1) | exact congrArg vlV ((rk7 hNot hEq hab hk1).trans (rmLt hLt)).symm | exact congrArg vlV ((rk7 hNot hEq hab hk1).trans (rmLe hLt hLe)).symm | exact congrArg vlV ((rk7 hNot hEq hab hk1).trans (rm0 hLt hLe hAdd hSub hMul hNeg h0)).symm
      ·
        refine lx_value (want rfl) (as_bool rfl) ?_
        refine lx_nil ?_
        refine wk_cond_f rfl ?_
        refine wk_skip ?_
        refine wk_seq ?_
        refine wk_seq ?_
        refine wk_region ?_
        refine lx_value (want rfl) (mv_bool rfl) ?_
        refine lx_value (want rfl) (rn_not rfl) ?_
        refine lx_value (want rfl) (mv_bool rfl) ?_
        refine lx_skip (want_if (j := 2) (d := 48) (x := false) (y := true) rfl rfl (by decide) rfl) ?_
        refine lx_skip (want_if (j := 2) (d := 48) (x := false) (y := true) rfl rfl (by decide) rfl) ?_
        refine lx_skip (want_if (j := 2) (d := 48) (x := false) (y := true) rfl rfl (by decide) rfl) ?_
        refine lx_value (want rfl) (pick_t rfl rfl) ?_
        refine lx_nil ?_
        refine wk_cond_t rfl ?_
        refine wk_seq ?_
        refine wk_region ?_
        refine lx_call (want rfl) (ent_func cf_67 (argsC (t_int rfl) args0)) (refbad_ct _ w3) ?_
        rintro _ w4 E31 rfl
        have F58 := F3.ext E31
        have hz31 := E31.size
        refine lx_set (want rfl) sz_36 rfl (t_agg rfl) rfl rfl rfl (B3.ext E31) (Nat.le_of_ble_eq_true rfl) ?_
        intro w5 Es25 Bs25
        have F59 := F58.set Es25 (by omega)
        have hzs25 := Es25.size
        refine lx_nil ?_
        refine wk_ret ?_
        refine retR1 Tryz.results85 (.cell rfl (run_loadVar_blk ag_36 sz_36 Bs25 rfl rfl)) F59 ?_
        first | exact (sz_yes hin).trans (congrArg vlV hz.symm) | exact (sz_no hin).trans (congrArg vlV hz.symm) | exact rk1 hNot hk2 | exact rk2 hNot hk2 | exact rk3 hNot hEq hab | exact rk4 hNot hEq hk1 hk22 | exact rk5 hNot hEq hab (.inl hk1) | exact rk5 hNot hEq hab (.inr hk22) | exact rk6 hNot hEq (.inl hab) | exact rk6 hNot hEq (.inr hk1) | exact congrArg vlV ((rk7 hNot hEq hab hk1).trans (rmLt hLt)).symm | exact congrArg vlV ((rk7 hNot hEq hab hk1).trans (rmLe hLt hLe)).symm | exact congrArg vlV ((rk7 hNot hEq hab hk1).trans (rm0 hLt hLe hAdd hSub hMul hNeg h0)).symm

end Go.Proofs.YtnhgfmbmfjmonaaGreatDoor

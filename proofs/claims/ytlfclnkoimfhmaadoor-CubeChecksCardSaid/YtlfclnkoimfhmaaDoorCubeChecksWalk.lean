/- The walk of the law CubeChecks. -/
import Derived.Test.YtlfclnkoimfhmaaDoorFacts
import Derived.Test.YtlfclnkoimfhmaaDoorPre
import Derived.Test.YtlfclnkoimfhmaaDoorWalk1
import Derived.Test.YtlfclnkoimfhmaaDoorWalk12
import Derived.Test.YtlfclnkoimfhmaaDoorWalk15
import Derived.Test.YtlfclnkoimfhmaaDoorWalk18
import Derived.Test.YtlfclnkoimfhmaaDoorWalk3
import Derived.Test.YtlfclnkoimfhmaaDoorWalk8
set_option maxRecDepth 100000
set_option linter.unusedVariables false
set_option linter.unusedSimpArgs false
namespace Go.Proofs.YtlfclnkoimfhmaaDoor
open Go Go.RowKit Go.Mix Go.Eng
theorem cf_19 : ∀ args w, (callFunc 19 args).run Tryd.prog w = .ok (.enter 19 args) w := fun _ _ => by kernel_rfl
theorem cf_21 : ∀ args w, (callFunc 21 args).run Tryd.prog w = .ok (.enter 21 args) w := fun _ _ => by kernel_rfl
theorem cf_22 : ∀ args w, (callFunc 22 args).run Tryd.prog w = .ok (.enter 22 args) w := fun _ _ => by kernel_rfl
theorem cf_26 : ∀ args w, (callFunc 26 args).run Tryd.prog w = .ok (.enter 26 args) w := fun _ _ => by kernel_rfl
set_option maxHeartbeats 2000000 in
theorem cubechecks_ct (d r : Int) (L : List (List Pk)) (s : Option Addr) (c : Nat) (G : Nat → Prop) (w0 : World) (hL : BufS G w0 s L) (hT : Tb w0 1) :
    CT Tryd.prog 4 [.agg #[.int .i64 d, .int .i64 r, .slice s L.length c]] w0 no (fun v _ => v = .bool true) := by
  have hTl := hT.lt
  have F0 := Fr.refl no w0
  refine ct_body Tryd.func4 rfl Tryd.ntmps4 (Nat.le_of_ble_eq_true rfl) ?_
  refine wk_seq ?_
  refine wk_region ?_
  refine lx_new (want rfl) (rn_box (t_agg rfl)) ?_
  intro b21 w1 hb21 Eb21 B21 hlb21
  have F1 := F0.ext Eb21
  have hzb21 := Eb21.size
  refine lx_value (want rfl) (as_bool rfl) ?_
  refine lx_nil ?_
  refine wk_seq ?_
  refine wk_seq ?_
  refine wk_region ?_
  refine lx_value (want rfl) (rn_loadBlk ag_24 sz_24 rfl B21 rfl rfl) ?_
  refine lx_call (want rfl) (ent_func cf_22 (argsC (t_agg rfl) args0)) (thin_ct d r L s c G w1 (hL.fr (buf_stab _) F1 (fun _ _ h => h))) ?_
  rintro _ w2 E1 rfl
  have F2 := F1.ext E1
  have hz1 := E1.size
  refine lx_split (fun h10 => ?_) (fun h10 => ?_)
  ·
    have hB := bd_thin h10
    refine lx_value (want rfl) (rn_not rfl) ?_
    refine lx_nil ?_
    refine wk_cond_f rfl ?_
    refine wk_skip ?_
    refine wk_seq ?_
    refine wk_region ?_
    refine lx_value (want rfl) (rn_loadBlk ag_24 sz_24 rfl (B21.ext E1) rfl rfl) ?_
    refine lx_call (want rfl) (ent_func cf_23 (argsC (t_agg rfl) args0)) (copyR (copy_ct d r L s c G hB w2 (hL.fr (buf_stab _) F2 (fun _ _ h => h)))) ?_
    rintro _ w3 E2 ⟨sX, cX, rfl, hX⟩
    have F3 := F2.ext E2
    have hz2 := E2.size
    refine lx_new (want rfl) (rn_alloc ze_24) ?_
    intro b22 w4 hb22 Eb22 B22 hlb22
    have F4 := F3.ext Eb22
    have hzb22 := Eb22.size
    refine lx_set (want rfl) sz_24 rfl (t_agg rfl) rfl rfl rfl B22 (Nat.le_of_ble_eq_true rfl) ?_
    intro w5 Es1 Bs1
    have F5 := F4.set Es1 (by omega)
    have hzs1 := Es1.size
    refine lx_nil ?_
    refine wk_seq ?_
    refine wk_region ?_
    refine lx_value (want rfl) (rn_loadBlk ag_24 sz_24 rfl Bs1 rfl rfl) ?_
    refine lx_call (want rfl) (ent_func cf_24 (argsC (t_agg rfl) args0)) (ccheck_ct d r L sX cX _ hB w5 (hX.fr (buf_stab _) (Fr.trans (Fr.ext (Fr.refl (fun k => k = b22) w3) Eb22) Es1 (fun k _ h => h)) (fun k hk h => by first | exact h | (have := hk.1; have := hk.2; (try dsimp only at h); first | omega | (rcases h with h | h <;> first | omega | (have := ob_some h; omega))))) (((((hT.ext Eb21).ext E1).ext E2).ext Eb22).ne Es1 (by omega))) ?_
    rintro _ w6 E3 rfl
    have F6 := F5.ext E3
    have hz3 := E3.size
    refine lx_value (want rfl) (as_int rfl) ?_
    refine lx_nil ?_
    refine wk_seq ?_
    refine wk_region ?_
    refine lx_value (want rfl) (rn_loadBlk ag_24 sz_24 rfl (Bs1.ext E3) rfl rfl) ?_
    refine lx_call (want rfl) (ent_func cf_25 (argsC (t_agg rfl) args0)) (xleft_ct d r L sX cX _ hB w6 (hX.fr (buf_stab _) (Fr.ext (Fr.trans (Fr.ext (Fr.refl (fun k => k = b22) w3) Eb22) Es1 (fun k _ h => h)) E3) (fun k hk h => by first | exact h | (have := hk.1; have := hk.2; (try dsimp only at h); first | omega | (rcases h with h | h <;> first | omega | (have := ob_some h; omega))))) ((((((hT.ext Eb21).ext E1).ext E2).ext Eb22).ne Es1 (by omega)).ext E3)) ?_
    rintro _ w7 E4 rfl
    have F7 := F6.ext E4
    have hz4 := E4.size
    refine lx_value (want rfl) (mv_tuple rfl) ?_
    refine lx_value (want rfl) (rn_extract rfl rfl) ?_
    refine lx_value (want rfl) (rn_extract rfl rfl) ?_
    refine lx_value (want rfl) (as_int rfl) ?_
    refine lx_value (want rfl) (as_int rfl) ?_
    refine lx_nil ?_
    refine wk_seq ?_
    refine wk_region ?_
    refine lx_value (want rfl) (rn_loadBlk ag_24 sz_24 rfl ((((((B21.ext E1).ext E2).ext Eb22).ne Es1 (by omega)).ext E3).ext E4) rfl rfl) ?_
    refine lx_call (want rfl) (ent_func cf_26 (argsC (t_agg rfl) args0)) (left_ct d r L s c G w7 (hL.fr (buf_stab _) F7 (fun _ _ h => h))) ?_
    rintro _ w8 E5 rfl
    have F8 := F7.ext E5
    have hz5 := E5.size
    refine lx_value (want rfl) (mv_tuple rfl) ?_
    refine lx_value (want rfl) (rn_extract rfl rfl) ?_
    refine lx_value (want rfl) (rn_extract rfl rfl) ?_
    refine lx_value (want rfl) (as_int rfl) ?_
    refine lx_value (want rfl) (as_int rfl) ?_
    refine lx_nil ?_
    refine wk_seq ?_
    refine wk_region ?_
    refine lx_value (want rfl) (mv_int rfl) ?_
    refine lx_value (want rfl) (rn_loadBlk ag_24 sz_24 rfl (((((((B21.ext E1).ext E2).ext Eb22).ne Es1 (by omega)).ext E3).ext E4).ext E5) rfl rfl) ?_
    refine lx_call (want rfl) (ent_func cf_27 (argsC (t_agg rfl) args0)) (check_ct d r L s c G w8 (hL.fr (buf_stab _) F8 (fun _ _ h => h))) ?_
    rintro _ w9 E6 rfl
    have F9 := F8.ext E6
    have hz6 := E6.size
    refine lx_value (want rfl) (rn_eql rfl rfl) ?_
    refine lx_dec_t (rfl) ?_
    refine lx_value (want rfl) (mv_bool rfl) ?_
    refine lx_value (want_if (j := 4) (d := 31) (x := true) (y := true) rfl rfl (by decide) rfl) (mv_int rfl) ?_
    refine lx_value (want_if (j := 4) (d := 31) (x := true) (y := true) rfl rfl (by decide) rfl) (mv_int rfl) ?_
    refine lx_value (want_if (j := 4) (d := 31) (x := true) (y := true) rfl rfl (by decide) rfl) (rn_eql rfl rfl) ?_
    refine lx_dec_t (rfl) ?_
    refine lx_value (want rfl) (pick_t rfl rfl) ?_
    refine lx_value (want rfl) (mv_bool rfl) ?_
    refine lx_value (want_if (j := 9) (d := 36) (x := true) (y := true) rfl rfl (by decide) rfl) (mv_int rfl) ?_
    refine lx_value (want_if (j := 9) (d := 36) (x := true) (y := true) rfl rfl (by decide) rfl) (mv_int rfl) ?_
    refine lx_value (want_if (j := 9) (d := 36) (x := true) (y := true) rfl rfl (by decide) rfl) (rn_eql rfl rfl) ?_
    refine lx_dec_t (rfl) ?_
    refine lx_value (want rfl) (pick_t rfl rfl) ?_
    refine lx_value (want rfl) (mv_bool rfl) ?_
    refine lx_value (want_if (j := 14) (d := 41) (x := true) (y := true) rfl rfl (by decide) rfl) (rn_loadBlk ag_24 sz_24 rfl ((((Bs1.ext E3).ext E4).ext E5).ext E6) rfl rfl) ?_
    refine lx_value (want_if (j := 14) (d := 41) (x := true) (y := true) rfl rfl (by decide) rfl) (rn_loadBlk ag_24 sz_24 rfl ((((((((B21.ext E1).ext E2).ext Eb22).ne Es1 (by omega)).ext E3).ext E4).ext E5).ext E6) rfl rfl) ?_
    refine lx_call (want_if (j := 14) (d := 41) (x := true) (y := true) rfl rfl (by decide) rfl) (ent_func cf_19 (argsC (t_agg rfl) (argsC (t_agg rfl) args0))) (same_ct _ _ L sX cX _ _ _ L s c G w9 (hX.fr (buf_stab _) (Fr.ext (Fr.ext (Fr.ext (Fr.ext (Fr.trans (Fr.ext (Fr.refl (fun k => k = b22) w3) Eb22) Es1 (fun k _ h => h)) E3) E4) E5) E6) (fun k hk h => by first | exact h | (have := hk.1; have := hk.2; (try dsimp only at h); first | omega | (rcases h with h | h <;> first | omega | (have := ob_some h; omega))))) (hL.fr (buf_stab _) F9 (fun _ _ h => h)) hB) ?_
    rintro _ w10 E7 rfl
    have F10 := F9.ext E7
    have hz7 := E7.size
    refine lx_b_t (same_true) ?_
    refine lx_value (want rfl) (pick_t rfl rfl) ?_
    refine lx_value (want rfl) (mv_bool rfl) ?_
    refine lx_call (want_if (j := 19) (d := 46) (x := true) (y := true) rfl rfl (by decide) rfl) (ent_func cf_21 args0) (awake_ct w10 ((((((((((hT.ext Eb21).ext E1).ext E2).ext Eb22).ne Es1 (by omega)).ext E3).ext E4).ext E5).ext E6).ext E7)) ?_
    rintro _ w11 E8 rfl
    have F11 := F10.ext E8
    have hz8 := E8.size
    refine lx_value (want rfl) (pick_t rfl rfl) ?_
    refine lx_value (want rfl) (as_bool rfl) ?_
    refine lx_nil ?_
    refine wk_ret ?_
    refine retR1 Tryd.results4 (.tmp (t_bool rfl)) F11 ?_
    exact rfl
  ·
    refine lx_value (want rfl) (rn_not rfl) ?_
    refine lx_nil ?_
    refine wk_cond_t rfl ?_
    refine wk_seq ?_
    refine wk_region ?_
    refine lx_call (want rfl) (ent_func cf_21 args0) (awake_ct w2 ((hT.ext Eb21).ext E1)) ?_
    rintro _ w3 E9 rfl
    have F12 := F2.ext E9
    have hz9 := E9.size
    refine lx_value (want rfl) (as_bool rfl) ?_
    refine lx_nil ?_
    refine wk_ret ?_
    refine retR1 Tryd.results4 (.tmp (t_bool rfl)) F12 ?_
    exact rfl

end Go.Proofs.YtlfclnkoimfhmaaDoor

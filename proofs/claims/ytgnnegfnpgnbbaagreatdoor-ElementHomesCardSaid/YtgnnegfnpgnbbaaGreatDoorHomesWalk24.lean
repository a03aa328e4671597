/- What functions compute: elementhomes. -/
import Derived.Test.YtgnnegfnpgnbbaaGreatDoorHomesFacts
import Derived.Test.YtgnnegfnpgnbbaaGreatDoorHomesPre
import Derived.Test.YtgnnegfnpgnbbaaGreatDoorHomesWalk12
import Derived.Test.YtgnnegfnpgnbbaaGreatDoorHomesWalk23
import Derived.Test.YtgnnegfnpgnbbaaGreatDoorHomesWalk5
set_option maxRecDepth 100000
set_option linter.unusedVariables false
set_option linter.unusedSimpArgs false
namespace Go.Proofs.YtgnnegfnpgnbbaaGreatDoor
open Go Go.RowKit Go.Mix Go.Eng
theorem elementhomes_ct (c a n : Int) (w0 : World) :
  CT Tryz.prog 3 [.agg #[.int .i64 c, .int .i64 a], .int .i64 n] w0 no (fun v _ => v = .bool true) := by
 have F0 := Fr.refl no w0
 refine ct_body Tryz.func3 rfl Tryz.ntmps3 (Nat.le_of_ble_eq_true rfl) ?_
 refine wk_seq ?_
 refine wk_region ?_
 refine lx_new (want rfl) (rn_box (t_agg rfl)) ?_
 intro b1 w1 hb1 Eb1 B1 hlb1
 have F1 := F0.ext Eb1
 have hzb1 := Eb1.size
 refine lx_value (want rfl) (as_bool rfl) ?_
 refine lx_nil ?_
 refine wk_seq ?_
 refine wk_region ?_
 refine lx_value (want rfl) (rn_loadBlk ag_23 sz_23 rfl B1 rfl rfl) ?_
 refine lx_value (want rfl) (mv_int rfl) ?_
 refine lx_call (want rfl) (ent_func cf_4 (argsC (t_agg rfl) (argsC (t_int rfl) args0))) ((by have h := home_ct c a n w1; rw [homeV_eq] at h; exact h)) ?_
 rintro _ w2 E1 rfl
 have F2 := F1.ext E1
 have hz1 := E1.size
 refine lx_value (want rfl) (mv_tuple rfl) ?_
 refine lx_value (want rfl) (rn_extract rfl rfl) ?_
 refine lx_value (want rfl) (rn_extract rfl rfl) ?_
 refine lx_value (want rfl) (as_int rfl) ?_
 refine lx_value (want rfl) (as_int rfl) ?_
 refine lx_nil ?_
 refine wk_seq ?_
 refine wk_region ?_
 refine lx_value (want rfl) (rn_loadBlk ag_23 sz_23 rfl (B1.ext E1) rfl rfl) ?_
 refine lx_value (want rfl) (mv_int rfl) ?_
 refine lx_call (want rfl) (ent_func cf_5 (argsC (t_agg rfl) (argsC (t_int rfl) args0))) ((by have h := rhome_ct c a n w2; rw [homeV_eq] at h; exact h)) ?_
 rintro _ w3 E2 rfl
 have F3 := F2.ext E2
 have hz2 := E2.size
 refine lx_value (want rfl) (mv_tuple rfl) ?_
 refine lx_value (want rfl) (rn_extract rfl rfl) ?_
 refine lx_value (want rfl) (rn_extract rfl rfl) ?_
 refine lx_value (want rfl) (as_int rfl) ?_
 refine lx_value (want rfl) (as_int rfl) ?_
 refine lx_nil ?_
 refine wk_seq ?_
 refine wk_region ?_
 refine lx_value (want rfl) (mv_int rfl) ?_
 refine lx_value (want rfl) (mv_int rfl) ?_
 refine lx_value (want rfl) (rn_eql rfl rfl) ?_
 refine lx_dec_t (rfl) ?_
 refine lx_value (want rfl) (mv_bool rfl) ?_
 refine lx_value (want_if (j := 3) (d := 24) (x := true) (y := true) rfl rfl (by decide) rfl) (mv_int rfl) ?_
 refine lx_value (want_if (j := 3) (d := 24) (x := true) (y := true) rfl rfl (by decide) rfl) (mv_int rfl) ?_
 refine lx_value (want_if (j := 3) (d := 24) (x := true) (y := true) rfl rfl (by decide) rfl) (rn_eql rfl rfl) ?_
 refine lx_dec_t (rfl) ?_
 refine lx_value (want rfl) (pick_t rfl rfl) ?_
 refine lx_value (want rfl) (mv_bool rfl) ?_
 refine lx_call (want_if (j := 8) (d := 29) (x := true) (y := true) rfl rfl (by decide) rfl) (ent_func cf_6 args0) (awake_ct w3) ?_
 rintro _ w4 E3 rfl
 have F4 := F3.ext E3
 have hz3 := E3.size
 refine lx_value (want rfl) (pick_t rfl rfl) ?_
 refine lx_value (want rfl) (as_bool rfl) ?_
 refine lx_nil ?_
 refine wk_ret ?_
 refine retR1 Tryz.results3 (.tmp (t_bool rfl)) F4 ?_
 exact rfl

end Go.Proofs.YtgnnegfnpgnbbaaGreatDoor

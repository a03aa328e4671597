/- What functions compute: checkstore. -/
import Derived.Test.YtgnnegfnpgnbbaaGreatDoorHomesFacts
import Derived.Test.YtgnnegfnpgnbbaaGreatDoorHomesPre
import Derived.Test.YtgnnegfnpgnbbaaGreatDoorHomesWalk18
set_option maxRecDepth 100000
set_option linter.unusedVariables false
set_option linter.unusedSimpArgs false
namespace Go.Proofs.YtgnnegfnpgnbbaaGreatDoor
open Go Go.RowKit Go.Mix Go.Eng
theorem checkstore_ct (SS : Sto) (sa : Option Addr) (ca : Nat) (sb : Option Addr) (cb : Nat) (F : Nat → Prop) (hok : OkS SS) (w0 : World) (hS : StR F w0 SS sa ca sb cb) :
  CT Tryz.prog 34 [.agg #[.slice sa SS.slots.length ca, .slice sb SS.code.length cb]] w0 no (fun v w => v = .int .i64 0) := by
 have F0 := Fr.refl no w0
 refine ct_body Tryz.func34 rfl Tryz.ntmps34 (Nat.le_of_ble_eq_true rfl) ?_
 refine wk_seq ?_
 refine wk_region ?_
 refine lx_new (want rfl) (rn_box (t_agg rfl)) ?_
 intro b1 w1 hb1 Eb1 B1 hlb1
 have F1 := F0.ext Eb1
 have hzb1 := Eb1.size
 refine lx_value (want rfl) (as_int rfl) ?_
 refine lx_nil ?_
 refine wk_seq ?_
 refine wk_region ?_
 refine lx_value (want rfl) (rn_loadBlk ag_35 sz_35 rfl B1 rfl rfl) ?_
 refine lx_call (want rfl) (ent_func cf_61 (argsC (t_agg rfl) args0)) (back_ct SS sa ca sb cb F hok w1 (hS.fr F1 (fun _ _ h => h))) ?_
 rintro _ w2 E1 ⟨uB, nB, cB, rfl⟩
 have F2 := F1.ext E1
 have hz1 := E1.size
 refine lx_value (want rfl) (mv_tuple rfl) ?_
 refine lx_value (want rfl) (rn_extract rfl rfl) ?_
 refine lx_value (want rfl) (rn_extract rfl rfl) ?_
 refine lx_value (want rfl) (as_slice rfl) ?_
 refine lx_value (want rfl) (as_int rfl) ?_
 refine lx_nil ?_
 refine wk_seq ?_
 refine wk_region ?_
 refine lx_value (want rfl) (mv_int rfl) ?_
 refine lx_value (want rfl) (as_int rfl) ?_
 refine lx_nil ?_
 refine wk_ret ?_
 refine retR1 Tryz.results34 (.tmp (t_int rfl)) F2 ?_
 exact rfl

end Go.Proofs.YtgnnegfnpgnbbaaGreatDoor

/- What functions compute: nil. -/
import Derived.Test.YtnhgfmbmfjmonaaGreatDoorOrderFacts
import Derived.Test.YtnhgfmbmfjmonaaGreatDoorOrderPre
set_option maxRecDepth 100000
set_option linter.unusedVariables false
set_option linter.unusedSimpArgs false
namespace Go.Proofs.YtnhgfmbmfjmonaaGreatDoor
open Go Go.RowKit Go.Mix Go.Eng
theorem nil_ct (w0 : World) :
  CT Tryz.prog 66 [] w0 no (fun v _ => v = .agg #[.int .u8 3, .int .i64 0]) := by
 have F0 := Fr.refl no w0
 refine ct_body Tryz.func66 rfl Tryz.ntmps66 (Nat.le_of_ble_eq_true rfl) ?_
 refine wk_seq ?_
 refine wk_region ?_
 refine lx_new (want rfl) (rn_alloc ze_36) ?_
 intro b1 w1 hb1 Eb1 B1 hlb1
 have F1 := F0.ext Eb1
 have hzb1 := Eb1.size
 refine lx_nil ?_
 refine wk_seq ?_
 refine wk_region ?_
 refine lx_value (want rfl) (rn_build1 (t_int rfl) (fun w => bd_36_0 _ w)) ?_
 refine lx_set (want rfl) sz_36 rfl (t_agg rfl) rfl rfl rfl B1 (Nat.le_of_ble_eq_true rfl) ?_
 intro w2 Es1 Bs1
 have F2 := F1.set Es1 (by omega)
 have hzs1 := Es1.size
 refine lx_nil ?_
 refine wk_ret ?_
 refine retR1 Tryz.results66 (.cell rfl (run_loadVar_blk ag_36 sz_36 Bs1 rfl rfl)) F2 ?_
 exact rfl

end Go.Proofs.YtnhgfmbmfjmonaaGreatDoor

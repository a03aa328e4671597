/- What functions compute: ishole, hole, none, nil. -/
import Derived.Test.YtnhgfmbmfjmonaaGreatDoorPlaysFacts
import Derived.Test.YtnhgfmbmfjmonaaGreatDoorPlaysPre
set_option maxRecDepth 100000
set_option linter.unusedVariables false
set_option linter.unusedSimpArgs false
namespace Go.Proofs.YtnhgfmbmfjmonaaGreatDoor
open Go Go.RowKit Go.Mix Go.Eng
theorem ishole_ct (k n : Int) (w0 : World) :
    CT Tryz.prog 99 [.agg #[.int .u8 k, .int .i64 n]] w0 no (fun v _ => v = .bool (decide (k = 0))) := by
  have F0 := Fr.refl no w0
  refine ct_body Tryz.func99 rfl Tryz.ntmps99 (Nat.le_of_ble_eq_true rfl) ?_
  refine wk_seq ?_
  refine wk_region ?_
  refine lx_new (want rfl) (rn_box (t_agg rfl)) ?_
  intro b1 w1 hb1 Eb1 B1 hlb1
  have F1 := F0.ext Eb1
  have hzb1 := Eb1.size
  refine lx_value (want rfl) (as_bool rfl) ?_
  refine lx_nil ?_
  refine wk_seq ?_
  refine wk_region ?_
  refine lx_value (want rfl) (rn_fieldAddr fa_36_0 rfl) ?_
  refine lx_value (want rfl) (rn_load1Blk ag_5 rfl B1 rfl) ?_
  refine lx_value (want rfl) (rn_eql rfl rfl) ?_
  refine lx_value (want rfl) (as_bool rfl) ?_
  refine lx_nil ?_
  refine wk_ret ?_
  refine retR1 Tryz.results99 (.tmp (t_bool rfl)) F1 ?_
  exact rfl

theorem hole_ct (w0 : World) :
    CT Tryz.prog 105 [] w0 no (fun v _ => v = .agg #[.int .u8 0, .int .i64 0]) := by
  have F0 := Fr.refl no w0
  refine ct_body Tryz.func105 rfl Tryz.ntmps105 (Nat.le_of_ble_eq_true rfl) ?_
  refine wk_seq ?_
  refine wk_region ?_
  refine lx_new (want rfl) (rn_alloc ze_36) ?_
  intro b1 w1 hb1 Eb1 B1 hlb1
  have F1 := F0.ext Eb1
  have hzb1 := Eb1.size
  refine lx_nil ?_
  refine wk_seq ?_
  refine wk_region ?_
  refine lx_value (want rfl) (rn_build1 (t_int rfl) (fun w => bd_36_0 _ w)) ?_
  refine lx_set (want rfl) sz_36 rfl (t_agg rfl) rfl rfl rfl B1 (Nat.le_of_ble_eq_true rfl) ?_
  intro w2 Es1 Bs1
  have F2 := F1.set Es1 (by omega)
  have hzs1 := Es1.size
  refine lx_nil ?_
  refine wk_ret ?_
  refine retR1 Tryz.results105 (.cell rfl (run_loadVar_blk ag_36 sz_36 Bs1 rfl rfl)) F2 ?_
  exact rfl

theorem none_ct (w0 : World) :
    CT Tryz.prog 106 [] w0 no (fun v _ => v = .agg #[.int .u8 3, .int .i64 0]) := by
  have F0 := Fr.refl no w0
  refine ct_body Tryz.func106 rfl Tryz.ntmps106 (Nat.le_of_ble_eq_true rfl) ?_
  refine wk_seq ?_
  refine wk_region ?_
  refine lx_new (want rfl) (rn_alloc ze_36) ?_
  intro b1 w1 hb1 Eb1 B1 hlb1
  have F1 := F0.ext Eb1
  have hzb1 := Eb1.size
  refine lx_nil ?_
  refine wk_seq ?_
  refine wk_region ?_
  refine lx_value (want rfl) (rn_build1 (t_int rfl) (fun w => bd_36_0 _ w)) ?_
  refine lx_set (want rfl) sz_36 rfl (t_agg rfl) rfl rfl rfl B1 (Nat.le_of_ble_eq_true rfl) ?_
  intro w2 Es1 Bs1
  have F2 := F1.set Es1 (by omega)
  have hzs1 := Es1.size
  refine lx_nil ?_
  refine wk_ret ?_
  refine retR1 Tryz.results106 (.cell rfl (run_loadVar_blk ag_36 sz_36 Bs1 rfl rfl)) F2 ?_
  exact rfl

theorem nil_ct (w0 : World) :
    CT Tryz.prog 66 [] w0 no (fun v _ => v = .agg #[.int .u8 3, .int .i64 0]) := by
  have F0 := Fr.refl no w0
  refine ct_body Tryz.func66 rfl Tryz.ntmps66 (Nat.le_of_ble_eq_true rfl) ?_
  refine wk_seq ?_
  refine wk_region ?_
  refine lx_new (want rfl) (rn_alloc ze_36) ?_
  intro b1 w1 hb1 Eb1 B1 hlb1
  have F1 := F0.ext Eb1
  have hzb1 := Eb1.size
  refine lx_nil ?_
  refine wk_seq ?_
  refine wk_region ?_
  refine lx_value (want rfl) (rn_build1 (t_int rfl) (fun w => bd_36_0 _ w)) ?_
  refine lx_set (want rfl) sz_36 rfl (t_agg rfl) rfl rfl rfl B1 (Nat.le_of_ble_eq_true rfl) ?_
  intro w2 Es1 Bs1
  have F2 := F1.set Es1 (by omega)
  have hzs1 := Es1.size
  refine lx_nil ?_
  refine wk_ret ?_
  refine retR1 Tryz.results66 (.cell rfl (run_loadVar_blk ag_36 sz_36 Bs1 rfl rfl)) F2 ?_
  exact rfl

end Go.Proofs.YtnhgfmbmfjmonaaGreatDoor

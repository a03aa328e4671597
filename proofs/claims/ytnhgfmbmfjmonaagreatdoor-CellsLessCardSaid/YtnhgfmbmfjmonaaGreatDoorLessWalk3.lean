/- What functions compute: refbad, int, ref, op3c, op4c, isbad, ishole, hole, none, nil. -/
import Derived.Test.YtnhgfmbmfjmonaaGreatDoorLessFacts
import Derived.Test.YtnhgfmbmfjmonaaGreatDoorLessPre
set_option maxRecDepth 100000
set_option linter.unusedVariables false
set_option linter.unusedSimpArgs false
namespace Go.Proofs.YtnhgfmbmfjmonaaGreatDoor
open Go Go.RowKit Go.Mix Go.Eng
theorem refbad_ct (n : Int) (w0 : World) :
  CT Tryz.prog 67 [.int .i64 n] w0 no (fun v _ => v = .agg #[.int .u8 5, .int .i64 n]) := by
 have F0 := Fr.refl no w0
 refine ct_body Tryz.func67 rfl Tryz.ntmps67 (Nat.le_of_ble_eq_true rfl) ?_
 refine wk_seq ?_
 refine wk_region ?_
 refine lx_new (want rfl) (rn_alloc ze_36) ?_
 intro b1 w1 hb1 Eb1 B1 hlb1
 have F1 := F0.ext Eb1
 have hzb1 := Eb1.size
 refine lx_nil ?_
 refine wk_seq ?_
 refine wk_region ?_
 refine lx_value (want rfl) (mv_int rfl) ?_
 refine lx_value (want rfl) (rn_build2 (t_int rfl) (t_int rfl) (fun w => bd_36_0_1 _ _ w)) ?_
 refine lx_set (want rfl) sz_36 rfl (t_agg rfl) rfl rfl rfl B1 (Nat.le_of_ble_eq_true rfl) ?_
 intro w2 Es1 Bs1
 have F2 := F1.set Es1 (by omega)
 have hzs1 := Es1.size
 refine lx_nil ?_
 refine wk_ret ?_
 refine retR1 Tryz.results67 (.cell rfl (run_loadVar_blk ag_36 sz_36 Bs1 rfl rfl)) F2 ?_
 exact rfl

theorem int_ct (n : Int) (w0 : World) :
  CT Tryz.prog 41 [.int .i64 n] w0 no (fun v _ => v = .agg #[.int .u8 1, .int .i64 n]) := by
 have F0 := Fr.refl no w0
 refine ct_body Tryz.func41 rfl Tryz.ntmps41 (Nat.le_of_ble_eq_true rfl) ?_
 refine wk_seq ?_
 refine wk_region ?_
 refine lx_new (want rfl) (rn_alloc ze_36) ?_
 intro b1 w1 hb1 Eb1 B1 hlb1
 have F1 := F0.ext Eb1
 have hzb1 := Eb1.size
 refine lx_nil ?_
 refine wk_seq ?_
 refine wk_region ?_
 refine lx_value (want rfl) (mv_int rfl) ?_
 refine lx_value (want rfl) (rn_build2 (t_int rfl) (t_int rfl) (fun w => bd_36_0_1 _ _ w)) ?_
 refine lx_set (want rfl) sz_36 rfl (t_agg rfl) rfl rfl rfl B1 (Nat.le_of_ble_eq_true rfl) ?_
 intro w2 Es1 Bs1
 have F2 := F1.set Es1 (by omega)
 have hzs1 := Es1.size
 refine lx_nil ?_
 refine wk_ret ?_
 refine retR1 Tryz.results41 (.cell rfl (run_loadVar_blk ag_36 sz_36 Bs1 rfl rfl)) F2 ?_
 exact rfl

theorem ref_ct (n : Int) (w0 : World) :
  CT Tryz.prog 61 [.int .i64 n] w0 no (fun v _ => v = .agg #[.int .u8 4, .int .i64 n]) := by
 have F0 := Fr.refl no w0
 refine ct_body Tryz.func61 rfl Tryz.ntmps61 (Nat.le_of_ble_eq_true rfl) ?_
 refine wk_seq ?_
 refine wk_region ?_
 refine lx_new (want rfl) (rn_alloc ze_36) ?_
 intro b1 w1 hb1 Eb1 B1 hlb1
 have F1 := F0.ext Eb1
 have hzb1 := Eb1.size
 refine lx_nil ?_
 refine wk_seq ?_
 refine wk_region ?_
 refine lx_value (want rfl) (mv_int rfl) ?_
 refine lx_value (want rfl) (rn_build2 (t_int rfl) (t_int rfl) (fun w => bd_36_0_1 _ _ w)) ?_
 refine lx_set (want rfl) sz_36 rfl (t_agg rfl) rfl rfl rfl B1 (Nat.le_of_ble_eq_true rfl) ?_
 intro w2 Es1 Bs1
 have F2 := F1.set Es1 (by omega)
 have hzs1 := Es1.size
 refine lx_nil ?_
 refine wk_ret ?_
 refine retR1 Tryz.results61 (.cell rfl (run_loadVar_blk ag_36 sz_36 Bs1 rfl rfl)) F2 ?_
 exact rfl

theorem op3c_ct (a b : Int) (b1 b2 : Nat) (ha : -1000000000 ≤ a ∧ a ≤ 1000000000) (hn : ¬ b = 0) (w0 : World) (B1 : Blk w0 b1 [.int .i64 a] 3) (B2 : Blk w0 b2 [.int .i64 b] 3) :
  CT Tryz.prog 130 [.pointer (some ⟨b1, 0, none⟩), .pointer (some ⟨b2, 0, none⟩)] w0 no (fun v _ => v = .int .i64 (a.tdiv b)) := by
 have F0 := Fr.refl no w0
 refine ct_body Tryz.func130 rfl Tryz.ntmps130 (Nat.le_of_ble_eq_true rfl) ?_
 refine wk_seq ?_
 refine wk_region ?_
 refine lx_value (want rfl) (as_int rfl) ?_
 refine lx_nil ?_
 refine wk_seq ?_
 refine wk_region ?_
 refine lx_value (want rfl) (rn_load1Blk ag_3 rfl B1 rfl) ?_
 refine lx_value (want rfl) (rn_load1Blk ag_3 rfl B2 rfl) ?_
 refine lx_value (want rfl) (rn_tquo rfl rfl ha hn) ?_
 refine lx_value (want rfl) (as_int rfl) ?_
 refine lx_nil ?_
 refine wk_ret ?_
 refine retR1 Tryz.results130 (.tmp (t_int rfl)) F0 ?_
 exact rfl

theorem op4c_ct (a b : Int) (b1 b2 : Nat) (ha : -1000000000 ≤ a ∧ a ≤ 1000000000) (hn : ¬ b = 0) (w0 : World) (B1 : Blk w0 b1 [.int .i64 a] 3) (B2 : Blk w0 b2 [.int .i64 b] 3) :
  CT Tryz.prog 132 [.pointer (some ⟨b1, 0, none⟩), .pointer (some ⟨b2, 0, none⟩)] w0 no (fun v _ => v = .int .i64 (a.tmod b)) := by
 have F0 := Fr.refl no w0
 refine ct_body Tryz.func132 rfl Tryz.ntmps132 (Nat.le_of_ble_eq_true rfl) ?_
 refine wk_seq ?_
 refine wk_region ?_
 refine lx_value (want rfl) (as_int rfl) ?_
 refine lx_nil ?_
 refine wk_seq ?_
 refine wk_region ?_
 refine lx_value (want rfl) (rn_load1Blk ag_3 rfl B1 rfl) ?_
 refine lx_value (want rfl) (rn_load1Blk ag_3 rfl B2 rfl) ?_
 refine lx_value (want rfl) (rn_trem rfl rfl ha hn) ?_
 refine lx_value (want rfl) (as_int rfl) ?_
 refine lx_nil ?_
 refine wk_ret ?_
 refine retR1 Tryz.results132 (.tmp (t_int rfl)) F0 ?_
 exact rfl

theorem isbad_ct (k n : Int) (w0 : World) :
  CT Tryz.prog 139 [.agg #[.int .u8 k, .int .i64 n]] w0 no (fun v _ => v = .bool (decide (k = 5))) := by
 have F0 := Fr.refl no w0
 refine ct_body Tryz.func139 rfl Tryz.ntmps139 (Nat.le_of_ble_eq_true rfl) ?_
 refine wk_seq ?_
 refine wk_region ?_
 refine lx_new (want rfl) (rn_box (t_agg rfl)) ?_
 intro b1 w1 hb1 Eb1 B1 hlb1
 have F1 := F0.ext Eb1
 have hzb1 := Eb1.size
 refine lx_value (want rfl) (as_bool rfl) ?_
 refine lx_nil ?_
 refine wk_seq ?_
 refine wk_region ?_
 refine lx_value (want rfl) (rn_fieldAddr fa_36_0 rfl) ?_
 refine lx_value (want rfl) (rn_load1Blk ag_5 rfl B1 rfl) ?_
 refine lx_value (want rfl) (rn_eql rfl rfl) ?_
 refine lx_value (want rfl) (as_bool rfl) ?_
 refine lx_nil ?_
 refine wk_ret ?_
 refine retR1 Tryz.results139 (.tmp (t_bool rfl)) F1 ?_
 exact rfl

theorem ishole_ct (k n : Int) (w0 : World) :
  CT Tryz.prog 99 [.agg #[.int .u8 k, .int .i64 n]] w0 no (fun v _ => v = .bool (decide (k = 0))) := by
 have F0 := Fr.refl no w0
 refine ct_body Tryz.func99 rfl Tryz.ntmps99 (Nat.le_of_ble_eq_true rfl) ?_
 refine wk_seq ?_
 refine wk_region ?_
 refine lx_new (want rfl) (rn_box (t_agg rfl)) ?_
 intro b1 w1 hb1 Eb1 B1 hlb1
 have F1 := F0.ext Eb1
 have hzb1 := Eb1.size
 refine lx_value (want rfl) (as_bool rfl) ?_
 refine lx_nil ?_
 refine wk_seq ?_
 refine wk_region ?_
 refine lx_value (want rfl) (rn_fieldAddr fa_36_0 rfl) ?_
 refine lx_value (want rfl) (rn_load1Blk ag_5 rfl B1 rfl) ?_
 refine lx_value (want rfl) (rn_eql rfl rfl) ?_
 refine lx_value (want rfl) (as_bool rfl) ?_
 refine lx_nil ?_
 refine wk_ret ?_
 refine retR1 Tryz.results99 (.tmp (t_bool rfl)) F1 ?_
 exact rfl

theorem hole_ct (w0 : World) :
  CT Tryz.prog 105 [] w0 no (fun v _ => v = .agg #[.int .u8 0, .int .i64 0]) := by
 have F0 := Fr.refl no w0
 refine ct_body Tryz.func105 rfl Tryz.ntmps105 (Nat.le_of_ble_eq_true rfl) ?_
 refine wk_seq ?_
 refine wk_region ?_
 refine lx_new (want rfl) (rn_alloc ze_36) ?_
 intro b1 w1 hb1 Eb1 B1 hlb1
 have F1 := F0.ext Eb1
 have hzb1 := Eb1.size
 refine lx_nil ?_
 refine wk_seq ?_
 refine wk_region ?_
 refine lx_value (want rfl) (rn_build1 (t_int rfl) (fun w => bd_36_0 _ w)) ?_
 refine lx_set (want rfl) sz_36 rfl (t_agg rfl) rfl rfl rfl B1 (Nat.le_of_ble_eq_true rfl) ?_
 intro w2 Es1 Bs1
 have F2 := F1.set Es1 (by omega)
 have hzs1 := Es1.size
 refine lx_nil ?_
 refine wk_ret ?_
 refine retR1 Tryz.results105 (.cell rfl (run_loadVar_blk ag_36 sz_36 Bs1 rfl rfl)) F2 ?_
 exact rfl

theorem none_ct (w0 : World) :
  CT Tryz.prog 106 [] w0 no (fun v _ => v = .agg #[.int .u8 3, .int .i64 0]) := by
 have F0 := Fr.refl no w0
 refine ct_body Tryz.func106 rfl Tryz.ntmps106 (Nat.le_of_ble_eq_true rfl) ?_
 refine wk_seq ?_
 refine wk_region ?_
 refine lx_new (want rfl) (rn_alloc ze_36) ?_
 intro b1 w1 hb1 Eb1 B1 hlb1
 have F1 := F0.ext Eb1
 have hzb1 := Eb1.size
 refine lx_nil ?_
 refine wk_seq ?_
 refine wk_region ?_
 refine lx_value (want rfl) (rn_build1 (t_int rfl) (fun w => bd_36_0 _ w)) ?_
 refine lx_set (want rfl) sz_36 rfl (t_agg rfl) rfl rfl rfl B1 (Nat.le_of_ble_eq_true rfl) ?_
 intro w2 Es1 Bs1
 have F2 := F1.set Es1 (by omega)
 have hzs1 := Es1.size
 refine lx_nil ?_
 refine wk_ret ?_
 refine retR1 Tryz.results106 (.cell rfl (run_loadVar_blk ag_36 sz_36 Bs1 rfl rfl)) F2 ?_
 exact rfl

theorem nil_ct (w0 : World) :
  CT Tryz.prog 66 [] w0 no (fun v _ => v = .agg #[.int .u8 3, .int .i64 0]) := by
 have F0 := Fr.refl no w0
 refine ct_body Tryz.func66 rfl Tryz.ntmps66 (Nat.le_of_ble_eq_true rfl) ?_
 refine wk_seq ?_
 refine wk_region ?_
 refine lx_new (want rfl) (rn_alloc ze_36) ?_
 intro b1 w1 hb1 Eb1 B1 hlb1
 have F1 := F0.ext Eb1
 have hzb1 := Eb1.size
 refine lx_nil ?_
 refine wk_seq ?_
 refine wk_region ?_
 refine lx_value (want rfl) (rn_build1 (t_int rfl) (fun w => bd_36_0 _ w)) ?_
 refine lx_set (want rfl) sz_36 rfl (t_agg rfl) rfl rfl rfl B1 (Nat.le_of_ble_eq_true rfl) ?_
 intro w2 Es1 Bs1
 have F2 := F1.set Es1 (by omega)
 have hzs1 := Es1.size
 refine lx_nil ?_
 refine wk_ret ?_
 refine retR1 Tryz.results66 (.cell rfl (run_loadVar_blk ag_36 sz_36 Bs1 rfl rfl)) F2 ?_
 exact rfl

end Go.Proofs.YtnhgfmbmfjmonaaGreatDoor

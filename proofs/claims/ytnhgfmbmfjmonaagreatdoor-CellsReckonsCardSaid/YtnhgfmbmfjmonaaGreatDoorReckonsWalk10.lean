/- What functions compute: op0, op1, isstruct1, op5. -/
import Derived.Test.YtnhgfmbmfjmonaaGreatDoorReckonsFacts
import Derived.Test.YtnhgfmbmfjmonaaGreatDoorReckonsPre
import Derived.Test.YtnhgfmbmfjmonaaGreatDoorReckonsWalk5
import Derived.Test.YtnhgfmbmfjmonaaGreatDoorReckonsWalk6
set_option maxRecDepth 100000
set_option linter.unusedVariables false
set_option linter.unusedSimpArgs false
namespace Go.Proofs.YtnhgfmbmfjmonaaGreatDoor
open Go Go.RowKit Go.Mix Go.Eng
theorem op0_ct (a b : Int) (ha : -1000000000 ≤ a ∧ a ≤ 1000000000) (hb : -1000000000 ≤ b ∧ b ≤ 1000000000) (w0 : World) :
    CT Tryz.prog 124 [.int .i64 a, .int .i64 b] w0 no (fun v _ => v = vlV (workV 0 a b)) := by
  have F0 := Fr.refl no w0
  refine ct_body Tryz.func124 rfl Tryz.ntmps124 (Nat.le_of_ble_eq_true rfl) ?_
  refine wk_seq ?_
  refine wk_region ?_
  refine lx_new (want rfl) (rn_alloc ze_36) ?_
  intro b1 w1 hb1 Eb1 B1 hlb1
  have F1 := F0.ext Eb1
  have hzb1 := Eb1.size
  refine lx_nil ?_
  refine wk_seq ?_
  refine wk_region ?_
  refine lx_value (want rfl) (mv_int rfl) ?_
  refine lx_value (want rfl) (mv_int rfl) ?_
  refine lx_value (want rfl) (rn_add rfl rfl (by omega)) ?_
  refine lx_call (want rfl) (ent_func cf_125 (argsC (t_int rfl) args0)) (sized_ct _ w1) ?_
  rintro _ w2 E1 rfl
  have F2 := F1.ext E1
  have hz1 := E1.size
  refine lx_set (want rfl) sz_36 rfl (t_agg rfl) rfl rfl rfl (B1.ext E1) (Nat.le_of_ble_eq_true rfl) ?_
  intro w3 Es1 Bs1
  have F3 := F2.set Es1 (by omega)
  have hzs1 := Es1.size
  refine lx_nil ?_
  refine wk_ret ?_
  refine retR1 Tryz.results124 (.cell rfl (run_loadVar_blk ag_36 sz_36 Bs1 rfl rfl)) F3 ?_
  exact rfl

theorem op1_ct (a b : Int) (ha : -1000000000 ≤ a ∧ a ≤ 1000000000) (hb : -1000000000 ≤ b ∧ b ≤ 1000000000) (w0 : World) :
    CT Tryz.prog 126 [.int .i64 a, .int .i64 b] w0 no (fun v _ => v = vlV (workV 1 a b)) := by
  have F0 := Fr.refl no w0
  refine ct_body Tryz.func126 rfl Tryz.ntmps126 (Nat.le_of_ble_eq_true rfl) ?_
  refine wk_seq ?_
  refine wk_region ?_
  refine lx_new (want rfl) (rn_alloc ze_36) ?_
  intro b1 w1 hb1 Eb1 B1 hlb1
  have F1 := F0.ext Eb1
  have hzb1 := Eb1.size
  refine lx_nil ?_
  refine wk_seq ?_
  refine wk_region ?_
  refine lx_value (want rfl) (mv_int rfl) ?_
  refine lx_value (want rfl) (mv_int rfl) ?_
  refine lx_value (want rfl) (rn_sub rfl rfl (by omega)) ?_
  refine lx_call (want rfl) (ent_func cf_125 (argsC (t_int rfl) args0)) (sized_ct _ w1) ?_
  rintro _ w2 E1 rfl
  have F2 := F1.ext E1
  have hz1 := E1.size
  refine lx_set (want rfl) sz_36 rfl (t_agg rfl) rfl rfl rfl (B1.ext E1) (Nat.le_of_ble_eq_true rfl) ?_
  intro w3 Es1 Bs1
  have F3 := F2.set Es1 (by omega)
  have hzs1 := Es1.size
  refine lx_nil ?_
  refine wk_ret ?_
  refine retR1 Tryz.results126 (.cell rfl (run_loadVar_blk ag_36 sz_36 Bs1 rfl rfl)) F3 ?_
  exact rfl

theorem isstruct1_ct (z : Vl) (m b3 : Nat) (hm : m ≤ 1048576) (w0 : World) (B3 : Blk w0 b3 [.int .i64 m] 3) :
    CT Tryz.prog 149 [vlV z, .pointer (some ⟨b3, 0, none⟩)] w0 no (fun v _ => v = .bool (!isVal z m)) := by
  have F0 := Fr.refl no w0
  refine ct_body Tryz.func149 rfl Tryz.ntmps149 (Nat.le_of_ble_eq_true rfl) ?_
  refine wk_seq ?_
  refine wk_region ?_
  refine lx_new (want rfl) (rn_box (t_agg rfl)) ?_
  intro b21 w1 hb21 Eb21 B21 hlb21
  have F1 := F0.ext Eb21
  have hzb21 := Eb21.size
  refine lx_value (want rfl) (as_bool rfl) ?_
  refine lx_nil ?_
  refine wk_seq ?_
  refine wk_region ?_
  refine lx_value (want rfl) (rn_loadBlk ag_36 sz_36 rfl B21 rfl rfl) ?_
  refine lx_value (want rfl) (rn_load1Blk ag_3 rfl (B3.ext Eb21) rfl) ?_
  refine lx_call (want rfl) (ent_func cf_75 (argsC (t_agg rfl) (argsC (t_int rfl) args0))) (isvalue_ct _ _ _ (by omega) w1) ?_
  rintro _ w2 E1 rfl
  have F2 := F1.ext E1
  have hz1 := E1.size
  refine lx_value (want rfl) (rn_not rfl) ?_
  refine lx_value (want rfl) (as_bool rfl) ?_
  refine lx_nil ?_
  refine wk_ret ?_
  refine retR1 Tryz.results149 (.tmp (t_bool rfl)) F2 ?_
  exact rfl

theorem op5_ct (a b : Int) (ha : -1000000000 ≤ a ∧ a ≤ 1000000000) (hb : -1000000000 ≤ b ∧ b ≤ 1000000000) (w0 : World) :
    CT Tryz.prog 133 [.int .i64 a, .int .i64 b] w0 no (fun v _ => v = vlV (workV 5 a b)) := by
  have F0 := Fr.refl no w0
  refine ct_body Tryz.func133 rfl Tryz.ntmps133 (Nat.le_of_ble_eq_true rfl) ?_
  refine wk_seq ?_
  refine wk_region ?_
  refine lx_new (want rfl) (rn_alloc ze_36) ?_
  intro b1 w1 hb1 Eb1 B1 hlb1
  have F1 := F0.ext Eb1
  have hzb1 := Eb1.size
  refine lx_nil ?_
  refine wk_seq ?_
  refine wk_region ?_
  refine lx_value (want rfl) (mv_int rfl) ?_
  refine lx_value (want rfl) (rn_neg rfl (by omega)) ?_
  refine lx_call (want rfl) (ent_func cf_125 (argsC (t_int rfl) args0)) (sized_ct _ w1) ?_
  rintro _ w2 E1 rfl
  have F2 := F1.ext E1
  have hz1 := E1.size
  refine lx_set (want rfl) sz_36 rfl (t_agg rfl) rfl rfl rfl (B1.ext E1) (Nat.le_of_ble_eq_true rfl) ?_
  intro w3 Es1 Bs1
  have F3 := F2.set Es1 (by omega)
  have hzs1 := Es1.size
  refine lx_nil ?_
  refine wk_ret ?_
  refine retR1 Tryz.results133 (.cell rfl (run_loadVar_blk ag_36 sz_36 Bs1 rfl rfl)) F3 ?_
  exact rfl

end Go.Proofs.YtnhgfmbmfjmonaaGreatDoor

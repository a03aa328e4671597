/- What functions of the cube compute: size, buffer, spots, run1. -/
import Derived.Test.YtlfclnkoimfhmaaDoorFacts
import Derived.Test.YtlfclnkoimfhmaaDoorPre
set_option linter.unusedVariables false
set_option linter.unusedSimpArgs false
namespace Go.Proofs.YtlfclnkoimfhmaaDoor
open Go Go.RowKit Go.Mix Go.Eng
theorem size_ct (dim : Nat) (r : Int) (s : Option Addr) (n c : Nat) (hd : dim ≤ 3) (w0 : World) :
    CT Tryd.prog 74 [.agg #[.int .i64 dim, .int .i64 r, .slice s n c]] w0 no (fun v _ => v = .int .i64 ((2 ^ dim : Nat) : Int)) := by
  have h28 := pow2_le dim (Nat.le_refl _) hd
  have F0 := Fr.refl no w0
  refine ct_body Tryd.func74 rfl Tryd.ntmps74 (Nat.le_of_ble_eq_true rfl) ?_
  refine wk_seq ?_
  refine wk_region ?_
  refine lx_new (want rfl) (rn_box (t_agg rfl)) ?_
  intro b1 w1 hb1 Eb1 B1 hlb1
  have F1 := F0.ext Eb1
  have hzb1 := Eb1.size
  refine lx_value (want rfl) (as_int rfl) ?_
  refine lx_nil ?_
  refine wk_seq ?_
  refine wk_region ?_
  refine lx_value (want rfl) (rn_fieldAddr fa_76_0 rfl) ?_
  refine lx_value (want rfl) (rn_fieldAddr fa_24_0 rfl) ?_
  refine lx_value (want rfl) (rn_load1Blk ag_3 rfl B1 rfl) ?_
  refine lx_value (want rfl) (rn_shl (m := 1) (n := dim) rfl rfl (by omega)) ?_
  refine lx_value (want rfl) (as_int rfl) ?_
  refine lx_nil ?_
  refine wk_ret ?_
  refine retR1 Tryd.results74 (.tmp (t_int rfl)) F1 ?_
  exact congrArg (fun k : Nat => Value.int .i64 (k : Int)) (Nat.one_mul _)

theorem buffer_ct (dim s port : Nat) (hd : dim ≤ 3) (hs : s < 8) (hp : port ≤ 3) (w0 : World) :
    CT Tryd.prog 58 [.int .i64 dim, .int .i64 s, .int .i64 port] w0 no (fun v _ => v = .int .i64 (s * (dim + 1) + port : Nat)) := by
  have hq : s * (dim + 1) ≤ 8 * 4 := Nat.mul_le_mul (by omega) (by omega)
  have F0 := Fr.refl no w0
  refine ct_body Tryd.func58 rfl Tryd.ntmps58 (Nat.le_of_ble_eq_true rfl) ?_
  refine wk_seq ?_
  refine wk_region ?_
  refine lx_value (want rfl) (as_int rfl) ?_
  refine lx_nil ?_
  refine wk_seq ?_
  refine wk_region ?_
  refine lx_value (want rfl) (mv_int rfl) ?_
  refine lx_value (want rfl) (mv_int rfl) ?_
  refine lx_value (want rfl) (rn_addN rfl (n := 1) rfl (by omega)) ?_
  refine lx_value (want rfl) (rn_mulN rfl rfl (by omega)) ?_
  refine lx_value (want rfl) (mv_int rfl) ?_
  refine lx_value (want rfl) (rn_addN rfl rfl (by omega)) ?_
  refine lx_value (want rfl) (as_int rfl) ?_
  refine lx_nil ?_
  refine wk_ret ?_
  refine retR1 Tryd.results58 (.tmp (t_int rfl)) F0 ?_
  exact rfl

theorem spots_ct (dim : Nat) (r : Int) (s : Option Addr) (n c : Nat) (w0 : World) :
    CT Tryd.prog 80 [.agg #[.int .i64 dim, .int .i64 r, .slice s n c]] w0 no (fun v w => ∃ b, v = .func (.func 90) #[] #[.pointer (some ⟨b, 0, none⟩)] ∧ Blk w b [.int .i64 dim, .int .i64 r, .slice s n c] 76 ∧ w0.heap.size ≤ b) := by
  have F0 := Fr.refl no w0
  refine ct_body Tryd.func80 rfl Tryd.ntmps80 (Nat.le_of_ble_eq_true rfl) ?_
  refine wk_seq ?_
  refine wk_region ?_
  refine lx_new (want rfl) (rn_box (t_agg rfl)) ?_
  intro b1 w1 hb1 Eb1 B1 hlb1
  have F1 := F0.ext Eb1
  have hzb1 := Eb1.size
  refine lx_value (want rfl) (as_nilFunc rfl) ?_
  refine lx_nil ?_
  refine wk_seq ?_
  refine wk_region ?_
  refine lx_value (want rfl) (rn_makeFunc (argsC (t_pointer rfl) args0)) ?_
  refine lx_value (want rfl) (as_func rfl) ?_
  refine lx_nil ?_
  refine wk_ret ?_
  refine retR1 Tryd.results80 (.tmp (t_func rfl)) F1 ?_
  exact ⟨_, rfl, B1, by omega⟩

theorem run1_ct (z : Int) (w0 : World) :
    CT Tryd.prog 65 [.int .i64 z] w0 no (fun v _ => v = .bool (decide (z < 0))) := by
  have F0 := Fr.refl no w0
  refine ct_body Tryd.func65 rfl Tryd.ntmps65 (Nat.le_of_ble_eq_true rfl) ?_
  refine wk_seq ?_
  refine wk_region ?_
  refine lx_value (want rfl) (as_bool rfl) ?_
  refine lx_nil ?_
  refine wk_seq ?_
  refine wk_region ?_
  refine lx_value (want rfl) (mv_int rfl) ?_
  refine lx_value (want rfl) (rn_lss rfl rfl) ?_
  refine lx_value (want rfl) (as_bool rfl) ?_
  refine lx_nil ?_
  refine wk_ret ?_
  refine retR1 Tryd.results65 (.tmp (t_bool rfl)) F0 ?_
  exact rfl

end Go.Proofs.YtlfclnkoimfhmaaDoor

/- What functions of the cube compute: xnewo. -/
import Derived.Test.YtlfclnkoimfhmaaDoorFacts
import Derived.Test.YtlfclnkoimfhmaaDoorPre
import Derived.Test.YtlfclnkoimfhmaaDoorWalk15
import Derived.Test.YtlfclnkoimfhmaaDoorWalk16
import Derived.Test.YtlfclnkoimfhmaaDoorWalk4
set_option linter.unusedVariables false
set_option linter.unusedSimpArgs false
namespace Go.Proofs.YtlfclnkoimfhmaaDoor
open Go Go.RowKit Go.Mix Go.Eng
theorem xnewo_ct (d r : Int) (ho : d < 0 ∨ 3 < d) (w0 : World) (hT : Tb w0 1) :
    CT Tryd.prog 15 [.int .i64 d, .int .i64 r] w0 no (fun v w => NewQ w0.heap.size d r v w) := by
  have hTl := hT.lt
  obtain ⟨hn3, hc3⟩ := newE_out (r := r) ho
  have F0 := Fr.refl no w0
  refine ct_body Tryd.func15 rfl Tryd.ntmps15 (Nat.le_of_ble_eq_true rfl) ?_
  refine wk_seq ?_
  refine wk_region ?_
  refine lx_new (want rfl) (rn_alloc ze_24) ?_
  intro b21 w1 hb21 Eb21 B21 hlb21
  have F1 := F0.ext Eb21
  have hzb21 := Eb21.size
  refine lx_value (want rfl) (as_int rfl) ?_
  refine lx_nil ?_
  refine wk_seq ?_
  refine wk_region ?_
  refine lx_value (want rfl) (mv_int rfl) ?_
  refine lx_value (want rfl) (mv_int rfl) ?_
  refine lx_value (want rfl) (rn_build2 (t_int rfl) (t_int rfl) (fun w => bd_24_0_1 _ _ w)) ?_
  refine lx_new (want rfl) (rn_alloc ze_24) ?_
  intro b22 w2 hb22 Eb22 B22 hlb22
  have F2 := F1.ext Eb22
  have hzb22 := Eb22.size
  refine lx_set (want rfl) sz_24 rfl (t_agg rfl) rfl rfl rfl B22 (Nat.le_of_ble_eq_true rfl) ?_
  intro w3 Es1 Bs1
  have F3 := F2.set Es1 (by omega)
  have hzs1 := Es1.size
  refine lx_nil ?_
  refine wk_seq ?_
  refine wk_seq ?_
  refine wk_region ?_
  refine lx_value (want rfl) (mv_int rfl) ?_
  refine lx_newS (want rfl) (rn_bslice (xs := [.tmp 11]) Tryd.underlying28 sz_3 ze_3 rfl (argsC (t_int rfl) args0) (CL.cons rfl rfl CL.nil) rfl (Nat.le_of_ble_eq_true rfl)) ?_
  intro b23 w4 hb23 Eb23 B23 hlb23
  have F4 := F3.ext Eb23
  have hzb23 := Eb23.size
  refine lx_call (want rfl) (ent_func cf_47 (argsC (t_int rfl) (argsC (t_int rfl) (argsC (t_slice rfl) args0)))) (within_ct 0 3 [d] _ _ _ w4 (blk_ints [d] B23) (by simp)) ?_
  rintro _ w5 E1 rfl
  have F5 := F4.ext E1
  have hz1 := E1.size
  refine lx_b_f (out_dim ho) ?_
  refine lx_nil ?_
  refine wk_cond_f rfl ?_
  refine wk_skip ?_
  refine wk_seq ?_
  refine wk_seq ?_
  refine wk_region ?_
  refine lx_value (want rfl) (rn_loadBlk ag_24 sz_24 rfl ((Bs1.ext Eb23).ext E1) rfl rfl) ?_
  refine lx_call (want rfl) (ent_func cf_24 (argsC (t_agg rfl) args0)) (ccheck_ct d r [] _ _ (fun _ => True) ⟨by simp, by simp [manyN]⟩ w5 (Sl.nil _) (((((hT.ext Eb21).ext Eb22).ne Es1 (by omega)).ext Eb23).ext E1)) ?_
  rintro _ w6 E2 rfl
  have F6 := F5.ext E2
  have hz2 := E2.size
  refine lx_value (want rfl) (as_int rfl) ?_
  refine lx_nil ?_
  refine wk_seq ?_
  refine wk_region ?_
  refine lx_value (want rfl) (mv_int rfl) ?_
  refine lx_value (want rfl) (rn_neq rfl rfl) ?_
  refine lx_dec (fun he => ?_) (fun he => ?_)
  ·
    refine lx_nil ?_
    refine wk_cond_t rfl ?_
    refine wk_seq ?_
    refine wk_region ?_
    refine lx_value (want rfl) (rn_build0  (fun w => bd_24  w)) ?_
    refine lx_value (want rfl) (mv_int rfl) ?_
    refine lx_set (want rfl) sz_24 rfl (t_agg rfl) rfl rfl rfl (((((B21.ext Eb22).ne Es1 (by omega)).ext Eb23).ext E1).ext E2) (Nat.le_of_ble_eq_true rfl) ?_
    intro w7 Es2 Bs2
    have F7 := F6.set Es2 (by omega)
    have hzs2 := Es2.size
    refine lx_value (want rfl) (as_int rfl) ?_
    refine lx_nil ?_
    refine wk_ret ?_
    refine retR2 Tryd.results15 (.cell rfl (run_loadVar_blk ag_24 sz_24 Bs2 rfl rfl)) (.tmp (t_int rfl)) F7 ?_
    exact newp_bad (by rw [hn3, hc3]) he
  ·
    refine lx_nil ?_
    refine wk_cond_f rfl ?_
    refine wk_skip ?_
    refine wk_seq ?_
    refine wk_region ?_
    refine lx_value (want rfl) (rn_loadBlk ag_24 sz_24 rfl (((Bs1.ext Eb23).ext E1).ext E2) rfl rfl) ?_
    refine lx_set (want rfl) sz_24 rfl (t_agg rfl) rfl rfl rfl (((((B21.ext Eb22).ne Es1 (by omega)).ext Eb23).ext E1).ext E2) (Nat.le_of_ble_eq_true rfl) ?_
    intro w7 Es3 Bs3
    have F8 := F6.set Es3 (by omega)
    have hzs3 := Es3.size
    refine lx_value (want rfl) (as_int rfl) ?_
    refine lx_nil ?_
    refine wk_ret ?_
    refine retR2 Tryd.results15 (.cell rfl (run_loadVar_blk ag_24 sz_24 Bs3 rfl rfl)) (.tmp (t_int rfl)) F8 ?_
    exact absurd hc3 (by omega)
theorem xnew_ct (d r : Int) (w0 : World) (hT : Tb w0 1) : CT Tryd.prog 15 [.int .i64 d, .int .i64 r] w0 no (fun v w => NewQ w0.heap.size d r v w) := by
  by_cases h : d < 0 ∨ 3 < d
  · exact xnewo_ct d r h w0 hT
  · obtain ⟨dim, rfl⟩ : ∃ k : Nat, d = (k : Int) := ⟨d.toNat, by omega⟩
    exact xnewi_ct dim r (by omega) w0 hT

end Go.Proofs.YtlfclnkoimfhmaaDoor

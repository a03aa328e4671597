/- The walk of the law CubeNews. -/
import Derived.Test.YtlfclnkoimfhmaaDoorFacts
import Derived.Test.YtlfclnkoimfhmaaDoorPre
import Derived.Test.YtlfclnkoimfhmaaDoorWalk1
import Derived.Test.YtlfclnkoimfhmaaDoorWalk17
import Derived.Test.YtlfclnkoimfhmaaDoorWalk18
import Derived.Test.YtlfclnkoimfhmaaDoorWalk3
import Derived.Test.YtlfclnkoimfhmaaDoorWalk5
import Derived.Test.YtlfclnkoimfhmaaDoorWalk8
set_option maxRecDepth 100000
set_option linter.unusedVariables false
set_option linter.unusedSimpArgs false
namespace Go.Proofs.YtlfclnkoimfhmaaDoor
open Go Go.RowKit Go.Mix Go.Eng
theorem cf_16 : ∀ args w, (callFunc 16 args).run Tryd.prog w = .ok (.enter 16 args) w := fun _ _ => by kernel_rfl
theorem cf_18 : ∀ args w, (callFunc 18 args).run Tryd.prog w = .ok (.enter 18 args) w := fun _ _ => by kernel_rfl
theorem cf_19 : ∀ args w, (callFunc 19 args).run Tryd.prog w = .ok (.enter 19 args) w := fun _ _ => by kernel_rfl
theorem cf_21 : ∀ args w, (callFunc 21 args).run Tryd.prog w = .ok (.enter 21 args) w := fun _ _ => by kernel_rfl
set_option maxHeartbeats 2000000 in
set_option maxRecDepth 100000 in
theorem cubenews_ct (d a b : Int) (w0 : World) (hT : Tb w0 1) :
    CT Tryd.prog 3 [.int .i64 d, .int .i64 a, .int .i64 b] w0 no (fun v _ => v = .bool true) := by
  have hTl := hT.lt
  have F0 := Fr.refl no w0
  refine ct_body Tryd.func3 rfl Tryd.ntmps3 (Nat.le_of_ble_eq_true rfl) ?_
  refine wk_seq ?_
  refine wk_region ?_
  refine lx_value (want rfl) (as_bool rfl) ?_
  refine lx_nil ?_
  refine wk_seq ?_
  refine wk_region ?_
  refine lx_value (want rfl) (mv_int rfl) ?_
  refine lx_value (want rfl) (mv_int rfl) ?_
  refine lx_call (want rfl) (ent_func cf_15 (argsC (t_int rfl) (argsC (t_int rfl) args0))) (xnew_ct d a w0 hT) ?_
  rintro _ w1 E1 ⟨_, rfl, hN⟩
  have F1 := F0.ext E1
  have hz1 := E1.size
  obtain ⟨sN, cN, rfl, hN⟩ := hN
  refine lx_value (want rfl) (mv_tuple rfl) ?_
  refine lx_value (want rfl) (rn_extract rfl rfl) ?_
  refine lx_value (want rfl) (rn_extract rfl rfl) ?_
  refine lx_new (want rfl) (rn_alloc ze_24) ?_
  intro b21 w2 hb21 Eb21 B21 hlb21
  have F2 := F1.ext Eb21
  have hzb21 := Eb21.size
  refine lx_set (want rfl) sz_24 rfl (t_agg rfl) rfl rfl rfl B21 (Nat.le_of_ble_eq_true rfl) ?_
  intro w3 Es1 Bs1
  have F3 := F2.set Es1 (by omega)
  have hzs1 := Es1.size
  refine lx_value (want rfl) (as_int rfl) ?_
  refine lx_nil ?_
  refine wk_seq ?_
  refine wk_region ?_
  refine lx_value (want rfl) (mv_int rfl) ?_
  refine lx_value (want rfl) (mv_int rfl) ?_
  refine lx_call (want rfl) (ent_func cf_16 (argsC (t_int rfl) (argsC (t_int rfl) args0))) (refnew_ct d a w3) ?_
  rintro _ w4 E2 ⟨_, rfl, hM⟩
  have F4 := F3.ext E2
  have hz2 := E2.size
  obtain ⟨sM, cM, rfl, hM⟩ := hM
  refine lx_value (want rfl) (mv_tuple rfl) ?_
  refine lx_value (want rfl) (rn_extract rfl rfl) ?_
  refine lx_value (want rfl) (rn_extract rfl rfl) ?_
  refine lx_new (want rfl) (rn_alloc ze_24) ?_
  intro b22 w5 hb22 Eb22 B22 hlb22
  have F5 := F4.ext Eb22
  have hzb22 := Eb22.size
  refine lx_set (want rfl) sz_24 rfl (t_agg rfl) rfl rfl rfl B22 (Nat.le_of_ble_eq_true rfl) ?_
  intro w6 Es2 Bs2
  have F6 := F5.set Es2 (by omega)
  have hzs2 := Es2.size
  refine lx_value (want rfl) (as_int rfl) ?_
  refine lx_nil ?_
  refine wk_seq ?_
  refine wk_region ?_
  refine lx_value (want rfl) (mv_int rfl) ?_
  refine lx_value (want rfl) (mv_int rfl) ?_
  refine lx_value (want rfl) (mv_int rfl) ?_
  refine lx_call (want rfl) (ent_func cf_17 (argsC (t_int rfl) (argsC (t_int rfl) (argsC (t_int rfl) args0)))) (xway_ct d a b w6 ((((((hT.ext E1).ext Eb21).ne Es1 (by omega)).ext E2).ext Eb22).ne Es2 (by omega))) ?_
  rintro _ w7 E3 ⟨_, rfl, hW⟩
  have F7 := F6.ext E3
  have hz3 := E3.size
  obtain ⟨sW, cW, rfl, hW⟩ := hW
  refine lx_value (want rfl) (mv_tuple rfl) ?_
  refine lx_value (want rfl) (rn_extract rfl rfl) ?_
  refine lx_value (want rfl) (rn_extract rfl rfl) ?_
  refine lx_value (want rfl) (as_slice rfl) ?_
  refine lx_value (want rfl) (as_int rfl) ?_
  refine lx_nil ?_
  refine wk_seq ?_
  refine wk_region ?_
  refine lx_value (want rfl) (mv_int rfl) ?_
  refine lx_value (want rfl) (mv_int rfl) ?_
  refine lx_value (want rfl) (mv_int rfl) ?_
  refine lx_call (want rfl) (ent_func cf_18 (argsC (t_int rfl) (argsC (t_int rfl) (argsC (t_int rfl) args0)))) (way_ct d a b w7) ?_
  rintro _ w8 E4 ⟨_, rfl, hV⟩
  have F8 := F7.ext E4
  have hz4 := E4.size
  obtain ⟨sV, cV, rfl, hV⟩ := hV
  refine lx_value (want rfl) (mv_tuple rfl) ?_
  refine lx_value (want rfl) (rn_extract rfl rfl) ?_
  refine lx_value (want rfl) (rn_extract rfl rfl) ?_
  refine lx_value (want rfl) (as_slice rfl) ?_
  refine lx_value (want rfl) (as_int rfl) ?_
  refine lx_nil ?_
  refine wk_seq ?_
  refine wk_region ?_
  refine lx_value (want rfl) (rn_loadBlk ag_24 sz_24 rfl (((((Bs1.ext E2).ext Eb22).ne Es2 (by omega)).ext E3).ext E4) rfl rfl) ?_
  refine lx_value (want rfl) (rn_loadBlk ag_24 sz_24 rfl ((Bs2.ext E3).ext E4) rfl rfl) ?_
  refine lx_call (want rfl) (ent_func cf_19 (argsC (t_agg rfl) (argsC (t_agg rfl) args0))) (same_ct _ _ (newC d a).2.2 sN cN _ _ _ (newC d a).2.2 sM cM _ w8 (hN.fr (buf_stab _) (Fr.ext (Fr.ext (Fr.trans (Fr.ext (Fr.ext (Fr.trans (Fr.ext (Fr.refl (fun k => k = b21 ∨ k = b22) w1) Eb21) Es1 (fun k _ h => (.inl h))) E2) Eb22) Es2 (fun k _ h => (.inr h))) E3) E4) (fun k hk h => by first | exact h | (have := hk.1; have := hk.2; (try dsimp only at h); first | omega | (rcases h with h | h <;> first | omega | (have := ob_some h; omega))))) (hM.fr (buf_stab _) (Fr.ext (Fr.ext (Fr.trans (Fr.ext (Fr.refl (fun k => k = b22) w4) Eb22) Es2 (fun k _ h => h)) E3) E4) (fun k hk h => by first | exact h | (have := hk.1; have := hk.2; (try dsimp only at h); first | omega | (rcases h with h | h <;> first | omega | (have := ob_some h; omega))))) (bd_newC d a)) ?_
  rintro _ w9 E5 rfl
  have F9 := F8.ext E5
  have hz5 := E5.size
  refine lx_b_t (same_true) ?_
  refine lx_value (want rfl) (mv_bool rfl) ?_
  refine lx_value (want_if (j := 3) (d := 44) (x := true) (y := true) rfl rfl (by decide) rfl) (mv_int rfl) ?_
  refine lx_value (want_if (j := 3) (d := 44) (x := true) (y := true) rfl rfl (by decide) rfl) (mv_int rfl) ?_
  refine lx_value (want_if (j := 3) (d := 44) (x := true) (y := true) rfl rfl (by decide) rfl) (rn_eql rfl rfl) ?_
  refine lx_dec_t (rfl) ?_
  refine lx_value (want rfl) (pick_t rfl rfl) ?_
  refine lx_value (want rfl) (mv_bool rfl) ?_
  refine lx_value (want_if (j := 8) (d := 49) (x := true) (y := true) rfl rfl (by decide) rfl) (mv_slice rfl) ?_
  refine lx_value (want_if (j := 8) (d := 49) (x := true) (y := true) rfl rfl (by decide) rfl) (mv_slice rfl) ?_
  refine lx_call (want_if (j := 8) (d := 49) (x := true) (y := true) rfl rfl (by decide) rfl) (ent_func cf_20 (argsC (t_slice rfl) (argsC (t_slice rfl) args0))) (ints_ct (wayR d a b) (wayR d a b) _ _ _ _ _ _ w9 (hW.fr (int_stab _) (Fr.ext (Fr.ext (Fr.refl no w7) E4) E5) (fun k hk h => by first | exact h | (have := hk.1; have := hk.2; (try dsimp only at h); omega))) (hV.fr (int_stab _) (Fr.ext (Fr.refl no w8) E5) (fun k hk h => by first | exact h | (have := hk.1; have := hk.2; (try dsimp only at h); omega))) (wayR_len d a b)) ?_
  rintro _ w10 E6 rfl
  have F10 := F9.ext E6
  have hz6 := E6.size
  refine lx_b_t (eq_true') ?_
  refine lx_value (want rfl) (pick_t rfl rfl) ?_
  refine lx_value (want rfl) (mv_bool rfl) ?_
  refine lx_value (want_if (j := 13) (d := 54) (x := true) (y := true) rfl rfl (by decide) rfl) (mv_int rfl) ?_
  refine lx_value (want_if (j := 13) (d := 54) (x := true) (y := true) rfl rfl (by decide) rfl) (mv_int rfl) ?_
  refine lx_value (want_if (j := 13) (d := 54) (x := true) (y := true) rfl rfl (by decide) rfl) (rn_eql rfl rfl) ?_
  refine lx_dec_t (rfl) ?_
  refine lx_value (want rfl) (pick_t rfl rfl) ?_
  refine lx_value (want rfl) (mv_bool rfl) ?_
  refine lx_call (want_if (j := 18) (d := 59) (x := true) (y := true) rfl rfl (by decide) rfl) (ent_func cf_21 args0) (awake_ct w10 ((((((((((hT.ext E1).ext Eb21).ne Es1 (by omega)).ext E2).ext Eb22).ne Es2 (by omega)).ext E3).ext E4).ext E5).ext E6)) ?_
  rintro _ w11 E7 rfl
  have F11 := F10.ext E7
  have hz7 := E7.size
  refine lx_value (want rfl) (pick_t rfl rfl) ?_
  refine lx_value (want rfl) (as_bool rfl) ?_
  refine lx_nil ?_
  refine wk_ret ?_
  refine retR1 Tryd.results3 (.tmp (t_bool rfl)) F11 ?_
  exact rfl

end Go.Proofs.YtlfclnkoimfhmaaDoor

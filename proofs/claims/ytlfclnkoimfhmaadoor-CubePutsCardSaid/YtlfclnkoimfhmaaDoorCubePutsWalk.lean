/- The walk of the law CubePuts. -/
import Derived.Test.YtlfclnkoimfhmaaDoorFacts
import Derived.Test.YtlfclnkoimfhmaaDoorPre
import Derived.Test.YtlfclnkoimfhmaaDoorWalk1
import Derived.Test.YtlfclnkoimfhmaaDoorWalk11
import Derived.Test.YtlfclnkoimfhmaaDoorWalk16
import Derived.Test.YtlfclnkoimfhmaaDoorWalk18
import Derived.Test.YtlfclnkoimfhmaaDoorWalk3
set_option maxRecDepth 100000
set_option linter.unusedVariables false
set_option linter.unusedSimpArgs false
namespace Go.Proofs.YtlfclnkoimfhmaaDoor
open Go Go.RowKit Go.Mix Go.Eng
theorem cf_19 : ∀ args w, (callFunc 19 args).run Tryd.prog w = .ok (.enter 19 args) w := fun _ _ => by kernel_rfl
theorem cf_21 : ∀ args w, (callFunc 21 args).run Tryd.prog w = .ok (.enter 21 args) w := fun _ _ => by kernel_rfl
theorem cf_22 : ∀ args w, (callFunc 22 args).run Tryd.prog w = .ok (.enter 22 args) w := fun _ _ => by kernel_rfl
theorem cf_29 : ∀ args w, (callFunc 29 args).run Tryd.prog w = .ok (.enter 29 args) w := fun _ _ => by kernel_rfl
set_option maxHeartbeats 2000000 in
theorem cubeputs_ct (d r : Int) (L : List (List Pk)) (s : Option Addr) (c : Nat) (G : Nat → Prop) (p1 p2 p3 : Int) (w0 : World) (hL : BufS G w0 s L) (hT : Tb w0 1) :
    CT Tryd.prog 5 [.agg #[.int .i64 d, .int .i64 r, .slice s L.length c], .agg #[.int .i64 p1, .int .i64 p2, .int .i64 p3]] w0 no (fun v _ => v = .bool true) := by
  have hTl := hT.lt
  have F0 := Fr.refl no w0
  refine ct_body Tryd.func5 rfl Tryd.ntmps5 (Nat.le_of_ble_eq_true rfl) ?_
  refine wk_seq ?_
  refine wk_region ?_
  refine lx_new (want rfl) (rn_box (t_agg rfl)) ?_
  intro b21 w1 hb21 Eb21 B21 hlb21
  have F1 := F0.ext Eb21
  have hzb21 := Eb21.size
  refine lx_new (want rfl) (rn_box (t_agg rfl)) ?_
  intro b22 w2 hb22 Eb22 B22 hlb22
  have F2 := F1.ext Eb22
  have hzb22 := Eb22.size
  refine lx_value (want rfl) (as_bool rfl) ?_
  refine lx_nil ?_
  refine wk_seq ?_
  refine wk_seq ?_
  refine wk_region ?_
  refine lx_value (want rfl) (rn_loadBlk ag_24 sz_24 rfl (B21.ext Eb22) rfl rfl) ?_
  refine lx_call (want rfl) (ent_func cf_22 (argsC (t_agg rfl) args0)) (thin_ct d r L s c G w2 (hL.fr (buf_stab _) F2 (fun _ _ h => h))) ?_
  rintro _ w3 E1 rfl
  have F3 := F2.ext E1
  have hz1 := E1.size
  refine lx_split (fun h10 => ?_) (fun h10 => ?_)
  ·
    have hB := bd_thin h10
    refine lx_value (want rfl) (rn_not rfl) ?_
    refine lx_nil ?_
    refine wk_cond_f rfl ?_
    refine wk_skip ?_
    refine wk_seq ?_
    refine wk_region ?_
    refine lx_value (want rfl) (rn_loadBlk ag_24 sz_24 rfl ((B21.ext Eb22).ext E1) rfl rfl) ?_
    refine lx_call (want rfl) (ent_func cf_23 (argsC (t_agg rfl) args0)) (copyR (copy_ct d r L s c G hB w3 (hL.fr (buf_stab _) F3 (fun _ _ h => h)))) ?_
    rintro _ w4 E2 ⟨sX, cX, rfl, hX⟩
    have F4 := F3.ext E2
    have hz2 := E2.size
    refine lx_new (want rfl) (rn_alloc ze_24) ?_
    intro b23 w5 hb23 Eb23 B23 hlb23
    have F5 := F4.ext Eb23
    have hzb23 := Eb23.size
    refine lx_set (want rfl) sz_24 rfl (t_agg rfl) rfl rfl rfl B23 (Nat.le_of_ble_eq_true rfl) ?_
    intro w6 Es1 Bs1
    have F6 := F5.set Es1 (by omega)
    have hzs1 := Es1.size
    refine lx_nil ?_
    refine wk_seq ?_
    refine wk_region ?_
    refine lx_value (want rfl) (rn_loadBlk ag_24 sz_24 rfl Bs1 rfl rfl) ?_
    refine lx_value (want rfl) (rn_loadBlk ag_41 sz_41 rfl ((((B22.ext E1).ext E2).ext Eb23).ne Es1 (by omega)) rfl rfl) ?_
    refine lx_call (want rfl) (ent_func cf_28 (argsC (t_agg rfl) (argsC (t_agg rfl) args0))) (xput_ct d r L sX cX _ hB p1 p2 p3 w6 (hX.fr (buf_stab _) (Fr.trans (Fr.ext (Fr.refl (fun k => k = b23) w4) Eb23) Es1 (fun k _ h => h)) (fun k hk h => by first | exact h | (have := hk.1; have := hk.2; (try dsimp only at h); first | omega | (rcases h with h | h <;> first | omega | (have := ob_some h; omega))))) ((((((hT.ext Eb21).ext Eb22).ext E1).ext E2).ext Eb23).ne Es1 (by omega))) ?_
    rintro _ w7 E3 ⟨_, rfl, hA⟩
    have F7 := F6.ext E3
    have hz3 := E3.size
    obtain ⟨sA, cA, rfl, hA⟩ := hA
    refine lx_value (want rfl) (mv_tuple rfl) ?_
    refine lx_value (want rfl) (rn_extract rfl rfl) ?_
    refine lx_value (want rfl) (rn_extract rfl rfl) ?_
    refine lx_new (want rfl) (rn_alloc ze_24) ?_
    intro b24 w8 hb24 Eb24 B24 hlb24
    have F8 := F7.ext Eb24
    have hzb24 := Eb24.size
    refine lx_set (want rfl) sz_24 rfl (t_agg rfl) rfl rfl rfl B24 (Nat.le_of_ble_eq_true rfl) ?_
    intro w9 Es2 Bs2
    have F9 := F8.set Es2 (by omega)
    have hzs2 := Es2.size
    refine lx_value (want rfl) (as_int rfl) ?_
    refine lx_nil ?_
    refine wk_seq ?_
    refine wk_region ?_
    refine lx_value (want rfl) (rn_loadBlk ag_24 sz_24 rfl ((((((((B21.ext Eb22).ext E1).ext E2).ext Eb23).ne Es1 (by omega)).ext E3).ext Eb24).ne Es2 (by omega)) rfl rfl) ?_
    refine lx_value (want rfl) (rn_loadBlk ag_41 sz_41 rfl (((((((B22.ext E1).ext E2).ext Eb23).ne Es1 (by omega)).ext E3).ext Eb24).ne Es2 (by omega)) rfl rfl) ?_
    refine lx_call (want rfl) (ent_func cf_29 (argsC (t_agg rfl) (argsC (t_agg rfl) args0))) (refput_ct d r L s c G p1 p2 p3 w9 (hL.fr (buf_stab _) F9 (fun _ _ h => h))) ?_
    rintro _ w10 E4 ⟨_, rfl, hB2⟩
    have F10 := F9.ext E4
    have hz4 := E4.size
    obtain ⟨sB, cB, rfl, hBB⟩ := hB2
    refine lx_value (want rfl) (mv_tuple rfl) ?_
    refine lx_value (want rfl) (rn_extract rfl rfl) ?_
    refine lx_value (want rfl) (rn_extract rfl rfl) ?_
    refine lx_new (want rfl) (rn_alloc ze_24) ?_
    intro b25 w11 hb25 Eb25 B25 hlb25
    have F11 := F10.ext Eb25
    have hzb25 := Eb25.size
    refine lx_set (want rfl) sz_24 rfl (t_agg rfl) rfl rfl rfl B25 (Nat.le_of_ble_eq_true rfl) ?_
    intro w12 Es3 Bs3
    have F12 := F11.set Es3 (by omega)
    have hzs3 := Es3.size
    refine lx_value (want rfl) (as_int rfl) ?_
    refine lx_nil ?_
    refine wk_seq ?_
    refine wk_region ?_
    refine lx_value (want rfl) (rn_loadBlk ag_24 sz_24 rfl (((Bs2.ext E4).ext Eb25).ne Es3 (by omega)) rfl rfl) ?_
    refine lx_value (want rfl) (rn_loadBlk ag_24 sz_24 rfl Bs3 rfl rfl) ?_
    refine lx_call (want rfl) (ent_func cf_19 (argsC (t_agg rfl) (argsC (t_agg rfl) args0))) (same_ct _ _ _ sA cA _ _ _ _ sB cB _ w12 (hA.fr (buf_stab _) (Fr.trans (Fr.ext (Fr.ext (Fr.trans (Fr.ext (Fr.refl (fun k => k = b24 ∨ k = b25) w7) Eb24) Es2 (fun k _ h => (.inl h))) E4) Eb25) Es3 (fun k _ h => (.inr h))) (fun k hk h => by first | exact h | (have := hk.1; have := hk.2; (try dsimp only at h); first | omega | (rcases h with h | h <;> first | omega | (have := ob_some h; omega))))) (hBB.fr (buf_stab _) (Fr.trans (Fr.ext (Fr.refl (fun k => k = b25) w10) Eb25) Es3 (fun k _ h => h)) (fun k hk h => by first | exact h | (have := hk.1; have := hk.2; (try dsimp only at h); first | omega | (rcases h with h | h <;> first | omega | (have := ob_some h; omega))))) (bd_putC d r L (p1, p2, p3))) ?_
    rintro _ w13 E5 rfl
    have F13 := F12.ext E5
    have hz5 := E5.size
    refine lx_b_t (same_true) ?_
    refine lx_value (want rfl) (mv_bool rfl) ?_
    refine lx_value (want_if (j := 3) (d := 31) (x := true) (y := true) rfl rfl (by decide) rfl) (mv_int rfl) ?_
    refine lx_value (want_if (j := 3) (d := 31) (x := true) (y := true) rfl rfl (by decide) rfl) (mv_int rfl) ?_
    refine lx_value (want_if (j := 3) (d := 31) (x := true) (y := true) rfl rfl (by decide) rfl) (rn_eql rfl rfl) ?_
    refine lx_dec_t (rfl) ?_
    refine lx_value (want rfl) (pick_t rfl rfl) ?_
    refine lx_value (want rfl) (mv_bool rfl) ?_
    refine lx_value (want_if (j := 8) (d := 36) (x := true) (y := true) rfl rfl (by decide) rfl) (rn_loadBlk ag_24 sz_24 rfl (((((((Bs1.ext E3).ext Eb24).ne Es2 (by omega)).ext E4).ext Eb25).ne Es3 (by omega)).ext E5) rfl rfl) ?_
    refine lx_value (want_if (j := 8) (d := 36) (x := true) (y := true) rfl rfl (by decide) rfl) (rn_loadBlk ag_24 sz_24 rfl ((((((((((((B21.ext Eb22).ext E1).ext E2).ext Eb23).ne Es1 (by omega)).ext E3).ext Eb24).ne Es2 (by omega)).ext E4).ext Eb25).ne Es3 (by omega)).ext E5) rfl rfl) ?_
    refine lx_call (want_if (j := 8) (d := 36) (x := true) (y := true) rfl rfl (by decide) rfl) (ent_func cf_19 (argsC (t_agg rfl) (argsC (t_agg rfl) args0))) (same_ct _ _ L sX cX _ _ _ L s c G w13 (hX.fr (buf_stab _) (Fr.ext (Fr.trans (Fr.ext (Fr.ext (Fr.trans (Fr.ext (Fr.ext (Fr.trans (Fr.ext (Fr.refl (fun k => k = b23 ∨ k = b24 ∨ k = b25) w4) Eb23) Es1 (fun k _ h => (.inl h))) E3) Eb24) Es2 (fun k _ h => (.inr (.inl h)))) E4) Eb25) Es3 (fun k _ h => (.inr (.inr h)))) E5) (fun k hk h => by first | exact h | (have := hk.1; have := hk.2; (try dsimp only at h); first | omega | (rcases h with h | h <;> first | omega | (have := ob_some h; omega))))) (hL.fr (buf_stab _) F13 (fun _ _ h => h)) hB) ?_
    rintro _ w14 E6 rfl
    have F14 := F13.ext E6
    have hz6 := E6.size
    refine lx_b_t (same_true) ?_
    refine lx_value (want rfl) (pick_t rfl rfl) ?_
    refine lx_value (want rfl) (mv_bool rfl) ?_
    refine lx_call (want_if (j := 13) (d := 41) (x := true) (y := true) rfl rfl (by decide) rfl) (ent_func cf_21 args0) (awake_ct w14 ((((((((((((((hT.ext Eb21).ext Eb22).ext E1).ext E2).ext Eb23).ne Es1 (by omega)).ext E3).ext Eb24).ne Es2 (by omega)).ext E4).ext Eb25).ne Es3 (by omega)).ext E5).ext E6)) ?_
    rintro _ w15 E7 rfl
    have F15 := F14.ext E7
    have hz7 := E7.size
    refine lx_value (want rfl) (pick_t rfl rfl) ?_
    refine lx_value (want rfl) (as_bool rfl) ?_
    refine lx_nil ?_
    refine wk_ret ?_
    refine retR1 Tryd.results5 (.tmp (t_bool rfl)) F15 ?_
    exact rfl
  ·
    refine lx_value (want rfl) (rn_not rfl) ?_
    refine lx_nil ?_
    refine wk_cond_t rfl ?_
    refine wk_seq ?_
    refine wk_region ?_
    refine lx_call (want rfl) (ent_func cf_21 args0) (awake_ct w3 (((hT.ext Eb21).ext Eb22).ext E1)) ?_
    rintro _ w4 E8 rfl
    have F16 := F3.ext E8
    have hz8 := E8.size
    refine lx_value (want rfl) (as_bool rfl) ?_
    refine lx_nil ?_
    refine wk_ret ?_
    refine retR1 Tryd.results5 (.tmp (t_bool rfl)) F16 ?_
    exact rfl

end Go.Proofs.YtlfclnkoimfhmaaDoor

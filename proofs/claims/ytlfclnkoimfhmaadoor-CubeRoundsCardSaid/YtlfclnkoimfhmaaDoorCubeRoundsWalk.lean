/- The walk of the law CubeRounds. -/
import Derived.Test.YtlfclnkoimfhmaaDoorFacts
import Derived.Test.YtlfclnkoimfhmaaDoorPre
import Derived.Test.YtlfclnkoimfhmaaDoorWalk1
import Derived.Test.YtlfclnkoimfhmaaDoorWalk10
import Derived.Test.YtlfclnkoimfhmaaDoorWalk14
import Derived.Test.YtlfclnkoimfhmaaDoorWalk15
import Derived.Test.YtlfclnkoimfhmaaDoorWalk16
import Derived.Test.YtlfclnkoimfhmaaDoorWalk18
import Derived.Test.YtlfclnkoimfhmaaDoorWalk3
set_option maxRecDepth 100000
set_option linter.unusedVariables false
set_option linter.unusedSimpArgs false
namespace Go.Proofs.YtlfclnkoimfhmaaDoor
open Go Go.RowKit Go.Mix Go.Eng
theorem cf_19 : ∀ args w, (callFunc 19 args).run Tryd.prog w = .ok (.enter 19 args) w := fun _ _ => by kernel_rfl
theorem cf_21 : ∀ args w, (callFunc 21 args).run Tryd.prog w = .ok (.enter 21 args) w := fun _ _ => by kernel_rfl
theorem cf_22 : ∀ args w, (callFunc 22 args).run Tryd.prog w = .ok (.enter 22 args) w := fun _ _ => by kernel_rfl
theorem cf_44 : ∀ args w, (callFunc 44 args).run Tryd.prog w = .ok (.enter 44 args) w := fun _ _ => by kernel_rfl
theorem cf_46 : ∀ args w, (callFunc 46 args).run Tryd.prog w = .ok (.enter 46 args) w := fun _ _ => by kernel_rfl
set_option maxHeartbeats 2000000 in
set_option maxRecDepth 100000 in
theorem cuberounds_ct (d r : Int) (L : List (List Pk)) (s : Option Addr) (c : Nat) (G : Nat → Prop) (w0 : World) (hL : BufS G w0 s L) (hT : Tb w0 1) :
    CT Tryd.prog 13 [.agg #[.int .i64 d, .int .i64 r, .slice s L.length c]] w0 no (fun v _ => v = .bool true) := by
  have hTl := hT.lt
  have F0 := Fr.refl no w0
  refine ct_body Tryd.func13 rfl Tryd.ntmps13 (Nat.le_of_ble_eq_true rfl) ?_
  refine wk_seq ?_
  refine wk_region ?_
  refine lx_new (want rfl) (rn_box (t_agg rfl)) ?_
  intro b21 w1 hb21 Eb21 B21 hlb21
  have F1 := F0.ext Eb21
  have hzb21 := Eb21.size
  refine lx_value (want rfl) (as_bool rfl) ?_
  refine lx_nil ?_
  refine wk_seq ?_
  refine wk_seq ?_
  refine wk_region ?_
  refine lx_value (want rfl) (rn_loadBlk ag_24 sz_24 rfl B21 rfl rfl) ?_
  refine lx_call (want rfl) (ent_func cf_22 (argsC (t_agg rfl) args0)) (thin_ct d r L s c G w1 (hL.fr (buf_stab _) F1 (fun _ _ h => h))) ?_
  rintro _ w2 E1 rfl
  have F2 := F1.ext E1
  have hz1 := E1.size
  refine lx_split (fun h10 => ?_) (fun h10 => ?_)
  ·
    have hB := bd_thin h10
    refine lx_value (want rfl) (rn_not rfl) ?_
    refine lx_nil ?_
    refine wk_cond_f rfl ?_
    refine wk_skip ?_
    refine wk_seq ?_
    refine wk_region ?_
    refine lx_value (want rfl) (rn_loadBlk ag_24 sz_24 rfl (B21.ext E1) rfl rfl) ?_
    refine lx_call (want rfl) (ent_func cf_23 (argsC (t_agg rfl) args0)) (copyR (copy_ct d r L s c G hB w2 (hL.fr (buf_stab _) F2 (fun _ _ h => h)))) ?_
    rintro _ w3 E2 ⟨sX, cX, rfl, hX⟩
    have F3 := F2.ext E2
    have hz2 := E2.size
    refine lx_new (want rfl) (rn_alloc ze_24) ?_
    intro b22 w4 hb22 Eb22 B22 hlb22
    have F4 := F3.ext Eb22
    have hzb22 := Eb22.size
    refine lx_set (want rfl) sz_24 rfl (t_agg rfl) rfl rfl rfl B22 (Nat.le_of_ble_eq_true rfl) ?_
    intro w5 Es1 Bs1
    have F5 := F4.set Es1 (by omega)
    have hzs1 := Es1.size
    refine lx_nil ?_
    refine wk_seq ?_
    refine wk_region ?_
    refine lx_value (want rfl) (rn_loadBlk ag_24 sz_24 rfl Bs1 rfl rfl) ?_
    refine lx_call (want rfl) (ent_func cf_44 (argsC (t_agg rfl) args0)) (xround_ct d r L sX cX _ hB w5 (hX.fr (buf_stab _) (Fr.trans (Fr.ext (Fr.refl (fun k => k = b22) w3) Eb22) Es1 (fun k _ h => h)) (fun k hk h => by first | exact h | (have := hk.1; have := hk.2; (try dsimp only at h); first | omega | (rcases h with h | h <;> first | omega | (have := ob_some h; omega))))) (((((hT.ext Eb21).ext E1).ext E2).ext Eb22).ne Es1 (by omega))) ?_
    rintro _ w6 E3 ⟨_, _, rfl, hD, hO⟩
    have F6 := F5.ext E3
    have hz3 := E3.size
    obtain ⟨sD, cD, rfl, hD⟩ := hD
    obtain ⟨sO, cO, rfl, hO⟩ := hO
    refine lx_value (want rfl) (mv_tuple rfl) ?_
    refine lx_value (want rfl) (rn_extract rfl rfl) ?_
    refine lx_value (want rfl) (rn_extract rfl rfl) ?_
    refine lx_value (want rfl) (rn_extract rfl rfl) ?_
    refine lx_new (want rfl) (rn_alloc ze_24) ?_
    intro b23 w7 hb23 Eb23 B23 hlb23
    have F7 := F6.ext Eb23
    have hzb23 := Eb23.size
    refine lx_set (want rfl) sz_24 rfl (t_agg rfl) rfl rfl rfl B23 (Nat.le_of_ble_eq_true rfl) ?_
    intro w8 Es2 Bs2
    have F8 := F7.set Es2 (by omega)
    have hzs2 := Es2.size
    refine lx_value (want rfl) (as_slice rfl) ?_
    refine lx_value (want rfl) (as_int rfl) ?_
    refine lx_nil ?_
    refine wk_seq ?_
    refine wk_region ?_
    refine lx_value (want rfl) (rn_loadBlk ag_24 sz_24 rfl (((Bs1.ext E3).ext Eb23).ne Es2 (by omega)) rfl rfl) ?_
    refine lx_call (want rfl) (ent_func cf_40 (argsC (t_agg rfl) args0)) (xrounds_ct d r L sX cX _ hB w8 (hX.fr (buf_stab _) (Fr.trans (Fr.ext (Fr.ext (Fr.trans (Fr.ext (Fr.refl (fun k => k = b22 ∨ k = b23) w3) Eb22) Es1 (fun k _ h => (.inl h))) E3) Eb23) Es2 (fun k _ h => (.inr h))) (fun k hk h => by first | exact h | (have := hk.1; have := hk.2; (try dsimp only at h); first | omega | (rcases h with h | h <;> first | omega | (have := ob_some h; omega))))) ((((((((hT.ext Eb21).ext E1).ext E2).ext Eb22).ne Es1 (by omega)).ext E3).ext Eb23).ne Es2 (by omega))) ?_
    rintro _ w9 E4 ⟨_, rfl, hA⟩
    have F9 := F8.ext E4
    have hz4 := E4.size
    obtain ⟨sA, cA, rfl, hA⟩ := hA
    refine lx_value (want rfl) (mv_tuple rfl) ?_
    refine lx_value (want rfl) (rn_extract rfl rfl) ?_
    refine lx_value (want rfl) (rn_extract rfl rfl) ?_
    refine lx_value (want rfl) (rn_extract rfl rfl) ?_
    refine lx_value (want rfl) (as_slice rfl) ?_
    refine lx_value (want rfl) (as_int rfl) ?_
    refine lx_value (want rfl) (as_int rfl) ?_
    refine lx_nil ?_
    refine wk_seq ?_
    refine wk_region ?_
    refine lx_value (want rfl) (rn_loadBlk ag_24 sz_24 rfl ((((((((B21.ext E1).ext E2).ext Eb22).ne Es1 (by omega)).ext E3).ext Eb23).ne Es2 (by omega)).ext E4) rfl rfl) ?_
    refine lx_call (want rfl) (ent_func cf_45 (argsC (t_agg rfl) args0)) (refround_ct d r L s c G w9 (hL.fr (buf_stab _) F9 (fun _ _ h => h))) ?_
    rintro _ w10 E5 ⟨_, _, rfl, hE, hQ⟩
    have F10 := F9.ext E5
    have hz5 := E5.size
    obtain ⟨sE, cE, rfl, hE⟩ := hE
    obtain ⟨sQ, cQ, rfl, hQ⟩ := hQ
    refine lx_value (want rfl) (mv_tuple rfl) ?_
    refine lx_value (want rfl) (rn_extract rfl rfl) ?_
    refine lx_value (want rfl) (rn_extract rfl rfl) ?_
    refine lx_value (want rfl) (rn_extract rfl rfl) ?_
    refine lx_new (want rfl) (rn_alloc ze_24) ?_
    intro b24 w11 hb24 Eb24 B24 hlb24
    have F11 := F10.ext Eb24
    have hzb24 := Eb24.size
    refine lx_set (want rfl) sz_24 rfl (t_agg rfl) rfl rfl rfl B24 (Nat.le_of_ble_eq_true rfl) ?_
    intro w12 Es3 Bs3
    have F12 := F11.set Es3 (by omega)
    have hzs3 := Es3.size
    refine lx_value (want rfl) (as_slice rfl) ?_
    refine lx_value (want rfl) (as_int rfl) ?_
    refine lx_nil ?_
    refine wk_seq ?_
    refine wk_region ?_
    refine lx_value (want rfl) (rn_loadBlk ag_24 sz_24 rfl (((((((((((B21.ext E1).ext E2).ext Eb22).ne Es1 (by omega)).ext E3).ext Eb23).ne Es2 (by omega)).ext E4).ext E5).ext Eb24).ne Es3 (by omega)) rfl rfl) ?_
    refine lx_call (want rfl) (ent_func cf_46 (argsC (t_agg rfl) args0)) (refrounds_ct d r L s c G w12 (hL.fr (buf_stab _) F12 (fun _ _ h => h))) ?_
    rintro _ w13 E6 ⟨_, rfl, hM⟩
    have F13 := F12.ext E6
    have hz6 := E6.size
    obtain ⟨sM, cM, rfl, hM⟩ := hM
    refine lx_value (want rfl) (mv_tuple rfl) ?_
    refine lx_value (want rfl) (rn_extract rfl rfl) ?_
    refine lx_value (want rfl) (rn_extract rfl rfl) ?_
    refine lx_value (want rfl) (rn_extract rfl rfl) ?_
    refine lx_value (want rfl) (as_slice rfl) ?_
    refine lx_value (want rfl) (as_int rfl) ?_
    refine lx_value (want rfl) (as_int rfl) ?_
    refine lx_nil ?_
    refine wk_seq ?_
    refine wk_region ?_
    refine lx_value (want rfl) (rn_loadBlk ag_24 sz_24 rfl (((((Bs2.ext E4).ext E5).ext Eb24).ne Es3 (by omega)).ext E6) rfl rfl) ?_
    refine lx_value (want rfl) (rn_loadBlk ag_24 sz_24 rfl (Bs3.ext E6) rfl rfl) ?_
    refine lx_call (want rfl) (ent_func cf_19 (argsC (t_agg rfl) (argsC (t_agg rfl) args0))) (same_ct _ _ _ sD cD _ _ _ _ sE cE _ w13 (hD.fr (buf_stab _) (Fr.ext (Fr.trans (Fr.ext (Fr.ext (Fr.ext (Fr.trans (Fr.ext (Fr.refl (fun k => k = b23 ∨ k = b24) w6) Eb23) Es2 (fun k _ h => (.inl h))) E4) E5) Eb24) Es3 (fun k _ h => (.inr h))) E6) (fun k hk h => by first | exact h | (have := hk.1; have := hk.2; (try dsimp only at h); first | omega | (rcases h with h | h <;> first | omega | (have := ob_some h; omega))))) (hE.fr (buf_stab _) (Fr.ext (Fr.trans (Fr.ext (Fr.refl (fun k => k = b24) w10) Eb24) Es3 (fun k _ h => h)) E6) (fun k hk h => by first | exact h | (have := hk.1; have := hk.2; (try dsimp only at h); first | omega | (rcases h with h | h <;> first | omega | (have := ob_some h; omega))))) (bd_rndC d r L)) ?_
    rintro _ w14 E7 rfl
    have F14 := F13.ext E7
    have hz7 := E7.size
    refine lx_b_t (same_true) ?_
    refine lx_value (want rfl) (mv_bool rfl) ?_
    refine lx_value (want_if (j := 3) (d := 49) (x := true) (y := true) rfl rfl (by decide) rfl) (mv_slice rfl) ?_
    refine lx_value (want_if (j := 3) (d := 49) (x := true) (y := true) rfl rfl (by decide) rfl) (mv_slice rfl) ?_
    refine lx_call (want_if (j := 3) (d := 49) (x := true) (y := true) rfl rfl (by decide) rfl) (ent_func cf_34 (argsC (t_slice rfl) (argsC (t_slice rfl) args0))) (packets_ct _ _ sO sQ cO cQ _ _ w14 (hO.fr (pk_stab _) (Fr.ext (Fr.ext (Fr.trans (Fr.ext (Fr.ext (Fr.ext (Fr.trans (Fr.ext (Fr.refl (fun k => k = b23 ∨ k = b24) w6) Eb23) Es2 (fun k _ h => (.inl h))) E4) E5) Eb24) Es3 (fun k _ h => (.inr h))) E6) E7) (fun k hk h => by first | exact h | (have := hk.1; have := hk.2; (try dsimp only at h); omega))) (hQ.fr (pk_stab _) (Fr.ext (Fr.ext (Fr.trans (Fr.ext (Fr.refl (fun k => k = b24) w10) Eb24) Es3 (fun k _ h => h)) E6) E7) (fun k hk h => by first | exact h | (have := hk.1; have := hk.2; (try dsimp only at h); omega))) (rndO_len d r L)) ?_
    rintro _ w15 E8 rfl
    have F15 := F14.ext E8
    have hz8 := E8.size
    refine lx_b_t (eq_true') ?_
    refine lx_value (want rfl) (pick_t rfl rfl) ?_
    refine lx_value (want rfl) (mv_bool rfl) ?_
    refine lx_value (want_if (j := 8) (d := 54) (x := true) (y := true) rfl rfl (by decide) rfl) (mv_int rfl) ?_
    refine lx_value (want_if (j := 8) (d := 54) (x := true) (y := true) rfl rfl (by decide) rfl) (mv_int rfl) ?_
    refine lx_value (want_if (j := 8) (d := 54) (x := true) (y := true) rfl rfl (by decide) rfl) (rn_eql rfl rfl) ?_
    refine lx_dec_t (rfl) ?_
    refine lx_value (want rfl) (pick_t rfl rfl) ?_
    refine lx_value (want rfl) (mv_bool rfl) ?_
    refine lx_value (want_if (j := 13) (d := 59) (x := true) (y := true) rfl rfl (by decide) rfl) (mv_slice rfl) ?_
    refine lx_value (want_if (j := 13) (d := 59) (x := true) (y := true) rfl rfl (by decide) rfl) (mv_slice rfl) ?_
    refine lx_call (want_if (j := 13) (d := 59) (x := true) (y := true) rfl rfl (by decide) rfl) (ent_func cf_34 (argsC (t_slice rfl) (argsC (t_slice rfl) args0))) (packets_ct _ _ sA sM cA cM _ _ w15 (hA.fr (pk_stab _) (Fr.ext (Fr.ext (Fr.ext (Fr.trans (Fr.ext (Fr.ext (Fr.refl (fun k => k = b24) w9) E5) Eb24) Es3 (fun k _ h => h)) E6) E7) E8) (fun k hk h => by first | exact h | (have := hk.1; have := hk.2; (try dsimp only at h); omega))) (hM.fr (pk_stab _) (Fr.ext (Fr.ext (Fr.refl no w13) E7) E8) (fun k hk h => by first | exact h | (have := hk.1; have := hk.2; (try dsimp only at h); omega))) (rdsR_len d r L)) ?_
    rintro _ w16 E9 rfl
    have F16 := F15.ext E9
    have hz9 := E9.size
    refine lx_b_t (eq_true') ?_
    refine lx_value (want rfl) (pick_t rfl rfl) ?_
    refine lx_value (want rfl) (mv_bool rfl) ?_
    refine lx_value (want_if (j := 18) (d := 64) (x := true) (y := true) rfl rfl (by decide) rfl) (mv_int rfl) ?_
    refine lx_value (want_if (j := 18) (d := 64) (x := true) (y := true) rfl rfl (by decide) rfl) (mv_int rfl) ?_
    refine lx_value (want_if (j := 18) (d := 64) (x := true) (y := true) rfl rfl (by decide) rfl) (rn_eql rfl rfl) ?_
    refine lx_dec_t (rfl) ?_
    refine lx_value (want rfl) (pick_t rfl rfl) ?_
    refine lx_value (want rfl) (mv_bool rfl) ?_
    refine lx_value (want_if (j := 23) (d := 69) (x := true) (y := true) rfl rfl (by decide) rfl) (mv_int rfl) ?_
    refine lx_value (want_if (j := 23) (d := 69) (x := true) (y := true) rfl rfl (by decide) rfl) (mv_int rfl) ?_
    refine lx_value (want_if (j := 23) (d := 69) (x := true) (y := true) rfl rfl (by decide) rfl) (rn_eql rfl rfl) ?_
    refine lx_dec_t (rfl) ?_
    refine lx_value (want rfl) (pick_t rfl rfl) ?_
    refine lx_value (want rfl) (mv_bool rfl) ?_
    refine lx_value (want_if (j := 28) (d := 74) (x := true) (y := true) rfl rfl (by decide) rfl) (rn_loadBlk ag_24 sz_24 rfl (((((((((((Bs1.ext E3).ext Eb23).ne Es2 (by omega)).ext E4).ext E5).ext Eb24).ne Es3 (by omega)).ext E6).ext E7).ext E8).ext E9) rfl rfl) ?_
    refine lx_value (want_if (j := 28) (d := 74) (x := true) (y := true) rfl rfl (by decide) rfl) (rn_loadBlk ag_24 sz_24 rfl (((((((((((((((B21.ext E1).ext E2).ext Eb22).ne Es1 (by omega)).ext E3).ext Eb23).ne Es2 (by omega)).ext E4).ext E5).ext Eb24).ne Es3 (by omega)).ext E6).ext E7).ext E8).ext E9) rfl rfl) ?_
    refine lx_call (want_if (j := 28) (d := 74) (x := true) (y := true) rfl rfl (by decide) rfl) (ent_func cf_19 (argsC (t_agg rfl) (argsC (t_agg rfl) args0))) (same_ct _ _ L sX cX _ _ _ L s c G w16 (hX.fr (buf_stab _) (Fr.ext (Fr.ext (Fr.ext (Fr.ext (Fr.trans (Fr.ext (Fr.ext (Fr.ext (Fr.trans (Fr.ext (Fr.ext (Fr.trans (Fr.ext (Fr.refl (fun k => k = b22 ∨ k = b23 ∨ k = b24) w3) Eb22) Es1 (fun k _ h => (.inl h))) E3) Eb23) Es2 (fun k _ h => (.inr (.inl h)))) E4) E5) Eb24) Es3 (fun k _ h => (.inr (.inr h)))) E6) E7) E8) E9) (fun k hk h => by first | exact h | (have := hk.1; have := hk.2; (try dsimp only at h); first | omega | (rcases h with h | h <;> first | omega | (have := ob_some h; omega))))) (hL.fr (buf_stab _) F16 (fun _ _ h => h)) hB) ?_
    rintro _ w17 E10 rfl
    have F17 := F16.ext E10
    have hz10 := E10.size
    refine lx_b_t (same_true) ?_
    refine lx_value (want rfl) (pick_t rfl rfl) ?_
    refine lx_value (want rfl) (mv_bool rfl) ?_
    refine lx_call (want_if (j := 33) (d := 79) (x := true) (y := true) rfl rfl (by decide) rfl) (ent_func cf_21 args0) (awake_ct w17 (((((((((((((((((hT.ext Eb21).ext E1).ext E2).ext Eb22).ne Es1 (by omega)).ext E3).ext Eb23).ne Es2 (by omega)).ext E4).ext E5).ext Eb24).ne Es3 (by omega)).ext E6).ext E7).ext E8).ext E9).ext E10)) ?_
    rintro _ w18 E11 rfl
    have F18 := F17.ext E11
    have hz11 := E11.size
    refine lx_value (want rfl) (pick_t rfl rfl) ?_
    refine lx_value (want rfl) (as_bool rfl) ?_
    refine lx_nil ?_
    refine wk_ret ?_
    refine retR1 Tryd.results13 (.tmp (t_bool rfl)) F18 ?_
    exact rfl
  ·
    refine lx_value (want rfl) (rn_not rfl) ?_
    refine lx_nil ?_
    refine wk_cond_t rfl ?_
    refine wk_seq ?_
    refine wk_region ?_
    refine lx_call (want rfl) (ent_func cf_21 args0) (awake_ct w2 ((hT.ext Eb21).ext E1)) ?_
    rintro _ w3 E12 rfl
    have F19 := F2.ext E12
    have hz12 := E12.size
    refine lx_value (want rfl) (as_bool rfl) ?_
    refine lx_nil ?_
    refine wk_ret ?_
    refine retR1 Tryd.results13 (.tmp (t_bool rfl)) F19 ?_
    exact rfl

end Go.Proofs.YtlfclnkoimfhmaaDoor

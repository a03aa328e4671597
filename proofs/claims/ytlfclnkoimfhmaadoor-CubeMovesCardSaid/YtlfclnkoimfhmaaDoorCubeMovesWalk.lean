/- The walk of the law CubeMoves. -/
import Derived.Test.YtlfclnkoimfhmaaDoorFacts
import Derived.Test.YtlfclnkoimfhmaaDoorPre
import Derived.Test.YtlfclnkoimfhmaaDoorWalk1
import Derived.Test.YtlfclnkoimfhmaaDoorWalk11
import Derived.Test.YtlfclnkoimfhmaaDoorWalk12
import Derived.Test.YtlfclnkoimfhmaaDoorWalk15
import Derived.Test.YtlfclnkoimfhmaaDoorWalk16
import Derived.Test.YtlfclnkoimfhmaaDoorWalk18
import Derived.Test.YtlfclnkoimfhmaaDoorWalk3
set_option maxRecDepth 100000
set_option linter.unusedVariables false
set_option linter.unusedSimpArgs false
namespace Go.Proofs.YtlfclnkoimfhmaaDoor
open Go Go.RowKit Go.Mix Go.Eng
theorem cf_19 : ∀ args w, (callFunc 19 args).run Tryd.prog w = .ok (.enter 19 args) w := fun _ _ => by kernel_rfl
theorem cf_21 : ∀ args w, (callFunc 21 args).run Tryd.prog w = .ok (.enter 21 args) w := fun _ _ => by kernel_rfl
theorem cf_22 : ∀ args w, (callFunc 22 args).run Tryd.prog w = .ok (.enter 22 args) w := fun _ _ => by kernel_rfl
theorem cf_33 : ∀ args w, (callFunc 33 args).run Tryd.prog w = .ok (.enter 33 args) w := fun _ _ => by kernel_rfl
set_option maxHeartbeats 2000000 in
set_option maxRecDepth 100000 in
theorem cubemoves_ct (d r : Int) (L : List (List Pk)) (s : Option Addr) (c : Nat) (G : Nat → Prop) (a a2 : Int) (w0 : World) (hL : BufS G w0 s L) (hT : Tb w0 1) :
    CT Tryd.prog 6 [.agg #[.int .i64 d, .int .i64 r, .slice s L.length c], .agg #[.int .i64 a, .int .i64 a2]] w0 no (fun v _ => v = .bool true) := by
  have hTl := hT.lt
  have F0 := Fr.refl no w0
  refine ct_body Tryd.func6 rfl Tryd.ntmps6 (Nat.le_of_ble_eq_true rfl) ?_
  refine wk_seq ?_
  refine wk_region ?_
  refine lx_new (want rfl) (rn_box (t_agg rfl)) ?_
  intro b21 w1 hb21 Eb21 B21 hlb21
  have F1 := F0.ext Eb21
  have hzb21 := Eb21.size
  refine lx_new (want rfl) (rn_box (t_agg rfl)) ?_
  intro b22 w2 hb22 Eb22 B22 hlb22
  have F2 := F1.ext Eb22
  have hzb22 := Eb22.size
  refine lx_value (want rfl) (as_bool rfl) ?_
  refine lx_nil ?_
  refine wk_seq ?_
  refine wk_seq ?_
  refine wk_region ?_
  refine lx_value (want rfl) (rn_loadBlk ag_24 sz_24 rfl (B21.ext Eb22) rfl rfl) ?_
  refine lx_call (want rfl) (ent_func cf_22 (argsC (t_agg rfl) args0)) (thin_ct d r L s c G w2 (hL.fr (buf_stab _) F2 (fun _ _ h => h))) ?_
  rintro _ w3 E1 rfl
  have F3 := F2.ext E1
  have hz1 := E1.size
  refine lx_split (fun h10 => ?_) (fun h10 => ?_)
  ·
    have hB := bd_thin h10
    refine lx_value (want rfl) (rn_not rfl) ?_
    refine lx_nil ?_
    refine wk_cond_f rfl ?_
    refine wk_skip ?_
    refine wk_seq ?_
    refine wk_region ?_
    refine lx_value (want rfl) (rn_loadBlk ag_24 sz_24 rfl ((B21.ext Eb22).ext E1) rfl rfl) ?_
    refine lx_call (want rfl) (ent_func cf_23 (argsC (t_agg rfl) args0)) (copyR (copy_ct d r L s c G hB w3 (hL.fr (buf_stab _) F3 (fun _ _ h => h)))) ?_
    rintro _ w4 E2 ⟨sX, cX, rfl, hX⟩
    have F4 := F3.ext E2
    have hz2 := E2.size
    refine lx_new (want rfl) (rn_alloc ze_24) ?_
    intro b23 w5 hb23 Eb23 B23 hlb23
    have F5 := F4.ext Eb23
    have hzb23 := Eb23.size
    refine lx_set (want rfl) sz_24 rfl (t_agg rfl) rfl rfl rfl B23 (Nat.le_of_ble_eq_true rfl) ?_
    intro w6 Es1 Bs1
    have F6 := F5.set Es1 (by omega)
    have hzs1 := Es1.size
    refine lx_nil ?_
    refine wk_seq ?_
    refine wk_region ?_
    refine lx_value (want rfl) (rn_loadBlk ag_24 sz_24 rfl Bs1 rfl rfl) ?_
    refine lx_call (want rfl) (ent_func cf_30 (argsC (t_agg rfl) args0)) (xmoves_ct d r L sX cX _ hB w6 (hX.fr (buf_stab _) (Fr.trans (Fr.ext (Fr.refl (fun k => k = b23) w4) Eb23) Es1 (fun k _ h => h)) (fun k hk h => by first | exact h | (have := hk.1; have := hk.2; (try dsimp only at h); first | omega | (rcases h with h | h <;> first | omega | (have := ob_some h; omega))))) ((((((hT.ext Eb21).ext Eb22).ext E1).ext E2).ext Eb23).ne Es1 (by omega))) ?_
    rintro _ w7 E3 ⟨_, rfl, hA⟩
    have F7 := F6.ext E3
    have hz3 := E3.size
    obtain ⟨sA, cA, rfl, hA⟩ := hA
    refine lx_value (want rfl) (mv_tuple rfl) ?_
    refine lx_value (want rfl) (rn_extract rfl rfl) ?_
    refine lx_value (want rfl) (rn_extract rfl rfl) ?_
    refine lx_value (want rfl) (as_slice rfl) ?_
    refine lx_value (want rfl) (as_int rfl) ?_
    refine lx_nil ?_
    refine wk_seq ?_
    refine wk_region ?_
    refine lx_value (want rfl) (rn_loadBlk ag_24 sz_24 rfl (Bs1.ext E3) rfl rfl) ?_
    refine lx_value (want rfl) (rn_loadBlk ag_45 sz_45 rfl (((((B22.ext E1).ext E2).ext Eb23).ne Es1 (by omega)).ext E3) rfl rfl) ?_
    refine lx_call (want rfl) (ent_func cf_31 (argsC (t_agg rfl) (argsC (t_agg rfl) args0))) (xdo_ct d r L sX cX _ hB a a2 w7 (hX.fr (buf_stab _) (Fr.ext (Fr.trans (Fr.ext (Fr.refl (fun k => k = b23) w4) Eb23) Es1 (fun k _ h => h)) E3) (fun k hk h => by first | exact h | (have := hk.1; have := hk.2; (try dsimp only at h); first | omega | (rcases h with h | h <;> first | omega | (have := ob_some h; omega))))) (((((((hT.ext Eb21).ext Eb22).ext E1).ext E2).ext Eb23).ne Es1 (by omega)).ext E3)) ?_
    rintro _ w8 E4 ⟨_, _, rfl, hD, hO⟩
    have F8 := F7.ext E4
    have hz4 := E4.size
    obtain ⟨sD, cD, rfl, hD⟩ := hD
    obtain ⟨sO, cO, rfl, hO⟩ := hO
    refine lx_value (want rfl) (mv_tuple rfl) ?_
    refine lx_value (want rfl) (rn_extract rfl rfl) ?_
    refine lx_value (want rfl) (rn_extract rfl rfl) ?_
    refine lx_value (want rfl) (rn_extract rfl rfl) ?_
    refine lx_new (want rfl) (rn_alloc ze_24) ?_
    intro b24 w9 hb24 Eb24 B24 hlb24
    have F9 := F8.ext Eb24
    have hzb24 := Eb24.size
    refine lx_set (want rfl) sz_24 rfl (t_agg rfl) rfl rfl rfl B24 (Nat.le_of_ble_eq_true rfl) ?_
    intro w10 Es2 Bs2
    have F10 := F9.set Es2 (by omega)
    have hzs2 := Es2.size
    refine lx_value (want rfl) (as_slice rfl) ?_
    refine lx_value (want rfl) (as_int rfl) ?_
    refine lx_nil ?_
    refine wk_seq ?_
    refine wk_region ?_
    refine lx_value (want rfl) (rn_loadBlk ag_24 sz_24 rfl (((((((((B21.ext Eb22).ext E1).ext E2).ext Eb23).ne Es1 (by omega)).ext E3).ext E4).ext Eb24).ne Es2 (by omega)) rfl rfl) ?_
    refine lx_call (want rfl) (ent_func cf_32 (argsC (t_agg rfl) args0)) (moves_ct d r L s c G w10 (hL.fr (buf_stab _) F10 (fun _ _ h => h))) ?_
    rintro _ w11 E5 ⟨_, rfl, hM⟩
    have F11 := F10.ext E5
    have hz5 := E5.size
    obtain ⟨sM, cM, rfl, hM⟩ := hM
    refine lx_value (want rfl) (mv_tuple rfl) ?_
    refine lx_value (want rfl) (rn_extract rfl rfl) ?_
    refine lx_value (want rfl) (rn_extract rfl rfl) ?_
    refine lx_value (want rfl) (as_slice rfl) ?_
    refine lx_value (want rfl) (as_int rfl) ?_
    refine lx_nil ?_
    refine wk_seq ?_
    refine wk_region ?_
    refine lx_value (want rfl) (rn_loadBlk ag_24 sz_24 rfl ((((((((((B21.ext Eb22).ext E1).ext E2).ext Eb23).ne Es1 (by omega)).ext E3).ext E4).ext Eb24).ne Es2 (by omega)).ext E5) rfl rfl) ?_
    refine lx_value (want rfl) (rn_loadBlk ag_45 sz_45 rfl (((((((((B22.ext E1).ext E2).ext Eb23).ne Es1 (by omega)).ext E3).ext E4).ext Eb24).ne Es2 (by omega)).ext E5) rfl rfl) ?_
    refine lx_call (want rfl) (ent_func cf_33 (argsC (t_agg rfl) (argsC (t_agg rfl) args0))) (refdo_ct d r L s c G a a2 w11 (hL.fr (buf_stab _) F11 (fun _ _ h => h))) ?_
    rintro _ w12 E6 ⟨_, _, rfl, hE, hQ⟩
    have F12 := F11.ext E6
    have hz6 := E6.size
    obtain ⟨sE, cE, rfl, hE⟩ := hE
    obtain ⟨sQ, cQ, rfl, hQ⟩ := hQ
    have hml := movesQ_len d r L
    have hBl := hB.1
    refine lx_value (want rfl) (mv_tuple rfl) ?_
    refine lx_value (want rfl) (rn_extract rfl rfl) ?_
    refine lx_value (want rfl) (rn_extract rfl rfl) ?_
    refine lx_value (want rfl) (rn_extract rfl rfl) ?_
    refine lx_new (want rfl) (rn_alloc ze_24) ?_
    intro b25 w13 hb25 Eb25 B25 hlb25
    have F13 := F12.ext Eb25
    have hzb25 := Eb25.size
    refine lx_set (want rfl) sz_24 rfl (t_agg rfl) rfl rfl rfl B25 (Nat.le_of_ble_eq_true rfl) ?_
    intro w14 Es3 Bs3
    have F14 := F13.set Es3 (by omega)
    have hzs3 := Es3.size
    refine lx_value (want rfl) (as_slice rfl) ?_
    refine lx_value (want rfl) (as_int rfl) ?_
    refine lx_nil ?_
    refine wk_seq ?_
    refine wk_seq ?_
    refine wk_region ?_
    refine lx_value (want rfl) (mv_slice rfl) ?_
    refine lx_value (want rfl) (rn_len Tryd.underlying46 rfl) ?_
    refine lx_value (want rfl) (mv_slice rfl) ?_
    refine lx_value (want rfl) (rn_len Tryd.underlying46 rfl) ?_
    refine lx_value (want rfl) (rn_neq rfl rfl) ?_
    refine lx_dec_f ((fun h => h rfl)) ?_
    refine lx_nil ?_
    refine wk_cond_f rfl ?_
    refine wk_skip ?_
    refine wk_seq ?_
    refine wk_seq ?_
    refine wk_region ?_
    refine lx_value (want rfl) (as_int rfl) ?_
    refine lx_nil ?_
    refine wk_block ?_
    refine wk_loopA [4, 16, 52, 53, 54, 55, 56, 57, 58, 59, 60, 61, 62, 63, 64, 65, 66] no (fun nM ρ w => ∃ (i : Nat), nM = (movesQ d r L).length - i ∧ ρ 16 = .int .i64 i ∧ (i ≤ (movesQ d r L).length)) _ ⟨0, rfl, rfl, by omega⟩ ?_
    rintro n1 ρ1 w15 A1 EL1 ⟨i, rfl, hs1_16, hi⟩
    have F15 := F14.ext EL1
    have hzL1 := EL1.size
    refine wk_seq ?_
    refine wk_seq ?_
    refine wk_region ?_
    refine lx_value (want rfl) (mv_int hs1_16) ?_
    refine lx_value (want rfl) (mv_slice (A1.at 6 rfl rfl)) ?_
    refine lx_value (want rfl) (rn_len Tryd.underlying46 rfl) ?_
    refine lx_value (want rfl) (rn_lss rfl rfl) ?_
    refine lx_dec (fun hlt => ?_) (fun hlt => ?_)
    ·
      obtain ⟨x, hx⟩ := getx hlt
      obtain ⟨bx, ox, hsx, hfx, hcx⟩ := hA i x hx
      obtain ⟨by_, oy, hsy, hfy, hcy⟩ := hM i x hx
      subst hsx
      subst hsy
      refine lx_nil ?_
      refine wk_cond_t rfl ?_
      refine wk_skip ?_
      refine wk_seq ?_
      refine wk_block ?_
      refine wk_seq ?_
      refine wk_mix 8 (fun _ => .none) (by kernel_rfl) (by kernel_rfl) (fun kS G hk => by cases hk) (fun kS s y G hk => by cases hk) ?_
      simp only [List.take_succ_cons, List.take_zero, List.take_nil, List.drop_succ_cons, List.drop_zero, List.drop_nil]
      refine mx_calm rfl (want rfl) (fun u1 eu1 fu1 => mv_slice (A1.at 6 rfl rfl)) ?_
      refine mx_calm rfl (want rfl) (fun u2 eu2 fu2 => mv_int hs1_16) ?_
      refine mx_calm rfl (want rfl) (fun u3 eu3 fu3 => rn_index _ Tryd.underlying46 sz_45 rfl rfl rfl (by omega)) ?_
      refine mx_calm rfl (want rfl) (fun u4 eu4 fu4 => rn_load2 ag_45 sz_45 rfl ((Fr.ext (Fr.ext (Fr.trans (Fr.ext (Fr.ext (Fr.ext (Fr.trans (Fr.ext (Fr.ext (Fr.refl (fun k => k = b24 ∨ k = b25) w7) E4) Eb24) Es2 (fun k _ h => (.inl h))) E5) E6) Eb25) Es3 (fun k _ h => (.inr h))) EL1) ((ext_drawn _).trans' eu4)).cell (fun h => by first | exact h | (have := hfx.1; have := hfx.2; dsimp only at h; omega)) (hcx 0 _ rfl)) ((Fr.ext (Fr.ext (Fr.trans (Fr.ext (Fr.ext (Fr.ext (Fr.trans (Fr.ext (Fr.ext (Fr.refl (fun k => k = b24 ∨ k = b25) w7) E4) Eb24) Es2 (fun k _ h => (.inl h))) E5) E6) Eb25) Es3 (fun k _ h => (.inr h))) EL1) ((ext_drawn _).trans' eu4)).cell (fun h => by first | exact h | (have := hfx.1; have := hfx.2; dsimp only at h; omega)) (hcx 1 _ rfl))) ?_
      refine mx_calm rfl (want rfl) (fun u5 eu5 fu5 => mv_slice (A1.at 11 rfl rfl)) ?_
      refine mx_calm rfl (want rfl) (fun u6 eu6 fu6 => mv_int hs1_16) ?_
      refine mx_calm rfl (want rfl) (fun u7 eu7 fu7 => rn_index _ Tryd.underlying46 sz_45 rfl rfl rfl (by omega)) ?_
      refine mx_calm rfl (want rfl) (fun u8 eu8 fu8 => rn_load2 ag_45 sz_45 rfl ((Fr.ext (Fr.ext (Fr.trans (Fr.ext (Fr.ext (Fr.refl (fun k => k = b25) w11) E6) Eb25) Es3 (fun k _ h => h)) EL1) ((ext_drawn _).trans' eu8)).cell (fun h => by first | exact h | (have := hfy.1; have := hfy.2; dsimp only at h; omega)) (hcy 0 _ rfl)) ((Fr.ext (Fr.ext (Fr.trans (Fr.ext (Fr.ext (Fr.refl (fun k => k = b25) w11) E6) Eb25) Es3 (fun k _ h => h)) EL1) ((ext_drawn _).trans' eu8)).cell (fun h => by first | exact h | (have := hfy.1; have := hfy.2; dsimp only at h; omega)) (hcy 1 _ rfl))) ?_
      refine mx_nil (fun w16 E7' H1 HS => ?_)
      have E7 := (ext_drawn _).trans' E7'
      have F16 := F15.ext E7
      have hz7 := E7.size
      refine lx_value (want rfl) (rn_cmpS (t_agg rfl) (t_agg rfl) (gneq_45 _ _ _ _) (neq_45 _ _ _ _)) ?_
      refine lx_dec_f ((fun h => h ⟨rfl, rfl⟩)) ?_
      refine lx_nil ?_
      refine wk_cond_f rfl ?_
      refine wk_skip ?_
      refine wk_region ?_
      refine lx_value (want rfl) (mv_int hs1_16) ?_
      refine lx_value (want rfl) (rn_add rfl rfl (by omega)) ?_
      refine lx_value (want rfl) (as_int rfl) ?_
      refine lx_nil ?_
      exact ⟨rfl, ((((((((((((((((A1.up rfl _).up rfl _).up rfl _).up rfl _).up rfl _).up rfl _).up rfl _).up rfl _).up rfl _).up rfl _).up rfl _).up rfl _).up rfl _).up rfl _).up rfl _).up rfl _), (Fr.ext EL1 E7), _, (by omega), i + 1, rfl, rfl, by omega⟩
    ·
      refine lx_nil ?_
      refine wk_cond_f rfl ?_
      refine wk_exit ?_
      refine wk_seq ?_
      refine wk_region ?_
      refine lx_value (want rfl) (mv_int (A1.at 7 rfl rfl)) ?_
      refine lx_value (want rfl) (mv_int (A1.at 12 rfl rfl)) ?_
      refine lx_value (want rfl) (rn_eql rfl rfl) ?_
      refine lx_dec_t (rfl) ?_
      refine lx_value (want rfl) (mv_bool rfl) ?_
      refine lx_value (want_if (j := 3) (d := 70) (x := true) (y := true) rfl rfl (by decide) rfl) (rn_loadBlk ag_24 sz_24 (A1.at 8 rfl rfl) (((((Bs2.ext E5).ext E6).ext Eb25).ne Es3 (by omega)).ext EL1) rfl rfl) ?_
      refine lx_value (want_if (j := 3) (d := 70) (x := true) (y := true) rfl rfl (by decide) rfl) (rn_loadBlk ag_24 sz_24 (A1.at 13 rfl rfl) (Bs3.ext EL1) rfl rfl) ?_
      refine lx_call (want_if (j := 3) (d := 70) (x := true) (y := true) rfl rfl (by decide) rfl) (ent_func cf_19 (argsC (t_agg rfl) (argsC (t_agg rfl) args0))) (same_ct _ _ _ sD cD _ _ _ _ sE cE _ w15 (hD.fr (buf_stab _) (Fr.ext (Fr.trans (Fr.ext (Fr.ext (Fr.ext (Fr.trans (Fr.ext (Fr.refl (fun k => k = b24 ∨ k = b25) w8) Eb24) Es2 (fun k _ h => (.inl h))) E5) E6) Eb25) Es3 (fun k _ h => (.inr h))) EL1) (fun k hk h => by first | exact h | (have := hk.1; have := hk.2; (try dsimp only at h); first | omega | (rcases h with h | h <;> first | omega | (have := ob_some h; omega))))) (hE.fr (buf_stab _) (Fr.ext (Fr.trans (Fr.ext (Fr.refl (fun k => k = b25) w12) Eb25) Es3 (fun k _ h => h)) EL1) (fun k hk h => by first | exact h | (have := hk.1; have := hk.2; (try dsimp only at h); first | omega | (rcases h with h | h <;> first | omega | (have := ob_some h; omega))))) (bd_doC d r a a2 L)) ?_
      rintro _ w16 E8 rfl
      have F17 := F15.ext E8
      have hz8 := E8.size
      refine lx_b_t (same_true) ?_
      refine lx_value (want rfl) (pick_t rfl rfl) ?_
      refine lx_value (want rfl) (mv_bool rfl) ?_
      refine lx_value (want_if (j := 8) (d := 75) (x := true) (y := true) rfl rfl (by decide) rfl) (mv_slice (A1.at 9 rfl rfl)) ?_
      refine lx_value (want_if (j := 8) (d := 75) (x := true) (y := true) rfl rfl (by decide) rfl) (mv_slice (A1.at 14 rfl rfl)) ?_
      refine lx_call (want_if (j := 8) (d := 75) (x := true) (y := true) rfl rfl (by decide) rfl) (ent_func cf_34 (argsC (t_slice rfl) (argsC (t_slice rfl) args0))) (packets_ct _ _ sO sQ cO cQ _ _ w16 (hO.fr (pk_stab _) (Fr.ext (Fr.ext (Fr.trans (Fr.ext (Fr.ext (Fr.ext (Fr.trans (Fr.ext (Fr.refl (fun k => k = b24 ∨ k = b25) w8) Eb24) Es2 (fun k _ h => (.inl h))) E5) E6) Eb25) Es3 (fun k _ h => (.inr h))) EL1) E8) (fun k hk h => by first | exact h | (have := hk.1; have := hk.2; (try dsimp only at h); omega))) (hQ.fr (pk_stab _) (Fr.ext (Fr.ext (Fr.trans (Fr.ext (Fr.refl (fun k => k = b25) w12) Eb25) Es3 (fun k _ h => h)) EL1) E8) (fun k hk h => by first | exact h | (have := hk.1; have := hk.2; (try dsimp only at h); omega))) (doO_len d r a a2 L)) ?_
      rintro _ w17 E9 rfl
      have F18 := F17.ext E9
      have hz9 := E9.size
      refine lx_b_t (eq_true') ?_
      refine lx_value (want rfl) (pick_t rfl rfl) ?_
      refine lx_value (want rfl) (mv_bool rfl) ?_
      refine lx_value (want_if (j := 13) (d := 80) (x := true) (y := true) rfl rfl (by decide) rfl) (mv_int (A1.at 10 rfl rfl)) ?_
      refine lx_value (want_if (j := 13) (d := 80) (x := true) (y := true) rfl rfl (by decide) rfl) (mv_int (A1.at 15 rfl rfl)) ?_
      refine lx_value (want_if (j := 13) (d := 80) (x := true) (y := true) rfl rfl (by decide) rfl) (rn_eql rfl rfl) ?_
      refine lx_dec_t (rfl) ?_
      refine lx_value (want rfl) (pick_t rfl rfl) ?_
      refine lx_value (want rfl) (mv_bool rfl) ?_
      refine lx_value (want_if (j := 18) (d := 85) (x := true) (y := true) rfl rfl (by decide) rfl) (rn_loadBlk ag_24 sz_24 (A1.at 5 rfl rfl) (((((((((((Bs1.ext E3).ext E4).ext Eb24).ne Es2 (by omega)).ext E5).ext E6).ext Eb25).ne Es3 (by omega)).ext EL1).ext E8).ext E9) rfl rfl) ?_
      refine lx_value (want_if (j := 18) (d := 85) (x := true) (y := true) rfl rfl (by decide) rfl) (rn_loadBlk ag_24 sz_24 (A1.at 2 rfl rfl) ((((((((((((((((B21.ext Eb22).ext E1).ext E2).ext Eb23).ne Es1 (by omega)).ext E3).ext E4).ext Eb24).ne Es2 (by omega)).ext E5).ext E6).ext Eb25).ne Es3 (by omega)).ext EL1).ext E8).ext E9) rfl rfl) ?_
      refine lx_call (want_if (j := 18) (d := 85) (x := true) (y := true) rfl rfl (by decide) rfl) (ent_func cf_19 (argsC (t_agg rfl) (argsC (t_agg rfl) args0))) (same_ct _ _ L sX cX _ _ _ L s c G w17 (hX.fr (buf_stab _) (Fr.ext (Fr.ext (Fr.ext (Fr.trans (Fr.ext (Fr.ext (Fr.ext (Fr.trans (Fr.ext (Fr.ext (Fr.ext (Fr.trans (Fr.ext (Fr.refl (fun k => k = b23 ∨ k = b24 ∨ k = b25) w4) Eb23) Es1 (fun k _ h => (.inl h))) E3) E4) Eb24) Es2 (fun k _ h => (.inr (.inl h)))) E5) E6) Eb25) Es3 (fun k _ h => (.inr (.inr h)))) EL1) E8) E9) (fun k hk h => by first | exact h | (have := hk.1; have := hk.2; (try dsimp only at h); first | omega | (rcases h with h | h <;> first | omega | (have := ob_some h; omega))))) (hL.fr (buf_stab _) F18 (fun _ _ h => h)) hB) ?_
      rintro _ w18 E10 rfl
      have F19 := F18.ext E10
      have hz10 := E10.size
      refine lx_b_t (same_true) ?_
      refine lx_value (want rfl) (pick_t rfl rfl) ?_
      refine lx_value (want rfl) (mv_bool rfl) ?_
      refine lx_call (want_if (j := 23) (d := 90) (x := true) (y := true) rfl rfl (by decide) rfl) (ent_func cf_21 args0) (awake_ct w18 ((((((((((((((((((hT.ext Eb21).ext Eb22).ext E1).ext E2).ext Eb23).ne Es1 (by omega)).ext E3).ext E4).ext Eb24).ne Es2 (by omega)).ext E5).ext E6).ext Eb25).ne Es3 (by omega)).ext EL1).ext E8).ext E9).ext E10)) ?_
      rintro _ w19 E11 rfl
      have F20 := F19.ext E11
      have hz11 := E11.size
      refine lx_value (want rfl) (pick_t rfl rfl) ?_
      refine lx_value (want rfl) (as_bool rfl) ?_
      refine lx_nil ?_
      refine wk_ret ?_
      refine retR1 Tryd.results6 (.tmp (t_bool rfl)) F20 ?_
      exact rfl
  ·
    refine lx_value (want rfl) (rn_not rfl) ?_
    refine lx_nil ?_
    refine wk_cond_t rfl ?_
    refine wk_seq ?_
    refine wk_region ?_
    refine lx_call (want rfl) (ent_func cf_21 args0) (awake_ct w3 (((hT.ext Eb21).ext Eb22).ext E1)) ?_
    rintro _ w4 E12 rfl
    have F21 := F3.ext E12
    have hz12 := E12.size
    refine lx_value (want rfl) (as_bool rfl) ?_
    refine lx_nil ?_
    refine wk_ret ?_
    refine retR1 Tryd.results6 (.tmp (t_bool rfl)) F21 ?_
    exact rfl

end Go.Proofs.YtlfclnkoimfhmaaDoor

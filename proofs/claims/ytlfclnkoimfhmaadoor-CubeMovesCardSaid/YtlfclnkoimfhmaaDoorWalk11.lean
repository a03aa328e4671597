/- What functions of the cube compute: refdo, refput. -/
import Derived.Test.YtlfclnkoimfhmaaDoorFacts
import Derived.Test.YtlfclnkoimfhmaaDoorPre
import Derived.Test.YtlfclnkoimfhmaaDoorWalk1
import Derived.Test.YtlfclnkoimfhmaaDoorWalk2
import Derived.Test.YtlfclnkoimfhmaaDoorWalk5
import Derived.Test.YtlfclnkoimfhmaaDoorWalk6
import Derived.Test.YtlfclnkoimfhmaaDoorWalk8
set_option linter.unusedVariables false
set_option linter.unusedSimpArgs false
namespace Go.Proofs.YtlfclnkoimfhmaaDoor
open Go Go.RowKit Go.Mix Go.Eng
set_option maxRecDepth 100000 in
theorem refdo_ct (d r : Int) (L : List (List Pk)) (s : Option Addr) (c : Nat) (G : Nat → Prop) (a b : Int) (w0 : World) (hL : BufS G w0 s L) :
    CT Tryd.prog 33 [.agg #[.int .i64 d, .int .i64 r, .slice s L.length c], .agg #[.int .i64 a, .int .i64 b]] w0 no (fun v w => DoQ w0.heap.size d r L a b v w) := by
  have F0 := Fr.refl no w0
  refine ct_body Tryd.func33 rfl Tryd.ntmps33 (Nat.le_of_ble_eq_true rfl) ?_
  refine wk_seq ?_
  refine wk_region ?_
  refine lx_new (want rfl) (rn_box (t_agg rfl)) ?_
  intro b1 w1 hb1 Eb1 B1 hlb1
  have F1 := F0.ext Eb1
  have hzb1 := Eb1.size
  refine lx_new (want rfl) (rn_box (t_agg rfl)) ?_
  intro b2 w2 hb2 Eb2 B2 hlb2
  have F2 := F1.ext Eb2
  have hzb2 := Eb2.size
  refine lx_new (want rfl) (rn_alloc ze_24) ?_
  intro b3 w3 hb3 Eb3 B3 hlb3
  have F3 := F2.ext Eb3
  have hzb3 := Eb3.size
  refine lx_value (want rfl) (as_slice rfl) ?_
  refine lx_value (want rfl) (as_int rfl) ?_
  refine lx_nil ?_
  refine wk_seq ?_
  refine wk_seq ?_
  refine wk_region ?_
  refine lx_value (want rfl) (rn_loadBlk ag_24 sz_24 rfl ((B1.ext Eb2).ext Eb3) rfl rfl) ?_
  refine lx_call (want rfl) (ent_func cf_27 (argsC (t_agg rfl) args0)) (check_ct _ _ _ _ _ _ w3 (hL.fr (buf_stab _) F3 (fun _ _ h => h))) ?_
  rintro _ w4 E1 rfl
  have F4 := F3.ext E1
  have hz1 := E1.size
  refine lx_value (want rfl) (as_int rfl) ?_
  refine lx_nil ?_
  refine wk_seq ?_
  refine wk_region ?_
  refine lx_value (want rfl) (mv_int rfl) ?_
  refine lx_value (want rfl) (rn_neq rfl rfl) ?_
  refine lx_dec (fun h1 => ?_) (fun h1 => ?_)
  ·
    refine lx_nil ?_
    refine wk_cond_t rfl ?_
    refine wk_seq ?_
    refine wk_region ?_
    refine lx_value (want rfl) (rn_build0  (fun w => bd_24  w)) ?_
    refine lx_value (want rfl) (mv_int rfl) ?_
    refine lx_set (want rfl) sz_24 rfl (t_agg rfl) rfl rfl rfl (B3.ext E1) (Nat.le_of_ble_eq_true rfl) ?_
    intro w5 Es1 Bs1
    have F5 := F4.set Es1 (by omega)
    have hzs1 := Es1.size
    refine lx_value (want rfl) (as_slice rfl) ?_
    refine lx_value (want rfl) (as_int rfl) ?_
    refine lx_nil ?_
    refine wk_ret ?_
    refine retR3 Tryd.results33 (.cell rfl (run_loadVar_blk ag_24 sz_24 Bs1 rfl rfl)) (.tmp (t_slice rfl)) (.tmp (t_int rfl)) F5 ?_
    exact do_err (doE_chk h1) h1
  ·
    obtain ⟨dim, rfl, hV⟩ := chk_zero (Decidable.not_not.1 h1)
    have hd := hV.hd
    have hnL := hV.len
    have h32 := prod_le hd
    refine lx_nil ?_
    refine wk_cond_f rfl ?_
    refine wk_skip ?_
    refine wk_seq ?_
    refine wk_seq ?_
    refine wk_mix 33 (fun kS => match kS with | 8 => .val (.int .i64 ((2 ^ dim : Nat) : Int)) | 32 => .val (.int .i64 ((a.toNat * (dim + 1) + b.toNat : Nat) : Int)) | _ => .none) (by kernel_rfl) (by kernel_rfl) (by intro kS G hk; (try dsimp only at hk); (split at hk) <;> first | (cases hk; done) | (injection hk with hk; subst hk; exact ⟨by intro j hkj I v w w' hR hG; first | exact hG, fun ⟨_, _, _, _, hs⟩ => by (try dsimp only at hs); split at hs <;> cases hs⟩)) (by intro kS s y G hk; (try dsimp only at hk); split at hk <;> cases hk) ?_
    simp only [List.take_succ_cons, List.take_zero, List.take_nil, List.drop_succ_cons, List.drop_zero, List.drop_nil]
    refine mx_calm rfl (want rfl) (fun u1 eu1 fu1 => rn_fieldAddr fa_45_0 rfl) ?_
    refine mx_calm rfl (want rfl) (fun u2 eu2 fu2 => rn_load1Blk ag_3 rfl (((B2.ext Eb3).ext E1).ext ((ext_drawn _).trans' eu2)) rfl) ?_
    refine mx_calm rfl (want rfl) (fun u3 eu3 fu3 => rn_lss rfl rfl) ?_
    refine mx_dec (fun h2 => ?_) (fun h2 => ?_)
    ·
      refine mx_calm rfl (want rfl) (fun u4 eu4 fu4 => mv_bool rfl) ?_
      refine mx_skip (want_if (j := 3) (d := 20) (x := false) (y := true) rfl rfl (by decide) rfl) ?_
      refine mx_skip (want_if (j := 3) (d := 20) (x := false) (y := true) rfl rfl (by decide) rfl) ?_
      refine mx_skip (want_if (j := 3) (d := 20) (x := false) (y := true) rfl rfl (by decide) rfl) ?_
      refine mx_skip (want_if (j := 3) (d := 20) (x := false) (y := true) rfl rfl (by decide) rfl) ?_
      refine mx_skip (want_if (j := 3) (d := 20) (x := false) (y := true) rfl rfl (by decide) rfl) ?_
      refine mx_skip (want_if (j := 3) (d := 20) (x := false) (y := true) rfl rfl (by decide) rfl) ?_
      refine mx_calm rfl (want rfl) (fun u5 eu5 fu5 => pick_t rfl rfl) ?_
      refine mx_calm rfl (want rfl) (fun u6 eu6 fu6 => mv_bool rfl) ?_
      refine mx_skip (want_if (j := 11) (d := 28) (x := false) (y := true) rfl rfl (by decide) rfl) ?_
      refine mx_skip (want_if (j := 11) (d := 28) (x := false) (y := true) rfl rfl (by decide) rfl) ?_
      refine mx_skip (want_if (j := 11) (d := 28) (x := false) (y := true) rfl rfl (by decide) rfl) ?_
      refine mx_calm rfl (want rfl) (fun u7 eu7 fu7 => pick_t rfl rfl) ?_
      refine mx_calm rfl (want rfl) (fun u8 eu8 fu8 => mv_bool rfl) ?_
      refine mx_skip (want_if (j := 16) (d := 33) (x := false) (y := true) rfl rfl (by decide) rfl) ?_
      refine mx_skip (want_if (j := 16) (d := 33) (x := false) (y := true) rfl rfl (by decide) rfl) ?_
      refine mx_skip (want_if (j := 16) (d := 33) (x := false) (y := true) rfl rfl (by decide) rfl) ?_
      refine mx_skip (want_if (j := 16) (d := 33) (x := false) (y := true) rfl rfl (by decide) rfl) ?_
      refine mx_skip (want_if (j := 16) (d := 33) (x := false) (y := true) rfl rfl (by decide) rfl) ?_
      refine mx_calm rfl (want rfl) (fun u9 eu9 fu9 => pick_t rfl rfl) ?_
      refine mx_calm rfl (want rfl) (fun u10 eu10 fu10 => mv_bool rfl) ?_
      refine mx_skip (want_if (j := 23) (d := 40) (x := false) (y := true) rfl rfl (by decide) rfl) ?_
      refine mx_skip (want_if (j := 23) (d := 40) (x := false) (y := true) rfl rfl (by decide) rfl) ?_
      refine mx_skip (want_if (j := 23) (d := 40) (x := false) (y := true) rfl rfl (by decide) rfl) ?_
      refine mx_skip (want_if (j := 23) (d := 40) (x := false) (y := true) rfl rfl (by decide) rfl) ?_
      refine mx_skip (want_if (j := 23) (d := 40) (x := false) (y := true) rfl rfl (by decide) rfl) ?_
      refine mx_skip (want_if (j := 23) (d := 40) (x := false) (y := true) rfl rfl (by decide) rfl) ?_
      refine mx_skip (want_if (j := 23) (d := 40) (x := false) (y := true) rfl rfl (by decide) rfl) ?_
      refine mx_skip (want_if (j := 23) (d := 40) (x := false) (y := true) rfl rfl (by decide) rfl) ?_
      refine mx_skip (want_if (j := 23) (d := 40) (x := false) (y := true) rfl rfl (by decide) rfl) ?_
      refine mx_nil (fun w5 E2' H1 HS => ?_)
      have E2 := (ext_drawn _).trans' E2'
      have F6 := F4.ext E2
      have hz2 := E2.size
      refine lx_skip (want_if (j := 23) (d := 40) (x := false) (y := true) rfl rfl (by decide) rfl) ?_
      refine lx_skip (want_if (j := 23) (d := 40) (x := false) (y := true) rfl rfl (by decide) rfl) ?_
      refine lx_skip (want_if (j := 23) (d := 40) (x := false) (y := true) rfl rfl (by decide) rfl) ?_
      refine lx_skip (want_if (j := 23) (d := 40) (x := false) (y := true) rfl rfl (by decide) rfl) ?_
      refine lx_value (want rfl) (pick_t rfl rfl) ?_
      refine lx_nil ?_
      refine wk_cond_t rfl ?_
      refine wk_seq ?_
      refine wk_region ?_
      refine lx_value (want rfl) (rn_build0  (fun w => bd_24  w)) ?_
      refine lx_set (want rfl) sz_24 rfl (t_agg rfl) rfl rfl rfl ((B3.ext E1).ext E2) (Nat.le_of_ble_eq_true rfl) ?_
      intro w6 Es2 Bs2
      have F7 := F6.set Es2 (by omega)
      have hzs2 := Es2.size
      refine lx_value (want rfl) (as_slice rfl) ?_
      refine lx_value (want rfl) (as_int rfl) ?_
      refine lx_nil ?_
      refine wk_ret ?_
      refine retR3 Tryd.results33 (.cell rfl (run_loadVar_blk ag_24 sz_24 Bs2 rfl rfl)) (.tmp (t_slice rfl)) (.tmp (t_int rfl)) F7 ?_
      exact do_err (doE_out hV (by omega)) (by decide)
    ·
      refine mx_calm rfl (want rfl) (fun u11 eu11 fu11 => mv_bool rfl) ?_
      refine mx_calm rfl (want_if (j := 3) (d := 20) (x := false) (y := false) rfl rfl (by decide) rfl) (fun u12 eu12 fu12 => rn_fieldAddr fa_45_0 rfl) ?_
      refine mx_calm rfl (want_if (j := 3) (d := 20) (x := false) (y := false) rfl rfl (by decide) rfl) (fun u13 eu13 fu13 => rn_load1Blk ag_3 rfl (((B2.ext Eb3).ext E1).ext ((ext_drawn _).trans' eu13)) rfl) ?_
      refine mx_calm rfl (want_if (j := 3) (d := 20) (x := false) (y := false) rfl rfl (by decide) rfl) (fun u14 eu14 fu14 => rn_fieldAddr fa_24_0 rfl) ?_
      refine mx_calm rfl (want_if (j := 3) (d := 20) (x := false) (y := false) rfl rfl (by decide) rfl) (fun u15 eu15 fu15 => rn_load1Blk ag_3 rfl ((((B1.ext Eb2).ext Eb3).ext E1).ext ((ext_drawn _).trans' eu15)) rfl) ?_
      refine mx_val rfl (want_if (j := 3) (d := 20) (x := false) (y := false) rfl rfl (by decide) rfl) (fun u16 eu16 fu16 => do_call (ent_func cf_37 (argsC (t_int rfl) args0)) (switches_ct dim hd u16) (fun _ _ E h => ⟨E, h⟩)) ?_
      refine mx_calm rfl (want_if (j := 3) (d := 20) (x := false) (y := false) rfl rfl (by decide) rfl) (fun u17 eu17 fu17 => rn_geq rfl rfl) ?_
      refine mx_dec (fun h3 => ?_) (fun h3 => ?_)
      ·
        refine mx_calm rfl (want rfl) (fun u18 eu18 fu18 => pick_f rfl rfl) ?_
        refine mx_calm rfl (want rfl) (fun u19 eu19 fu19 => mv_bool rfl) ?_
        refine mx_skip (want_if (j := 11) (d := 28) (x := false) (y := true) rfl rfl (by decide) rfl) ?_
        refine mx_skip (want_if (j := 11) (d := 28) (x := false) (y := true) rfl rfl (by decide) rfl) ?_
        refine mx_skip (want_if (j := 11) (d := 28) (x := false) (y := true) rfl rfl (by decide) rfl) ?_
        refine mx_calm rfl (want rfl) (fun u20 eu20 fu20 => pick_t rfl rfl) ?_
        refine mx_calm rfl (want rfl) (fun u21 eu21 fu21 => mv_bool rfl) ?_
        refine mx_skip (want_if (j := 16) (d := 33) (x := false) (y := true) rfl rfl (by decide) rfl) ?_
        refine mx_skip (want_if (j := 16) (d := 33) (x := false) (y := true) rfl rfl (by decide) rfl) ?_
        refine mx_skip (want_if (j := 16) (d := 33) (x := false) (y := true) rfl rfl (by decide) rfl) ?_
        refine mx_skip (want_if (j := 16) (d := 33) (x := false) (y := true) rfl rfl (by decide) rfl) ?_
        refine mx_skip (want_if (j := 16) (d := 33) (x := false) (y := true) rfl rfl (by decide) rfl) ?_
        refine mx_calm rfl (want rfl) (fun u22 eu22 fu22 => pick_t rfl rfl) ?_
        refine mx_calm rfl (want rfl) (fun u23 eu23 fu23 => mv_bool rfl) ?_
        refine mx_skip (want_if (j := 23) (d := 40) (x := false) (y := true) rfl rfl (by decide) rfl) ?_
        refine mx_skip (want_if (j := 23) (d := 40) (x := false) (y := true) rfl rfl (by decide) rfl) ?_
        refine mx_skip (want_if (j := 23) (d := 40) (x := false) (y := true) rfl rfl (by decide) rfl) ?_
        refine mx_skip (want_if (j := 23) (d := 40) (x := false) (y := true) rfl rfl (by decide) rfl) ?_
        refine mx_skip (want_if (j := 23) (d := 40) (x := false) (y := true) rfl rfl (by decide) rfl) ?_
        refine mx_skip (want_if (j := 23) (d := 40) (x := false) (y := true) rfl rfl (by decide) rfl) ?_
        refine mx_skip (want_if (j := 23) (d := 40) (x := false) (y := true) rfl rfl (by decide) rfl) ?_
        refine mx_skip (want_if (j := 23) (d := 40) (x := false) (y := true) rfl rfl (by decide) rfl) ?_
        refine mx_skip (want_if (j := 23) (d := 40) (x := false) (y := true) rfl rfl (by decide) rfl) ?_
        refine mx_nil (fun w5 E3' H2 HS => ?_)
        have E3 := (ext_drawn _).trans' E3'
        have F8 := F4.ext E3
        have hz3 := E3.size
        refine lx_skip (want_if (j := 23) (d := 40) (x := false) (y := true) rfl rfl (by decide) rfl) ?_
        refine lx_skip (want_if (j := 23) (d := 40) (x := false) (y := true) rfl rfl (by decide) rfl) ?_
        refine lx_skip (want_if (j := 23) (d := 40) (x := false) (y := true) rfl rfl (by decide) rfl) ?_
        refine lx_skip (want_if (j := 23) (d := 40) (x := false) (y := true) rfl rfl (by decide) rfl) ?_
        refine lx_value (want rfl) (pick_t rfl rfl) ?_
        refine lx_nil ?_
        refine wk_cond_t rfl ?_
        refine wk_seq ?_
        refine wk_region ?_
        refine lx_value (want rfl) (rn_build0  (fun w => bd_24  w)) ?_
        refine lx_set (want rfl) sz_24 rfl (t_agg rfl) rfl rfl rfl ((B3.ext E1).ext E3) (Nat.le_of_ble_eq_true rfl) ?_
        intro w6 Es3 Bs3
        have F9 := F8.set Es3 (by omega)
        have hzs3 := Es3.size
        refine lx_value (want rfl) (as_slice rfl) ?_
        refine lx_value (want rfl) (as_int rfl) ?_
        refine lx_nil ?_
        refine wk_ret ?_
        refine retR3 Tryd.results33 (.cell rfl (run_loadVar_blk ag_24 sz_24 Bs3 rfl rfl)) (.tmp (t_slice rfl)) (.tmp (t_int rfl)) F9 ?_
        exact do_err (doE_out hV (by omega)) (by decide)
      ·
        refine mx_calm rfl (want rfl) (fun u24 eu24 fu24 => pick_f rfl rfl) ?_
        refine mx_calm rfl (want rfl) (fun u25 eu25 fu25 => mv_bool rfl) ?_
        refine mx_calm rfl (want_if (j := 11) (d := 28) (x := false) (y := false) rfl rfl (by decide) rfl) (fun u26 eu26 fu26 => rn_fieldAddr fa_45_1 rfl) ?_
        refine mx_calm rfl (want_if (j := 11) (d := 28) (x := false) (y := false) rfl rfl (by decide) rfl) (fun u27 eu27 fu27 => rn_load1Blk ag_3 rfl (((B2.ext Eb3).ext E1).ext ((ext_drawn _).trans' eu27)) rfl) ?_
        refine mx_calm rfl (want_if (j := 11) (d := 28) (x := false) (y := false) rfl rfl (by decide) rfl) (fun u28 eu28 fu28 => rn_lss rfl rfl) ?_
        refine mx_dec (fun h4 => ?_) (fun h4 => ?_)
        ·
          refine mx_calm rfl (want rfl) (fun u29 eu29 fu29 => pick_f rfl rfl) ?_
          refine mx_calm rfl (want rfl) (fun u30 eu30 fu30 => mv_bool rfl) ?_
          refine mx_skip (want_if (j := 16) (d := 33) (x := false) (y := true) rfl rfl (by decide) rfl) ?_
          refine mx_skip (want_if (j := 16) (d := 33) (x := false) (y := true) rfl rfl (by decide) rfl) ?_
          refine mx_skip (want_if (j := 16) (d := 33) (x := false) (y := true) rfl rfl (by decide) rfl) ?_
          refine mx_skip (want_if (j := 16) (d := 33) (x := false) (y := true) rfl rfl (by decide) rfl) ?_
          refine mx_skip (want_if (j := 16) (d := 33) (x := false) (y := true) rfl rfl (by decide) rfl) ?_
          refine mx_calm rfl (want rfl) (fun u31 eu31 fu31 => pick_t rfl rfl) ?_
          refine mx_calm rfl (want rfl) (fun u32 eu32 fu32 => mv_bool rfl) ?_
          refine mx_skip (want_if (j := 23) (d := 40) (x := false) (y := true) rfl rfl (by decide) rfl) ?_
          refine mx_skip (want_if (j := 23) (d := 40) (x := false) (y := true) rfl rfl (by decide) rfl) ?_
          refine mx_skip (want_if (j := 23) (d := 40) (x := false) (y := true) rfl rfl (by decide) rfl) ?_
          refine mx_skip (want_if (j := 23) (d := 40) (x := false) (y := true) rfl rfl (by decide) rfl) ?_
          refine mx_skip (want_if (j := 23) (d := 40) (x := false) (y := true) rfl rfl (by decide) rfl) ?_
          refine mx_skip (want_if (j := 23) (d := 40) (x := false) (y := true) rfl rfl (by decide) rfl) ?_
          refine mx_skip (want_if (j := 23) (d := 40) (x := false) (y := true) rfl rfl (by decide) rfl) ?_
          refine mx_skip (want_if (j := 23) (d := 40) (x := false) (y := true) rfl rfl (by decide) rfl) ?_
          refine mx_skip (want_if (j := 23) (d := 40) (x := false) (y := true) rfl rfl (by decide) rfl) ?_
          refine mx_nil (fun w5 E4' H3 HS => ?_)
          have E4 := (ext_drawn _).trans' E4'
          have F10 := F4.ext E4
          have hz4 := E4.size
          refine lx_skip (want_if (j := 23) (d := 40) (x := false) (y := true) rfl rfl (by decide) rfl) ?_
          refine lx_skip (want_if (j := 23) (d := 40) (x := false) (y := true) rfl rfl (by decide) rfl) ?_
          refine lx_skip (want_if (j := 23) (d := 40) (x := false) (y := true) rfl rfl (by decide) rfl) ?_
          refine lx_skip (want_if (j := 23) (d := 40) (x := false) (y := true) rfl rfl (by decide) rfl) ?_
          refine lx_value (want rfl) (pick_t rfl rfl) ?_
          refine lx_nil ?_
          refine wk_cond_t rfl ?_
          refine wk_seq ?_
          refine wk_region ?_
          refine lx_value (want rfl) (rn_build0  (fun w => bd_24  w)) ?_
          refine lx_set (want rfl) sz_24 rfl (t_agg rfl) rfl rfl rfl ((B3.ext E1).ext E4) (Nat.le_of_ble_eq_true rfl) ?_
          intro w6 Es4 Bs4
          have F11 := F10.set Es4 (by omega)
          have hzs4 := Es4.size
          refine lx_value (want rfl) (as_slice rfl) ?_
          refine lx_value (want rfl) (as_int rfl) ?_
          refine lx_nil ?_
          refine wk_ret ?_
          refine retR3 Tryd.results33 (.cell rfl (run_loadVar_blk ag_24 sz_24 Bs4 rfl rfl)) (.tmp (t_slice rfl)) (.tmp (t_int rfl)) F11 ?_
          exact do_err (doE_out hV (by omega)) (by decide)
        ·
          refine mx_calm rfl (want rfl) (fun u33 eu33 fu33 => pick_f rfl rfl) ?_
          refine mx_calm rfl (want rfl) (fun u34 eu34 fu34 => mv_bool rfl) ?_
          refine mx_calm rfl (want_if (j := 16) (d := 33) (x := false) (y := false) rfl rfl (by decide) rfl) (fun u35 eu35 fu35 => rn_fieldAddr fa_45_1 rfl) ?_
          refine mx_calm rfl (want_if (j := 16) (d := 33) (x := false) (y := false) rfl rfl (by decide) rfl) (fun u36 eu36 fu36 => rn_load1Blk ag_3 rfl (((B2.ext Eb3).ext E1).ext ((ext_drawn _).trans' eu36)) rfl) ?_
          refine mx_calm rfl (want_if (j := 16) (d := 33) (x := false) (y := false) rfl rfl (by decide) rfl) (fun u37 eu37 fu37 => rn_fieldAddr fa_24_0 rfl) ?_
          refine mx_calm rfl (want_if (j := 16) (d := 33) (x := false) (y := false) rfl rfl (by decide) rfl) (fun u38 eu38 fu38 => rn_load1Blk ag_3 rfl ((((B1.ext Eb2).ext Eb3).ext E1).ext ((ext_drawn _).trans' eu38)) rfl) ?_
          refine mx_calm rfl (want_if (j := 16) (d := 33) (x := false) (y := false) rfl rfl (by decide) rfl) (fun u39 eu39 fu39 => rn_gtr rfl rfl) ?_
          refine mx_dec (fun h5 => ?_) (fun h5 => ?_)
          ·
            refine mx_calm rfl (want rfl) (fun u40 eu40 fu40 => pick_f rfl rfl) ?_
            refine mx_calm rfl (want rfl) (fun u41 eu41 fu41 => mv_bool rfl) ?_
            refine mx_skip (want_if (j := 23) (d := 40) (x := false) (y := true) rfl rfl (by decide) rfl) ?_
            refine mx_skip (want_if (j := 23) (d := 40) (x := false) (y := true) rfl rfl (by decide) rfl) ?_
            refine mx_skip (want_if (j := 23) (d := 40) (x := false) (y := true) rfl rfl (by decide) rfl) ?_
            refine mx_skip (want_if (j := 23) (d := 40) (x := false) (y := true) rfl rfl (by decide) rfl) ?_
            refine mx_skip (want_if (j := 23) (d := 40) (x := false) (y := true) rfl rfl (by decide) rfl) ?_
            refine mx_skip (want_if (j := 23) (d := 40) (x := false) (y := true) rfl rfl (by decide) rfl) ?_
            refine mx_skip (want_if (j := 23) (d := 40) (x := false) (y := true) rfl rfl (by decide) rfl) ?_
            refine mx_skip (want_if (j := 23) (d := 40) (x := false) (y := true) rfl rfl (by decide) rfl) ?_
            refine mx_skip (want_if (j := 23) (d := 40) (x := false) (y := true) rfl rfl (by decide) rfl) ?_
            refine mx_nil (fun w5 E5' H4 HS => ?_)
            have E5 := (ext_drawn _).trans' E5'
            have F12 := F4.ext E5
            have hz5 := E5.size
            refine lx_skip (want_if (j := 23) (d := 40) (x := false) (y := true) rfl rfl (by decide) rfl) ?_
            refine lx_skip (want_if (j := 23) (d := 40) (x := false) (y := true) rfl rfl (by decide) rfl) ?_
            refine lx_skip (want_if (j := 23) (d := 40) (x := false) (y := true) rfl rfl (by decide) rfl) ?_
            refine lx_skip (want_if (j := 23) (d := 40) (x := false) (y := true) rfl rfl (by decide) rfl) ?_
            refine lx_value (want rfl) (pick_t rfl rfl) ?_
            refine lx_nil ?_
            refine wk_cond_t rfl ?_
            refine wk_seq ?_
            refine wk_region ?_
            refine lx_value (want rfl) (rn_build0  (fun w => bd_24  w)) ?_
            refine lx_set (want rfl) sz_24 rfl (t_agg rfl) rfl rfl rfl ((B3.ext E1).ext E5) (Nat.le_of_ble_eq_true rfl) ?_
            intro w6 Es5 Bs5
            have F13 := F12.set Es5 (by omega)
            have hzs5 := Es5.size
            refine lx_value (want rfl) (as_slice rfl) ?_
            refine lx_value (want rfl) (as_int rfl) ?_
            refine lx_nil ?_
            refine wk_ret ?_
            refine retR3 Tryd.results33 (.cell rfl (run_loadVar_blk ag_24 sz_24 Bs5 rfl rfl)) (.tmp (t_slice rfl)) (.tmp (t_int rfl)) F13 ?_
            exact do_err (doE_out hV (by omega)) (by decide)
          ·
            obtain ⟨na, rfl⟩ : ∃ k : Nat, a = (k : Int) := ⟨a.toNat, by omega⟩
            obtain ⟨nb, rfl⟩ : ∃ k : Nat, b = (k : Int) := ⟨b.toNat, by omega⟩
            have h28 := pow2_le dim (Nat.le_refl _) hd
            have hna : na < 2 ^ dim := by omega
            have hnb : nb ≤ dim := by omega
            have hat := at_lt hna hnb
            obtain ⟨l, hl⟩ : ∃ l, L[na * (dim + 1) + nb]? = some l := ⟨_, List.getElem?_eq_getElem (by omega)⟩
            have hl8 := hV.le8 hl
            obtain ⟨bx, ox, rfl, _, sx, cx, hcx, hpx⟩ := hL _ _ hl
            refine mx_calm rfl (want rfl) (fun u42 eu42 fu42 => pick_f rfl rfl) ?_
            refine mx_calm rfl (want rfl) (fun u43 eu43 fu43 => mv_bool rfl) ?_
            refine mx_calm rfl (want_if (j := 23) (d := 40) (x := false) (y := false) rfl rfl (by decide) rfl) (fun u44 eu44 fu44 => rn_fieldAddr fa_24_2 rfl) ?_
            refine mx_calm rfl (want_if (j := 23) (d := 40) (x := false) (y := false) rfl rfl (by decide) rfl) (fun u45 eu45 fu45 => rn_load1Blk ag_22 rfl ((((B1.ext Eb2).ext Eb3).ext E1).ext ((ext_drawn _).trans' eu45)) rfl) ?_
            refine mx_calm rfl (want_if (j := 23) (d := 40) (x := false) (y := false) rfl rfl (by decide) rfl) (fun u46 eu46 fu46 => rn_fieldAddr fa_24_0 rfl) ?_
            refine mx_calm rfl (want_if (j := 23) (d := 40) (x := false) (y := false) rfl rfl (by decide) rfl) (fun u47 eu47 fu47 => rn_load1Blk ag_3 rfl ((((B1.ext Eb2).ext Eb3).ext E1).ext ((ext_drawn _).trans' eu47)) rfl) ?_
            refine mx_calm rfl (want_if (j := 23) (d := 40) (x := false) (y := false) rfl rfl (by decide) rfl) (fun u48 eu48 fu48 => rn_fieldAddr fa_45_0 rfl) ?_
            refine mx_calm rfl (want_if (j := 23) (d := 40) (x := false) (y := false) rfl rfl (by decide) rfl) (fun u49 eu49 fu49 => rn_load1Blk ag_3 rfl (((B2.ext Eb3).ext E1).ext ((ext_drawn _).trans' eu49)) rfl) ?_
            refine mx_calm rfl (want_if (j := 23) (d := 40) (x := false) (y := false) rfl rfl (by decide) rfl) (fun u50 eu50 fu50 => rn_fieldAddr fa_45_1 rfl) ?_
            refine mx_calm rfl (want_if (j := 23) (d := 40) (x := false) (y := false) rfl rfl (by decide) rfl) (fun u51 eu51 fu51 => rn_load1Blk ag_3 rfl (((B2.ext Eb3).ext E1).ext ((ext_drawn _).trans' eu51)) rfl) ?_
            refine mx_val rfl (want_if (j := 23) (d := 40) (x := false) (y := false) rfl rfl (by decide) rfl) (fun u52 eu52 fu52 => do_call (ent_func cf_58 (argsC (t_int rfl) (argsC (t_int rfl) (argsC (t_int rfl) args0)))) (buffer_ct dim na nb hd (by omega) (by omega) u52) (fun _ _ E h => ⟨E, h⟩)) ?_
            refine mx_nil (fun w5 E6' H5 HS => ?_)
            have E6 := (ext_drawn _).trans' E6'
            have F14 := F4.ext E6
            have hz6 := E6.size
            refine lx_value (want_if (j := 23) (d := 40) (x := false) (y := false) rfl rfl (by decide) rfl) (rn_index (na * (dim + 1) + nb) Tryd.underlying22 sz_49 rfl rfl rfl (by omega)) ?_
            refine lx_value (want_if (j := 23) (d := 40) (x := false) (y := false) rfl rfl (by decide) rfl) (rn_load1 ag_49 rfl (F14.cell (fun h => h) hcx)) ?_
            refine lx_value (want_if (j := 23) (d := 40) (x := false) (y := false) rfl rfl (by decide) rfl) (rn_len Tryd.underlying49 rfl) ?_
            refine lx_value (want_if (j := 23) (d := 40) (x := false) (y := false) rfl rfl (by decide) rfl) (rn_eql rfl rfl) ?_
            refine lx_dec (fun h6 => ?_) (fun h6 => ?_)
            ·
              refine lx_value (want rfl) (pick_f rfl rfl) ?_
              refine lx_nil ?_
              refine wk_cond_t rfl ?_
              refine wk_seq ?_
              refine wk_region ?_
              refine lx_value (want rfl) (rn_build0  (fun w => bd_24  w)) ?_
              refine lx_set (want rfl) sz_24 rfl (t_agg rfl) rfl rfl rfl ((B3.ext E1).ext E6) (Nat.le_of_ble_eq_true rfl) ?_
              intro w6 Es6 Bs6
              have F15 := F14.set Es6 (by omega)
              have hzs6 := Es6.size
              refine lx_value (want rfl) (as_slice rfl) ?_
              refine lx_value (want rfl) (as_int rfl) ?_
              refine lx_nil ?_
              refine wk_ret ?_
              refine retR3 Tryd.results33 (.cell rfl (run_loadVar_blk ag_24 sz_24 Bs6 rfl rfl)) (.tmp (t_slice rfl)) (.tmp (t_int rfl)) F15 ?_
              exact do_err (doE_none hV hl h6) (by decide)
            ·
              refine lx_value (want rfl) (pick_f rfl rfl) ?_
              refine lx_nil ?_
              refine wk_cond_f rfl ?_
              refine wk_skip ?_
              refine wk_seq ?_
              refine wk_region ?_
              refine lx_value (want rfl) (rn_fieldAddr fa_24_0 rfl) ?_
              refine lx_value (want rfl) (rn_load1Blk ag_3 rfl ((((B1.ext Eb2).ext Eb3).ext E1).ext E6) rfl) ?_
              refine lx_value (want rfl) (rn_fieldAddr fa_45_0 rfl) ?_
              refine lx_value (want rfl) (rn_load1Blk ag_3 rfl (((B2.ext Eb3).ext E1).ext E6) rfl) ?_
              refine lx_value (want rfl) (rn_fieldAddr fa_45_1 rfl) ?_
              refine lx_value (want rfl) (rn_load1Blk ag_3 rfl (((B2.ext Eb3).ext E1).ext E6) rfl) ?_
              refine lx_call (want rfl) (ent_func cf_58 (argsC (t_int rfl) (argsC (t_int rfl) (argsC (t_int rfl) args0)))) (buffer_ct dim na nb hd (by omega) (by omega) w5) ?_
              rintro _ w6 E7 rfl
              have F16 := F14.ext E7
              have hz7 := E7.size
              refine lx_value (want rfl) (as_int rfl) ?_
              refine lx_nil ?_
              refine wk_seq ?_
              refine wk_seq ?_
              refine wk_region ?_
              refine lx_value (want rfl) (rn_loadBlk ag_24 sz_24 rfl (((((B1.ext Eb2).ext Eb3).ext E1).ext E6).ext E7) rfl rfl) ?_
              refine lx_value (want rfl) (mv_int rfl) ?_
              refine lx_call (want rfl) (ent_func cf_63 (argsC (t_agg rfl) (argsC (t_int rfl) args0))) (able_ct dim r L _ _ _ hV (na * (dim + 1) + nb) l hl w6 (hL.fr (buf_stab _) F16 (fun _ _ h => h))) ?_
              rintro _ w7 E8 rfl
              have F17 := F16.ext E8
              have hz8 := E8.size
              refine lx_split (fun hab => ?_) (fun hab => ?_)
              ·
                obtain ⟨p, q, rfl⟩ := cons_of h6
                obtain ⟨p1, p2, p3⟩ := p
                refine lx_value (want rfl) (rn_not rfl) ?_
                refine lx_nil ?_
                refine wk_cond_f rfl ?_
                refine wk_skip ?_
                refine wk_seq ?_
                refine wk_region ?_
                refine lx_value (want rfl) (rn_loadBlk ag_24 sz_24 rfl ((((((B1.ext Eb2).ext Eb3).ext E1).ext E6).ext E7).ext E8) rfl rfl) ?_
                refine lx_value (want rfl) (mv_int rfl) ?_
                refine lx_call (want rfl) (ent_func cf_64 (argsC (t_agg rfl) (argsC (t_int rfl) args0))) (moved_ct dim r L _ _ _ hV (na * (dim + 1) + nb) p1 p2 p3 q hl w7 (hL.fr (buf_stab _) F17 (fun _ _ h => h))) ?_
                rintro _ w8 E9 ⟨_, _, rfl, ⟨sM, cM, rfl, hM⟩, ⟨sO, cO, rfl, hO⟩⟩
                have F18 := F17.ext E9
                have hz9 := E9.size
                refine lx_value (want rfl) (mv_tuple rfl) ?_
                refine lx_value (want rfl) (rn_extract rfl rfl) ?_
                refine lx_value (want rfl) (rn_extract rfl rfl) ?_
                refine lx_new (want rfl) (rn_alloc ze_24) ?_
                intro b4 w9 hb4 Eb4 B4 hlb4
                have F19 := F18.ext Eb4
                have hzb4 := Eb4.size
                refine lx_set (want rfl) sz_24 rfl (t_agg rfl) rfl rfl rfl B4 (Nat.le_of_ble_eq_true rfl) ?_
                intro w10 Es7 Bs7
                have F20 := F19.set Es7 (by omega)
                have hzs7 := Es7.size
                refine lx_value (want rfl) (as_slice rfl) ?_
                refine lx_nil ?_
                refine wk_seq ?_
                refine wk_region ?_
                refine lx_value (want rfl) (rn_loadBlk ag_24 sz_24 rfl Bs7 rfl rfl) ?_
                refine lx_value (want rfl) (mv_slice rfl) ?_
                refine lx_set (want rfl) sz_24 rfl (t_agg rfl) rfl rfl rfl (((((((B3.ext E1).ext E6).ext E7).ext E8).ext E9).ext Eb4).ne Es7 (by omega)) (Nat.le_of_ble_eq_true rfl) ?_
                intro w11 Es8 Bs8
                have F21 := F20.set Es8 (by omega)
                have hzs8 := Es8.size
                refine lx_value (want rfl) (as_slice rfl) ?_
                refine lx_value (want rfl) (as_int rfl) ?_
                refine lx_nil ?_
                refine wk_ret ?_
                refine retR3 Tryd.results33 (.cell rfl (run_loadVar_blk ag_24 sz_24 Bs8 rfl rfl)) (.tmp (t_slice rfl)) (.tmp (t_int rfl)) F21 ?_
                exact do_ok hV hna hnb hl hab (CubeR.fr ⟨sM, cM, rfl, hM⟩ (Fr.trans (Fr.trans (Fr.ext (Fr.refl (fun k => k = b4 ∨ k = b3) w8) Eb4) Es7 (fun k _ h => (.inl h))) Es8 (fun k _ h => (.inr h))) (fun k h1 h2 h => by (try dsimp only at h); omega) (by omega)) (PkR.fr ⟨sO, cO, rfl, hO⟩ (Fr.trans (Fr.trans (Fr.ext (Fr.refl (fun k => k = b4 ∨ k = b3) w8) Eb4) Es7 (fun k _ h => (.inl h))) Es8 (fun k _ h => (.inr h))) (fun k h1 h2 h => by (try dsimp only at h); omega) (by omega))
              ·
                refine lx_value (want rfl) (rn_not rfl) ?_
                refine lx_nil ?_
                refine wk_cond_t rfl ?_
                refine wk_seq ?_
                refine wk_region ?_
                refine lx_value (want rfl) (rn_build0  (fun w => bd_24  w)) ?_
                refine lx_set (want rfl) sz_24 rfl (t_agg rfl) rfl rfl rfl ((((B3.ext E1).ext E6).ext E7).ext E8) (Nat.le_of_ble_eq_true rfl) ?_
                intro w8 Es9 Bs9
                have F22 := F17.set Es9 (by omega)
                have hzs9 := Es9.size
                refine lx_value (want rfl) (as_slice rfl) ?_
                refine lx_value (want rfl) (as_int rfl) ?_
                refine lx_nil ?_
                refine wk_ret ?_
                refine retR3 Tryd.results33 (.cell rfl (run_loadVar_blk ag_24 sz_24 Bs9 rfl rfl)) (.tmp (t_slice rfl)) (.tmp (t_int rfl)) F22 ?_
                exact do_err (doE_stuck hV hna hnb hl h6 hab) (by decide)

set_option maxRecDepth 100000 in
theorem refput_ct (d r : Int) (L : List (List Pk)) (s : Option Addr) (c : Nat) (G : Nat → Prop) (p1 p2 p3 : Int) (w0 : World) (hL : BufS G w0 s L) :
    CT Tryd.prog 29 [.agg #[.int .i64 d, .int .i64 r, .slice s L.length c], .agg #[.int .i64 p1, .int .i64 p2, .int .i64 p3]] w0 no (fun v w => PutQ w0.heap.size d r L (p1, p2, p3) v w) := by
  have F0 := Fr.refl no w0
  refine ct_body Tryd.func29 rfl Tryd.ntmps29 (Nat.le_of_ble_eq_true rfl) ?_
  refine wk_seq ?_
  refine wk_region ?_
  refine lx_new (want rfl) (rn_box (t_agg rfl)) ?_
  intro b1 w1 hb1 Eb1 B1 hlb1
  have F1 := F0.ext Eb1
  have hzb1 := Eb1.size
  refine lx_new (want rfl) (rn_box (t_agg rfl)) ?_
  intro b2 w2 hb2 Eb2 B2 hlb2
  have F2 := F1.ext Eb2
  have hzb2 := Eb2.size
  refine lx_new (want rfl) (rn_alloc ze_24) ?_
  intro b3 w3 hb3 Eb3 B3 hlb3
  have F3 := F2.ext Eb3
  have hzb3 := Eb3.size
  refine lx_value (want rfl) (as_int rfl) ?_
  refine lx_nil ?_
  refine wk_seq ?_
  refine wk_seq ?_
  refine wk_region ?_
  refine lx_value (want rfl) (rn_loadBlk ag_24 sz_24 rfl ((B1.ext Eb2).ext Eb3) rfl rfl) ?_
  refine lx_call (want rfl) (ent_func cf_27 (argsC (t_agg rfl) args0)) (check_ct _ _ _ _ _ _ w3 (hL.fr (buf_stab _) F3 (fun _ _ h => h))) ?_
  rintro _ w4 E1 rfl
  have F4 := F3.ext E1
  have hz1 := E1.size
  refine lx_value (want rfl) (as_int rfl) ?_
  refine lx_nil ?_
  refine wk_seq ?_
  refine wk_region ?_
  refine lx_value (want rfl) (mv_int rfl) ?_
  refine lx_value (want rfl) (rn_neq rfl rfl) ?_
  refine lx_dec (fun h1 => ?_) (fun h1 => ?_)
  ·
    refine lx_nil ?_
    refine wk_cond_t rfl ?_
    refine wk_seq ?_
    refine wk_region ?_
    refine lx_value (want rfl) (rn_build0  (fun w => bd_24  w)) ?_
    refine lx_value (want rfl) (mv_int rfl) ?_
    refine lx_set (want rfl) sz_24 rfl (t_agg rfl) rfl rfl rfl (B3.ext E1) (Nat.le_of_ble_eq_true rfl) ?_
    intro w5 Es1 Bs1
    have F5 := F4.set Es1 (by omega)
    have hzs1 := Es1.size
    refine lx_value (want rfl) (as_int rfl) ?_
    refine lx_nil ?_
    refine wk_ret ?_
    refine retR2 Tryd.results29 (.cell rfl (run_loadVar_blk ag_24 sz_24 Bs1 rfl rfl)) (.tmp (t_int rfl)) F5 ?_
    exact put_err (putE_chk h1) h1
  ·
    obtain ⟨dim, rfl, hV⟩ := chk_zero (Decidable.not_not.1 h1)
    have hd := hV.hd
    have hnL := hV.len
    have h32 := prod_le hd
    refine lx_nil ?_
    refine wk_cond_f rfl ?_
    refine wk_skip ?_
    refine wk_seq ?_
    refine wk_seq ?_
    refine wk_mix 22 (fun kS => match kS with | 8 => .val (.int .i64 ((2 ^ dim : Nat) : Int)) | 21 => .val (.int .i64 ((2 ^ dim : Nat) : Int)) | _ => .none) (by kernel_rfl) (by kernel_rfl) (by intro kS G hk; (try dsimp only at hk); (split at hk) <;> first | (cases hk; done) | (injection hk with hk; subst hk; exact ⟨by intro j hkj I v w w' hR hG; first | exact hG, fun ⟨_, _, _, _, hs⟩ => by (try dsimp only at hs); split at hs <;> cases hs⟩)) (by intro kS s y G hk; (try dsimp only at hk); split at hk <;> cases hk) ?_
    simp only [List.take_succ_cons, List.take_zero, List.take_nil, List.drop_succ_cons, List.drop_zero, List.drop_nil]
    refine mx_calm rfl (want rfl) (fun u1 eu1 fu1 => rn_fieldAddr fa_41_0 rfl) ?_
    refine mx_calm rfl (want rfl) (fun u2 eu2 fu2 => rn_load1Blk ag_3 rfl (((B2.ext Eb3).ext E1).ext ((ext_drawn _).trans' eu2)) rfl) ?_
    refine mx_calm rfl (want rfl) (fun u3 eu3 fu3 => rn_lss rfl rfl) ?_
    refine mx_dec (fun h2 => ?_) (fun h2 => ?_)
    ·
      refine mx_calm rfl (want rfl) (fun u4 eu4 fu4 => mv_bool rfl) ?_
      refine mx_skip (want_if (j := 3) (d := 18) (x := false) (y := true) rfl rfl (by decide) rfl) ?_
      refine mx_skip (want_if (j := 3) (d := 18) (x := false) (y := true) rfl rfl (by decide) rfl) ?_
      refine mx_skip (want_if (j := 3) (d := 18) (x := false) (y := true) rfl rfl (by decide) rfl) ?_
      refine mx_skip (want_if (j := 3) (d := 18) (x := false) (y := true) rfl rfl (by decide) rfl) ?_
      refine mx_skip (want_if (j := 3) (d := 18) (x := false) (y := true) rfl rfl (by decide) rfl) ?_
      refine mx_skip (want_if (j := 3) (d := 18) (x := false) (y := true) rfl rfl (by decide) rfl) ?_
      refine mx_calm rfl (want rfl) (fun u5 eu5 fu5 => pick_t rfl rfl) ?_
      refine mx_calm rfl (want rfl) (fun u6 eu6 fu6 => mv_bool rfl) ?_
      refine mx_skip (want_if (j := 11) (d := 26) (x := false) (y := true) rfl rfl (by decide) rfl) ?_
      refine mx_skip (want_if (j := 11) (d := 26) (x := false) (y := true) rfl rfl (by decide) rfl) ?_
      refine mx_skip (want_if (j := 11) (d := 26) (x := false) (y := true) rfl rfl (by decide) rfl) ?_
      refine mx_calm rfl (want rfl) (fun u7 eu7 fu7 => pick_t rfl rfl) ?_
      refine mx_calm rfl (want rfl) (fun u8 eu8 fu8 => mv_bool rfl) ?_
      refine mx_skip (want_if (j := 16) (d := 31) (x := false) (y := true) rfl rfl (by decide) rfl) ?_
      refine mx_skip (want_if (j := 16) (d := 31) (x := false) (y := true) rfl rfl (by decide) rfl) ?_
      refine mx_skip (want_if (j := 16) (d := 31) (x := false) (y := true) rfl rfl (by decide) rfl) ?_
      refine mx_skip (want_if (j := 16) (d := 31) (x := false) (y := true) rfl rfl (by decide) rfl) ?_
      refine mx_skip (want_if (j := 16) (d := 31) (x := false) (y := true) rfl rfl (by decide) rfl) ?_
      refine mx_nil (fun w5 E2' H1 HS => ?_)
      have E2 := (ext_drawn _).trans' E2'
      have F6 := F4.ext E2
      have hz2 := E2.size
      refine lx_skip (want_if (j := 16) (d := 31) (x := false) (y := true) rfl rfl (by decide) rfl) ?_
      refine lx_value (want rfl) (pick_t rfl rfl) ?_
      refine lx_nil ?_
      refine wk_cond_t rfl ?_
      refine wk_seq ?_
      refine wk_region ?_
      refine lx_value (want rfl) (rn_build0  (fun w => bd_24  w)) ?_
      refine lx_set (want rfl) sz_24 rfl (t_agg rfl) rfl rfl rfl ((B3.ext E1).ext E2) (Nat.le_of_ble_eq_true rfl) ?_
      intro w6 Es2 Bs2
      have F7 := F6.set Es2 (by omega)
      have hzs2 := Es2.size
      refine lx_value (want rfl) (as_int rfl) ?_
      refine lx_nil ?_
      refine wk_ret ?_
      refine retR2 Tryd.results29 (.cell rfl (run_loadVar_blk ag_24 sz_24 Bs2 rfl rfl)) (.tmp (t_int rfl)) F7 ?_
      exact put_err (putE_none hV (by simp only; omega)) (by decide)
    ·
      refine mx_calm rfl (want rfl) (fun u9 eu9 fu9 => mv_bool rfl) ?_
      refine mx_calm rfl (want_if (j := 3) (d := 18) (x := false) (y := false) rfl rfl (by decide) rfl) (fun u10 eu10 fu10 => rn_fieldAddr fa_41_0 rfl) ?_
      refine mx_calm rfl (want_if (j := 3) (d := 18) (x := false) (y := false) rfl rfl (by decide) rfl) (fun u11 eu11 fu11 => rn_load1Blk ag_3 rfl (((B2.ext Eb3).ext E1).ext ((ext_drawn _).trans' eu11)) rfl) ?_
      refine mx_calm rfl (want_if (j := 3) (d := 18) (x := false) (y := false) rfl rfl (by decide) rfl) (fun u12 eu12 fu12 => rn_fieldAddr fa_24_0 rfl) ?_
      refine mx_calm rfl (want_if (j := 3) (d := 18) (x := false) (y := false) rfl rfl (by decide) rfl) (fun u13 eu13 fu13 => rn_load1Blk ag_3 rfl ((((B1.ext Eb2).ext Eb3).ext E1).ext ((ext_drawn _).trans' eu13)) rfl) ?_
      refine mx_val rfl (want_if (j := 3) (d := 18) (x := false) (y := false) rfl rfl (by decide) rfl) (fun u14 eu14 fu14 => do_call (ent_func cf_37 (argsC (t_int rfl) args0)) (switches_ct dim hd u14) (fun _ _ E h => ⟨E, h⟩)) ?_
      refine mx_calm rfl (want_if (j := 3) (d := 18) (x := false) (y := false) rfl rfl (by decide) rfl) (fun u15 eu15 fu15 => rn_geq rfl rfl) ?_
      refine mx_dec (fun h3 => ?_) (fun h3 => ?_)
      ·
        refine mx_calm rfl (want rfl) (fun u16 eu16 fu16 => pick_f rfl rfl) ?_
        refine mx_calm rfl (want rfl) (fun u17 eu17 fu17 => mv_bool rfl) ?_
        refine mx_skip (want_if (j := 11) (d := 26) (x := false) (y := true) rfl rfl (by decide) rfl) ?_
        refine mx_skip (want_if (j := 11) (d := 26) (x := false) (y := true) rfl rfl (by decide) rfl) ?_
        refine mx_skip (want_if (j := 11) (d := 26) (x := false) (y := true) rfl rfl (by decide) rfl) ?_
        refine mx_calm rfl (want rfl) (fun u18 eu18 fu18 => pick_t rfl rfl) ?_
        refine mx_calm rfl (want rfl) (fun u19 eu19 fu19 => mv_bool rfl) ?_
        refine mx_skip (want_if (j := 16) (d := 31) (x := false) (y := true) rfl rfl (by decide) rfl) ?_
        refine mx_skip (want_if (j := 16) (d := 31) (x := false) (y := true) rfl rfl (by decide) rfl) ?_
        refine mx_skip (want_if (j := 16) (d := 31) (x := false) (y := true) rfl rfl (by decide) rfl) ?_
        refine mx_skip (want_if (j := 16) (d := 31) (x := false) (y := true) rfl rfl (by decide) rfl) ?_
        refine mx_skip (want_if (j := 16) (d := 31) (x := false) (y := true) rfl rfl (by decide) rfl) ?_
        refine mx_nil (fun w5 E3' H2 HS => ?_)
        have E3 := (ext_drawn _).trans' E3'
        have F8 := F4.ext E3
        have hz3 := E3.size
        refine lx_skip (want_if (j := 16) (d := 31) (x := false) (y := true) rfl rfl (by decide) rfl) ?_
        refine lx_value (want rfl) (pick_t rfl rfl) ?_
        refine lx_nil ?_
        refine wk_cond_t rfl ?_
        refine wk_seq ?_
        refine wk_region ?_
        refine lx_value (want rfl) (rn_build0  (fun w => bd_24  w)) ?_
        refine lx_set (want rfl) sz_24 rfl (t_agg rfl) rfl rfl rfl ((B3.ext E1).ext E3) (Nat.le_of_ble_eq_true rfl) ?_
        intro w6 Es3 Bs3
        have F9 := F8.set Es3 (by omega)
        have hzs3 := Es3.size
        refine lx_value (want rfl) (as_int rfl) ?_
        refine lx_nil ?_
        refine wk_ret ?_
        refine retR2 Tryd.results29 (.cell rfl (run_loadVar_blk ag_24 sz_24 Bs3 rfl rfl)) (.tmp (t_int rfl)) F9 ?_
        exact put_err (putE_none hV (by simp only; omega)) (by decide)
      ·
        refine mx_calm rfl (want rfl) (fun u20 eu20 fu20 => pick_f rfl rfl) ?_
        refine mx_calm rfl (want rfl) (fun u21 eu21 fu21 => mv_bool rfl) ?_
        refine mx_calm rfl (want_if (j := 11) (d := 26) (x := false) (y := false) rfl rfl (by decide) rfl) (fun u22 eu22 fu22 => rn_fieldAddr fa_41_1 rfl) ?_
        refine mx_calm rfl (want_if (j := 11) (d := 26) (x := false) (y := false) rfl rfl (by decide) rfl) (fun u23 eu23 fu23 => rn_load1Blk ag_3 rfl (((B2.ext Eb3).ext E1).ext ((ext_drawn _).trans' eu23)) rfl) ?_
        refine mx_calm rfl (want_if (j := 11) (d := 26) (x := false) (y := false) rfl rfl (by decide) rfl) (fun u24 eu24 fu24 => rn_lss rfl rfl) ?_
        refine mx_dec (fun h4 => ?_) (fun h4 => ?_)
        ·
          refine mx_calm rfl (want rfl) (fun u25 eu25 fu25 => pick_f rfl rfl) ?_
          refine mx_calm rfl (want rfl) (fun u26 eu26 fu26 => mv_bool rfl) ?_
          refine mx_skip (want_if (j := 16) (d := 31) (x := false) (y := true) rfl rfl (by decide) rfl) ?_
          refine mx_skip (want_if (j := 16) (d := 31) (x := false) (y := true) rfl rfl (by decide) rfl) ?_
          refine mx_skip (want_if (j := 16) (d := 31) (x := false) (y := true) rfl rfl (by decide) rfl) ?_
          refine mx_skip (want_if (j := 16) (d := 31) (x := false) (y := true) rfl rfl (by decide) rfl) ?_
          refine mx_skip (want_if (j := 16) (d := 31) (x := false) (y := true) rfl rfl (by decide) rfl) ?_
          refine mx_nil (fun w5 E4' H3 HS => ?_)
          have E4 := (ext_drawn _).trans' E4'
          have F10 := F4.ext E4
          have hz4 := E4.size
          refine lx_skip (want_if (j := 16) (d := 31) (x := false) (y := true) rfl rfl (by decide) rfl) ?_
          refine lx_value (want rfl) (pick_t rfl rfl) ?_
          refine lx_nil ?_
          refine wk_cond_t rfl ?_
          refine wk_seq ?_
          refine wk_region ?_
          refine lx_value (want rfl) (rn_build0  (fun w => bd_24  w)) ?_
          refine lx_set (want rfl) sz_24 rfl (t_agg rfl) rfl rfl rfl ((B3.ext E1).ext E4) (Nat.le_of_ble_eq_true rfl) ?_
          intro w6 Es4 Bs4
          have F11 := F10.set Es4 (by omega)
          have hzs4 := Es4.size
          refine lx_value (want rfl) (as_int rfl) ?_
          refine lx_nil ?_
          refine wk_ret ?_
          refine retR2 Tryd.results29 (.cell rfl (run_loadVar_blk ag_24 sz_24 Bs4 rfl rfl)) (.tmp (t_int rfl)) F11 ?_
          exact put_err (putE_none hV (by simp only; omega)) (by decide)
        ·
          refine mx_calm rfl (want rfl) (fun u27 eu27 fu27 => pick_f rfl rfl) ?_
          refine mx_calm rfl (want rfl) (fun u28 eu28 fu28 => mv_bool rfl) ?_
          refine mx_calm rfl (want_if (j := 16) (d := 31) (x := false) (y := false) rfl rfl (by decide) rfl) (fun u29 eu29 fu29 => rn_fieldAddr fa_41_1 rfl) ?_
          refine mx_calm rfl (want_if (j := 16) (d := 31) (x := false) (y := false) rfl rfl (by decide) rfl) (fun u30 eu30 fu30 => rn_load1Blk ag_3 rfl (((B2.ext Eb3).ext E1).ext ((ext_drawn _).trans' eu30)) rfl) ?_
          refine mx_calm rfl (want_if (j := 16) (d := 31) (x := false) (y := false) rfl rfl (by decide) rfl) (fun u31 eu31 fu31 => rn_fieldAddr fa_24_0 rfl) ?_
          refine mx_calm rfl (want_if (j := 16) (d := 31) (x := false) (y := false) rfl rfl (by decide) rfl) (fun u32 eu32 fu32 => rn_load1Blk ag_3 rfl ((((B1.ext Eb2).ext Eb3).ext E1).ext ((ext_drawn _).trans' eu32)) rfl) ?_
          refine mx_val rfl (want_if (j := 16) (d := 31) (x := false) (y := false) rfl rfl (by decide) rfl) (fun u33 eu33 fu33 => do_call (ent_func cf_37 (argsC (t_int rfl) args0)) (switches_ct dim hd u33) (fun _ _ E h => ⟨E, h⟩)) ?_
          refine mx_nil (fun w5 E5' H4 HS => ?_)
          have E5 := (ext_drawn _).trans' E5'
          have F12 := F4.ext E5
          have hz5 := E5.size
          refine lx_value (want_if (j := 16) (d := 31) (x := false) (y := false) rfl rfl (by decide) rfl) (rn_geq rfl rfl) ?_
          refine lx_dec (fun h5 => ?_) (fun h5 => ?_)
          ·
            refine lx_value (want rfl) (pick_f rfl rfl) ?_
            refine lx_nil ?_
            refine wk_cond_t rfl ?_
            refine wk_seq ?_
            refine wk_region ?_
            refine lx_value (want rfl) (rn_build0  (fun w => bd_24  w)) ?_
            refine lx_set (want rfl) sz_24 rfl (t_agg rfl) rfl rfl rfl ((B3.ext E1).ext E5) (Nat.le_of_ble_eq_true rfl) ?_
            intro w6 Es5 Bs5
            have F13 := F12.set Es5 (by omega)
            have hzs5 := Es5.size
            refine lx_value (want rfl) (as_int rfl) ?_
            refine lx_nil ?_
            refine wk_ret ?_
            refine retR2 Tryd.results29 (.cell rfl (run_loadVar_blk ag_24 sz_24 Bs5 rfl rfl)) (.tmp (t_int rfl)) F13 ?_
            exact put_err (putE_none hV (by simp only; omega)) (by decide)
          ·
            obtain ⟨pa, rfl⟩ : ∃ k : Nat, p1 = (k : Int) := ⟨p1.toNat, by omega⟩
            obtain ⟨pb, rfl⟩ : ∃ k : Nat, p2 = (k : Int) := ⟨p2.toNat, by omega⟩
            have h28 := pow2_le dim (Nat.le_refl _) hd
            have hpa : pa < 2 ^ dim := by omega
            have hpb : pb < 2 ^ dim := by omega
            have hat := at_lt hpa (Nat.le_refl dim)
            obtain ⟨l, hl⟩ : ∃ l, L[pa * (dim + 1) + dim]? = some l := ⟨_, List.getElem?_eq_getElem (by omega)⟩
            have hl8 := hV.le8 hl
            obtain ⟨bx, ox, rfl, _, sx, cx, hcx, hpx⟩ := hL _ _ hl
            refine lx_value (want rfl) (pick_f rfl rfl) ?_
            refine lx_nil ?_
            refine wk_cond_f rfl ?_
            refine wk_skip ?_
            refine wk_seq ?_
            refine wk_region ?_
            refine lx_value (want rfl) (rn_fieldAddr fa_24_0 rfl) ?_
            refine lx_value (want rfl) (rn_load1Blk ag_3 rfl ((((B1.ext Eb2).ext Eb3).ext E1).ext E5) rfl) ?_
            refine lx_value (want rfl) (rn_fieldAddr fa_41_0 rfl) ?_
            refine lx_value (want rfl) (rn_load1Blk ag_3 rfl (((B2.ext Eb3).ext E1).ext E5) rfl) ?_
            refine lx_value (want rfl) (rn_fieldAddr fa_24_0 rfl) ?_
            refine lx_value (want rfl) (rn_load1Blk ag_3 rfl ((((B1.ext Eb2).ext Eb3).ext E1).ext E5) rfl) ?_
            refine lx_call (want rfl) (ent_func cf_58 (argsC (t_int rfl) (argsC (t_int rfl) (argsC (t_int rfl) args0)))) (buffer_ct dim pa dim hd (by omega) (by omega) w5) ?_
            rintro _ w6 E6 rfl
            have F14 := F12.ext E6
            have hz6 := E6.size
            refine lx_value (want rfl) (as_int rfl) ?_
            refine lx_nil ?_
            refine wk_seq ?_
            refine wk_seq ?_
            refine wk_mix 8 (fun _ => .none) (by kernel_rfl) (by kernel_rfl) (fun kS G hk => by cases hk) (fun kS s y G hk => by cases hk) ?_
            simp only [List.take_succ_cons, List.take_zero, List.take_nil, List.drop_succ_cons, List.drop_zero, List.drop_nil]
            refine mx_calm rfl (want rfl) (fun u34 eu34 fu34 => rn_fieldAddr fa_24_2 rfl) ?_
            refine mx_calm rfl (want rfl) (fun u35 eu35 fu35 => rn_load1Blk ag_22 rfl ((((((B1.ext Eb2).ext Eb3).ext E1).ext E5).ext E6).ext ((ext_drawn _).trans' eu35)) rfl) ?_
            refine mx_calm rfl (want rfl) (fun u36 eu36 fu36 => mv_int rfl) ?_
            refine mx_calm rfl (want rfl) (fun u37 eu37 fu37 => rn_index (pa * (dim + 1) + dim) Tryd.underlying22 sz_49 rfl rfl rfl (by omega)) ?_
            refine mx_calm rfl (want rfl) (fun u38 eu38 fu38 => rn_load1 ag_49 rfl ((F14.ext ((ext_drawn _).trans' eu38)).cell (fun h => h) hcx)) ?_
            refine mx_calm rfl (want rfl) (fun u39 eu39 fu39 => rn_len Tryd.underlying49 rfl) ?_
            refine mx_calm rfl (want rfl) (fun u40 eu40 fu40 => rn_fieldAddr fa_24_1 rfl) ?_
            refine mx_calm rfl (want rfl) (fun u41 eu41 fu41 => rn_load1Blk ag_3 rfl ((((((B1.ext Eb2).ext Eb3).ext E1).ext E5).ext E6).ext ((ext_drawn _).trans' eu41)) rfl) ?_
            refine mx_nil (fun w7 E7' H5 HS => ?_)
            have E7 := (ext_drawn _).trans' E7'
            have F15 := F14.ext E7
            have hz7 := E7.size
            refine lx_value (want rfl) (rn_eql rfl rfl) ?_
            refine lx_dec (fun h6 => ?_) (fun h6 => ?_)
            ·
              refine lx_nil ?_
              refine wk_cond_t rfl ?_
              refine wk_seq ?_
              refine wk_region ?_
              refine lx_value (want rfl) (rn_build0  (fun w => bd_24  w)) ?_
              refine lx_set (want rfl) sz_24 rfl (t_agg rfl) rfl rfl rfl ((((B3.ext E1).ext E5).ext E6).ext E7) (Nat.le_of_ble_eq_true rfl) ?_
              intro w8 Es6 Bs6
              have F16 := F15.set Es6 (by omega)
              have hzs6 := Es6.size
              refine lx_value (want rfl) (as_int rfl) ?_
              refine lx_nil ?_
              refine wk_ret ?_
              refine retR2 Tryd.results29 (.cell rfl (run_loadVar_blk ag_24 sz_24 Bs6 rfl rfl)) (.tmp (t_int rfl)) F16 ?_
              exact put_err (putE_full hV hpa hpb hl h6) (by decide)
            ·
              refine lx_nil ?_
              refine wk_cond_f rfl ?_
              refine wk_skip ?_
              refine wk_seq ?_
              refine wk_region ?_
              refine lx_value (want rfl) (rn_loadBlk ag_24 sz_24 rfl ((((((B1.ext Eb2).ext Eb3).ext E1).ext E5).ext E6).ext E7) rfl rfl) ?_
              refine lx_call (want rfl) (ent_func cf_23 (argsC (t_agg rfl) args0)) (copy_ct _ _ _ _ _ _ hV.bd w7 (hL.fr (buf_stab _) F15 (fun _ _ h => h))) ?_
              rintro _ w8 E8 ⟨sC, cC, TC, rfl, hTC, hTabC, hgC⟩
              have F17 := F15.ext E8
              have hz8 := E8.size
              have hiC : ∀ k, tb sC TC k → (tb (none : Option Addr) ([] : List (TE Pk)) k ∨ _ ≤ k) := fun k hk => .inr (hgC k hk)
              have tg2 : ∀ k, tb sC TC k → w0.heap.size ≤ k := fun k hk => (hiC k hk).elim ((fun _ h => tb_nil h) k) (fun h => by omega)
              have tn2_1 : ∀ k, tb sC TC k → k ≠ b1 := fun k hk => (hiC k hk).elim ((fun _ h => tb_nil h) k) (fun h => by have := (B1).lt; omega)
              have tn2_2 : ∀ k, tb sC TC k → k ≠ b2 := fun k hk => (hiC k hk).elim ((fun _ h => tb_nil h) k) (fun h => by have := (B2).lt; omega)
              have tn2_3 : ∀ k, tb sC TC k → k ≠ b3 := fun k hk => (hiC k hk).elim ((fun _ h => tb_nil h) k) (fun h => by have := (B3).lt; omega)
              refine lx_new (want rfl) (rn_alloc ze_24) ?_
              intro b4 w9 hb4 Eb4 B4 hlb4
              have F18 := F17.ext Eb4
              have hzb4 := Eb4.size
              have nb1 : ∀ k, tb sC TC k → k ≠ b4 := fun k hk => by have := (hTabC).lt hk; omega
              refine lx_set (want rfl) sz_24 rfl (t_agg rfl) rfl rfl rfl B4 (Nat.le_of_ble_eq_true rfl) ?_
              intro w10 Es7 Bs7
              have F19 := F18.set Es7 (by omega)
              have hzs7 := Es7.size
              refine lx_nil ?_
              refine wk_seq ?_
              obtain ⟨⟨sE, cE, lE⟩, he, hel⟩ := tab_at hTC hl
              dsimp only at hel
              subst hel
              obtain ⟨bT, oT, hs, hcT⟩ := (((hTabC.ext Eb4).fr Es7 (fun k hk h => nb1 k hk h))).get he
              subst hs
              have hTo := ((hTabC.ext Eb4).fr Es7 (fun k hk h => nb1 k hk h))
              have hOw := hTo.own _ _ he
              have hSl : ∀ k, (ob sE) k → k < w10.heap.size := fun k h => (((hTabC.ext Eb4).fr Es7 (fun k hk h => nb1 k hk h))).lt (.inr ⟨_, _, he, h⟩)
              refine wk_mixA 11 10 (ob sE) (fun kS => match kS with | 9 => .any (fun I v w => ∃ b, v = .slice (some ⟨b, 0, none⟩) 1 1 ∧ w10.heap.size ≤ b ∧ (I.1 ≤ b ∧ b < I.2) ∧ Blk w b [.int .i64 ((pa : Nat) : Int), .int .i64 ((pb : Nat) : Int), .int .i64 p3] 41) | 10 => .any (fun I v w => ∃ s c, v = .slice s (l ++ [(((pa : Nat) : Int), ((pb : Nat) : Int), p3)]).length c ∧ OwnS w 41 3 s (l ++ [(((pa : Nat) : Int), ((pb : Nat) : Int), p3)]).length c ((l ++ [(((pa : Nat) : Int), ((pb : Nat) : Int), p3)]).flatMap pkC) ∧ ∀ k, ob s k → (ob sE k ∨ w10.heap.size ≤ k)) | _ => .none) (by kernel_rfl) (by kernel_rfl) (by intro kS G hk; (try dsimp only at hk); (split at hk) <;> first | (cases hk; done) | (injection hk with hk; subst hk; exact ⟨by intro j hkj I v w w' hR hG; first | exact hG | (obtain ⟨b, h1, h2, hI, h3⟩ := hG; exact ⟨b, h1, h2, hI, h3.fr (mS hR) (fun hs => by have := hSl _ hs; omega)⟩) | (obtain ⟨s, c, h1, h2, h3⟩ := hG; exact ⟨s, c, h1, h2.ext (mT hkj hR), h3⟩), fun ⟨_, _, _, _, hs⟩ => by (try dsimp only at hs); split at hs <;> cases hs⟩)) (by intro kS s y G hk; (try dsimp only at hk); split at hk <;> cases hk) ?_
              simp only [List.take_succ_cons, List.take_zero, List.take_nil, List.drop_succ_cons, List.drop_zero, List.drop_nil]
              refine mx_calm rfl (want rfl) (fun u42 eu42 fu42 => rn_fieldAddr fa_24_2 rfl) ?_
              refine mx_calm rfl (want rfl) (fun u43 eu43 fu43 => rn_load1Blk ag_22 rfl (Bs7.fr (mD (by decide) eu43) (fun h => nb1 _ (.inr ⟨_, _, he, h⟩) rfl)) rfl) ?_
              refine mx_calm rfl (want rfl) (fun u44 eu44 fu44 => mv_int rfl) ?_
              refine mx_calm rfl (want rfl) (fun u45 eu45 fu45 => rn_fieldAddr fa_24_2 rfl) ?_
              refine mx_calm rfl (want rfl) (fun u46 eu46 fu46 => rn_load1Blk ag_22 rfl (Bs7.fr (mD (by decide) eu46) (fun h => nb1 _ (.inr ⟨_, _, he, h⟩) rfl)) rfl) ?_
              refine mx_calm rfl (want rfl) (fun u47 eu47 fu47 => mv_int rfl) ?_
              refine mx_calm rfl (want rfl) (fun u48 eu48 fu48 => rn_index (pa * (dim + 1) + dim) Tryd.underlying22 sz_49 rfl rfl rfl (List.getElem?_eq_some_iff.1 he).1) ?_
              refine mx_calm rfl (want rfl) (fun u49 eu49 fu49 => rn_load1 ag_49 rfl ((mD (by decide) eu49).cell (fun h => hTo.sep _ _ he _ h ⟨_, _, rfl⟩) hcT)) ?_
              refine mx_calm rfl (want rfl) (fun u50 eu50 fu50 => rn_loadBlk ag_41 sz_41 rfl (((((((((B2.ext Eb3).ext E1).ext E5).ext E6).ext E7).ext E8).ext Eb4).ne Es7 (by omega)).fr (mD (by decide) eu50) (fun h => tn2_2 _ (.inr ⟨_, _, he, h⟩) rfl)) rfl rfl) ?_
              refine mx_any rfl rfl (want rfl) (fun u51 eu51 fu51 => (do_newS2 (rn_bslice (xs := [.tmp 67]) Tryd.underlying49 sz_41 ze_41 rfl (argsC (t_agg rfl) args0) (CL.cons rfl rfl CL.nil) rfl (Nat.le_of_ble_eq_true rfl)) (show _ ≤ _ from ((mD (by decide) eu51)).size)).mono (fun v w' h => ⟨(mE (by decide) h.1), h.2⟩)) (fun I68 v68 => ?_)
              refine mx_any rfl rfl (want rfl) (fun u52 eu52 fu52 => by obtain ⟨bS, rfl, hbS, _, hBS⟩ := fu52 68 _ rfl (show (68 : Nat) ∈ _ from by decide); exact do_append 24 Tryd.underlying49 ti_41 (by decide) rfl (by decide) rfl rfl (hOw.ext (mC eu52)) (Src.blk hBS rfl rfl) (show l.length + 1 ≤ 1073741824 by omega) (fun sA cA wA AP => ⟨(mF AP.fr), ⟨sA, cA, by simp, by have h := AP.own; rw [List.length_append, List.flatMap_append]; exact h, fun k hk => (AP.blk k hk).elim .inl (fun h => .inr (Nat.le_trans (mC eu52).size h))⟩⟩)) (fun I69 v69 => ?_)
              refine mx_nil (fun w11 E9' H6 HS => ?_)
              have E9 := mG E9'
              have F20 := F19.new E9 (fun k h => tg2 k (.inr ⟨_, _, he, h⟩))
              have hz9 := E9.size
              have hI69 := (HS.1 69 _ rfl).2
              have hI68 := (HS.1 68 _ rfl).2
              have hX69_68 := HS.2 69 _ 68 _ rfl rfl (show (69 : Nat) ≠ 68 from by decide)
              simp only at hI69
              simp only at hI68
              simp only at hX69_68
              have g69 := H6 69 _ rfl
              obtain ⟨sq1, cq1, rfl, hO1, hI1⟩ := g69
              have g68 := H6 68 _ rfl
              refine lx_value (want rfl) (rn_index (pa * (dim + 1) + dim) Tryd.underlying22 sz_49 rfl rfl rfl (List.getElem?_eq_some_iff.1 he).1) ?_
              refine lx_ownset (want rfl) sz_49 rfl (t_slice rfl) rfl rfl rfl (hTo.out.fr E9 (fun k hk hs => hTo.sep _ _ he k hs hk)) (List.getElem?_eq_some_iff.1 he).1 ?_
              intro w12 E10' HO2
              have E10 : Fr (ob (some (⟨bT, oT, none⟩ : Addr))) _ _ := E10'.mono (fun i _ hi => ⟨_, _, by subst hi; rfl⟩)
              have F21 := F20.new E10 (fun k h => tg2 k (.inl h))
              have hz10 := E10.size
              obtain ⟨tw2, ti2⟩ := Tab.set (e' := (sq1, cq1, l ++ [(((pa : Nat) : Int), ((pb : Nat) : Int), p3)])) hTo he E9 hO1 hI1 E10 HO2
              have tg3 : ∀ k, tb (some (⟨bT, oT, none⟩ : Addr)) (TC.set (pa * (dim + 1) + dim) (sq1, cq1, l ++ [(((pa : Nat) : Int), ((pb : Nat) : Int), p3)])) k → w0.heap.size ≤ k := fun k hk => (ti2 k hk).elim (tg2 k) (fun h => by omega)
              have tn3_1 : ∀ k, tb (some (⟨bT, oT, none⟩ : Addr)) (TC.set (pa * (dim + 1) + dim) (sq1, cq1, l ++ [(((pa : Nat) : Int), ((pb : Nat) : Int), p3)])) k → k ≠ b1 := fun k hk => (ti2 k hk).elim (tn2_1 k) (fun h => by have := (B1).lt; omega)
              have tn3_2 : ∀ k, tb (some (⟨bT, oT, none⟩ : Addr)) (TC.set (pa * (dim + 1) + dim) (sq1, cq1, l ++ [(((pa : Nat) : Int), ((pb : Nat) : Int), p3)])) k → k ≠ b2 := fun k hk => (ti2 k hk).elim (tn2_2 k) (fun h => by have := (B2).lt; omega)
              have tn3_3 : ∀ k, tb (some (⟨bT, oT, none⟩ : Addr)) (TC.set (pa * (dim + 1) + dim) (sq1, cq1, l ++ [(((pa : Nat) : Int), ((pb : Nat) : Int), p3)])) k → k ≠ b3 := fun k hk => (ti2 k hk).elim (tn2_3 k) (fun h => by have := (B3).lt; omega)
              have tn3_4 : ∀ k, tb (some (⟨bT, oT, none⟩ : Addr)) (TC.set (pa * (dim + 1) + dim) (sq1, cq1, l ++ [(((pa : Nat) : Int), ((pb : Nat) : Int), p3)])) k → k ≠ b4 := fun k hk => (ti2 k hk).elim (nb1 k) (fun h => by have := (Bs7).lt; omega)
              refine lx_nil ?_
              refine wk_seq ?_
              refine wk_region ?_
              refine lx_value (want rfl) (rn_loadBlk ag_24 sz_24 rfl ((Bs7.fr E9 (fun h => nb1 _ (.inr ⟨_, _, he, h⟩) rfl)).fr E10 (fun h => nb1 _ (.inl h) rfl)) rfl rfl) ?_
              refine lx_set (want rfl) sz_24 rfl (t_agg rfl) rfl rfl rfl (((((((((B3.ext E1).ext E5).ext E6).ext E7).ext E8).ext Eb4).ne Es7 (by omega)).fr E9 (fun h => tn2_3 _ (.inr ⟨_, _, he, h⟩) rfl)).fr E10 (fun h => tn2_3 _ (.inl h) rfl)) (Nat.le_of_ble_eq_true rfl) ?_
              intro w13 Es8 Bs8
              have F22 := F21.set Es8 (by omega)
              have hzs8 := Es8.size
              refine lx_value (want rfl) (as_int rfl) ?_
              refine lx_nil ?_
              refine wk_ret ?_
              refine retR2 Tryd.results29 (.cell rfl (run_loadVar_blk ag_24 sz_24 Bs8 rfl rfl)) (.tmp (t_int rfl)) F22 ?_
              exact put_ok hV hpa hpb hl h6 (tab_cube (tw2.fr Es8 (fun k hk h => tn3_3 k hk h)) (set_map hTC _ _) tg3 (by simp))

end Go.Proofs.YtlfclnkoimfhmaaDoor

/- What functions of the cube compute: check, xway, do1. -/
import Derived.Test.YtlfclnkoimfhmaaDoorFacts
import Derived.Test.YtlfclnkoimfhmaaDoorPre
import Derived.Test.YtlfclnkoimfhmaaDoorWalk1
import Derived.Test.YtlfclnkoimfhmaaDoorWalk4
import Derived.Test.YtlfclnkoimfhmaaDoorWalk5
import Derived.Test.YtlfclnkoimfhmaaDoorWalk6
set_option linter.unusedVariables false
set_option linter.unusedSimpArgs false
namespace Go.Proofs.YtlfclnkoimfhmaaDoor
open Go Go.RowKit Go.Mix Go.Eng
set_option maxRecDepth 100000 in
theorem check_ct (d r : Int) (L : List (List Pk)) (s : Option Addr) (c : Nat) (G : Nat → Prop) (w0 : World) (hL : BufS G w0 s L) :
    CT Tryd.prog 27 [.agg #[.int .i64 d, .int .i64 r, .slice s L.length c]] w0 no (fun v _ => v = .int .i64 (chkE d r L)) := by
  have F0 := Fr.refl no w0
  refine ct_body Tryd.func27 rfl Tryd.ntmps27 (Nat.le_of_ble_eq_true rfl) ?_
  refine wk_seq ?_
  refine wk_region ?_
  refine lx_new (want rfl) (rn_box (t_agg rfl)) ?_
  intro b1 w1 hb1 Eb1 B1 hlb1
  have F1 := F0.ext Eb1
  have hzb1 := Eb1.size
  refine lx_value (want rfl) (as_int rfl) ?_
  refine lx_nil ?_
  refine wk_seq ?_
  refine wk_seq ?_
  refine wk_region ?_
  refine lx_value (want rfl) (rn_fieldAddr fa_24_0 rfl) ?_
  refine lx_value (want rfl) (rn_load1Blk ag_3 rfl B1 rfl) ?_
  refine lx_value (want rfl) (rn_lss rfl rfl) ?_
  refine lx_dec (fun h1 => ?_) (fun h1 => ?_)
  ·
    refine lx_value (want rfl) (mv_bool rfl) ?_
    refine lx_skip (want_if (j := 3) (d := 8) (x := false) (y := true) rfl rfl (by decide) rfl) ?_
    refine lx_skip (want_if (j := 3) (d := 8) (x := false) (y := true) rfl rfl (by decide) rfl) ?_
    refine lx_skip (want_if (j := 3) (d := 8) (x := false) (y := true) rfl rfl (by decide) rfl) ?_
    refine lx_value (want rfl) (pick_t rfl rfl) ?_
    refine lx_value (want rfl) (mv_bool rfl) ?_
    refine lx_skip (want_if (j := 8) (d := 13) (x := false) (y := true) rfl rfl (by decide) rfl) ?_
    refine lx_skip (want_if (j := 8) (d := 13) (x := false) (y := true) rfl rfl (by decide) rfl) ?_
    refine lx_skip (want_if (j := 8) (d := 13) (x := false) (y := true) rfl rfl (by decide) rfl) ?_
    refine lx_value (want rfl) (pick_t rfl rfl) ?_
    refine lx_value (want rfl) (mv_bool rfl) ?_
    refine lx_skip (want_if (j := 13) (d := 18) (x := false) (y := true) rfl rfl (by decide) rfl) ?_
    refine lx_skip (want_if (j := 13) (d := 18) (x := false) (y := true) rfl rfl (by decide) rfl) ?_
    refine lx_skip (want_if (j := 13) (d := 18) (x := false) (y := true) rfl rfl (by decide) rfl) ?_
    refine lx_value (want rfl) (pick_t rfl rfl) ?_
    refine lx_nil ?_
    refine wk_cond_t rfl ?_
    refine wk_seq ?_
    refine wk_region ?_
    refine lx_value (want rfl) (as_int rfl) ?_
    refine lx_nil ?_
    refine wk_ret ?_
    refine retR1 Tryd.results27 (.tmp (t_int rfl)) F1 ?_
    exact chk_range (by omega)
  ·
    refine lx_value (want rfl) (mv_bool rfl) ?_
    refine lx_value (want_if (j := 3) (d := 8) (x := false) (y := false) rfl rfl (by decide) rfl) (rn_fieldAddr fa_24_0 rfl) ?_
    refine lx_value (want_if (j := 3) (d := 8) (x := false) (y := false) rfl rfl (by decide) rfl) (rn_load1Blk ag_3 rfl B1 rfl) ?_
    refine lx_value (want_if (j := 3) (d := 8) (x := false) (y := false) rfl rfl (by decide) rfl) (rn_gtr rfl rfl) ?_
    refine lx_dec (fun h2 => ?_) (fun h2 => ?_)
    ·
      refine lx_value (want rfl) (pick_f rfl rfl) ?_
      refine lx_value (want rfl) (mv_bool rfl) ?_
      refine lx_skip (want_if (j := 8) (d := 13) (x := false) (y := true) rfl rfl (by decide) rfl) ?_
      refine lx_skip (want_if (j := 8) (d := 13) (x := false) (y := true) rfl rfl (by decide) rfl) ?_
      refine lx_skip (want_if (j := 8) (d := 13) (x := false) (y := true) rfl rfl (by decide) rfl) ?_
      refine lx_value (want rfl) (pick_t rfl rfl) ?_
      refine lx_value (want rfl) (mv_bool rfl) ?_
      refine lx_skip (want_if (j := 13) (d := 18) (x := false) (y := true) rfl rfl (by decide) rfl) ?_
      refine lx_skip (want_if (j := 13) (d := 18) (x := false) (y := true) rfl rfl (by decide) rfl) ?_
      refine lx_skip (want_if (j := 13) (d := 18) (x := false) (y := true) rfl rfl (by decide) rfl) ?_
      refine lx_value (want rfl) (pick_t rfl rfl) ?_
      refine lx_nil ?_
      refine wk_cond_t rfl ?_
      refine wk_seq ?_
      refine wk_region ?_
      refine lx_value (want rfl) (as_int rfl) ?_
      refine lx_nil ?_
      refine wk_ret ?_
      refine retR1 Tryd.results27 (.tmp (t_int rfl)) F1 ?_
      exact chk_range (by omega)
    ·
      refine lx_value (want rfl) (pick_f rfl rfl) ?_
      refine lx_value (want rfl) (mv_bool rfl) ?_
      refine lx_value (want_if (j := 8) (d := 13) (x := false) (y := false) rfl rfl (by decide) rfl) (rn_fieldAddr fa_24_1 rfl) ?_
      refine lx_value (want_if (j := 8) (d := 13) (x := false) (y := false) rfl rfl (by decide) rfl) (rn_load1Blk ag_3 rfl B1 rfl) ?_
      refine lx_value (want_if (j := 8) (d := 13) (x := false) (y := false) rfl rfl (by decide) rfl) (rn_lss rfl rfl) ?_
      refine lx_dec (fun h3 => ?_) (fun h3 => ?_)
      ·
        refine lx_value (want rfl) (pick_f rfl rfl) ?_
        refine lx_value (want rfl) (mv_bool rfl) ?_
        refine lx_skip (want_if (j := 13) (d := 18) (x := false) (y := true) rfl rfl (by decide) rfl) ?_
        refine lx_skip (want_if (j := 13) (d := 18) (x := false) (y := true) rfl rfl (by decide) rfl) ?_
        refine lx_skip (want_if (j := 13) (d := 18) (x := false) (y := true) rfl rfl (by decide) rfl) ?_
        refine lx_value (want rfl) (pick_t rfl rfl) ?_
        refine lx_nil ?_
        refine wk_cond_t rfl ?_
        refine wk_seq ?_
        refine wk_region ?_
        refine lx_value (want rfl) (as_int rfl) ?_
        refine lx_nil ?_
        refine wk_ret ?_
        refine retR1 Tryd.results27 (.tmp (t_int rfl)) F1 ?_
        exact chk_range (by omega)
      ·
        refine lx_value (want rfl) (pick_f rfl rfl) ?_
        refine lx_value (want rfl) (mv_bool rfl) ?_
        refine lx_value (want_if (j := 13) (d := 18) (x := false) (y := false) rfl rfl (by decide) rfl) (rn_fieldAddr fa_24_1 rfl) ?_
        refine lx_value (want_if (j := 13) (d := 18) (x := false) (y := false) rfl rfl (by decide) rfl) (rn_load1Blk ag_3 rfl B1 rfl) ?_
        refine lx_value (want_if (j := 13) (d := 18) (x := false) (y := false) rfl rfl (by decide) rfl) (rn_gtr rfl rfl) ?_
        refine lx_dec (fun h4 => ?_) (fun h4 => ?_)
        ·
          refine lx_value (want rfl) (pick_f rfl rfl) ?_
          refine lx_nil ?_
          refine wk_cond_t rfl ?_
          refine wk_seq ?_
          refine wk_region ?_
          refine lx_value (want rfl) (as_int rfl) ?_
          refine lx_nil ?_
          refine wk_ret ?_
          refine retR1 Tryd.results27 (.tmp (t_int rfl)) F1 ?_
          exact chk_range (by omega)
        ·
          obtain ⟨dim, rfl⟩ : ∃ k : Nat, d = (k : Int) := ⟨d.toNat, by omega⟩
          have hd : dim ≤ 3 := by omega
          have hr : ¬ ((dim : Int) < 0 ∨ 3 < (dim : Int) ∨ r < 1 ∨ 8 < r) := by omega
          have h32 := prod_le hd
          refine lx_value (want rfl) (pick_f rfl rfl) ?_
          refine lx_nil ?_
          refine wk_cond_f rfl ?_
          refine wk_skip ?_
          refine wk_seq ?_
          refine wk_seq ?_
          refine wk_mix 10 (fun kS => match kS with | 5 => .val (.int .i64 ((2 ^ dim : Nat) : Int)) | _ => .none) (by kernel_rfl) (by kernel_rfl) (by intro kS G hk; (try dsimp only at hk); (split at hk) <;> first | (cases hk; done) | (injection hk with hk; subst hk; exact ⟨by intro j hkj I v w w' hR hG; first | exact hG, fun ⟨_, _, _, _, hs⟩ => by (try dsimp only at hs); split at hs <;> cases hs⟩)) (by intro kS s y G hk; (try dsimp only at hk); split at hk <;> cases hk) ?_
          simp only [List.take_succ_cons, List.take_zero, List.take_nil, List.drop_succ_cons, List.drop_zero, List.drop_nil]
          refine mx_calm rfl (want rfl) (fun u1 eu1 fu1 => rn_fieldAddr fa_24_2 rfl) ?_
          refine mx_calm rfl (want rfl) (fun u2 eu2 fu2 => rn_load1Blk ag_22 rfl (B1.ext ((ext_drawn _).trans' eu2)) rfl) ?_
          refine mx_calm rfl (want rfl) (fun u3 eu3 fu3 => rn_len Tryd.underlying22 rfl) ?_
          refine mx_calm rfl (want rfl) (fun u4 eu4 fu4 => rn_fieldAddr fa_24_0 rfl) ?_
          refine mx_calm rfl (want rfl) (fun u5 eu5 fu5 => rn_load1Blk ag_3 rfl (B1.ext ((ext_drawn _).trans' eu5)) rfl) ?_
          refine mx_val rfl (want rfl) (fun u6 eu6 fu6 => do_call (ent_func cf_37 (argsC (t_int rfl) args0)) (switches_ct dim hd u6) (fun _ _ E h => ⟨E, h⟩)) ?_
          refine mx_calm rfl (want rfl) (fun u7 eu7 fu7 => rn_fieldAddr fa_24_0 rfl) ?_
          refine mx_calm rfl (want rfl) (fun u8 eu8 fu8 => rn_load1Blk ag_3 rfl (B1.ext ((ext_drawn _).trans' eu8)) rfl) ?_
          refine mx_calm rfl (want rfl) (fun u9 eu9 fu9 => rn_addN rfl (n := 1) rfl (by omega)) ?_
          refine mx_calm rfl (want rfl) (fun u10 eu10 fu10 => rn_mulN rfl rfl (by omega)) ?_
          refine mx_nil (fun w2 E1' H1 HS => ?_)
          have E1 := (ext_drawn _).trans' E1'
          have F2 := F1.ext E1
          have hz1 := E1.size
          refine lx_value (want rfl) (rn_neq rfl rfl) ?_
          refine lx_dec (fun h5 => ?_) (fun h5 => ?_)
          ·
            refine lx_nil ?_
            refine wk_cond_t rfl ?_
            refine wk_seq ?_
            refine wk_region ?_
            refine lx_value (want rfl) (as_int rfl) ?_
            refine lx_nil ?_
            refine wk_ret ?_
            refine retR1 Tryd.results27 (.tmp (t_int rfl)) F2 ?_
            exact chk_form hr (form_len (by omega))
          ·
            refine lx_nil ?_
            refine wk_cond_f rfl ?_
            refine wk_skip ?_
            refine wk_seq ?_
            refine wk_seq ?_
            refine wk_region ?_
            refine lx_value (want rfl) (as_int rfl) ?_
            refine lx_nil ?_
            refine wk_block ?_
            refine wk_loopA [2, 3, 4, 34, 35, 36, 37, 38, 39, 40, 41, 42, 43, 44, 45, 46, 47, 48, 49, 50, 51, 52, 53, 54, 55, 56, 57, 58, 59, 60, 61, 62, 63, 64, 65, 66, 67, 68, 69, 70, 71, 72, 73, 74, 75, 76, 77, 78, 79, 80, 81] no (fun nM ρ w => ∃ (i : Nat), nM = L.length - i ∧ ρ 3 = .int .i64 i ∧ (i ≤ L.length) ∧ (upto dim r L i)) _ ⟨0, rfl, rfl, by omega, (fun n hn => by omega)⟩ ?_
            rintro n1 ρ1 w3 A1 EL1 ⟨i, rfl, hs1_3, hi, hq⟩
            have F3 := F2.ext EL1
            have hzL1 := EL1.size
            refine wk_seq ?_
            refine wk_seq ?_
            refine wk_region ?_
            refine lx_value (want rfl) (mv_int hs1_3) ?_
            refine lx_value (want rfl) (rn_fieldAddr fa_24_2 (A1.at 1 rfl rfl)) ?_
            refine lx_value (want rfl) (rn_load1Blk ag_22 rfl ((B1.ext E1).ext EL1) rfl) ?_
            refine lx_value (want rfl) (rn_len Tryd.underlying22 rfl) ?_
            refine lx_value (want rfl) (rn_lss rfl rfl) ?_
            refine lx_dec (fun hlt => ?_) (fun hlt => ?_)
            ·
              obtain ⟨l, hl⟩ := getx hlt
              obtain ⟨bx, ox, rfl, _, sx, cx, hcx, hpx⟩ := hL i l hl
              obtain ⟨hb1, hb2, hb3⟩ := at_bounds hd (show i < 2 ^ dim * (dim + 1) by omega)
              refine lx_nil ?_
              refine wk_cond_t rfl ?_
              refine wk_skip ?_
              refine wk_seq ?_
              refine wk_block ?_
              refine wk_seq ?_
              refine wk_seq ?_
              refine wk_mix 8 (fun _ => .none) (by kernel_rfl) (by kernel_rfl) (fun kS G hk => by cases hk) (fun kS s y G hk => by cases hk) ?_
              simp only [List.take_succ_cons, List.take_zero, List.take_nil, List.drop_succ_cons, List.drop_zero, List.drop_nil]
              refine mx_calm rfl (want rfl) (fun u11 eu11 fu11 => rn_fieldAddr fa_24_2 (A1.at 1 rfl rfl)) ?_
              refine mx_calm rfl (want rfl) (fun u12 eu12 fu12 => rn_load1Blk ag_22 rfl (((B1.ext E1).ext EL1).ext ((ext_drawn _).trans' eu12)) rfl) ?_
              refine mx_calm rfl (want rfl) (fun u13 eu13 fu13 => mv_int hs1_3) ?_
              refine mx_calm rfl (want rfl) (fun u14 eu14 fu14 => rn_index _ Tryd.underlying22 sz_49 rfl rfl rfl (by omega)) ?_
              refine mx_calm rfl (want rfl) (fun u15 eu15 fu15 => rn_load1 ag_49 rfl ((F3.ext ((ext_drawn _).trans' eu15)).cell (fun h => h) hcx)) ?_
              refine mx_calm rfl (want rfl) (fun u16 eu16 fu16 => rn_len Tryd.underlying49 rfl) ?_
              refine mx_calm rfl (want rfl) (fun u17 eu17 fu17 => rn_fieldAddr fa_24_1 (A1.at 1 rfl rfl)) ?_
              refine mx_calm rfl (want rfl) (fun u18 eu18 fu18 => rn_load1Blk ag_3 rfl (((B1.ext E1).ext EL1).ext ((ext_drawn _).trans' eu18)) rfl) ?_
              refine mx_nil (fun w4 E2' H2 HS => ?_)
              have E2 := (ext_drawn _).trans' E2'
              have F4 := F3.ext E2
              have hz2 := E2.size
              refine lx_value (want rfl) (rn_gtr rfl rfl) ?_
              refine lx_dec (fun h6 => ?_) (fun h6 => ?_)
              ·
                refine lx_nil ?_
                refine wk_cond_t rfl ?_
                refine wk_seq ?_
                refine wk_region ?_
                refine lx_value (want rfl) (as_int rfl) ?_
                refine lx_nil ?_
                refine wk_ret ?_
                refine retR1 Tryd.results27 (.tmp (t_int rfl)) F4 ?_
                exact chk_form hr (form_buf hl (buf_long h6))
              ·
                refine lx_nil ?_
                refine wk_cond_f rfl ?_
                refine wk_skip ?_
                refine wk_seq ?_
                refine wk_region ?_
                refine lx_value (want rfl) (as_int rfl) ?_
                refine lx_nil ?_
                refine wk_block ?_
                refine wk_loopA [2, 4, 50, 51, 52, 53, 54, 55, 56, 57, 58, 59, 60, 61, 62, 63, 64, 65, 66, 67, 68, 69, 70, 71, 72, 73, 74, 75, 76, 77, 78, 79, 80, 81] no (fun nM ρ w => ∃ (k : Nat), nM = l.length - k ∧ ρ 4 = .int .i64 k ∧ (k ≤ l.length) ∧ ((l.take k).all (fun p => canB dim p (i / (dim + 1)) (i % (dim + 1))) = true)) _ ⟨0, rfl, rfl, by omega, rfl⟩ ?_
                rintro n2 ρ2 w5 A2 EL2 ⟨k, rfl, hs2_4, hk, hk2⟩
                have F5 := F4.ext EL2
                have hzL2 := EL2.size
                refine wk_seq ?_
                refine wk_seq ?_
                refine wk_region ?_
                refine lx_value (want rfl) (mv_int hs2_4) ?_
                refine lx_value (want rfl) (rn_fieldAddr fa_24_2 (A2.at 1 rfl (A1.at 1 rfl rfl))) ?_
                refine lx_value (want rfl) (rn_load1Blk ag_22 rfl ((((B1.ext E1).ext EL1).ext E2).ext EL2) rfl) ?_
                refine lx_value (want rfl) (mv_int (A2.at 3 rfl hs1_3)) ?_
                refine lx_value (want rfl) (rn_index _ Tryd.underlying22 sz_49 rfl rfl rfl (by omega)) ?_
                refine lx_value (want rfl) (rn_load1 ag_49 rfl (F5.cell (fun h => h) hcx)) ?_
                refine lx_value (want rfl) (rn_len Tryd.underlying49 rfl) ?_
                refine lx_value (want rfl) (rn_lss rfl rfl) ?_
                refine lx_dec (fun hlk => ?_) (fun hlk => ?_)
                ·
                  obtain ⟨p, hp⟩ := getx hlk
                  obtain ⟨by_, oy, rfl, _, hcy⟩ := hpx k p hp
                  obtain ⟨p1, p2, p3⟩ := p
                  refine lx_nil ?_
                  refine wk_cond_t rfl ?_
                  refine wk_skip ?_
                  refine wk_seq ?_
                  refine wk_block ?_
                  refine wk_seq ?_
                  refine wk_mix 20 (fun _ => .none) (by kernel_rfl) (by kernel_rfl) (fun kS G hk => by cases hk) (fun kS s y G hk => by cases hk) ?_
                  simp only [List.take_succ_cons, List.take_zero, List.take_nil, List.drop_succ_cons, List.drop_zero, List.drop_nil]
                  refine mx_calm rfl (want rfl) (fun u19 eu19 fu19 => rn_fieldAddr fa_24_0 (A2.at 1 rfl (A1.at 1 rfl rfl))) ?_
                  refine mx_calm rfl (want rfl) (fun u20 eu20 fu20 => rn_load1Blk ag_3 rfl (((((B1.ext E1).ext EL1).ext E2).ext EL2).ext ((ext_drawn _).trans' eu20)) rfl) ?_
                  refine mx_calm rfl (want rfl) (fun u21 eu21 fu21 => rn_fieldAddr fa_24_2 (A2.at 1 rfl (A1.at 1 rfl rfl))) ?_
                  refine mx_calm rfl (want rfl) (fun u22 eu22 fu22 => rn_load1Blk ag_22 rfl (((((B1.ext E1).ext EL1).ext E2).ext EL2).ext ((ext_drawn _).trans' eu22)) rfl) ?_
                  refine mx_calm rfl (want rfl) (fun u23 eu23 fu23 => mv_int (A2.at 3 rfl hs1_3)) ?_
                  refine mx_calm rfl (want rfl) (fun u24 eu24 fu24 => rn_index _ Tryd.underlying22 sz_49 rfl rfl rfl (by omega)) ?_
                  refine mx_calm rfl (want rfl) (fun u25 eu25 fu25 => rn_load1 ag_49 rfl ((F5.ext ((ext_drawn _).trans' eu25)).cell (fun h => h) hcx)) ?_
                  refine mx_calm rfl (want rfl) (fun u26 eu26 fu26 => mv_int hs2_4) ?_
                  refine mx_calm rfl (want rfl) (fun u27 eu27 fu27 => rn_index _ Tryd.underlying49 sz_41 rfl rfl rfl (by omega)) ?_
                  refine mx_calm rfl (want rfl) (fun u28 eu28 fu28 => rn_load3 ag_41 sz_41 rfl ((F5.ext ((ext_drawn _).trans' eu28)).cell (fun h => h) (hcy 0 _ rfl)) ((F5.ext ((ext_drawn _).trans' eu28)).cell (fun h => h) (hcy 1 _ rfl)) ((F5.ext ((ext_drawn _).trans' eu28)).cell (fun h => h) (hcy 2 _ rfl))) ?_
                  refine mx_calm rfl (want rfl) (fun u29 eu29 fu29 => mv_int (A2.at 3 rfl hs1_3)) ?_
                  refine mx_calm rfl (want rfl) (fun u30 eu30 fu30 => rn_fieldAddr fa_24_0 (A2.at 1 rfl (A1.at 1 rfl rfl))) ?_
                  refine mx_calm rfl (want rfl) (fun u31 eu31 fu31 => rn_load1Blk ag_3 rfl (((((B1.ext E1).ext EL1).ext E2).ext EL2).ext ((ext_drawn _).trans' eu31)) rfl) ?_
                  refine mx_calm rfl (want rfl) (fun u32 eu32 fu32 => rn_addN rfl (n := 1) rfl (by omega)) ?_
                  refine mx_calm rfl (want rfl) (fun u33 eu33 fu33 => rn_quoN rfl rfl (by omega)) ?_
                  refine mx_calm rfl (want rfl) (fun u34 eu34 fu34 => mv_int (A2.at 3 rfl hs1_3)) ?_
                  refine mx_calm rfl (want rfl) (fun u35 eu35 fu35 => rn_fieldAddr fa_24_0 (A2.at 1 rfl (A1.at 1 rfl rfl))) ?_
                  refine mx_calm rfl (want rfl) (fun u36 eu36 fu36 => rn_load1Blk ag_3 rfl (((((B1.ext E1).ext EL1).ext E2).ext EL2).ext ((ext_drawn _).trans' eu36)) rfl) ?_
                  refine mx_calm rfl (want rfl) (fun u37 eu37 fu37 => rn_addN rfl (n := 1) rfl (by omega)) ?_
                  refine mx_calm rfl (want rfl) (fun u38 eu38 fu38 => rn_remN rfl rfl (by omega)) ?_
                  refine mx_nil (fun w6 E3' H3 HS => ?_)
                  have E3 := (ext_drawn _).trans' E3'
                  have F6 := F5.ext E3
                  have hz3 := E3.size
                  refine lx_call (want rfl) (ent_func cf_53 (argsC (t_int rfl) (argsC (t_agg rfl) (argsC (t_int rfl) (argsC (t_int rfl) args0))))) (can_ct dim hd _ _ _ _ _ hb2 hb3 w6) ?_
                  rintro _ w7 E4 rfl
                  have F7 := F6.ext E4
                  have hz4 := E4.size
                  refine lx_split (fun h7 => ?_) (fun h7 => ?_)
                  ·
                    refine lx_value (want rfl) (rn_not rfl) ?_
                    refine lx_nil ?_
                    refine wk_cond_f rfl ?_
                    refine wk_skip ?_
                    refine wk_region ?_
                    refine lx_value (want rfl) (mv_int hs2_4) ?_
                    refine lx_value (want rfl) (rn_add rfl rfl (by omega)) ?_
                    refine lx_value (want rfl) (as_int rfl) ?_
                    refine lx_nil ?_
                    exact ⟨rfl, (((((((((((((((((((((((((((((((((A2.up rfl _).up rfl _).up rfl _).up rfl _).up rfl _).up rfl _).up rfl _).up rfl _).up rfl _).up rfl _).up rfl _).up rfl _).up rfl _).up rfl _).up rfl _).up rfl _).up rfl _).up rfl _).up rfl _).up rfl _).up rfl _).up rfl _).up rfl _).up rfl _).up rfl _).up rfl _).up rfl _).up rfl _).up rfl _).up rfl _).up rfl _).up rfl _).up rfl _), (Fr.ext (Fr.ext EL2 E3) E4), _, (by omega), k + 1, rfl, rfl, by omega, (all_step hk2 hp (by simpa using h7))⟩
                  ·
                    refine lx_value (want rfl) (rn_not rfl) ?_
                    refine lx_nil ?_
                    refine wk_cond_t rfl ?_
                    refine wk_seq ?_
                    refine wk_region ?_
                    refine lx_value (want rfl) (as_int rfl) ?_
                    refine lx_nil ?_
                    refine wk_ret ?_
                    refine retR1 Tryd.results27 (.tmp (t_int rfl)) F7 ?_
                    exact chk_form hr (form_buf hl (buf_pk hp (by simpa using h7)))
                ·
                  refine lx_nil ?_
                  refine wk_cond_f rfl ?_
                  refine wk_exit ?_
                  refine wk_region ?_
                  refine lx_value (want rfl) (mv_int (A2.at 3 rfl hs1_3)) ?_
                  refine lx_value (want rfl) (rn_add rfl rfl (by omega)) ?_
                  refine lx_value (want rfl) (as_int rfl) ?_
                  refine lx_nil ?_
                  exact ⟨rfl, (((((((((((((((((((((((((((A1.up rfl _).up rfl _).up rfl _).up rfl _).up rfl _).up rfl _).up rfl _).up rfl _).up rfl _).up rfl _).up rfl _).up rfl _).up rfl _).up rfl _).up rfl _).loop A2 rfl).up rfl _).up rfl _).up rfl _).up rfl _).up rfl _).up rfl _).up rfl _).up rfl _).up rfl _).up rfl _).up rfl _), (Fr.ext (Fr.ext EL1 E2) EL2), _, (by omega), i + 1, rfl, rfl, by omega, (upto_step hq hl (buf_ok h6 hk2 hlk))⟩
            ·
              refine lx_nil ?_
              refine wk_cond_f rfl ?_
              refine wk_exit ?_
              refine wk_seq ?_
              refine wk_region ?_
              refine lx_value (want rfl) (as_int rfl) ?_
              refine lx_nil ?_
              refine wk_ret ?_
              refine retR1 Tryd.results27 (.tmp (t_int rfl)) F3 ?_
              exact chk_ok hr (by omega) hq hlt

set_option maxHeartbeats 1000000 in
theorem xway_ct (d a b : Int) (w0 : World) (hT : Tb w0 1) :
    CT Tryd.prog 17 [.int .i64 d, .int .i64 a, .int .i64 b] w0 no (fun v w => WayQ w0.heap.size d a b v w) := by
  have hTl := hT.lt
  have F0 := Fr.refl no w0
  refine ct_bodyM Tryd.func17 rfl Tryd.ntmps17 (Nat.le_of_ble_eq_true rfl) ?_
  refine wk_seq ?_
  refine wk_region ?_
  refine lx_new (want rfl) (rn_alloc ze_28) ?_
  intro b21 w1 hb21 Eb21 B21 hlb21
  have F1 := F0.ext Eb21
  have hzb21 := Eb21.size
  refine lx_value (want rfl) (as_int rfl) ?_
  refine lx_nil ?_
  refine wk_seq ?_
  refine wk_seq ?_
  refine wk_region ?_
  refine lx_value (want rfl) (mv_int rfl) ?_
  refine lx_newS (want rfl) (rn_bslice (xs := [.tmp 9]) Tryd.underlying28 sz_3 ze_3 rfl (argsC (t_int rfl) args0) (CL.cons rfl rfl CL.nil) rfl (Nat.le_of_ble_eq_true rfl)) ?_
  intro b22 w2 hb22 Eb22 B22 hlb22
  have F2 := F1.ext Eb22
  have hzb22 := Eb22.size
  refine lx_call (want rfl) (ent_func cf_47 (argsC (t_int rfl) (argsC (t_int rfl) (argsC (t_slice rfl) args0)))) (within_ct 0 3 [d] _ _ _ w2 (blk_ints [d] B22) (by simp)) ?_
  rintro _ w3 E1 rfl
  have F3 := F2.ext E1
  have hz1 := E1.size
  refine lx_split (fun h11 => ?_) (fun h11 => ?_)
  ·
    obtain ⟨hd0, hd3⟩ := in_one h11
    obtain ⟨dim, rfl⟩ : ∃ k : Nat, d = (k : Int) := ⟨d.toNat, by omega⟩
    have hd : dim ≤ 3 := by omega
    have h28 := pow2_le dim (Nat.le_refl _) hd
    refine lx_value (want rfl) (rn_not rfl) ?_
    refine lx_nil ?_
    refine wk_cond_f rfl ?_
    refine wk_skip ?_
    refine wk_seq ?_
    refine wk_seq ?_
    refine wk_region ?_
    refine lx_value (want rfl) (mv_int rfl) ?_
    refine lx_value (want rfl) (rn_build1 (t_int rfl) (fun w => bd_24_0 _ w)) ?_
    refine lx_value (want rfl) (rn_build1 (t_agg rfl) (fun w => bd_76_0 _ _ _ _ _ w)) ?_
    refine lx_value (want rfl) (mv_int rfl) ?_
    refine lx_value (want rfl) (mv_int rfl) ?_
    refine lx_newS (want rfl) (rn_bslice (xs := [.tmp 16, .tmp 17]) Tryd.underlying28 sz_3 ze_3 rfl (argsC (t_int rfl) (argsC (t_int rfl) args0)) (CL.cons rfl rfl (CL.cons rfl rfl CL.nil)) rfl (Nat.le_of_ble_eq_true rfl)) ?_
    intro b23 w4 hb23 Eb23 B23 hlb23
    have F4 := F3.ext Eb23
    have hzb23 := Eb23.size
    refine lx_call (want rfl) (ent_func cf_48 (argsC (t_agg rfl) (argsC (t_slice rfl) args0))) (isswitch_ct dim 0 none 0 0 hd [a, b] _ _ _ w4 (blk_ints [a, b] B23) (by simp)) ?_
    rintro _ w5 E2 rfl
    have F5 := F4.ext E2
    have hz2 := E2.size
    refine lx_split (fun h19 => ?_) (fun h19 => ?_)
    ·
      obtain ⟨pa, pb, rfl, rfl, hpa, hpb⟩ := in_sw h19
      have hpa8 : pa < 8 := by omega
      have hpb8 : pb < 8 := by omega
      have hwl := way_len pa pb
      have hsl := spots_len (dim := dim) hpa8 hpb8
      refine lx_value (want rfl) (rn_not rfl) ?_
      refine lx_nil ?_
      refine wk_cond_f rfl ?_
      refine wk_skip ?_
      refine wk_seq ?_
      refine wk_seq ?_
      refine wk_region ?_
      refine lx_value (want rfl) (mv_int rfl) ?_
      refine lx_value (want rfl) (mv_int rfl) ?_
      refine lx_value (want rfl) (rn_build2 (t_int rfl) (t_int rfl) (fun w => bd_41_0_1 _ _ w)) ?_
      refine lx_value (want rfl) (mv_int rfl) ?_
      refine lx_call (want rfl) (ent_func cf_49 (argsC (t_agg rfl) (argsC (t_int rfl) args0))) (cway_ct _ _ _ _ w5) ?_
      rintro _ w6 E3 ⟨bw1, bw2, rfl, BW1, BW2, hw1, hw2⟩
      have F6 := F5.ext E3
      have hz3 := E3.size
      have hlbw1 := (BW1).lt
      have hlbw2 := (BW2).lt
      refine lx_nil ?_
      refine wk_block ?_
      refine wk_abs ?_
      intro ρR1 hR1
      refine wk_range (ps := [26]) ((hR1 25).trans rfl) cf_75 ?_
      intro fR1 db1 l1 w7 RC1 hRC1 hdb1 hl1 hsz1 ER1 HD1 HL1
      have F7 := F6.ext ER1
      have hzR1 := ER1.size
      have hlt1_l := (HL1).lt
      have hlt1_d := (HD1).lt
      obtain ⟨bI1, hbI1⟩ : ∃ b, b = w7.heap.size := ⟨_, rfl⟩
      have hlb1_800 := ((((((((hT.ext Eb21).ext Eb22).ext E1).ext Eb23).ext E2).ext E3).ext ER1)).lt
      have hlb1_21 := (((((((B21.ext Eb22).ext E1).ext Eb23).ext E2).ext E3).ext ER1)).lt
      have hlb1_22 := ((((((B22.ext E1).ext Eb23).ext E2).ext E3).ext ER1)).lt
      have hlb1_23 := ((((B23.ext E2).ext E3).ext ER1)).lt
      have hlb1_10 := ((BW1.ext ER1)).lt
      have hlb1_11 := ((BW2.ext ER1)).lt
      have hlb1_901 := (HL1).lt
      have hlb1_902 := (HD1).lt
      refine CT.mono (way1_ct l1 bw1 bw2 dim pa pb 0 hpa8 hpb8 bI1 (fun (i : Nat) (w : World) => ∃ (so1_1 : Option Addr) (co1_1 : Nat), Fr no w0 w ∧ w7.heap.size ≤ w.heap.size ∧ Tb w 1 ∧ Blk w b21 [.slice so1_1 i co1_1] 28 ∧ Blk w b22 (cellsOf B22) 3 ∧ Blk w b23 (cellsOf B23) 3 ∧ Blk w bw1 (cellsOf BW1) 41 ∧ Blk w bw2 (cellsOf BW2) 3 ∧ At w l1 (RC1 .ready none) ∧ At w db1 (.deferred (some [])) ∧ OwnS w 3 1 so1_1 (i) co1_1 (((wayL pa pb).take i).flatMap intC) ∧ (∀ k, ob so1_1 k → w0.heap.size ≤ k) ∧ (∀ k, ob so1_1 k → k ≠ 1) ∧ (∀ k, ob so1_1 k → k ≠ b21) ∧ (∀ k, ob so1_1 k → k ≠ b22) ∧ (∀ k, ob so1_1 k → k ≠ b23) ∧ (∀ k, ob so1_1 k → k ≠ bw1) ∧ (∀ k, ob so1_1 k → k ≠ bw2) ∧ (∀ k, ob so1_1 k → k ≠ l1) ∧ (∀ k, ob so1_1 k → k ≠ db1) ∧ (∀ k, ob so1_1 k → k ≠ bI1)) (fun _ => False) w7 hbI1 ⟨none, 0, F7, (by omega), (((((((hT.ext Eb21).ext Eb22).ext E1).ext Eb23).ext E2).ext E3).ext ER1), ((((((B21.ext Eb22).ext E1).ext Eb23).ext E2).ext E3).ext ER1), (((((B22.ext E1).ext Eb23).ext E2).ext E3).ext ER1), (((B23.ext E2).ext E3).ext ER1), (BW1.ext ER1), (BW2.ext ER1), HL1, HD1, (((OwnS.nil w5 3 1).ext E3).ext ER1), (fun _ h => ob_none h), (fun _ h => ob_none h), (fun _ h => ob_none h), (fun _ h => ob_none h), (fun _ h => ob_none h), (fun _ h => ob_none h), (fun _ h => ob_none h), (fun _ h => ob_none h), (fun _ h => ob_none h), (fun _ h => ob_none h)⟩ (by rintro i w ⟨so1_1, co1_1, FW1, hzW1, BL1_800, BL1_21, BL1_22, BL1_23, BL1_10, BL1_11, BL1_901, BL1_902, ow1L_1, ge1L_1, ne1L_1_800, ne1L_1_21, ne1L_1_22, ne1L_1_23, ne1L_1_10, ne1L_1_11, ne1L_1_901, ne1L_1_902, ne1L_1_900⟩; exact ⟨BL1_10, BL1_11, BL1_800⟩) (by rintro i w ⟨so1_1, co1_1, FW1, hzW1, BL1_800, BL1_21, BL1_22, BL1_23, BL1_10, BL1_11, BL1_901, BL1_902, ow1L_1, ge1L_1, ne1L_1_800, ne1L_1_21, ne1L_1_22, ne1L_1_23, ne1L_1_10, ne1L_1_11, ne1L_1_901, ne1L_1_902, ne1L_1_900⟩; exact (Fr.between F7 FW1 hzW1).mono (fun _ _ _ => trivial)) (by intro w h; exact h.elim) ?_) (fun _ _ h => h) ?_
      ·
        rintro i w8 w9 cs1 sx kx hi1 ⟨so1_1, co1_1, FW1, hzW1, BL1_800, BL1_21, BL1_22, BL1_23, BL1_10, BL1_11, BL1_901, BL1_902, ow1L_1, ge1L_1, ne1L_1_800, ne1L_1_21, ne1L_1_22, ne1L_1_23, ne1L_1_10, ne1L_1_11, ne1L_1_901, ne1L_1_902, ne1L_1_900⟩ E1r B1r
        have F8 := FW1.set E1r (by omega)
        have hz1r := E1r.size
        have hlI1 := (B1r).lt
        refine yd_round hRC1 (BL1_901.ne E1r (by omega)) rfl ?_
        have hil := (List.getElem?_eq_some_iff.1 hi1).1
        refine wk_region ?_
        refine lx_new (want rfl) (rn_alloc ze_82) ?_
        intro b24 w10 hb24 Eb24 B24 hlb24
        have F9 := F8.ext Eb24
        have hzb24 := Eb24.size
        have nb1 : ∀ k, ob so1_1 k → k ≠ b24 := fun k hk => by have := (ow1L_1).lt hk; omega
        refine lx_set (want rfl) sz_82 rfl rfl rfl rfl rfl B24 (Nat.le_of_ble_eq_true rfl) ?_
        intro w11 Es1 Bs1
        have F10 := F9.set Es1 (by omega)
        have hzs1 := Es1.size
        refine lx_nil ?_
        refine ⟨rfl, (((BL1_901.ne E1r (by omega)).ext Eb24).ne Es1 (by omega)), fun w12 E4 HBE4 => ?_⟩
        have F11 := F10.set E4 (by omega)
        have hz4 := E4.size
        refine wk_block ?_
        refine wk_region ?_
        refine lx_value (want rfl) (rn_load1Blk ag_28 ((hR1 6).trans rfl) ((((BL1_21.ne E1r (by omega)).ext Eb24).ne Es1 (by omega)).ne E4 (by omega)) rfl) ?_
        refine lx_value (want rfl) (rn_fieldAddr fa_82_0 rfl) ?_
        refine lx_value (want rfl) (rn_load1Blk ag_3 rfl (Bs1.ne E4 (by omega)) rfl) ?_
        refine lx_newS (want rfl) (rn_bslice (xs := [.tmp 29]) Tryd.underlying28 sz_3 ze_3 rfl (argsC (t_int rfl) args0) (CL.cons rfl rfl CL.nil) rfl (Nat.le_of_ble_eq_true rfl)) ?_
        intro b25 w13 hb25 Eb25 B25 hlb25
        have F12 := F11.ext Eb25
        have hzb25 := Eb25.size
        have nb2 : ∀ k, ob so1_1 k → k ≠ b25 := fun k hk => by have := (ow1L_1).lt hk; omega
        refine lx_append 8 (want rfl) Tryd.underlying28 ti_3 (by decide) rfl (by decide) rfl rfl (((((ow1L_1.ne E1r (fun h => ne1L_1_900 _ h rfl)).ext Eb24).ne Es1 (fun h => nb1 _ h rfl)).ne E4 (fun h => ne1L_1_901 _ h rfl)).ext Eb25) (Src.blk B25 rfl rfl) (by omega) ?_
        intro sq2 cq2 w14 AP2
        have EA2 := AP2.fr
        have ow2 := AP2.own
        have ge2 : ∀ k, ob sq2 k → w0.heap.size ≤ k := fun k hk => (AP2.blk k hk).elim (ge1L_1 k) (fun h => Nat.le_trans F12.size h)
        have ne2_800 : ∀ k, ob sq2 k → k ≠ 1 := fun k hk => (AP2.blk k hk).elim (ne1L_1_800 k) (fun h => by have := ((((((BL1_800.ne E1r (by omega)).ext Eb24).ne Es1 (by omega)).ne E4 (by omega)).ext Eb25)).lt; omega)
        have ne2_21 : ∀ k, ob sq2 k → k ≠ b21 := fun k hk => (AP2.blk k hk).elim (ne1L_1_21 k) (fun h => by have := ((((((BL1_21.ne E1r (by omega)).ext Eb24).ne Es1 (by omega)).ne E4 (by omega)).ext Eb25)).lt; omega)
        have ne2_22 : ∀ k, ob sq2 k → k ≠ b22 := fun k hk => (AP2.blk k hk).elim (ne1L_1_22 k) (fun h => by have := ((((((BL1_22.ne E1r (by omega)).ext Eb24).ne Es1 (by omega)).ne E4 (by omega)).ext Eb25)).lt; omega)
        have ne2_23 : ∀ k, ob sq2 k → k ≠ b23 := fun k hk => (AP2.blk k hk).elim (ne1L_1_23 k) (fun h => by have := ((((((BL1_23.ne E1r (by omega)).ext Eb24).ne Es1 (by omega)).ne E4 (by omega)).ext Eb25)).lt; omega)
        have ne2_10 : ∀ k, ob sq2 k → k ≠ bw1 := fun k hk => (AP2.blk k hk).elim (ne1L_1_10 k) (fun h => by have := ((((((BL1_10.ne E1r (by omega)).ext Eb24).ne Es1 (by omega)).ne E4 (by omega)).ext Eb25)).lt; omega)
        have ne2_11 : ∀ k, ob sq2 k → k ≠ bw2 := fun k hk => (AP2.blk k hk).elim (ne1L_1_11 k) (fun h => by have := ((((((BL1_11.ne E1r (by omega)).ext Eb24).ne Es1 (by omega)).ne E4 (by omega)).ext Eb25)).lt; omega)
        have ne2_901 : ∀ k, ob sq2 k → k ≠ l1 := fun k hk => (AP2.blk k hk).elim (ne1L_1_901 k) (fun h => by have := ((HBE4.ext Eb25)).lt; omega)
        have ne2_902 : ∀ k, ob sq2 k → k ≠ db1 := fun k hk => (AP2.blk k hk).elim (ne1L_1_902 k) (fun h => by have := ((((((BL1_902.ne E1r (by omega)).ext Eb24).ne Es1 (by omega)).ne E4 (by omega)).ext Eb25)).lt; omega)
        have ne2_900 : ∀ k, ob sq2 k → k ≠ bI1 := fun k hk => (AP2.blk k hk).elim (ne1L_1_900 k) (fun h => by have := (((((B1r.ext Eb24).ne Es1 (by omega)).ne E4 (by omega)).ext Eb25)).lt; omega)
        have ne2_24 : ∀ k, ob sq2 k → k ≠ b24 := fun k hk => (AP2.blk k hk).elim (nb1 k) (fun h => by have := (((Bs1.ne E4 (by omega)).ext Eb25)).lt; omega)
        have ne2_25 : ∀ k, ob sq2 k → k ≠ b25 := fun k hk => (AP2.blk k hk).elim (nb2 k) (fun h => by have := (B25).lt; omega)
        have F13 := F12.new EA2 ge1L_1
        have hzA2 := EA2.size
        have BA2_800 := (((((BL1_800.ne E1r (by omega)).ext Eb24).ne Es1 (by omega)).ne E4 (by omega)).ext Eb25).fr EA2 (fun h => ne1L_1_800 _ h rfl)
        have BA2_21 := (((((BL1_21.ne E1r (by omega)).ext Eb24).ne Es1 (by omega)).ne E4 (by omega)).ext Eb25).fr EA2 (fun h => ne1L_1_21 _ h rfl)
        have BA2_22 := (((((BL1_22.ne E1r (by omega)).ext Eb24).ne Es1 (by omega)).ne E4 (by omega)).ext Eb25).fr EA2 (fun h => ne1L_1_22 _ h rfl)
        have BA2_23 := (((((BL1_23.ne E1r (by omega)).ext Eb24).ne Es1 (by omega)).ne E4 (by omega)).ext Eb25).fr EA2 (fun h => ne1L_1_23 _ h rfl)
        have BA2_10 := (((((BL1_10.ne E1r (by omega)).ext Eb24).ne Es1 (by omega)).ne E4 (by omega)).ext Eb25).fr EA2 (fun h => ne1L_1_10 _ h rfl)
        have BA2_11 := (((((BL1_11.ne E1r (by omega)).ext Eb24).ne Es1 (by omega)).ne E4 (by omega)).ext Eb25).fr EA2 (fun h => ne1L_1_11 _ h rfl)
        have BA2_901 := (HBE4.ext Eb25).fr EA2 (fun h => ne1L_1_901 _ h rfl)
        have BA2_902 := (((((BL1_902.ne E1r (by omega)).ext Eb24).ne Es1 (by omega)).ne E4 (by omega)).ext Eb25).fr EA2 (fun h => ne1L_1_902 _ h rfl)
        have BA2_900 := ((((B1r.ext Eb24).ne Es1 (by omega)).ne E4 (by omega)).ext Eb25).fr EA2 (fun h => ne1L_1_900 _ h rfl)
        have BA2_24 := ((Bs1.ne E4 (by omega)).ext Eb25).fr EA2 (fun h => nb1 _ h rfl)
        have BA2_25 := B25.fr EA2 (fun h => nb2 _ h rfl)
        refine lx_set (want rfl) sz_28 ((hR1 6).trans rfl) (t_slice rfl) rfl rfl rfl BA2_21 (Nat.le_of_ble_eq_true rfl) ?_
        intro w15 Es2 Bs2
        have F14 := F13.set Es2 (by omega)
        have hzs2 := Es2.size
        refine lx_nil ?_
        refine ⟨(BA2_901.ne Es2 (by omega)), fun w16 E5 HRE5 => ?_⟩
        have F15 := F14.set E5 (by omega)
        have hz5 := E5.size
        exact ⟨(by omega), ((BA2_900.ne Es2 (by omega)).ne E5 (by omega)), (show Nx _ _ true from ⟨sq2, cq2, F15, (by omega), ((BA2_800.ne Es2 (by omega)).ne E5 (by omega)), (Bs2.ne E5 (by omega)), ((BA2_22.ne Es2 (by omega)).ne E5 (by omega)), ((BA2_23.ne Es2 (by omega)).ne E5 (by omega)), ((BA2_10.ne Es2 (by omega)).ne E5 (by omega)), ((BA2_11.ne Es2 (by omega)).ne E5 (by omega)), HRE5, ((BA2_902.ne Es2 (by omega)).ne E5 (by omega)), (way_snoc (way_at hpa8 hpb8 hi1) ((ow2.ne Es2 (fun h => ne2_21 _ h rfl)).ne E5 (fun h => ne2_901 _ h rfl))), ge2, ne2_800, ne2_21, ne2_22, ne2_23, ne2_10, ne2_11, ne2_901, ne2_902, ne2_900⟩)⟩
      ·
        rintro v w9 - (⟨w8, ⟨so1_1, co1_1, FW1, hzW1, BL1_800, BL1_21, BL1_22, BL1_23, BL1_10, BL1_11, BL1_901, BL1_902, ow1L_1, ge1L_1, ne1L_1_800, ne1L_1_21, ne1L_1_22, ne1L_1_23, ne1L_1_10, ne1L_1_11, ne1L_1_901, ne1L_1_902, ne1L_1_900⟩, E1e⟩ | ⟨w8, hf, E1e⟩)
        ·
          have F16 := FW1.set E1e (by omega)
          have hz1e := E1e.size
          refine .inl ⟨(BL1_901.ne E1e (by omega)), fun w10 E1f => ?_⟩
          have F17 := F16.set E1f (by omega)
          have hz1f := E1f.size
          refine wk_seq ?_
          refine wk_region ?_
          refine lx_value (want rfl) (rn_load1Blk ag_28 ((hR1 6).trans rfl) ((BL1_21.ne E1e (by omega)).ne E1f (by omega)) rfl) ?_
          refine lx_set (want rfl) sz_28 ((hR1 6).trans rfl) (t_slice rfl) rfl rfl rfl ((BL1_21.ne E1e (by omega)).ne E1f (by omega)) (Nat.le_of_ble_eq_true rfl) ?_
          intro w11 Es3 Bs3
          have F18 := F17.set Es3 (by omega)
          have hzs3 := Es3.size
          refine lx_value (want rfl) (as_int rfl) ?_
          refine lx_nil ?_
          refine wk_ret ?_
          refine retM1 (((BL1_902.ne E1e (by omega)).ne E1f (by omega)).ne Es3 (by omega)) (fun w12 E6 => ?_)
          have F19 := F18.set E6 (by omega)
          have hz6 := E6.size
          refine retR2 Tryd.results17 (.cell ((hR1 6).trans rfl) (run_loadVar_blk1 ag_28 (Bs3.ne E6 (by omega)) rfl)) (.tmp (t_int rfl)) F19 ?_
          exact wayx_ok hd hpa hpb hsl ((((ow1L_1.ne E1e (fun h => ne1L_1_900 _ h rfl)).ne E1f (fun h => ne1L_1_901 _ h rfl)).ne Es3 (fun h => ne1L_1_21 _ h rfl)).ne E6 (fun h => ne1L_1_902 _ h rfl)) ge1L_1
        ·
          exact hf.elim
    ·
      refine lx_value (want rfl) (rn_not rfl) ?_
      refine lx_nil ?_
      refine wk_cond_t rfl ?_
      refine wk_seq ?_
      refine wk_region ?_
      refine lx_set (want rfl) sz_28 rfl (t_slice rfl) rfl rfl rfl ((((B21.ext Eb22).ext E1).ext Eb23).ext E2) (Nat.le_of_ble_eq_true rfl) ?_
      intro w6 Es4 Bs4
      have F20 := F5.set Es4 (by omega)
      have hzs4 := Es4.size
      refine lx_value (want rfl) (as_int rfl) ?_
      refine lx_nil ?_
      refine wk_ret ?_
      refine retM0 ?_
      refine retR2 Tryd.results17 (.cell rfl (run_loadVar_blk1 ag_28 Bs4 rfl)) (.tmp (t_int rfl)) F20 ?_
      exact way_none (way_no (by omega) (by have := not_sw h19; omega)) (by decide)
  ·
    refine lx_value (want rfl) (rn_not rfl) ?_
    refine lx_nil ?_
    refine wk_cond_t rfl ?_
    refine wk_seq ?_
    refine wk_region ?_
    refine lx_set (want rfl) sz_28 rfl (t_slice rfl) rfl rfl rfl ((B21.ext Eb22).ext E1) (Nat.le_of_ble_eq_true rfl) ?_
    intro w4 Es5 Bs5
    have F21 := F3.set Es5 (by omega)
    have hzs5 := Es5.size
    refine lx_value (want rfl) (as_int rfl) ?_
    refine lx_nil ?_
    refine wk_ret ?_
    refine retM0 ?_
    refine retR2 Tryd.results17 (.cell rfl (run_loadVar_blk1 ag_28 Bs5 rfl)) (.tmp (t_int rfl)) F21 ?_
    exact way_none (way_range (by have := not_one h11; omega)) (by decide)

set_option maxHeartbeats 1000000 in
theorem do1_ct (b dim : Nat) (r : Int) (s : Option Addr) (c : Nat) (T : List (TE Pk)) (L : List (List Pk)) (hm : T.map (·.2.2) = L) (hV : Valid dim r L) (a a2 : Int) (bp : Nat) (w0 : World) (hC : CubeP w0 b dim r s c T) (hT : Tb w0 1) (hT1 : ∀ k, tb s T k → k ≠ 1) (BP : Blk w0 bp [.int .i64 a, .int .i64 a2] 45) (hbp : ∀ k, tb s T k → k ≠ bp) :
    CT Tryd.prog 60 [.pointer (some ⟨b, 0, none⟩), .pointer (some ⟨bp, 0, none⟩)] w0 (tb s T) (fun v w => ChgQ w0 b dim r s T (doO dim r L a a2) (doE dim r L a a2) (doL dim r L a a2) v w) := by
  have hd := hV.hd
  have h28 := pow2_le dim (Nat.le_refl _) hd
  have hbl := hC.blk.lt
  have hTl := hT.lt
  have hBPl := BP.lt
  have hnL := hV.len
  have h21 := Nat.one_le_two_pow (n := dim)
  have F0 := Fr.refl (tb s T) w0
  have tge : ∀ k, (tb s T) k → (tb s T) k ∨ w0.heap.size ≤ k := fun k h => .inl h
  refine ct_body Tryd.func60 rfl Tryd.ntmps60 (Nat.le_of_ble_eq_true rfl) ?_
  refine wk_seq ?_
  refine wk_region ?_
  refine lx_value (want rfl) (as_slice rfl) ?_
  refine lx_value (want rfl) (as_int rfl) ?_
  refine lx_nil ?_
  refine wk_seq ?_
  refine wk_seq ?_
  refine wk_mix 18 (fun kS => match kS with | 5 => .any (fun I v w => ∃ b, v = .slice (some ⟨b, 0, none⟩) 1 1 ∧ w0.heap.size ≤ b ∧ (I.1 ≤ b ∧ b < I.2) ∧ Blk w b [.int .i64 a] 3) | 6 => .val (.bool (inB 0 ((2 ^ dim - 1 : Nat) : Int) [a])) | 16 => .any (fun I v w => ∃ b, v = .slice (some ⟨b, 0, none⟩) 1 1 ∧ w0.heap.size ≤ b ∧ (I.1 ≤ b ∧ b < I.2) ∧ Blk w b [.int .i64 a2] 3) | 17 => .val (.bool (inB 0 (dim : Int) [a2])) | _ => .none) (by kernel_rfl) (by kernel_rfl) (by intro kS G hk; (try dsimp only at hk); (split at hk) <;> first | (cases hk; done) | (injection hk with hk; subst hk; exact ⟨by intro j hkj I v w w' hR hG; first | exact hG | (obtain ⟨b, h1, h2, hI, h3⟩ := hG; exact ⟨b, h1, h2, hI, h3.ext hR⟩) | (obtain ⟨b, h1, h2, hI, h3⟩ := hG; exact ⟨b, h1, h2, hI, h3.ext hR⟩), fun ⟨_, _, _, _, hs⟩ => by (try dsimp only at hs); split at hs <;> cases hs⟩)) (by intro kS s y G hk; (try dsimp only at hk); split at hk <;> cases hk) ?_
  simp only [List.take_succ_cons, List.take_zero, List.take_nil, List.drop_succ_cons, List.drop_zero, List.drop_nil]
  refine mx_calm rfl (want rfl) (fun u1 eu1 fu1 => mv_pointer rfl) ?_
  refine mx_calm rfl (want rfl) (fun u2 eu2 fu2 => rn_nilCheck rfl) ?_
  refine mx_calm rfl (want rfl) (fun u3 eu3 fu3 => rn_loadBlk ag_76 sz_76 rfl (hC.blk.ext ((ext_drawn _).trans' eu3)) rfl rfl) ?_
  refine mx_calm rfl (want rfl) (fun u4 eu4 fu4 => rn_fieldAddr fa_45_0 rfl) ?_
  refine mx_calm rfl (want rfl) (fun u5 eu5 fu5 => rn_load1Blk ag_3 rfl (BP.ext ((ext_drawn _).trans' eu5)) rfl) ?_
  refine mx_any rfl rfl (want rfl) (fun u6 eu6 fu6 => (do_newS2 (rn_bslice (xs := [.tmp 11]) Tryd.underlying28 sz_3 ze_3 rfl (argsC (t_int rfl) args0) (CL.cons rfl rfl CL.nil) rfl (Nat.le_of_ble_eq_true rfl)) (show _ ≤ _ from (((ext_drawn _).trans' eu6)).size)).mono (fun v w' h => ⟨h.1, h.2⟩)) (fun I12 v12 => ?_)
  refine mx_val rfl (want rfl) (fun u7 eu7 fu7 => by obtain ⟨bA, rfl, hbA, _, hBA⟩ := fu7 12 _ rfl (show (12 : Nat) ∈ _ from by decide); exact do_call (ent_func cf_48 (argsC (t_agg rfl) (argsC (t_slice rfl) args0))) (isswitch_ct dim r _ _ _ hd [a] _ _ _ u7 (blk_ints [a] hBA) (by simp)) (fun _ _ E h => ⟨E, h⟩)) ?_
  refine mx_split (fun h13 => ?_) (fun h13 => ?_)
  ·
    refine mx_calm rfl (want rfl) (fun u8 eu8 fu8 => rn_not rfl) ?_
    refine mx_calm rfl (want rfl) (fun u9 eu9 fu9 => mv_bool rfl) ?_
    refine mx_calm rfl (want_if (j := 8) (d := 15) (x := false) (y := false) rfl rfl (by decide) rfl) (fun u10 eu10 fu10 => mv_pointer rfl) ?_
    refine mx_calm rfl (want_if (j := 8) (d := 15) (x := false) (y := false) rfl rfl (by decide) rfl) (fun u11 eu11 fu11 => rn_nilCheck rfl) ?_
    refine mx_calm rfl (want_if (j := 8) (d := 15) (x := false) (y := false) rfl rfl (by decide) rfl) (fun u12 eu12 fu12 => rn_fieldAddr fa_76_0 rfl) ?_
    refine mx_calm rfl (want_if (j := 8) (d := 15) (x := false) (y := false) rfl rfl (by decide) rfl) (fun u13 eu13 fu13 => rn_fieldAddr fa_24_0 rfl) ?_
    refine mx_calm rfl (want_if (j := 8) (d := 15) (x := false) (y := false) rfl rfl (by decide) rfl) (fun u14 eu14 fu14 => rn_load1Blk ag_3 rfl (hC.blk.ext ((ext_drawn _).trans' eu14)) rfl) ?_
    refine mx_calm rfl (want_if (j := 8) (d := 15) (x := false) (y := false) rfl rfl (by decide) rfl) (fun u15 eu15 fu15 => rn_fieldAddr fa_45_1 rfl) ?_
    refine mx_calm rfl (want_if (j := 8) (d := 15) (x := false) (y := false) rfl rfl (by decide) rfl) (fun u16 eu16 fu16 => rn_load1Blk ag_3 rfl (BP.ext ((ext_drawn _).trans' eu16)) rfl) ?_
    refine mx_any rfl rfl (want_if (j := 8) (d := 15) (x := false) (y := false) rfl rfl (by decide) rfl) (fun u17 eu17 fu17 => (do_newS2 (rn_bslice (xs := [.tmp 22]) Tryd.underlying28 sz_3 ze_3 rfl (argsC (t_int rfl) args0) (CL.cons rfl rfl CL.nil) rfl (Nat.le_of_ble_eq_true rfl)) (show _ ≤ _ from (((ext_drawn _).trans' eu17)).size)).mono (fun v w' h => ⟨h.1, h.2⟩)) (fun I23 v23 => ?_)
    refine mx_val rfl (want_if (j := 8) (d := 15) (x := false) (y := false) rfl rfl (by decide) rfl) (fun u18 eu18 fu18 => by obtain ⟨bC, rfl, hbC, _, hBC⟩ := fu18 23 _ rfl (show (23 : Nat) ∈ _ from by decide); exact do_call (ent_func cf_47 (argsC (t_int rfl) (argsC (t_int rfl) (argsC (t_slice rfl) args0)))) (within_ct 0 dim [a2] _ _ _ u18 (blk_ints [a2] hBC) (by simp)) (fun _ _ E h => ⟨E, h⟩)) ?_
    refine mx_split (fun h24 => ?_) (fun h24 => ?_)
    ·
      obtain ⟨ha0, ha1⟩ := in_one h13
      obtain ⟨hb0, hb1⟩ := in_one h24
      obtain ⟨na, rfl⟩ : ∃ k : Nat, a = (k : Int) := ⟨a.toNat, by omega⟩
      obtain ⟨nb, rfl⟩ : ∃ k : Nat, a2 = (k : Int) := ⟨a2.toNat, by omega⟩
      have hna : na < 2 ^ dim := by omega
      have hnb : nb ≤ dim := by omega
      have hat := at_lt hna hnb
      obtain ⟨l, hl⟩ : ∃ l, L[na * (dim + 1) + nb]? = some l := ⟨_, List.getElem?_eq_getElem (by omega)⟩
      refine mx_nil (fun w1 E1' H1 HS => ?_)
      have E1 := (ext_drawn _).trans' E1'
      have F1 := F0.ext E1
      have hz1 := E1.size
      have hI23 := (HS.1 23 _ rfl).2
      have hI12 := (HS.1 12 _ rfl).2
      have hX23_12 := HS.2 23 _ 12 _ rfl rfl (show (23 : Nat) ≠ 12 from by decide)
      simp only at hI23
      simp only at hI12
      simp only at hX23_12
      have g23 := H1 23 _ rfl
      obtain ⟨bC, rfl, hbbC, hibC, hBbC⟩ := g23
      have g12 := H1 12 _ rfl
      obtain ⟨bA, rfl, hbbA, hibA, hBbA⟩ := g12
      refine lx_value (want_if (j := 8) (d := 15) (x := false) (y := false) rfl rfl (by decide) rfl) (rn_not rfl) ?_
      refine lx_value (want rfl) (pick_f rfl rfl) ?_
      refine lx_nil ?_
      refine wk_cond_f rfl ?_
      refine wk_skip ?_
      refine wk_seq ?_
      refine wk_region ?_
      refine lx_value (want rfl) (rn_fieldAddr fa_45_0 rfl) ?_
      refine lx_value (want rfl) (rn_load1Blk ag_3 rfl (BP.ext E1) rfl) ?_
      refine lx_value (want rfl) (rn_fieldAddr fa_45_1 rfl) ?_
      refine lx_value (want rfl) (rn_load1Blk ag_3 rfl (BP.ext E1) rfl) ?_
      refine lx_value (want rfl) (rn_build2 (t_int rfl) (t_int rfl) (fun w => bd_82_0_1 _ _ w)) ?_
      refine lx_new (want rfl) (rn_alloc ze_82) ?_
      intro b21 w2 hb21 Eb21 B21 hlb21
      have F2 := F1.ext Eb21
      have hzb21 := Eb21.size
      have nb1 : ∀ k, tb s T k → k ≠ b21 := fun k hk => by have := (hC.tab).lt hk; omega
      refine lx_set (want rfl) sz_82 rfl (t_agg rfl) rfl rfl rfl B21 (Nat.le_of_ble_eq_true rfl) ?_
      intro w3 Es1 Bs1
      have F3 := F2.set Es1 (by omega)
      have hzs1 := Es1.size
      refine lx_nil ?_
      refine wk_seq ?_
      refine wk_seq ?_
      refine wk_region ?_
      refine lx_value (want rfl) (mv_pointer rfl) ?_
      refine lx_value (want rfl) (rn_loadBlk ag_82 sz_82 rfl Bs1 rfl rfl) ?_
      refine lx_call (want rfl) (ent_func cf_61 (argsC (t_pointer rfl) (argsC (t_agg rfl) args0))) (ccan_ct b dim r s c T L hm hV na nb (by omega) hnb l hl w3 ⟨(((hC.blk.ext E1).ext Eb21).ne Es1 (by omega)), (((hC.tab.ext E1).ext Eb21).fr Es1 (fun k hk h => nb1 k hk h)), hC.ne⟩ (((hT.ext E1).ext Eb21).ne Es1 (by omega))) ?_
      rintro _ w4 E2 rfl
      have F4 := F3.ext E2
      have hz2 := E2.size
      refine lx_value (want rfl) (as_int rfl) ?_
      refine lx_nil ?_
      refine wk_seq ?_
      refine wk_region ?_
      refine lx_value (want rfl) (mv_int rfl) ?_
      refine lx_value (want rfl) (rn_neq rfl rfl) ?_
      refine lx_dec (fun h36 => ?_) (fun h36 => ?_)
      ·
        refine lx_nil ?_
        refine wk_cond_t rfl ?_
        refine wk_seq ?_
        refine wk_region ?_
        refine lx_value (want rfl) (mv_int rfl) ?_
        refine lx_value (want rfl) (as_slice rfl) ?_
        refine lx_value (want rfl) (as_int rfl) ?_
        refine lx_nil ?_
        refine wk_ret ?_
        refine retR2 Tryd.results60 (.tmp (t_slice rfl)) (.tmp (t_int rfl)) F4 ?_
        exact do1_no (doE_can hV hna hnb hl) h36 ⟨((((hC.blk.ext E1).ext Eb21).ne Es1 (by omega)).ext E2), ((((hC.tab.ext E1).ext Eb21).fr Es1 (fun k hk h => nb1 k hk h)).ext E2), hC.ne⟩ hm
      ·
        have hcz := Decidable.not_not.1 h36
        obtain ⟨p1, p2, p3, q, rfl⟩ := can_cons hl hcz
        refine lx_nil ?_
        refine wk_cond_f rfl ?_
        refine wk_skip ?_
        refine wk_seq ?_
        refine wk_region ?_
        refine lx_value (want rfl) (mv_pointer rfl) ?_
        refine lx_value (want rfl) (rn_loadBlk ag_82 sz_82 rfl (Bs1.ext E2) rfl rfl) ?_
        refine lx_call (want rfl) (ent_func cf_62 (argsC (t_pointer rfl) (argsC (t_agg rfl) args0))) (move_ct b dim r s c T L hm hV na nb (by omega) hnb p1 p2 p3 q hl w4 ⟨((((hC.blk.ext E1).ext Eb21).ne Es1 (by omega)).ext E2), ((((hC.tab.ext E1).ext Eb21).fr Es1 (fun k hk h => nb1 k hk h)).ext E2), hC.ne⟩ ((((hT.ext E1).ext Eb21).ne Es1 (by omega)).ext E2) hT1) ?_
        rintro _ w5 E3 ⟨T2, so, co, rfl, hC2, hm2, hG2, hP2⟩
        have F5 := F4.new' E3 (fun k h => tge k h)
        have hz3 := E3.size
        have tg1 : ∀ k, tb s T2 k → (tb s T) k ∨ w0.heap.size ≤ k := fun k hk => (hG2 k hk).elim (tge k) (fun h => .inr (by omega))
        have tn1_1 : ∀ k, tb s T2 k → k ≠ b := fun k hk => (hG2 k hk).elim (hC.ne k) (fun h => by have := (hC2.blk).lt; omega)
        have tn1_2 : ∀ k, tb s T2 k → k ≠ bp := fun k hk => (hG2 k hk).elim (hbp k) (fun h => by have := (BP).lt; omega)
        have tn1_800 : ∀ k, tb s T2 k → k ≠ 1 := fun k hk => (hG2 k hk).elim (hT1 k) (fun h => by have := (hT).lt; omega)
        have tn1_21 : ∀ k, tb s T2 k → k ≠ b21 := fun k hk => (hG2 k hk).elim (nb1 k) (fun h => by have := (Bs1).lt; omega)
        refine lx_value (want rfl) (as_slice rfl) ?_
        refine lx_value (want rfl) (as_int rfl) ?_
        refine lx_nil ?_
        refine wk_ret ?_
        refine retR2 Tryd.results60 (.tmp (t_slice rfl)) (.tmp (t_int rfl)) F5 ?_
        exact do1_ok hV hna hnb hl hcz ⟨T2, so, co, rfl, ⟨hC2.blk, hC2.tab, tn1_1⟩, hm2, tg1, hP2.wide (fun k hk => ⟨by have := hk.1; omega, hk.2⟩)⟩
    ·
      refine mx_nil (fun w1 E4' H2 HS => ?_)
      have E4 := (ext_drawn _).trans' E4'
      have F6 := F0.ext E4
      have hz4 := E4.size
      have hI23 := (HS.1 23 _ rfl).2
      have hI12 := (HS.1 12 _ rfl).2
      have hX23_12 := HS.2 23 _ 12 _ rfl rfl (show (23 : Nat) ≠ 12 from by decide)
      simp only at hI23
      simp only at hI12
      simp only at hX23_12
      have g23 := H2 23 _ rfl
      obtain ⟨bC, rfl, hbbC, hibC, hBbC⟩ := g23
      have g12 := H2 12 _ rfl
      obtain ⟨bA, rfl, hbbA, hibA, hBbA⟩ := g12
      refine lx_value (want_if (j := 8) (d := 15) (x := false) (y := false) rfl rfl (by decide) rfl) (rn_not rfl) ?_
      refine lx_value (want rfl) (pick_f rfl rfl) ?_
      refine lx_nil ?_
      refine wk_cond_t rfl ?_
      refine wk_seq ?_
      refine wk_region ?_
      refine lx_value (want rfl) (as_slice rfl) ?_
      refine lx_value (want rfl) (as_int rfl) ?_
      refine lx_nil ?_
      refine wk_ret ?_
      refine retR2 Tryd.results60 (.tmp (t_slice rfl)) (.tmp (t_int rfl)) F6 ?_
      exact do1_no (do_out hV (.inr h24)) (by decide) ⟨(hC.blk.ext E4), (hC.tab.ext E4), hC.ne⟩ hm
  ·
    refine mx_calm rfl (want rfl) (fun u19 eu19 fu19 => rn_not rfl) ?_
    refine mx_calm rfl (want rfl) (fun u20 eu20 fu20 => mv_bool rfl) ?_
    refine mx_skip (want_if (j := 8) (d := 15) (x := false) (y := true) rfl rfl (by decide) rfl) ?_
    refine mx_skip (want_if (j := 8) (d := 15) (x := false) (y := true) rfl rfl (by decide) rfl) ?_
    refine mx_skip (want_if (j := 8) (d := 15) (x := false) (y := true) rfl rfl (by decide) rfl) ?_
    refine mx_skip (want_if (j := 8) (d := 15) (x := false) (y := true) rfl rfl (by decide) rfl) ?_
    refine mx_skip (want_if (j := 8) (d := 15) (x := false) (y := true) rfl rfl (by decide) rfl) ?_
    refine mx_skip (want_if (j := 8) (d := 15) (x := false) (y := true) rfl rfl (by decide) rfl) ?_
    refine mx_skip (want_if (j := 8) (d := 15) (x := false) (y := true) rfl rfl (by decide) rfl) ?_
    refine mx_skip (want_if (j := 8) (d := 15) (x := false) (y := true) rfl rfl (by decide) rfl) ?_
    refine mx_skip (want_if (j := 8) (d := 15) (x := false) (y := true) rfl rfl (by decide) rfl) ?_
    refine mx_nil (fun w1 E5' H3 HS => ?_)
    have E5 := (ext_drawn _).trans' E5'
    have F7 := F0.ext E5
    have hz5 := E5.size
    have hI12 := (HS.1 12 _ rfl).2
    simp only at hI12
    have g12 := H3 12 _ rfl
    obtain ⟨bA, rfl, hbbA, hibA, hBbA⟩ := g12
    refine lx_skip (want_if (j := 8) (d := 15) (x := false) (y := true) rfl rfl (by decide) rfl) ?_
    refine lx_value (want rfl) (pick_t rfl rfl) ?_
    refine lx_nil ?_
    refine wk_cond_t rfl ?_
    refine wk_seq ?_
    refine wk_region ?_
    refine lx_value (want rfl) (as_slice rfl) ?_
    refine lx_value (want rfl) (as_int rfl) ?_
    refine lx_nil ?_
    refine wk_ret ?_
    refine retR2 Tryd.results60 (.tmp (t_slice rfl)) (.tmp (t_int rfl)) F7 ?_
    exact do1_no (do_out hV (.inl h13)) (by decide) ⟨(hC.blk.ext E5), (hC.tab.ext E5), hC.ne⟩ hm

end Go.Proofs.YtlfclnkoimfhmaaDoor

/- The walk of the law CubeWays. -/
import Derived.Test.YtlfclnkoimfhmaaDoorFacts
import Derived.Test.YtlfclnkoimfhmaaDoorPre
import Derived.Test.YtlfclnkoimfhmaaDoorPreB
import Derived.Test.YtlfclnkoimfhmaaDoorWalk1
import Derived.Test.YtlfclnkoimfhmaaDoorWalk18
import Derived.Test.YtlfclnkoimfhmaaDoorWalk8
set_option maxRecDepth 100000
set_option linter.unusedVariables false
set_option linter.unusedSimpArgs false
namespace Go.Proofs.YtlfclnkoimfhmaaDoor
open Go Go.RowKit Go.Mix Go.Eng
theorem cf_21 : ∀ args w, (callFunc 21 args).run Tryd.prog w = .ok (.enter 21 args) w := fun _ _ => by kernel_rfl
set_option maxHeartbeats 2000000 in
set_option maxRecDepth 100000 in
theorem cubeways_ct (d a b : Nat) (hd0 : d < 256) (ha0 : a < 256) (hb0 : b < 256) (w0 : World) (hT : Tb w0 1) :
    CT Tryd.prog 8 [.int .u8 d, .int .u8 a, .int .u8 b] w0 no (fun v _ => v = .bool true) := by
  have hTl := hT.lt
  have hd : d % 4 ≤ 3 := by omega
  have hp8 := pow2_le (d % 4) (Nat.le_refl _) hd
  have hp0 := Nat.two_pow_pos (d % 4)
  have hf := Nat.mod_lt a hp0
  have ht := Nat.mod_lt b hp0
  have hwe := wayR_in hd hf ht
  have hlen := way_size (a % 2 ^ (d % 4)) (b % 2 ^ (d % 4))
  have hcl3 := cnt_le (a % 2 ^ (d % 4)) (b % 2 ^ (d % 4))
  have hf8 : (a % 2 ^ (d % 4)) < 8 := by omega
  have ht8 : (b % 2 ^ (d % 4)) < 8 := by omega
  have hx8 := xor_lt8 hf8 ht8
  have F0 := Fr.refl no w0
  refine ct_body Tryd.func8 rfl Tryd.ntmps8 (Nat.le_of_ble_eq_true rfl) ?_
  refine wk_seq ?_
  refine wk_region ?_
  refine lx_value (want rfl) (as_bool rfl) ?_
  refine lx_nil ?_
  refine wk_seq ?_
  refine wk_region ?_
  refine lx_value (want rfl) (mv_int rfl) ?_
  refine lx_value (want rfl) (rn_conv Tryd.underlying5 Tryd.underlying3 rfl (wrap64_nat (by omega))) ?_
  refine lx_value (want rfl) (rn_remN rfl (n := 4) rfl (by omega)) ?_
  refine lx_value (want rfl) (as_int rfl) ?_
  refine lx_nil ?_
  refine wk_seq ?_
  refine wk_mix 11 (fun kS => match kS with | 3 => .val (.int .i64 ((2 ^ (d % 4) : Nat) : Int)) | 8 => .val (.int .i64 ((2 ^ (d % 4) : Nat) : Int)) | _ => .none) (by kernel_rfl) (by kernel_rfl) (by intro kS G hk; (try dsimp only at hk); (split at hk) <;> first | (cases hk; done) | (injection hk with hk; subst hk; exact ⟨by intro j hkj I v w w' hR hG; first | exact hG, fun ⟨_, _, _, _, hs⟩ => by (try dsimp only at hs); split at hs <;> cases hs⟩)) (by intro kS s y G hk; (try dsimp only at hk); split at hk <;> cases hk) ?_
  simp only [List.take_succ_cons, List.take_zero, List.take_nil, List.drop_succ_cons, List.drop_zero, List.drop_nil]
  refine mx_calm rfl (want rfl) (fun u1 eu1 fu1 => mv_int rfl) ?_
  refine mx_calm rfl (want rfl) (fun u2 eu2 fu2 => rn_conv Tryd.underlying5 Tryd.underlying3 rfl (wrap64_nat (by omega))) ?_
  refine mx_calm rfl (want rfl) (fun u3 eu3 fu3 => mv_int rfl) ?_
  refine mx_val rfl (want rfl) (fun u4 eu4 fu4 => do_call (ent_func cf_37 (argsC (t_int rfl) args0)) (switches_ct (d % 4) hd u4) (fun _ _ E h => ⟨E, h⟩)) ?_
  refine mx_calm rfl (want rfl) (fun u5 eu5 fu5 => rn_remN rfl rfl hp0) ?_
  refine mx_calm rfl (want rfl) (fun u6 eu6 fu6 => mv_int rfl) ?_
  refine mx_calm rfl (want rfl) (fun u7 eu7 fu7 => rn_conv Tryd.underlying5 Tryd.underlying3 rfl (wrap64_nat (by omega))) ?_
  refine mx_calm rfl (want rfl) (fun u8 eu8 fu8 => mv_int rfl) ?_
  refine mx_val rfl (want rfl) (fun u9 eu9 fu9 => do_call (ent_func cf_37 (argsC (t_int rfl) args0)) (switches_ct (d % 4) hd u9) (fun _ _ E h => ⟨E, h⟩)) ?_
  refine mx_calm rfl (want rfl) (fun u10 eu10 fu10 => rn_remN rfl rfl hp0) ?_
  refine mx_calm rfl (want rfl) (fun u11 eu11 fu11 => as_int rfl) ?_
  refine mx_nil (fun w1 E1' H1 HS => ?_)
  have E1 := (ext_drawn _).trans' E1'
  have F1 := F0.ext E1
  have hz1 := E1.size
  refine lx_value (want rfl) (as_int rfl) ?_
  refine lx_nil ?_
  refine wk_seq ?_
  refine wk_region ?_
  refine lx_value (want rfl) (mv_int rfl) ?_
  refine lx_value (want rfl) (mv_int rfl) ?_
  refine lx_value (want rfl) (mv_int rfl) ?_
  refine lx_call (want rfl) (ent_func cf_17 (argsC (t_int rfl) (argsC (t_int rfl) (argsC (t_int rfl) args0)))) (xway_ct (d % 4 : Nat) ((a % 2 ^ (d % 4)) : Nat) ((b % 2 ^ (d % 4)) : Nat) w1 (hT.ext E1)) ?_
  rintro _ w2 E2 ⟨_, rfl, hW⟩
  have F2 := F1.ext E2
  have hz2 := E2.size
  rw [hwe.2] at hW
  obtain ⟨sW, cW, rfl, hW⟩ := hW
  obtain ⟨bw, ow, hsw, hfw, hcw⟩ := hW 0 _ (way_zero _ _)
  obtain ⟨bw2, ow2, hsw2, _, hcl⟩ := hW _ _ (way_last hf8 ht8)
  subst hsw
  cases hsw2
  refine lx_value (want rfl) (mv_tuple rfl) ?_
  refine lx_value (want rfl) (rn_extract rfl rfl) ?_
  refine lx_value (want rfl) (rn_extract rfl rfl) ?_
  refine lx_value (want rfl) (as_slice rfl) ?_
  refine lx_value (want rfl) (as_int rfl) ?_
  refine lx_nil ?_
  refine wk_seq ?_
  refine wk_seq ?_
  refine wk_region ?_
  refine lx_value (want rfl) (mv_int rfl) ?_
  refine lx_value (want rfl) (rn_neq rfl rfl) ?_
  refine lx_dec_f ((fun h => h hwe.1)) ?_
  refine lx_value (want rfl) (mv_bool rfl) ?_
  refine lx_value (want_if (j := 2) (d := 40) (x := false) (y := false) rfl rfl (by decide) rfl) (mv_slice rfl) ?_
  refine lx_value (want_if (j := 2) (d := 40) (x := false) (y := false) rfl rfl (by decide) rfl) (rn_len Tryd.underlying28 rfl) ?_
  refine lx_value (want_if (j := 2) (d := 40) (x := false) (y := false) rfl rfl (by decide) rfl) (rn_eql rfl rfl) ?_
  refine lx_dec_f ((by omega)) ?_
  refine lx_value (want rfl) (pick_f rfl rfl) ?_
  refine lx_value (want rfl) (mv_bool rfl) ?_
  refine lx_value (want_if (j := 7) (d := 45) (x := false) (y := false) rfl rfl (by decide) rfl) (mv_slice rfl) ?_
  refine lx_value (want_if (j := 7) (d := 45) (x := false) (y := false) rfl rfl (by decide) rfl) (rn_index 0 Tryd.underlying28 sz_3 rfl rfl rfl (by omega)) ?_
  refine lx_value (want_if (j := 7) (d := 45) (x := false) (y := false) rfl rfl (by decide) rfl) (rn_load1 ag_3 rfl ((Fr.refl no w2).cell (fun h => by first | exact h | (have := hfw.1; have := hfw.2; dsimp only at h; omega)) (hcw 0 _ rfl))) ?_
  refine lx_value (want_if (j := 7) (d := 45) (x := false) (y := false) rfl rfl (by decide) rfl) (mv_int rfl) ?_
  refine lx_value (want_if (j := 7) (d := 45) (x := false) (y := false) rfl rfl (by decide) rfl) (rn_neq rfl rfl) ?_
  refine lx_dec_f ((fun h => h rfl)) ?_
  refine lx_value (want rfl) (pick_f rfl rfl) ?_
  refine lx_value (want rfl) (mv_bool rfl) ?_
  refine lx_value (want_if (j := 14) (d := 52) (x := false) (y := false) rfl rfl (by decide) rfl) (mv_slice rfl) ?_
  refine lx_value (want_if (j := 14) (d := 52) (x := false) (y := false) rfl rfl (by decide) rfl) (mv_slice rfl) ?_
  refine lx_value (want_if (j := 14) (d := 52) (x := false) (y := false) rfl rfl (by decide) rfl) (rn_len Tryd.underlying28 rfl) ?_
  refine lx_value (want_if (j := 14) (d := 52) (x := false) (y := false) rfl rfl (by decide) rfl) (rn_subN rfl (n := 1) rfl ⟨by omega, by omega⟩) ?_
  refine lx_value (want_if (j := 14) (d := 52) (x := false) (y := false) rfl rfl (by decide) rfl) (rn_index (cnt (a % 2 ^ (d % 4)) (b % 2 ^ (d % 4))) Tryd.underlying28 sz_3 rfl rfl (by rw [hlen]; rfl) (by omega)) ?_
  refine lx_value (want_if (j := 14) (d := 52) (x := false) (y := false) rfl rfl (by decide) rfl) (rn_load1 ag_3 rfl ((Fr.refl no w2).cell (fun h => by first | exact h | (have := hfw.1; have := hfw.2; dsimp only at h; omega)) (hcl 0 _ rfl))) ?_
  refine lx_value (want_if (j := 14) (d := 52) (x := false) (y := false) rfl rfl (by decide) rfl) (mv_int rfl) ?_
  refine lx_value (want_if (j := 14) (d := 52) (x := false) (y := false) rfl rfl (by decide) rfl) (rn_neq rfl rfl) ?_
  refine lx_dec_f ((fun h => h rfl)) ?_
  refine lx_value (want rfl) (pick_f rfl rfl) ?_
  refine lx_nil ?_
  refine wk_cond_f rfl ?_
  refine wk_skip ?_
  refine wk_seq ?_
  refine wk_region ?_
  refine lx_value (want rfl) (mv_int rfl) ?_
  refine lx_value (want rfl) (as_int rfl) ?_
  refine lx_value (want rfl) (as_int rfl) ?_
  refine lx_nil ?_
  refine wk_seq ?_
  refine wk_seq ?_
  refine wk_region ?_
  refine lx_value (want rfl) (as_int rfl) ?_
  refine lx_nil ?_
  refine wk_block ?_
  refine wk_loopA [6, 12, 13, 14, 15, 63, 64, 65, 66, 67, 68, 69, 70, 71, 72, 73, 74, 75, 76, 77, 78, 79, 80, 81, 82, 83, 84, 85, 86, 87, 88, 89, 90, 91, 92, 93, 94, 95, 96, 97, 98, 99, 100, 101, 102, 103, 104] no (fun nM ρ w => ∃ (i : Nat), nM = (wayL (a % 2 ^ (d % 4)) (b % 2 ^ (d % 4))).length - i ∧ ρ 12 = .int .i64 (lastK (wayL (a % 2 ^ (d % 4)) (b % 2 ^ (d % 4))) i) ∧ ρ 13 = .int .i64 (atN (wayL (a % 2 ^ (d % 4)) (b % 2 ^ (d % 4))) (i - 1) : Nat) ∧ ρ 14 = .int .i64 i ∧ (1 ≤ i) ∧ (i ≤ (wayL (a % 2 ^ (d % 4)) (b % 2 ^ (d % 4))).length)) _ ⟨1, rfl, rfl, (at_zero _ _), rfl, by omega, by omega⟩ ?_
  rintro n1 ρ1 w3 A1 EL1 ⟨i, rfl, hs1_12, hs1_13, hs1_14, hi1, hi⟩
  have F3 := F2.ext EL1
  have hzL1 := EL1.size
  refine wk_seq ?_
  refine wk_seq ?_
  refine wk_region ?_
  refine lx_value (want rfl) (mv_int hs1_14) ?_
  refine lx_value (want rfl) (mv_slice (A1.at 10 rfl rfl)) ?_
  refine lx_value (want rfl) (rn_len Tryd.underlying28 rfl) ?_
  refine lx_value (want rfl) (rn_lss rfl rfl) ?_
  refine lx_dec (fun hlt => ?_) (fun hlt => ?_)
  ·
    obtain ⟨hq1, hq2, hq3, hk3, hxk, hlk, hbit⟩ := ways_at hf8 ht8 hi1 (by omega)
    obtain ⟨bw3, ow3, hsw3, _, hci⟩ := hW _ _ hq1
    cases hsw3
    refine lx_nil ?_
    refine wk_cond_t rfl ?_
    refine wk_skip ?_
    refine wk_seq ?_
    refine wk_block ?_
    refine wk_seq ?_
    refine wk_region ?_
    refine lx_value (want rfl) (as_int rfl) ?_
    refine lx_nil ?_
    refine wk_seq ?_
    refine wk_block ?_
    refine wk_loopA [15, 69, 70, 71, 72, 73, 74, 75, 76, 77, 78, 79, 80, 81, 82, 83] no (fun nM ρ w => ∃ (k : Nat), nM = 3 - k ∧ ρ 15 = .int .i64 k ∧ (k ≤ wk (wayL (a % 2 ^ (d % 4)) (b % 2 ^ (d % 4))) i)) _ ⟨0, rfl, rfl, by omega⟩ ?_
    rintro n2 ρ2 w4 A2 EL2 ⟨k, rfl, hs2_15, hk⟩
    have F4 := F3.ext EL2
    have hzL2 := EL2.size
    refine wk_seq ?_
    refine wk_seq ?_
    refine wk_mix 11 (fun _ => .none) (by kernel_rfl) (by kernel_rfl) (fun kS G hk => by cases hk) (fun kS s y G hk => by cases hk) ?_
    simp only [List.take_succ_cons, List.take_zero, List.take_nil, List.drop_succ_cons, List.drop_zero, List.drop_nil]
    refine mx_calm rfl (want rfl) (fun u12 eu12 fu12 => mv_int hs2_15) ?_
    refine mx_calm rfl (want rfl) (fun u13 eu13 fu13 => rn_lss rfl rfl) ?_
    refine mx_dec_t ((by omega)) ?_
    refine mx_calm rfl (want rfl) (fun u14 eu14 fu14 => mv_bool rfl) ?_
    refine mx_calm rfl (want_if (j := 2) (d := 71) (x := true) (y := true) rfl rfl (by decide) rfl) (fun u15 eu15 fu15 => mv_int (A2.at 13 rfl hs1_13)) ?_
    refine mx_calm rfl (want_if (j := 2) (d := 71) (x := true) (y := true) rfl rfl (by decide) rfl) (fun u16 eu16 fu16 => mv_slice (A2.at 10 rfl (A1.at 10 rfl rfl))) ?_
    refine mx_calm rfl (want_if (j := 2) (d := 71) (x := true) (y := true) rfl rfl (by decide) rfl) (fun u17 eu17 fu17 => mv_int (A2.at 14 rfl hs1_14)) ?_
    refine mx_calm rfl (want_if (j := 2) (d := 71) (x := true) (y := true) rfl rfl (by decide) rfl) (fun u18 eu18 fu18 => rn_index _ Tryd.underlying28 sz_3 rfl rfl rfl (by omega)) ?_
    refine mx_calm rfl (want_if (j := 2) (d := 71) (x := true) (y := true) rfl rfl (by decide) rfl) (fun u19 eu19 fu19 => rn_load1 ag_3 rfl ((Fr.ext (Fr.ext (Fr.ext (Fr.refl no w2) EL1) EL2) ((ext_drawn _).trans' eu19)).cell (fun h => by first | exact h | (have := hfw.1; have := hfw.2; dsimp only at h; omega)) (hci 0 _ rfl))) ?_
    refine mx_calm rfl (want_if (j := 2) (d := 71) (x := true) (y := true) rfl rfl (by decide) rfl) (fun u20 eu20 fu20 => rn_xor rfl rfl ⟨by omega, by omega⟩) ?_
    refine mx_calm rfl (want_if (j := 2) (d := 71) (x := true) (y := true) rfl rfl (by decide) rfl) (fun u21 eu21 fu21 => mv_int hs2_15) ?_
    refine mx_calm rfl (want_if (j := 2) (d := 71) (x := true) (y := true) rfl rfl (by decide) rfl) (fun u22 eu22 fu22 => rn_shl (m := 1) (n := k) rfl rfl ⟨by omega, by have := pow2_le k (show k ≤ 3 by omega) (Nat.le_refl 3); omega⟩) ?_
    refine mx_nil (fun w5 E3' H2 HS => ?_)
    have E3 := (ext_drawn _).trans' E3'
    have F5 := F4.ext E3
    have hz3 := E3.size
    refine lx_value (want_if (j := 2) (d := 71) (x := true) (y := true) rfl rfl (by decide) rfl) (rn_neq rfl rfl) ?_
    refine lx_dec (fun hne => ?_) (fun hne => ?_)
    ·
      refine lx_value (want rfl) (pick_t rfl rfl) ?_
      refine lx_nil ?_
      refine wk_cond_t rfl ?_
      refine wk_skip ?_
      refine wk_block ?_
      refine wk_region ?_
      refine lx_value (want rfl) (mv_int hs2_15) ?_
      refine lx_value (want rfl) (rn_add rfl rfl (by omega)) ?_
      refine lx_value (want rfl) (as_int rfl) ?_
      refine lx_nil ?_
      exact ⟨rfl, ((((((((((((((((A2.up rfl _).up rfl _).up rfl _).up rfl _).up rfl _).up rfl _).up rfl _).up rfl _).up rfl _).up rfl _).up rfl _).up rfl _).up rfl _).up rfl _).up rfl _).up rfl _), (Fr.ext EL2 E3), _, (by omega), k + 1, rfl, rfl, Nat.lt_of_le_of_ne hk (fun e => hne (by rw [hxk, e]))⟩
    ·
      have hkw := pow_inj3 (by omega) hk3 ((Int.ofNat.inj (Decidable.not_not.1 hne)).symm.trans hxk)
      refine lx_value (want rfl) (pick_t rfl rfl) ?_
      refine lx_nil ?_
      refine wk_cond_f rfl ?_
      refine wk_exit ?_
      refine wk_seq ?_
      refine wk_seq ?_
      refine wk_region ?_
      refine lx_value (want rfl) (mv_int hs2_15) ?_
      refine lx_value (want rfl) (rn_eql rfl rfl) ?_
      refine lx_dec_f ((by omega)) ?_
      refine lx_value (want rfl) (mv_bool rfl) ?_
      refine lx_value (want_if (j := 2) (d := 86) (x := false) (y := false) rfl rfl (by decide) rfl) (mv_int hs2_15) ?_
      refine lx_value (want_if (j := 2) (d := 86) (x := false) (y := false) rfl rfl (by decide) rfl) (mv_int (A2.at 12 rfl hs1_12)) ?_
      refine lx_value (want_if (j := 2) (d := 86) (x := false) (y := false) rfl rfl (by decide) rfl) (rn_leq rfl rfl) ?_
      refine lx_dec_f ((by omega)) ?_
      refine lx_value (want rfl) (pick_f rfl rfl) ?_
      refine lx_value (want rfl) (mv_bool rfl) ?_
      refine lx_value (want_if (j := 7) (d := 91) (x := false) (y := false) rfl rfl (by decide) rfl) (mv_int (A2.at 8 rfl (A1.at 8 rfl rfl))) ?_
      refine lx_value (want_if (j := 7) (d := 91) (x := false) (y := false) rfl rfl (by decide) rfl) (mv_int (A2.at 9 rfl (A1.at 9 rfl rfl))) ?_
      refine lx_value (want_if (j := 7) (d := 91) (x := false) (y := false) rfl rfl (by decide) rfl) (rn_xor rfl rfl ⟨by omega, by omega⟩) ?_
      refine lx_value (want_if (j := 7) (d := 91) (x := false) (y := false) rfl rfl (by decide) rfl) (mv_int hs2_15) ?_
      refine lx_value (want_if (j := 7) (d := 91) (x := false) (y := false) rfl rfl (by decide) rfl) (rn_shr rfl rfl (by omega)) ?_
      refine lx_value (want_if (j := 7) (d := 91) (x := false) (y := false) rfl rfl (by decide) rfl) (rn_and rfl (n := 1) rfl ⟨by have := Nat.div_le_self ((a % 2 ^ (d % 4)) ^^^ (b % 2 ^ (d % 4))) (2 ^ k); omega, by omega⟩) ?_
      refine lx_value (want_if (j := 7) (d := 91) (x := false) (y := false) rfl rfl (by decide) rfl) (rn_eql rfl rfl) ?_
      refine lx_dec_f ((by rw [hkw, hbit]; decide)) ?_
      refine lx_value (want rfl) (pick_f rfl rfl) ?_
      refine lx_nil ?_
      refine wk_cond_f rfl ?_
      refine wk_skip ?_
      refine wk_mix 6 (fun _ => .none) (by kernel_rfl) (by kernel_rfl) (fun kS G hk => by cases hk) (fun kS s y G hk => by cases hk) ?_
      simp only [List.take_succ_cons, List.take_zero, List.take_nil, List.drop_succ_cons, List.drop_zero, List.drop_nil]
      refine mx_calm rfl (want rfl) (fun u23 eu23 fu23 => mv_int hs2_15) ?_
      refine mx_calm rfl (want rfl) (fun u24 eu24 fu24 => mv_slice (A2.at 10 rfl (A1.at 10 rfl rfl))) ?_
      refine mx_calm rfl (want rfl) (fun u25 eu25 fu25 => mv_int (A2.at 14 rfl hs1_14)) ?_
      refine mx_calm rfl (want rfl) (fun u26 eu26 fu26 => rn_index _ Tryd.underlying28 sz_3 rfl rfl rfl (by omega)) ?_
      refine mx_calm rfl (want rfl) (fun u27 eu27 fu27 => rn_load1 ag_3 rfl ((Fr.ext (Fr.ext (Fr.ext (Fr.ext (Fr.refl no w2) EL1) EL2) E3) ((ext_drawn _).trans' eu27)).cell (fun h => by first | exact h | (have := hfw.1; have := hfw.2; dsimp only at h; omega)) (hci 0 _ rfl))) ?_
      refine mx_calm rfl (want rfl) (fun u28 eu28 fu28 => as_int rfl) ?_
      refine mx_nil (fun w6 E4' H3 HS => ?_)
      have E4 := (ext_drawn _).trans' E4'
      have F6 := F5.ext E4
      have hz4 := E4.size
      refine lx_value (want rfl) (as_int rfl) ?_
      refine lx_nil ?_
      refine wk_region ?_
      refine lx_value (want rfl) (mv_int (A2.at 14 rfl hs1_14)) ?_
      refine lx_value (want rfl) (rn_add rfl rfl (by omega)) ?_
      refine lx_value (want rfl) (as_int rfl) ?_
      refine lx_nil ?_
      exact ⟨rfl, (((((((((((((((((((((((((((((((((((((((((((((A1.up rfl _).up rfl _).up rfl _).up rfl _).up rfl _).loop A2 rfl).up rfl _).up rfl _).up rfl _).up rfl _).up rfl _).up rfl _).up rfl _).up rfl _).up rfl _).up rfl _).up rfl _).up rfl _).up rfl _).up rfl _).up rfl _).up rfl _).up rfl _).up rfl _).up rfl _).up rfl _).up rfl _).up rfl _).up rfl _).up rfl _).up rfl _).up rfl _).up rfl _).up rfl _).up rfl _).up rfl _).up rfl _).up rfl _).up rfl _).up rfl _).up rfl _).up rfl _).up rfl _).up rfl _).up rfl _), (Fr.ext (Fr.ext (Fr.ext EL1 EL2) E3) E4), _, (by omega), i + 1, rfl, (by rw [lastK_succ hi1, ← hkw]; rfl), rfl, rfl, by omega, by omega⟩
  ·
    refine lx_nil ?_
    refine wk_cond_f rfl ?_
    refine wk_exit ?_
    refine wk_seq ?_
    refine wk_region ?_
    refine lx_value (want rfl) (as_int rfl) ?_
    refine lx_nil ?_
    refine wk_seq ?_
    refine wk_seq ?_
    refine wk_region ?_
    refine lx_value (want rfl) (as_int rfl) ?_
    refine lx_nil ?_
    refine wk_block ?_
    refine wk_loopA [16, 17, 105, 106, 107, 108, 109, 110, 111, 112, 113, 114, 115, 116] no (fun nM ρ w => ∃ (k : Nat), nM = 3 - k ∧ ρ 16 = .int .i64 (popT ((a % 2 ^ (d % 4)) ^^^ (b % 2 ^ (d % 4))) k : Nat) ∧ ρ 17 = .int .i64 k ∧ (k ≤ 3)) _ ⟨0, rfl, rfl, rfl, by omega⟩ ?_
    rintro n3 ρ3 w4 A3 EL3 ⟨k, rfl, hs3_16, hs3_17, hk⟩
    have F7 := F3.ext EL3
    have hzL3 := EL3.size
    refine wk_seq ?_
    refine wk_seq ?_
    refine wk_region ?_
    refine lx_value (want rfl) (mv_int hs3_17) ?_
    refine lx_value (want rfl) (rn_lss rfl rfl) ?_
    refine lx_dec (fun hlt => ?_) (fun hlt => ?_)
    ·
      refine lx_nil ?_
      refine wk_cond_t rfl ?_
      refine wk_skip ?_
      refine wk_seq ?_
      refine wk_block ?_
      refine wk_region ?_
      refine lx_value (want rfl) (mv_int hs3_16) ?_
      refine lx_value (want rfl) (mv_int (A3.at 8 rfl (A1.at 8 rfl rfl))) ?_
      refine lx_value (want rfl) (mv_int (A3.at 9 rfl (A1.at 9 rfl rfl))) ?_
      refine lx_value (want rfl) (rn_xor rfl rfl ⟨by omega, by omega⟩) ?_
      refine lx_value (want rfl) (mv_int hs3_17) ?_
      refine lx_value (want rfl) (rn_shr rfl rfl (by omega)) ?_
      refine lx_value (want rfl) (rn_and rfl (n := 1) rfl ⟨by have := Nat.div_le_self ((a % 2 ^ (d % 4)) ^^^ (b % 2 ^ (d % 4))) (2 ^ k); omega, by omega⟩) ?_
      refine lx_value (want rfl) (rn_addN rfl rfl (by have := popT_le ((a % 2 ^ (d % 4)) ^^^ (b % 2 ^ (d % 4))) k; have := popT_le ((a % 2 ^ (d % 4)) ^^^ (b % 2 ^ (d % 4))) (k + 1); have := popT_succ ((a % 2 ^ (d % 4)) ^^^ (b % 2 ^ (d % 4))) k; omega)) ?_
      refine lx_value (want rfl) (as_int rfl) ?_
      refine lx_nil ?_
      refine wk_region ?_
      refine lx_value (want rfl) (mv_int hs3_17) ?_
      refine lx_value (want rfl) (rn_add rfl rfl (by omega)) ?_
      refine lx_value (want rfl) (as_int rfl) ?_
      refine lx_nil ?_
      exact ⟨rfl, ((((((((((((((A3.up rfl _).up rfl _).up rfl _).up rfl _).up rfl _).up rfl _).up rfl _).up rfl _).up rfl _).up rfl _).up rfl _).up rfl _).up rfl _).up rfl _), EL3, _, (by omega), k + 1, rfl, (by rw [popT_succ]; rfl), rfl, by omega⟩
    ·
      refine lx_nil ?_
      refine wk_cond_f rfl ?_
      refine wk_exit ?_
      refine wk_seq ?_
      refine wk_region ?_
      refine lx_value (want rfl) (mv_slice (A3.at 10 rfl (A1.at 10 rfl rfl))) ?_
      refine lx_value (want rfl) (rn_len Tryd.underlying28 rfl) ?_
      refine lx_value (want rfl) (mv_int hs3_16) ?_
      refine lx_value (want rfl) (rn_addN rfl (n := 1) rfl (by have := popT_le ((a % 2 ^ (d % 4)) ^^^ (b % 2 ^ (d % 4))) k; omega)) ?_
      refine lx_value (want rfl) (rn_eql rfl rfl) ?_
      refine lx_dec_t ((by rw [show k = 3 by omega, popT_cnt hf8 ht8]; omega)) ?_
      refine lx_value (want rfl) (mv_bool rfl) ?_
      refine lx_call (want_if (j := 5) (d := 122) (x := true) (y := true) rfl rfl (by decide) rfl) (ent_func cf_21 args0) (awake_ct w4 ((((hT.ext E1).ext E2).ext EL1).ext EL3)) ?_
      rintro _ w5 E5 rfl
      have F8 := F7.ext E5
      have hz5 := E5.size
      refine lx_value (want rfl) (pick_t rfl rfl) ?_
      refine lx_value (want rfl) (as_bool rfl) ?_
      refine lx_nil ?_
      refine wk_ret ?_
      refine retR1 Tryd.results8 (.tmp (t_bool rfl)) F8 ?_
      exact rfl

end Go.Proofs.YtlfclnkoimfhmaaDoor

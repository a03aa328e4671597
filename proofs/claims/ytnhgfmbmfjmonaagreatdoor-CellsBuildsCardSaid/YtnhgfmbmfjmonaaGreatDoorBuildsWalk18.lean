/- What functions compute: cellsbuilds. -/
import Derived.Test.YtnhgfmbmfjmonaaGreatDoorBuildsFacts
import Derived.Test.YtnhgfmbmfjmonaaGreatDoorBuildsPre
import Derived.Test.YtnhgfmbmfjmonaaGreatDoorBuildsWalk1
import Derived.Test.YtnhgfmbmfjmonaaGreatDoorBuildsWalk17
import Derived.Test.YtnhgfmbmfjmonaaGreatDoorBuildsWalk3
import Derived.Test.YtnhgfmbmfjmonaaGreatDoorBuildsWalk6
import Derived.Test.YtnhgfmbmfjmonaaGreatDoorBuildsWalk8
set_option maxRecDepth 100000
set_option linter.unusedVariables false
set_option linter.unusedSimpArgs false
namespace Go.Proofs.YtnhgfmbmfjmonaaGreatDoor
open Go Go.RowKit Go.Mix Go.Eng
set_option maxHeartbeats 4000000 in
set_option maxRecDepth 100000 in
theorem cellsbuilds_ct (L : List (List Int)) (s : Option Addr) (c : Nat) (F : Nat → Prop) (C : List Bool) (s2 : Option Addr) (c2 : Nat) (F2 : Nat → Prop) (w0 : World) (hl : IIS F w0 s L) (hc : BoS F2 w0 s2 C) :
  CT Tryz.prog 15 [.slice s L.length c, .slice s2 C.length c2] w0 no (fun v _ => v = .bool true) := by
 have F0 := Fr.refl no w0
 refine ct_body Tryz.func15 rfl Tryz.ntmps15 (Nat.le_of_ble_eq_true rfl) ?_
 refine wk_seq ?_
 refine wk_region ?_
 refine lx_value (want rfl) (as_bool rfl) ?_
 refine lx_nil ?_
 refine wk_seq ?_
 refine wk_seq ?_
 refine wk_region ?_
 refine lx_value (want rfl) (mv_slice rfl) ?_
 refine lx_value (want rfl) (rn_len Tryz.underlying95 rfl) ?_
 refine lx_value (want rfl) (rn_gtr rfl rfl) ?_
 refine lx_dec (fun h6 => ?_) (fun h6 => ?_)
 ·
  refine lx_value (want rfl) (mv_bool rfl) ?_
  refine lx_skip (want_if (j := 3) (d := 18) (x := false) (y := true) rfl rfl (by decide) rfl) ?_
  refine lx_skip (want_if (j := 3) (d := 18) (x := false) (y := true) rfl rfl (by decide) rfl) ?_
  refine lx_skip (want_if (j := 3) (d := 18) (x := false) (y := true) rfl rfl (by decide) rfl) ?_
  refine lx_value (want rfl) (pick_t rfl rfl) ?_
  refine lx_nil ?_
  refine wk_cond_t rfl ?_
  refine wk_seq ?_
  refine wk_region ?_
  refine lx_call (want rfl) (ent_func cf_19 args0) (awake_ct w0) ?_
  rintro _ w1 E1 rfl
  have F1 := F0.ext E1
  have hz1 := E1.size
  refine lx_value (want rfl) (as_bool rfl) ?_
  refine lx_nil ?_
  refine wk_ret ?_
  refine retR1 Tryz.results15 (.tmp (t_bool rfl)) F1 ?_
  exact rfl
 ·
  refine lx_value (want rfl) (mv_bool rfl) ?_
  refine lx_value (want_if (j := 3) (d := 18) (x := false) (y := false) rfl rfl (by decide) rfl) (mv_slice rfl) ?_
  refine lx_value (want_if (j := 3) (d := 18) (x := false) (y := false) rfl rfl (by decide) rfl) (rn_len Tryz.underlying96 rfl) ?_
  refine lx_value (want_if (j := 3) (d := 18) (x := false) (y := false) rfl rfl (by decide) rfl) (rn_gtr rfl rfl) ?_
  refine lx_dec (fun h8 => ?_) (fun h8 => ?_)
  ·
   refine lx_value (want rfl) (pick_f rfl rfl) ?_
   refine lx_nil ?_
   refine wk_cond_t rfl ?_
   refine wk_seq ?_
   refine wk_region ?_
   refine lx_call (want rfl) (ent_func cf_19 args0) (awake_ct w0) ?_
   rintro _ w1 E2 rfl
   have F2 := F0.ext E2
   have hz2 := E2.size
   refine lx_value (want rfl) (as_bool rfl) ?_
   refine lx_nil ?_
   refine wk_ret ?_
   refine retR1 Tryz.results15 (.tmp (t_bool rfl)) F2 ?_
   exact rfl
  ·
   refine lx_value (want rfl) (pick_f rfl rfl) ?_
   refine lx_nil ?_
   refine wk_cond_f rfl ?_
   refine wk_skip ?_
   refine wk_seq ?_
   refine wk_seq ?_
   refine wk_region ?_
   refine lx_value (want rfl) (as_int rfl) ?_
   refine lx_nil ?_
   refine wk_block ?_
   refine wk_loopA [4, 5, 6, 24, 25, 26, 27, 28, 29, 30, 31, 32, 33, 34, 35, 36, 37, 38, 39, 40, 41, 42, 43, 44, 45, 46, 47, 48, 49, 50] no (fun nM ρ w => ∃ (i : Nat), nM = L.length - i ∧ ρ 5 = .int .i64 i ∧ (i ≤ L.length) ∧ ((L.take i).all (fun l => decide (l.length ≤ 404)) = true)) _ ⟨0, rfl, rfl, Nat.zero_le _, rfl⟩ ?_
   rintro n1 ρ1 w1 A1 EL1 ⟨i, rfl, hs1_5, hi, hA⟩
   have F3 := F0.ext EL1
   have hzL1 := EL1.size
   refine wk_seq ?_
   refine wk_seq ?_
   refine wk_region ?_
   refine lx_value (want rfl) (mv_int hs1_5) ?_
   refine lx_value (want rfl) (mv_slice (A1.at 0 rfl rfl)) ?_
   refine lx_value (want rfl) (rn_len Tryz.underlying95 rfl) ?_
   refine lx_value (want rfl) (rn_lss rfl rfl) ?_
   refine lx_dec (fun hlt => ?_) (fun hlt => ?_)
   ·
    obtain ⟨x, hx⟩ := getx hlt
    obtain ⟨bx, ox, hsx, _, sx, cx, hcx, hpx⟩ := hl i x hx
    subst hsx
    refine lx_nil ?_
    refine wk_cond_t rfl ?_
    refine wk_skip ?_
    refine wk_seq ?_
    refine wk_block ?_
    refine wk_seq ?_
    refine wk_region ?_
    refine lx_value (want rfl) (mv_slice (A1.at 0 rfl rfl)) ?_
    refine lx_value (want rfl) (mv_int hs1_5) ?_
    refine lx_value (want rfl) (rn_index i Tryz.underlying95 sz_77 rfl rfl rfl (by omega)) ?_
    refine lx_value (want rfl) (rn_load1 ag_77 rfl (F3.cell (fun h => h) hcx)) ?_
    refine lx_value (want rfl) (rn_len Tryz.underlying77 rfl) ?_
    refine lx_value (want rfl) (as_int rfl) ?_
    refine lx_nil ?_
    refine wk_seq ?_
    refine wk_region ?_
    refine lx_value (want rfl) (mv_int rfl) ?_
    refine lx_value (want rfl) (rn_gtr rfl rfl) ?_
    refine lx_dec (fun h30 => ?_) (fun h30 => ?_)
    ·
     refine lx_value (want rfl) (mv_bool rfl) ?_
     refine lx_value (want_if (j := 2) (d := 37) (x := true) (y := true) rfl rfl (by decide) rfl) (mv_int rfl) ?_
     refine lx_value (want_if (j := 2) (d := 37) (x := true) (y := true) rfl rfl (by decide) rfl) (rn_leq rfl rfl) ?_
     refine lx_dec (fun h400 => ?_) (fun h400 => ?_)
     ·
      refine lx_value (want_if (j := 2) (d := 37) (x := true) (y := true) rfl rfl (by decide) rfl) (mv_bool rfl) ?_
      refine lx_skip (want_if (j := 5) (d := 40) (x := false) (y := true) rfl rfl (by decide) rfl) ?_
      refine lx_skip (want_if (j := 5) (d := 40) (x := false) (y := true) rfl rfl (by decide) rfl) ?_
      refine lx_skip (want_if (j := 5) (d := 40) (x := false) (y := true) rfl rfl (by decide) rfl) ?_
      refine lx_value (want_if (j := 2) (d := 37) (x := true) (y := true) rfl rfl (by decide) rfl) (pick_t rfl rfl) ?_
      refine lx_value (want rfl) (pick_t rfl rfl) ?_
      refine lx_value (want rfl) (mv_bool rfl) ?_
      refine lx_skip (want_if (j := 11) (d := 46) (x := false) (y := true) rfl rfl (by decide) rfl) ?_
      refine lx_skip (want_if (j := 11) (d := 46) (x := false) (y := true) rfl rfl (by decide) rfl) ?_
      refine lx_value (want rfl) (pick_t rfl rfl) ?_
      refine lx_nil ?_
      refine wk_cond_t rfl ?_
      refine wk_seq ?_
      refine wk_region ?_
      refine lx_call (want rfl) (ent_func cf_19 args0) (awake_ct w1) ?_
      rintro _ w2 E3 rfl
      have F4 := F3.ext E3
      have hz3 := E3.size
      refine lx_value (want rfl) (as_bool rfl) ?_
      refine lx_nil ?_
      refine wk_ret ?_
      refine retR1 Tryz.results15 (.tmp (t_bool rfl)) F4 ?_
      exact rfl
     ·
      refine lx_value (want_if (j := 2) (d := 37) (x := true) (y := true) rfl rfl (by decide) rfl) (mv_bool rfl) ?_
      refine lx_value (want_if (j := 5) (d := 40) (x := false) (y := false) rfl rfl (by decide) rfl) (mv_slice (A1.at 0 rfl rfl)) ?_
      refine lx_value (want_if (j := 5) (d := 40) (x := false) (y := false) rfl rfl (by decide) rfl) (rn_len Tryz.underlying95 rfl) ?_
      refine lx_value (want_if (j := 5) (d := 40) (x := false) (y := false) rfl rfl (by decide) rfl) (rn_gtr rfl rfl) ?_
      refine lx_dec (fun h1 => ?_) (fun h1 => ?_)
      ·
       refine lx_value (want_if (j := 2) (d := 37) (x := true) (y := true) rfl rfl (by decide) rfl) (pick_f rfl rfl) ?_
       refine lx_value (want rfl) (pick_t rfl rfl) ?_
       refine lx_value (want rfl) (mv_bool rfl) ?_
       refine lx_skip (want_if (j := 11) (d := 46) (x := false) (y := true) rfl rfl (by decide) rfl) ?_
       refine lx_skip (want_if (j := 11) (d := 46) (x := false) (y := true) rfl rfl (by decide) rfl) ?_
       refine lx_value (want rfl) (pick_t rfl rfl) ?_
       refine lx_nil ?_
       refine wk_cond_t rfl ?_
       refine wk_seq ?_
       refine wk_region ?_
       refine lx_call (want rfl) (ent_func cf_19 args0) (awake_ct w1) ?_
       rintro _ w2 E4 rfl
       have F5 := F3.ext E4
       have hz4 := E4.size
       refine lx_value (want rfl) (as_bool rfl) ?_
       refine lx_nil ?_
       refine wk_ret ?_
       refine retR1 Tryz.results15 (.tmp (t_bool rfl)) F5 ?_
       exact rfl
      ·
       refine lx_value (want_if (j := 2) (d := 37) (x := true) (y := true) rfl rfl (by decide) rfl) (pick_f rfl rfl) ?_
       refine lx_value (want rfl) (pick_t rfl rfl) ?_
       refine lx_value (want rfl) (mv_bool rfl) ?_
       refine lx_value (want_if (j := 11) (d := 46) (x := false) (y := false) rfl rfl (by decide) rfl) (mv_int rfl) ?_
       refine lx_value (want_if (j := 11) (d := 46) (x := false) (y := false) rfl rfl (by decide) rfl) (rn_gtr rfl rfl) ?_
       refine lx_dec (fun h404 => ?_) (fun h404 => ?_)
       ·
        refine lx_value (want rfl) (pick_f rfl rfl) ?_
        refine lx_nil ?_
        refine wk_cond_t rfl ?_
        refine wk_seq ?_
        refine wk_region ?_
        refine lx_call (want rfl) (ent_func cf_19 args0) (awake_ct w1) ?_
        rintro _ w2 E5 rfl
        have F6 := F3.ext E5
        have hz5 := E5.size
        refine lx_value (want rfl) (as_bool rfl) ?_
        refine lx_nil ?_
        refine wk_ret ?_
        refine retR1 Tryz.results15 (.tmp (t_bool rfl)) F6 ?_
        exact rfl
       ·
        have hx404 : x.length ≤ 404 := by omega
        refine lx_value (want rfl) (pick_f rfl rfl) ?_
        refine lx_nil ?_
        refine wk_cond_f rfl ?_
        refine wk_skip ?_
        refine wk_region ?_
        refine lx_value (want rfl) (mv_int hs1_5) ?_
        refine lx_value (want rfl) (rn_add rfl rfl (by omega)) ?_
        refine lx_value (want rfl) (as_int rfl) ?_
        refine lx_nil ?_
        exact ⟨rfl, ((((((((((((((((((((((((((((A1.up rfl _).up rfl _).up rfl _).up rfl _).up rfl _).up rfl _).up rfl _).up rfl _).up rfl _).up rfl _).up rfl _).up rfl _).up rfl _).up rfl _).up rfl _).up rfl _).up rfl _).up rfl _).up rfl _).up rfl _).up rfl _).up rfl _).up rfl _).up rfl _).up rfl _).up rfl _).up rfl _).up rfl _), EL1, _, (by omega), i + 1, rfl, rfl, by omega, (all_step hA hx (decide_eq_true hx404))⟩
    ·
     refine lx_value (want rfl) (mv_bool rfl) ?_
     refine lx_skip (want_if (j := 2) (d := 37) (x := true) (y := false) rfl rfl (by decide) rfl) ?_
     refine lx_skip (want_if (j := 2) (d := 37) (x := true) (y := false) rfl rfl (by decide) rfl) ?_
     refine lx_skip (want_if (j := 2) (d := 37) (x := true) (y := false) rfl rfl (by decide) rfl) ?_
     refine lx_skip (want_un (j := 5) (d := 40) (x := false) rfl rfl (by decide) rfl) ?_
     refine lx_skip (want_un (j := 5) (d := 40) (x := false) rfl rfl (by decide) rfl) ?_
     refine lx_skip (want_un (j := 5) (d := 40) (x := false) rfl rfl (by decide) rfl) ?_
     refine lx_skip (want_if (j := 2) (d := 37) (x := true) (y := false) rfl rfl (by decide) rfl) ?_
     refine lx_value (want rfl) (pick_f rfl rfl) ?_
     refine lx_value (want rfl) (mv_bool rfl) ?_
     refine lx_value (want_if (j := 11) (d := 46) (x := false) (y := false) rfl rfl (by decide) rfl) (mv_int rfl) ?_
     refine lx_value (want_if (j := 11) (d := 46) (x := false) (y := false) rfl rfl (by decide) rfl) (rn_gtr rfl rfl) ?_
     refine lx_dec (fun h404 => ?_) (fun h404 => ?_)
     ·
      refine lx_value (want rfl) (pick_f rfl rfl) ?_
      refine lx_nil ?_
      refine wk_cond_t rfl ?_
      refine wk_seq ?_
      refine wk_region ?_
      refine lx_call (want rfl) (ent_func cf_19 args0) (awake_ct w1) ?_
      rintro _ w2 E6 rfl
      have F7 := F3.ext E6
      have hz6 := E6.size
      refine lx_value (want rfl) (as_bool rfl) ?_
      refine lx_nil ?_
      refine wk_ret ?_
      refine retR1 Tryz.results15 (.tmp (t_bool rfl)) F7 ?_
      exact rfl
     ·
      have hx404 : x.length ≤ 404 := by omega
      refine lx_value (want rfl) (pick_f rfl rfl) ?_
      refine lx_nil ?_
      refine wk_cond_f rfl ?_
      refine wk_skip ?_
      refine wk_region ?_
      refine lx_value (want rfl) (mv_int hs1_5) ?_
      refine lx_value (want rfl) (rn_add rfl rfl (by omega)) ?_
      refine lx_value (want rfl) (as_int rfl) ?_
      refine lx_nil ?_
      exact ⟨rfl, ((((((((((((((((((((((((((((A1.up rfl _).up rfl _).up rfl _).up rfl _).up rfl _).up rfl _).up rfl _).up rfl _).up rfl _).up rfl _).up rfl _).up rfl _).up rfl _).up rfl _).up rfl _).up rfl _).up rfl _).up rfl _).up rfl _).up rfl _).up rfl _).up rfl _).up rfl _).up rfl _).up rfl _).up rfl _).up rfl _).up rfl _), EL1, _, (by omega), i + 1, rfl, rfl, by omega, (all_step hA hx (decide_eq_true hx404))⟩
   ·
    have hA4 := all_end hA hlt
    have hLl : ∀ l ∈ L, l.length ≤ 1048576 := fun l hl => by have := of_decide_eq_true (List.all_eq_true.1 hA4 l hl); omega
    have hLs : sumI L ≤ 1048576 := by have := su_404 hA4; have h7 : 404 * L.length ≤ 404 * 6 := Nat.mul_le_mul_left _ (by omega); omega
    have hbd := buildE_bd (L := L) (C := C) (by omega)
    refine lx_nil ?_
    refine wk_cond_f rfl ?_
    refine wk_exit ?_
    refine wk_seq ?_
    refine wk_region ?_
    refine lx_value (want rfl) (as_slice rfl) ?_
    refine lx_nil ?_
    refine wk_seq ?_
    refine wk_seq ?_
    refine wk_region ?_
    refine lx_value (want rfl) (as_int rfl) ?_
    refine lx_nil ?_
    refine wk_block ?_
    refine wk_loopA [7, 8, 51, 52, 53, 54, 55, 56, 57, 58, 59, 60, 61, 62, 63, 64, 65] (fun j => no j ∨ w0.heap.size ≤ j) (fun nM ρ w => ∃ (i : Nat) (st2_1 : Option Addr) (ct2_1 : Nat) (TT2_1 : List (TE Int)), nM = L.length - i ∧ ρ 8 = .int .i64 i ∧ ρ 7 = .slice st2_1 TT2_1.length ct2_1 ∧ Tab w 77 3 1 intC st2_1 ct2_1 TT2_1 ∧ (∀ k, tb st2_1 TT2_1 k → w0.heap.size ≤ k) ∧ (i ≤ L.length) ∧ (TT2_1.map (·.2.2) = L.take i)) _ ⟨0, none, 0, ([] : List (TE Int)), rfl, rfl, rfl, (Tab.nil w1 77 3 1 intC), (fun _ h => tb_nil h), Nat.zero_le _, rfl⟩ ?_
    rintro n2 ρ2 w2 A2 EL2 ⟨i, st2_1, ct2_1, TT2_1, rfl, hs2_8, hs2_7, tw2L_1, tg2L_1, hi, hT⟩
    have F8 := F3.wide EL2
    have hzL2 := EL2.size
    refine wk_seq ?_
    refine wk_seq ?_
    refine wk_region ?_
    refine lx_value (want rfl) (mv_int hs2_8) ?_
    refine lx_value (want rfl) (mv_slice (A2.at 0 rfl (A1.at 0 rfl rfl))) ?_
    refine lx_value (want rfl) (rn_len Tryz.underlying95 rfl) ?_
    refine lx_value (want rfl) (rn_lss rfl rfl) ?_
    refine lx_dec (fun hlt => ?_) (fun hlt => ?_)
    ·
     obtain ⟨x, hx⟩ := getx hlt
     obtain ⟨bx, ox, hsx, _, sx, cx, hcx, hpx⟩ := hl i x hx
     subst hsx
     have hxl := hLl x (List.mem_of_getElem? hx)
     have hTl : TT2_1.length = i := by have := congrArg List.length hT; rw [List.length_map, List.length_take] at this; omega
     refine lx_nil ?_
     refine wk_cond_t rfl ?_
     refine wk_skip ?_
     refine wk_seq ?_
     refine wk_block ?_
     refine wk_region ?_
     refine lx_value (want rfl) (mv_slice hs2_7) ?_
     refine lx_newS (want rfl) (rn_bslice (xs := []) Tryz.underlying77 sz_3 ze_3 rfl args0 CL.nil rfl (Nat.le_of_ble_eq_true rfl)) ?_
     intro b1 w3 hb1 Eb1 B1 hlb1
     have F9 := F8.ext Eb1
     have hzb1 := Eb1.size
     have nb1 : ∀ k, tb st2_1 TT2_1 k → k ≠ b1 := fun k hk => by have := (tw2L_1).lt hk; omega
     refine lx_value (want rfl) (mv_slice (A2.at 0 rfl (A1.at 0 rfl rfl))) ?_
     refine lx_value (want rfl) (mv_int hs2_8) ?_
     refine lx_value (want rfl) (rn_index i Tryz.underlying95 sz_77 rfl rfl rfl (by omega)) ?_
     refine lx_value (want rfl) (rn_load1 ag_77 rfl (F9.cell (fun h => h) hcx)) ?_
     refine lx_append0 8 (want rfl) Tryz.underlying77 ti_3 (by decide) rfl (by decide) rfl rfl (OwnS.full (n := 0) (size := 1) B1 rfl (by decide)) ((hpx.fr (int_stab _) F9 (fun _ _ h => h)).src (fun _ _ => rfl) (fun _ _ u hu => int_one hu) (by decide)) (by omega) (fun sA3 cA3 w4 hOA3 EA3 hKA3 => ?_)
     have F10 := F9.ext EA3
     have hzA3 := EA3.size
     have hgA3 : ∀ k, ob sA3 k → w2.heap.size ≤ k := fun k hk => (hKA3 k hk).elim (fun h => by have := ob_some h; omega) (fun h => by omega)
     have ge1 : ∀ k, ob sA3 k → w0.heap.size ≤ k := fun k hk => (by have := hgA3 k hk; omega)
     have st1_1 : ∀ k, tb st2_1 TT2_1 k → ob sA3 k → False := fun k hk h2 => by have := (tw2L_1).lt hk; have := hgA3 k h2; omega
     refine lx_newS (want rfl) (rn_bslice (xs := [.tmp 63]) Tryz.underlying95 sz_77 ze_77 rfl (argsC (t_slice rfl) args0) (CL.cons rfl rfl CL.nil) rfl (Nat.le_of_ble_eq_true rfl)) ?_
     intro b2 w5 hb2 Eb2 B2 hlb2
     have F11 := F10.ext Eb2
     have hzb2 := Eb2.size
     have nb2 : ∀ k, ob sA3 k → k ≠ b2 := fun k hk => by have := (hOA3).lt hk; omega
     have nb3 : ∀ k, tb st2_1 TT2_1 k → k ≠ b2 := fun k hk => by have := (tw2L_1).lt hk; omega
     have hTo2 := (((tw2L_1.ext Eb1).ext EA3).ext Eb2)
     have hOo2 := (hOA3.ext Eb2)
     refine lx_append 24 (want rfl) Tryz.underlying95 ti_77 (by decide) rfl (by decide) rfl rfl hTo2.out ((Src.blk B2 rfl rfl)) (by rw [hTl]; omega) ?_
     intro sq2 cq2 w6 AP2
     have EA2 := AP2.fr
     have F12 := F11.new EA2 (fun k h => tg2L_1 k (.inl h))
     have hzA2 := EA2.size
     obtain ⟨tw2, ti2⟩ := Tab.snoc (e := (sA3, cA3, x)) hTo2 hOo2 (fun k hk h => st1_1 k h hk) AP2
     have tg2 : ∀ k, tb sq2 (TT2_1 ++ [(sA3, cA3, x)]) k → w0.heap.size ≤ k := fun k hk => (ti2 k hk).elim (fun h => tg2L_1 k h) (fun h => h.elim (fun h => ge1 k h) (fun h => (by omega)))
     have tn2_2 : ∀ k, tb sq2 (TT2_1 ++ [(sA3, cA3, x)]) k → k ≠ b2 := fun k hk => (ti2 k hk).elim (fun h => nb3 k h) (fun h => h.elim (fun h => nb2 k h) (fun h => by have := (B2).lt; omega))
     refine lx_value (want rfl) (as_slice rfl) ?_
     refine lx_nil ?_
     refine wk_region ?_
     refine lx_value (want rfl) (mv_int hs2_8) ?_
     refine lx_value (want rfl) (rn_add rfl rfl (by omega)) ?_
     refine lx_value (want rfl) (as_int rfl) ?_
     refine lx_nil ?_
     exact ⟨rfl, (((((((((((((((((A2.up rfl _).up rfl _).up rfl _).up rfl _).up rfl _).up rfl _).up rfl _).up rfl _).up rfl _).up rfl _).up rfl _).up rfl _).up rfl _).up rfl _).up rfl _).up rfl _).up rfl _), Fr.between F3 F12 (by omega), _, (by omega), i + 1, sq2, cq2, (TT2_1 ++ [(sA3, cA3, x)]), rfl, rfl, (by rw [List.length_append]; exact rfl), tw2, tg2, by omega, (by rw [List.map_append, hT, List.take_add_one, hx]; rfl)⟩
    ·
     refine lx_nil ?_
     refine wk_cond_f rfl ?_
     refine wk_exit ?_
     refine wk_seq ?_
     refine wk_region ?_
     obtain ⟨hR1, hTl⟩ := tab_ii tw2L_1 hT hlt
     refine lx_value (want rfl) (mv_slice hs2_7) ?_
     refine lx_newS (want rfl) (rn_bslice (xs := []) Tryz.underlying96 sz_4 ze_4 rfl args0 CL.nil rfl (Nat.le_of_ble_eq_true rfl)) ?_
     intro b3 w3 hb3 Eb3 B3 hlb3
     have F13 := F8.ext Eb3
     have hzb3 := Eb3.size
     have nb4 : ∀ k, tb st2_1 TT2_1 k → k ≠ b3 := fun k hk => by have := (tw2L_1).lt hk; omega
     refine lx_value (want rfl) (mv_slice (A2.at 1 rfl (A1.at 1 rfl rfl))) ?_
     refine lx_append0 1 (want rfl) Tryz.underlying96 ti_4 (by decide) rfl (by decide) rfl rfl (OwnS.full (n := 0) (size := 1) B3 rfl (by decide)) ((hc.fr (bo_stab _) F13 (fun _ _ h => h)).src (fun _ _ => rfl) (fun _ _ u hu => bo_one hu) (by decide)) (by omega) (fun sA4 cA4 w4 hOA4 EA4 hKA4 => ?_)
     have F14 := F13.ext EA4
     have hzA4 := EA4.size
     have hgA4 : ∀ k, ob sA4 k → w2.heap.size ≤ k := fun k hk => (hKA4 k hk).elim (fun h => by have := ob_some h; omega) (fun h => by omega)
     have ge3 : ∀ k, ob sA4 k → w0.heap.size ≤ k := fun k hk => (by have := hgA4 k hk; omega)
     have st3_1 : ∀ k, tb st2_1 TT2_1 k → ob sA4 k → False := fun k hk h2 => by have := (tw2L_1).lt hk; have := hgA4 k h2; omega
     refine lx_call (want rfl) (ent_func cf_63 (argsC (t_slice rfl) (argsC (t_slice rfl) args0))) ((by have h := pBuild_ct L st2_1 ct2_1 (fun _ => True) C sA4 cA4 (fun _ => True) (by omega) hLl hLs w4 (tab_ii ((tw2L_1.ext Eb3).ext EA4) hT hlt).1 (OwnS.sl (l := C) (cells := boC) (F := fun _ => True) hOA4 (by decide) rfl (fun _ _ => rfl) (fun _ _ => trivial)); rw [← hTl] at h; exact h)) ?_
     rintro _ w5 E7 ⟨sR, nR, cR, sv, cv, rfl, rfl, hM1, hV1⟩
     have F15 := F14.ext E7
     have hz7 := E7.size
     refine lx_value (want rfl) (mv_tuple rfl) ?_
     refine lx_value (want rfl) (rn_extract rfl rfl) ?_
     refine lx_value (want rfl) (rn_extract rfl rfl) ?_
     refine lx_value (want rfl) (rn_extract rfl rfl) ?_
     refine lx_new (want rfl) (rn_alloc ze_24) ?_
     intro b4 w6 hb4 Eb4 B4 hlb4
     have F16 := F15.ext Eb4
     have hzb4 := Eb4.size
     have nb5 : ∀ k, ob sA4 k → k ≠ b4 := fun k hk => by have := (hOA4).lt hk; omega
     have nb6 : ∀ k, tb st2_1 TT2_1 k → k ≠ b4 := fun k hk => by have := (tw2L_1).lt hk; omega
     refine lx_set (want rfl) sz_24 rfl (t_agg rfl) rfl rfl rfl B4 (Nat.le_of_ble_eq_true rfl) ?_
     intro w7 Es1 Bs1
     have F17 := F16.set Es1 (by omega)
     have hzs1 := Es1.size
     refine lx_value (want rfl) (as_slice rfl) ?_
     refine lx_value (want rfl) (as_int rfl) ?_
     refine lx_nil ?_
     refine wk_seq ?_
     refine wk_region ?_
     refine lx_value (want rfl) (mv_slice (A2.at 0 rfl (A1.at 0 rfl rfl))) ?_
     refine lx_value (want rfl) (mv_slice (A2.at 1 rfl (A1.at 1 rfl rfl))) ?_
     refine lx_call (want rfl) (ent_func cf_64 (argsC (t_slice rfl) (argsC (t_slice rfl) args0))) (rBuild_ct L s c F C s2 c2 F2 (by omega) hLl hLs w7 (hl.fr (ii_stab _) F17 (fun _ _ h => h)) (hc.fr (bo_stab _) F17 (fun _ _ h => h))) ?_
     rintro _ w8 E8 ⟨sR2, nR2, cR2, sv2, cv2, rfl, rfl, hM2, hV2⟩
     have F18 := F17.ext E8
     have hz8 := E8.size
     refine lx_value (want rfl) (mv_tuple rfl) ?_
     refine lx_value (want rfl) (rn_extract rfl rfl) ?_
     refine lx_value (want rfl) (rn_extract rfl rfl) ?_
     refine lx_value (want rfl) (rn_extract rfl rfl) ?_
     refine lx_new (want rfl) (rn_alloc ze_24) ?_
     intro b5 w9 hb5 Eb5 B5 hlb5
     have F19 := F18.ext Eb5
     have hzb5 := Eb5.size
     have nb7 : ∀ k, ob sA4 k → k ≠ b5 := fun k hk => by have := (hOA4).lt hk; omega
     have nb8 : ∀ k, tb st2_1 TT2_1 k → k ≠ b5 := fun k hk => by have := (tw2L_1).lt hk; omega
     refine lx_set (want rfl) sz_24 rfl (t_agg rfl) rfl rfl rfl B5 (Nat.le_of_ble_eq_true rfl) ?_
     intro w10 Es2 Bs2
     have F20 := F19.set Es2 (by omega)
     have hzs2 := Es2.size
     refine lx_value (want rfl) (as_slice rfl) ?_
     refine lx_value (want rfl) (as_int rfl) ?_
     refine lx_nil ?_
     refine wk_seq ?_
     refine wk_region ?_
     refine lx_value (want rfl) (rn_loadBlk ag_24 sz_24 rfl (((Bs1.ext E8).ext Eb5).ne Es2 (by omega)) rfl rfl) ?_
     refine lx_value (want rfl) (rn_loadBlk ag_24 sz_24 rfl Bs2 rfl rfl) ?_
     refine lx_call (want rfl) (ent_func cf_24 (argsC (t_agg rfl) (argsC (t_agg rfl) args0))) (samemem_ct _ _ _ _ _ _ _ _ hbd.1 w10 (hM1.fr (st_stab _) (Fr.trans (Fr.ext (Fr.ext (Fr.trans (Fr.ext (Fr.refl (fun k => k = b4 ∨ k = b5) w5) Eb4) Es1 (fun k _ h => (.inl h))) E8) Eb5) Es2 (fun k _ h => (.inr h))) (fun k hk h => by have hk1 := hk.1; have hk2 := hk.2; (try dsimp only at h hk1 hk2); first | exact h.elim | omega | (rcases (show _ ∨ _ from h) with h | h <;> omega))) (hM2.fr (st_stab _) (Fr.trans (Fr.ext (Fr.refl (fun k => k = b5) w8) Eb5) Es2 (fun k _ h => h)) (fun k hk h => by have hk1 := hk.1; have hk2 := hk.2; (try dsimp only at h hk1 hk2); first | exact h.elim | omega | (rcases (show _ ∨ _ from h) with h | h <;> omega)))) ?_
     rintro _ w11 E9 rfl
     have F21 := F20.ext E9
     have hz9 := E9.size
     refine lx_b_t (decide_eq_true rfl) ?_
     refine lx_value (want rfl) (mv_bool rfl) ?_
     refine lx_value (want_if (j := 3) (d := 85) (x := true) (y := true) rfl rfl (by decide) rfl) (mv_slice rfl) ?_
     refine lx_value (want_if (j := 3) (d := 85) (x := true) (y := true) rfl rfl (by decide) rfl) (mv_slice rfl) ?_
     refine lx_call (want_if (j := 3) (d := 85) (x := true) (y := true) rfl rfl (by decide) rfl) (ent_func cf_25 (argsC (t_slice rfl) (argsC (t_slice rfl) args0))) (samevalues_ct _ _ _ _ _ _ _ _ w11 (hV1.fr (vl_stab _) (Fr.ext (Fr.trans (Fr.ext (Fr.ext (Fr.trans (Fr.ext (Fr.refl (fun k => k = b4 ∨ k = b5) w5) Eb4) Es1 (fun k _ h => (.inl h))) E8) Eb5) Es2 (fun k _ h => (.inr h))) E9) (fun k hk h => by have hk1 := hk.1; have hk2 := hk.2; (try dsimp only at h hk1 hk2); first | exact h.elim | omega | (rcases (show _ ∨ _ from h) with h | h <;> omega))) (hV2.fr (vl_stab _) (Fr.ext (Fr.trans (Fr.ext (Fr.refl (fun k => k = b5) w8) Eb5) Es2 (fun k _ h => h)) E9) (fun k hk h => by have hk1 := hk.1; have hk2 := hk.2; (try dsimp only at h hk1 hk2); first | exact h.elim | omega | (rcases (show _ ∨ _ from h) with h | h <;> omega))) hbd.2) ?_
     rintro _ w12 E10 rfl
     have F22 := F21.ext E10
     have hz10 := E10.size
     refine lx_b_t (decide_eq_true rfl) ?_
     refine lx_value (want rfl) (pick_t rfl rfl) ?_
     refine lx_value (want rfl) (mv_bool rfl) ?_
     refine lx_value (want_if (j := 8) (d := 90) (x := true) (y := true) rfl rfl (by decide) rfl) (mv_int rfl) ?_
     refine lx_value (want_if (j := 8) (d := 90) (x := true) (y := true) rfl rfl (by decide) rfl) (mv_int rfl) ?_
     refine lx_value (want_if (j := 8) (d := 90) (x := true) (y := true) rfl rfl (by decide) rfl) (rn_eql rfl rfl) ?_
     refine lx_dec_t (rfl) ?_
     refine lx_value (want rfl) (pick_t rfl rfl) ?_
     refine lx_value (want rfl) (mv_bool rfl) ?_
     refine lx_call (want_if (j := 13) (d := 95) (x := true) (y := true) rfl rfl (by decide) rfl) (ent_func cf_19 args0) (awake_ct w12) ?_
     rintro _ w13 E11 rfl
     have F23 := F22.ext E11
     have hz11 := E11.size
     refine lx_value (want rfl) (pick_t rfl rfl) ?_
     refine lx_value (want rfl) (as_bool rfl) ?_
     refine lx_nil ?_
     refine wk_ret ?_
     refine retR1 Tryz.results15 (.tmp (t_bool rfl)) F23 ?_
     exact rfl

end Go.Proofs.YtnhgfmbmfjmonaaGreatDoor

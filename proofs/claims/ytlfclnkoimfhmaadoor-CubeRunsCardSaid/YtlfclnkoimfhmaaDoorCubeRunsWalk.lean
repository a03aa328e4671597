/- The walk of the law CubeRuns. -/
import Derived.Test.YtlfclnkoimfhmaaDoorFacts
import Derived.Test.YtlfclnkoimfhmaaDoorPre
import Derived.Test.YtlfclnkoimfhmaaDoorWalk1
import Derived.Test.YtlfclnkoimfhmaaDoorWalk14
import Derived.Test.YtlfclnkoimfhmaaDoorWalk15
import Derived.Test.YtlfclnkoimfhmaaDoorWalk18
import Derived.Test.YtlfclnkoimfhmaaDoorWalk3
set_option maxRecDepth 100000
set_option linter.unusedVariables false
set_option linter.unusedSimpArgs false
namespace Go.Proofs.YtlfclnkoimfhmaaDoor
open Go Go.RowKit Go.Mix Go.Eng
theorem cf_19 : ∀ args w, (callFunc 19 args).run Tryd.prog w = .ok (.enter 19 args) w := fun _ _ => by kernel_rfl
theorem cf_21 : ∀ args w, (callFunc 21 args).run Tryd.prog w = .ok (.enter 21 args) w := fun _ _ => by kernel_rfl
theorem cf_22 : ∀ args w, (callFunc 22 args).run Tryd.prog w = .ok (.enter 22 args) w := fun _ _ => by kernel_rfl
theorem cf_36 : ∀ args w, (callFunc 36 args).run Tryd.prog w = .ok (.enter 36 args) w := fun _ _ => by kernel_rfl
set_option maxHeartbeats 2000000 in
set_option maxRecDepth 100000 in
theorem cuberuns_ct (d r : Int) (L : List (List Pk)) (s : Option Addr) (c : Nat) (G : Nat → Prop) (picks : List Int) (sp : Option Addr) (cp : Nat) (Fp : Nat → Prop) (w0 : World) (hL : BufS G w0 s L) (hT : Tb w0 1) (hP : IntS Fp w0 sp picks) :
    CT Tryd.prog 7 [.agg #[.int .i64 d, .int .i64 r, .slice s L.length c], .slice sp picks.length cp] w0 no (fun v _ => v = .bool true) := by
  have hTl := hT.lt
  have F0 := Fr.refl no w0
  refine ct_body Tryd.func7 rfl Tryd.ntmps7 (Nat.le_of_ble_eq_true rfl) ?_
  refine wk_seq ?_
  refine wk_region ?_
  refine lx_new (want rfl) (rn_box (t_agg rfl)) ?_
  intro b21 w1 hb21 Eb21 B21 hlb21
  have F1 := F0.ext Eb21
  have hzb21 := Eb21.size
  refine lx_value (want rfl) (as_bool rfl) ?_
  refine lx_nil ?_
  refine wk_seq ?_
  refine wk_seq ?_
  refine wk_region ?_
  refine lx_value (want rfl) (rn_loadBlk ag_24 sz_24 rfl B21 rfl rfl) ?_
  refine lx_call (want rfl) (ent_func cf_22 (argsC (t_agg rfl) args0)) (thin_ct d r L s c G w1 (hL.fr (buf_stab _) F1 (fun _ _ h => h))) ?_
  rintro _ w2 E1 rfl
  have F2 := F1.ext E1
  have hz1 := E1.size
  refine lx_split (fun h10 => ?_) (fun h10 => ?_)
  ·
    have hB := bd_thin h10
    refine lx_value (want rfl) (rn_not rfl) ?_
    refine lx_value (want rfl) (mv_bool rfl) ?_
    refine lx_value (want_if (j := 3) (d := 16) (x := false) (y := false) rfl rfl (by decide) rfl) (mv_slice rfl) ?_
    refine lx_value (want_if (j := 3) (d := 16) (x := false) (y := false) rfl rfl (by decide) rfl) (rn_len Tryd.underlying28 rfl) ?_
    refine lx_value (want_if (j := 3) (d := 16) (x := false) (y := false) rfl rfl (by decide) rfl) (rn_gtr rfl rfl) ?_
    refine lx_dec (fun h70 => ?_) (fun h70 => ?_)
    ·
      refine lx_value (want rfl) (pick_f rfl rfl) ?_
      refine lx_nil ?_
      refine wk_cond_t rfl ?_
      refine wk_seq ?_
      refine wk_region ?_
      refine lx_call (want rfl) (ent_func cf_21 args0) (awake_ct w2 ((hT.ext Eb21).ext E1)) ?_
      rintro _ w3 E2 rfl
      have F3 := F2.ext E2
      have hz2 := E2.size
      refine lx_value (want rfl) (as_bool rfl) ?_
      refine lx_nil ?_
      refine wk_ret ?_
      refine retR1 Tryd.results7 (.tmp (t_bool rfl)) F3 ?_
      exact rfl
    ·
      refine lx_value (want rfl) (pick_f rfl rfl) ?_
      refine lx_nil ?_
      refine wk_cond_f rfl ?_
      refine wk_skip ?_
      refine wk_seq ?_
      refine wk_region ?_
      refine lx_value (want rfl) (rn_loadBlk ag_24 sz_24 rfl (B21.ext E1) rfl rfl) ?_
      refine lx_call (want rfl) (ent_func cf_23 (argsC (t_agg rfl) args0)) (copyR (copy_ct d r L s c G hB w2 (hL.fr (buf_stab _) F2 (fun _ _ h => h)))) ?_
      rintro _ w3 E3 ⟨sX, cX, rfl, hX⟩
      have F4 := F2.ext E3
      have hz3 := E3.size
      refine lx_newS (want rfl) (rn_bslice (xs := []) Tryd.underlying28 sz_3 ze_3 rfl args0 CL.nil rfl (Nat.le_of_ble_eq_true rfl)) ?_
      intro b22 w4 hb22 Eb22 B22 hlb22
      have F5 := F4.ext Eb22
      have hzb22 := Eb22.size
      have ow22 := OwnS.full (n := 0) (size := 1) B22 rfl (by decide)
      have ge1 : ∀ k, ob (some (⟨b22, 0, none⟩ : Addr)) k → w0.heap.size ≤ k := fun k hk => by have := ob_some hk; omega
      have ne1_800 : ∀ k, ob (some (⟨b22, 0, none⟩ : Addr)) k → k ≠ 1 := fun k hk => by have := ob_some hk; have := (hT).lt; omega
      have ne1_21 : ∀ k, ob (some (⟨b22, 0, none⟩ : Addr)) k → k ≠ b21 := fun k hk => by have := ob_some hk; have := (B21).lt; omega
      refine lx_value (want rfl) (mv_slice rfl) ?_
      refine lx_append 8 (want rfl) Tryd.underlying28 ti_3 (by decide) rfl (by decide) rfl rfl ow22 ((hP.fr (int_stab _) F5 (fun _ _ h => h)).src (fun _ _ => rfl) (fun _ _ u hu => int_one hu) (by decide)) (by omega) ?_
      intro sq2 cq2 w5 AP2
      have EA2 := AP2.fr
      have ow2 := AP2.own
      have ge2 : ∀ k, ob sq2 k → w0.heap.size ≤ k := fun k hk => (AP2.blk k hk).elim (ge1 k) (fun h => Nat.le_trans F5.size h)
      have ne2_800 : ∀ k, ob sq2 k → k ≠ 1 := fun k hk => (AP2.blk k hk).elim (ne1_800 k) (fun h => by have := (((((hT.ext Eb21).ext E1).ext E3).ext Eb22)).lt; omega)
      have ne2_21 : ∀ k, ob sq2 k → k ≠ b21 := fun k hk => (AP2.blk k hk).elim (ne1_21 k) (fun h => by have := ((((B21.ext E1).ext E3).ext Eb22)).lt; omega)
      have F6 := F5.new EA2 ge1
      have hzA2 := EA2.size
      have BA2_800 := ((((hT.ext Eb21).ext E1).ext E3).ext Eb22).fr EA2 (fun h => ne1_800 _ h rfl)
      have BA2_21 := (((B21.ext E1).ext E3).ext Eb22).fr EA2 (fun h => ne1_21 _ h rfl)
      have hI := (ow2).sl (l := picks) (cells := intC) (by decide) rfl (fun _ _ => rfl) (F := fun k => k < w5.heap.size ∧ w3.heap.size ≤ k) (fun k hk => ⟨(ow2).lt hk, (AP2.blk k hk).elim (fun h => by have := ob_some h; omega) (fun h => by omega)⟩)
      refine lx_new (want rfl) (rn_alloc ze_24) ?_
      intro b23 w6 hb23 Eb23 B23 hlb23
      have F7 := F6.ext Eb23
      have hzb23 := Eb23.size
      have nb1 : ∀ k, ob sq2 k → k ≠ b23 := fun k hk => by have := (ow2).lt hk; omega
      refine lx_set (want rfl) sz_24 rfl (t_agg rfl) rfl rfl rfl B23 (Nat.le_of_ble_eq_true rfl) ?_
      intro w7 Es1 Bs1
      have F8 := F7.set Es1 (by omega)
      have hzs1 := Es1.size
      refine lx_value (want rfl) (as_slice rfl) ?_
      refine lx_nil ?_
      refine wk_seq ?_
      refine wk_region ?_
      refine lx_value (want rfl) (rn_loadBlk ag_24 sz_24 rfl Bs1 rfl rfl) ?_
      refine lx_value (want rfl) (mv_slice rfl) ?_
      refine lx_call (want rfl) (ent_func cf_35 (argsC (t_agg rfl) (argsC (t_slice rfl) args0))) (ctA (by rw [Nat.zero_add picks.length] <;> rfl) (xrun_ct d r L sX cX _ hB picks _ _ _ w7 (hX.fr (buf_stab _) (Fr.trans (Fr.ext (Fr.trans (Fr.ext (Fr.refl (fun k => ob (some (⟨b22, 0, none⟩ : Addr)) k ∨ k = b23) w3) Eb22) EA2 (fun k _ h => (.inl h))) Eb23) Es1 (fun k _ h => (.inr h))) (fun k hk h => by first | exact h | (have := hk.1; have := hk.2; (try dsimp only at h); first | omega | (rcases h with h | h <;> first | omega | (have := ob_some h; omega))))) ((BA2_800.ext Eb23).ne Es1 (by omega)) (hI.fr (int_stab _) (Fr.trans (Fr.ext (Fr.refl (fun k => k = b23) w5) Eb23) Es1 (fun k _ h => h)) (fun k hk h => by first | exact h | (have := hk.1; have := hk.2; (try dsimp only at h); omega))))) ?_
      rintro _ w8 E4 ⟨_, rfl, hA⟩
      have F9 := F8.ext E4
      have hz4 := E4.size
      obtain ⟨sA, cA, rfl, hA⟩ := hA
      refine lx_value (want rfl) (mv_tuple rfl) ?_
      refine lx_value (want rfl) (rn_extract rfl rfl) ?_
      refine lx_value (want rfl) (rn_extract rfl rfl) ?_
      refine lx_value (want rfl) (rn_extract rfl rfl) ?_
      refine lx_value (want rfl) (as_slice rfl) ?_
      refine lx_value (want rfl) (as_int rfl) ?_
      refine lx_value (want rfl) (as_int rfl) ?_
      refine lx_nil ?_
      refine wk_seq ?_
      refine wk_region ?_
      refine lx_value (want rfl) (rn_loadBlk ag_24 sz_24 rfl (((BA2_21.ext Eb23).ne Es1 (by omega)).ext E4) rfl rfl) ?_
      refine lx_value (want rfl) (mv_slice rfl) ?_
      refine lx_call (want rfl) (ent_func cf_36 (argsC (t_agg rfl) (argsC (t_slice rfl) args0))) (refrun_ct d r L s c G picks sp cp Fp w8 (hL.fr (buf_stab _) F9 (fun _ _ h => h)) (hP.fr (int_stab _) F9 (fun _ _ h => h))) ?_
      rintro _ w9 E5 ⟨_, rfl, hM⟩
      have F10 := F9.ext E5
      have hz5 := E5.size
      obtain ⟨sM, cM, rfl, hM⟩ := hM
      refine lx_value (want rfl) (mv_tuple rfl) ?_
      refine lx_value (want rfl) (rn_extract rfl rfl) ?_
      refine lx_value (want rfl) (rn_extract rfl rfl) ?_
      refine lx_value (want rfl) (rn_extract rfl rfl) ?_
      refine lx_value (want rfl) (as_slice rfl) ?_
      refine lx_value (want rfl) (as_int rfl) ?_
      refine lx_value (want rfl) (as_int rfl) ?_
      refine lx_nil ?_
      refine wk_seq ?_
      refine wk_region ?_
      refine lx_value (want rfl) (mv_slice rfl) ?_
      refine lx_value (want rfl) (mv_slice rfl) ?_
      refine lx_call (want rfl) (ent_func cf_34 (argsC (t_slice rfl) (argsC (t_slice rfl) args0))) (packets_ct _ _ sA sM cA cM _ _ w9 (hA.fr (pk_stab _) (Fr.ext (Fr.refl no w8) E5) (fun k hk h => by first | exact h | (have := hk.1; have := hk.2; (try dsimp only at h); omega))) (hM.fr (pk_stab _) (Fr.refl no w9) (fun k hk h => by first | exact h | (have := hk.1; have := hk.2; (try dsimp only at h); omega))) (Nat.le_trans (runR_len d r L picks) (by decide))) ?_
      rintro _ w10 E6 rfl
      have F11 := F10.ext E6
      have hz6 := E6.size
      refine lx_b_t (eq_true') ?_
      refine lx_value (want rfl) (mv_bool rfl) ?_
      refine lx_value (want_if (j := 3) (d := 44) (x := true) (y := true) rfl rfl (by decide) rfl) (mv_int rfl) ?_
      refine lx_value (want_if (j := 3) (d := 44) (x := true) (y := true) rfl rfl (by decide) rfl) (mv_int rfl) ?_
      refine lx_value (want_if (j := 3) (d := 44) (x := true) (y := true) rfl rfl (by decide) rfl) (rn_eql rfl rfl) ?_
      refine lx_dec_t (rfl) ?_
      refine lx_value (want rfl) (pick_t rfl rfl) ?_
      refine lx_value (want rfl) (mv_bool rfl) ?_
      refine lx_value (want_if (j := 8) (d := 49) (x := true) (y := true) rfl rfl (by decide) rfl) (mv_int rfl) ?_
      refine lx_value (want_if (j := 8) (d := 49) (x := true) (y := true) rfl rfl (by decide) rfl) (mv_int rfl) ?_
      refine lx_value (want_if (j := 8) (d := 49) (x := true) (y := true) rfl rfl (by decide) rfl) (rn_eql rfl rfl) ?_
      refine lx_dec_t (rfl) ?_
      refine lx_value (want rfl) (pick_t rfl rfl) ?_
      refine lx_value (want rfl) (mv_bool rfl) ?_
      refine lx_value (want_if (j := 13) (d := 54) (x := true) (y := true) rfl rfl (by decide) rfl) (rn_loadBlk ag_24 sz_24 rfl (((Bs1.ext E4).ext E5).ext E6) rfl rfl) ?_
      refine lx_value (want_if (j := 13) (d := 54) (x := true) (y := true) rfl rfl (by decide) rfl) (rn_loadBlk ag_24 sz_24 rfl (((((BA2_21.ext Eb23).ne Es1 (by omega)).ext E4).ext E5).ext E6) rfl rfl) ?_
      refine lx_call (want_if (j := 13) (d := 54) (x := true) (y := true) rfl rfl (by decide) rfl) (ent_func cf_19 (argsC (t_agg rfl) (argsC (t_agg rfl) args0))) (same_ct _ _ L sX cX _ _ _ L s c G w10 (hX.fr (buf_stab _) (Fr.ext (Fr.ext (Fr.ext (Fr.trans (Fr.ext (Fr.trans (Fr.ext (Fr.refl (fun k => ob (some (⟨b22, 0, none⟩ : Addr)) k ∨ k = b23) w3) Eb22) EA2 (fun k _ h => (.inl h))) Eb23) Es1 (fun k _ h => (.inr h))) E4) E5) E6) (fun k hk h => by first | exact h | (have := hk.1; have := hk.2; (try dsimp only at h); first | omega | (rcases h with h | h <;> first | omega | (have := ob_some h; omega))))) (hL.fr (buf_stab _) F11 (fun _ _ h => h)) hB) ?_
      rintro _ w11 E7 rfl
      have F12 := F11.ext E7
      have hz7 := E7.size
      refine lx_b_t (same_true) ?_
      refine lx_value (want rfl) (pick_t rfl rfl) ?_
      refine lx_value (want rfl) (mv_bool rfl) ?_
      refine lx_value (want_if (j := 18) (d := 59) (x := true) (y := true) rfl rfl (by decide) rfl) (mv_slice rfl) ?_
      refine lx_value (want_if (j := 18) (d := 59) (x := true) (y := true) rfl rfl (by decide) rfl) (mv_slice rfl) ?_
      refine lx_call (want_if (j := 18) (d := 59) (x := true) (y := true) rfl rfl (by decide) rfl) (ent_func cf_20 (argsC (t_slice rfl) (argsC (t_slice rfl) args0))) (ctA (by rw [Nat.zero_add picks.length] <;> rfl) (ints_ct picks picks _ _ _ _ _ _ w11 (hI.fr (int_stab _) (Fr.ext (Fr.ext (Fr.ext (Fr.ext (Fr.trans (Fr.ext (Fr.refl (fun k => k = b23) w5) Eb23) Es1 (fun k _ h => h)) E4) E5) E6) E7) (fun k hk h => by first | exact h | (have := hk.1; have := hk.2; (try dsimp only at h); omega))) (hP.fr (int_stab _) F12 (fun _ _ h => h)) (by omega))) ?_
      rintro _ w12 E8 rfl
      have F13 := F12.ext E8
      have hz8 := E8.size
      refine lx_b_t (eq_true') ?_
      refine lx_value (want rfl) (pick_t rfl rfl) ?_
      refine lx_value (want rfl) (mv_bool rfl) ?_
      refine lx_call (want_if (j := 23) (d := 64) (x := true) (y := true) rfl rfl (by decide) rfl) (ent_func cf_21 args0) (awake_ct w12 (((((((BA2_800.ext Eb23).ne Es1 (by omega)).ext E4).ext E5).ext E6).ext E7).ext E8)) ?_
      rintro _ w13 E9 rfl
      have F14 := F13.ext E9
      have hz9 := E9.size
      refine lx_value (want rfl) (pick_t rfl rfl) ?_
      refine lx_value (want rfl) (as_bool rfl) ?_
      refine lx_nil ?_
      refine wk_ret ?_
      refine retR1 Tryd.results7 (.tmp (t_bool rfl)) F14 ?_
      exact rfl
  ·
    refine lx_value (want rfl) (rn_not rfl) ?_
    refine lx_value (want rfl) (mv_bool rfl) ?_
    refine lx_skip (want_if (j := 3) (d := 16) (x := false) (y := true) rfl rfl (by decide) rfl) ?_
    refine lx_skip (want_if (j := 3) (d := 16) (x := false) (y := true) rfl rfl (by decide) rfl) ?_
    refine lx_skip (want_if (j := 3) (d := 16) (x := false) (y := true) rfl rfl (by decide) rfl) ?_
    refine lx_value (want rfl) (pick_t rfl rfl) ?_
    refine lx_nil ?_
    refine wk_cond_t rfl ?_
    refine wk_seq ?_
    refine wk_region ?_
    refine lx_call (want rfl) (ent_func cf_21 args0) (awake_ct w2 ((hT.ext Eb21).ext E1)) ?_
    rintro _ w3 E10 rfl
    have F15 := F2.ext E10
    have hz10 := E10.size
    refine lx_value (want rfl) (as_bool rfl) ?_
    refine lx_nil ?_
    refine wk_ret ?_
    refine retR1 Tryd.results7 (.tmp (t_bool rfl)) F15 ?_
    exact rfl

end Go.Proofs.YtlfclnkoimfhmaaDoor

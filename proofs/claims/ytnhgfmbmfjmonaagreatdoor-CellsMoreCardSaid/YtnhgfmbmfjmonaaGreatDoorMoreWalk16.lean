/- What functions compute: pBelow, pshow. -/
import Derived.Test.YtnhgfmbmfjmonaaGreatDoorMoreFacts
import Derived.Test.YtnhgfmbmfjmonaaGreatDoorMorePre
import Derived.Test.YtnhgfmbmfjmonaaGreatDoorMoreWalk11
import Derived.Test.YtnhgfmbmfjmonaaGreatDoorMoreWalk15
import Derived.Test.YtnhgfmbmfjmonaaGreatDoorMoreWalk2
import Derived.Test.YtnhgfmbmfjmonaaGreatDoorMoreWalk3
import Derived.Test.YtnhgfmbmfjmonaaGreatDoorMoreWalk6
set_option maxRecDepth 100000
set_option linter.unusedVariables false
set_option linter.unusedSimpArgs false
namespace Go.Proofs.YtnhgfmbmfjmonaaGreatDoor
open Go Go.RowKit Go.Mix Go.Eng
set_option maxHeartbeats 2000000 in
theorem pBelow_ct (p : Pic) (sv : Option Addr) (cv : Nat) (sk : Option Addr) (ck : Nat) (G : Nat → Prop) (hB : Bp p) (q : Pic) (sv2 : Option Addr) (cv2 : Nat) (sk2 : Option Addr) (ck2 : Nat) (G2 : Nat → Prop) (hBq : Bp q) (w0 : World) (hv : VlS G w0 sv p.1) (hk : VvS G w0 sk p.2) (hv2 : VlS G2 w0 sv2 q.1) (hk2 : VvS G2 w0 sk2 q.2) :
  CT Tryz.prog 57 [.agg #[.slice sv p.1.length cv, .slice sk p.2.length ck], .agg #[.slice sv2 q.1.length cv2, .slice sk2 q.2.length ck2]] w0 no (fun v _ => v = .tuple #[.bool (belE p q).2, .int .i64 (belE p q).1]) := by
 have hv9 : VlS (fun k => (G k ∨ G2 k) ∧ k < w0.heap.size) w0 sv p.1 := (vl_lt hv).wide (fun k h => ⟨.inl h.1, h.2⟩)
 have hv29 : VlS (fun k => (G k ∨ G2 k) ∧ k < w0.heap.size) w0 sv2 q.1 := (vl_lt hv2).wide (fun k h => ⟨.inr h.1, h.2⟩)
 have hk9 : VvS (fun k => (G k ∨ G2 k) ∧ k < w0.heap.size) w0 sk p.2 := vv_wide (vv_lt hk) (fun k h => ⟨.inl h.1, h.2⟩)
 have hk29 : VvS (fun k => (G k ∨ G2 k) ∧ k < w0.heap.size) w0 sk2 q.2 := vv_wide (vv_lt hk2) (fun k h => ⟨.inr h.1, h.2⟩)
 have F0 := Fr.refl no w0
 refine ct_body Tryz.func57 rfl Tryz.ntmps57 (Nat.le_of_ble_eq_true rfl) ?_
 refine wk_seq ?_
 refine wk_region ?_
 refine lx_new (want rfl) (rn_box (t_agg rfl)) ?_
 intro b1 w1 hb1 Eb1 B1 hlb1
 have F1 := F0.ext Eb1
 have hzb1 := Eb1.size
 refine lx_new (want rfl) (rn_box (t_agg rfl)) ?_
 intro b2 w2 hb2 Eb2 B2 hlb2
 have F2 := F1.ext Eb2
 have hzb2 := Eb2.size
 refine lx_value (want rfl) (as_bool rfl) ?_
 refine lx_value (want rfl) (as_int rfl) ?_
 refine lx_nil ?_
 refine wk_seq ?_
 refine wk_seq ?_
 refine wk_region ?_
 refine lx_value (want rfl) (rn_loadBlk ag_45 sz_45 rfl (B1.ext Eb2) rfl rfl) ?_
 refine lx_call (want rfl) (ent_func cf_33 (argsC (t_agg rfl) args0)) (pispic_ct p sv cv sk ck G hB w2 (hv.fr (vl_stab _) F2 (fun _ _ h => h)) (hk.fr (vv_stab _) F2 (fun _ _ h => h))) ?_
 rintro _ w3 E1 rfl
 have F3 := F2.ext E1
 have hz1 := E1.size
 refine lx_split (fun hp1 => ?_) (fun hp1 => ?_)
 ·
  refine lx_value (want rfl) (rn_not rfl) ?_
  refine lx_value (want rfl) (mv_bool rfl) ?_
  refine lx_value (want_if (j := 3) (d := 10) (x := false) (y := false) rfl rfl (by decide) rfl) (rn_loadBlk ag_45 sz_45 rfl (B2.ext E1) rfl rfl) ?_
  refine lx_call (want_if (j := 3) (d := 10) (x := false) (y := false) rfl rfl (by decide) rfl) (ent_func cf_33 (argsC (t_agg rfl) args0)) (pispic_ct q sv2 cv2 sk2 ck2 G2 hBq w3 (hv2.fr (vl_stab _) F3 (fun _ _ h => h)) (hk2.fr (vv_stab _) F3 (fun _ _ h => h))) ?_
  rintro _ w4 E2 rfl
  have F4 := F3.ext E2
  have hz2 := E2.size
  refine lx_split (fun hp2 => ?_) (fun hp2 => ?_)
  ·
   refine lx_value (want_if (j := 3) (d := 10) (x := false) (y := false) rfl rfl (by decide) rfl) (rn_not rfl) ?_
   refine lx_value (want rfl) (pick_f rfl rfl) ?_
   refine lx_nil ?_
   refine wk_cond_f rfl ?_
   refine wk_skip ?_
   refine wk_seq ?_
   refine wk_region ?_
   refine lx_value (want rfl) (rn_loadBlk ag_45 sz_45 rfl (((B1.ext Eb2).ext E1).ext E2) rfl rfl) ?_
   refine lx_value (want rfl) (rn_loadBlk ag_45 sz_45 rfl ((B2.ext E1).ext E2) rfl rfl) ?_
   refine lx_makeMapB kI (want rfl) run_makeMap0 ?_
   intro b3 w5 hb3 Eb3 B3
   have F5 := F4.ext Eb3
   have hzb3 := Eb3.size
   have hlb3 := B3.lt
   refine lx_makeMapB kI (want rfl) run_makeMap0 ?_
   intro b4 w6 hb4 Eb4 B4
   have F6 := F5.ext Eb4
   have hzb4 := Eb4.size
   have hlb4 := B4.lt
   refine lx_value (want rfl) (rn_build4 (t_agg rfl) (t_agg rfl) (t_map rfl) (t_map rfl) (fun w => bd_156_0_1_2_3 _ _ _ _ _ _ _ _ _ _ _ _ _ _ w)) ?_
   refine lx_new (want rfl) (rn_box (t_agg rfl)) ?_
   intro b5 w7 hb5 Eb5 B5 hlb5
   have F7 := F6.ext Eb5
   have hzb5 := Eb5.size
   obtain ⟨Z5, hPn, hPni⟩ := po_new (lo := w4.heap.size) (X := [.slice sv p.1.length cv, .slice sk p.2.length ck, .slice sv2 q.1.length cv2, .slice sk2 q.2.length ck2]) B5 ((B3.ext Eb4).ext Eb5) (B4.ext Eb5) (by omega) (by omega) (by omega) (by omega) (by omega) (by omega)
   have hinc := fun (k : Nat) (hk : zz zn Z5 k) => (Or.inr (hPni k hk) : zz none (fun _ => False) k ∨ w4.heap.size ≤ k)
   have tg2 : ∀ k, zz zn Z5 k → w0.heap.size ≤ k := fun k hk => (hinc k hk).elim ((fun _ h => zz_nil h) k) (fun h => by omega)
   have tn2_1 : ∀ k, zz zn Z5 k → k ≠ b1 := fun k hk => (hinc k hk).elim ((fun _ h => zz_nil h) k) (fun h => by have := (B1).lt; omega)
   have tn2_2 : ∀ k, zz zn Z5 k → k ≠ b2 := fun k hk => (hinc k hk).elim ((fun _ h => zz_nil h) k) (fun h => by have := (B2).lt; omega)
   refine lx_value (want rfl) (as_pointer rfl) ?_
   refine lx_nil ?_
   refine wk_seq ?_
   refine wk_region ?_
   refine lx_value (want rfl) (mv_pointer rfl) ?_
   refine lx_value (want rfl) (rn_fieldAddr fa_45_0 rfl) ?_
   refine lx_value (want rfl) (rn_load1Blk ag_30 rfl ((((((B1.ext Eb2).ext E1).ext E2).ext Eb3).ext Eb4).ext Eb5) rfl) ?_
   refine lx_value (want rfl) (rn_fieldAddr fa_45_0 rfl) ?_
   refine lx_value (want rfl) (rn_load1Blk ag_30 rfl (((((B2.ext E1).ext E2).ext Eb3).ext Eb4).ext Eb5) rfl) ?_
   refine lx_call (want rfl) (ent_func cf_100 (argsC (t_pointer rfl) (argsC (t_slice rfl) (argsC (t_slice rfl) args0)))) (belowall_ct b5 p.2 q.2 sv p.1.length cv sk ck sv2 q.1.length cv2 sk2 ck2 (fun k => (G k ∨ G2 k) ∧ k < w0.heap.size) (fun x hx => ⟨hB.2.2 x hx, (pic_vals hp1).2 x hx⟩) (fun x hx => (pic_vals hp2).2 x hx) hB.2.1 p.2.length Z5 [] p.1 q.1 sv cv sv2 cv2 w7 (fun k hk h => by have := tg2 k h; have := hk.2; omega) (fun k hk => Nat.lt_of_lt_of_le hk.2 F7.size) List.nodup_nil (fun x hx => by cases hx) (Nat.le_add_right _ _) (pic_vals hp1).1 (pic_vals hp2).1 hB.1 hPn (hv9.fr (vl_stab _) F7 (fun _ _ h => h)) (hv29.fr (vl_stab _) F7 (fun _ _ h => h)) (hk9.fr (vv_stab _) F7 (fun _ _ h => h)) (hk29.fr (vv_stab _) F7 (fun _ _ h => h))) ?_
   rintro _ w8 E3 ⟨rfl, _, _, _, _, _⟩
   have F8 := F7.new E3 (fun k h => tg2 k h)
   have hz3 := E3.size
   refine lx_value (want rfl) (as_bool rfl) ?_
   refine lx_value (want rfl) (as_int rfl) ?_
   refine lx_nil ?_
   refine wk_ret ?_
   refine retR2 Tryz.results57 (.tmp (t_bool rfl)) (.tmp (t_int rfl)) F8 ?_
   exact belE_1 hp1 hp2
  ·
   refine lx_value (want_if (j := 3) (d := 10) (x := false) (y := false) rfl rfl (by decide) rfl) (rn_not rfl) ?_
   refine lx_value (want rfl) (pick_f rfl rfl) ?_
   refine lx_nil ?_
   refine wk_cond_t rfl ?_
   refine wk_seq ?_
   refine wk_region ?_
   refine lx_value (want rfl) (as_bool rfl) ?_
   refine lx_value (want rfl) (as_int rfl) ?_
   refine lx_nil ?_
   refine wk_ret ?_
   refine retR2 Tryz.results57 (.tmp (t_bool rfl)) (.tmp (t_int rfl)) F4 ?_
   exact belE_0 (fun h => by rw [hp2] at h; exact Bool.false_ne_true h.2)
 ·
  refine lx_value (want rfl) (rn_not rfl) ?_
  refine lx_value (want rfl) (mv_bool rfl) ?_
  refine lx_skip (want_if (j := 3) (d := 10) (x := false) (y := true) rfl rfl (by decide) rfl) ?_
  refine lx_skip (want_if (j := 3) (d := 10) (x := false) (y := true) rfl rfl (by decide) rfl) ?_
  refine lx_skip (want_if (j := 3) (d := 10) (x := false) (y := true) rfl rfl (by decide) rfl) ?_
  refine lx_value (want rfl) (pick_t rfl rfl) ?_
  refine lx_nil ?_
  refine wk_cond_t rfl ?_
  refine wk_seq ?_
  refine wk_region ?_
  refine lx_value (want rfl) (as_bool rfl) ?_
  refine lx_value (want rfl) (as_int rfl) ?_
  refine lx_nil ?_
  refine wk_ret ?_
  refine retR2 Tryz.results57 (.tmp (t_bool rfl)) (.tmp (t_int rfl)) F3 ?_
  exact belE_0 (fun h => by rw [hp1] at h; exact Bool.false_ne_true h.1)

set_option maxHeartbeats 2000000 in
theorem pshow_ct (p : Pic) (sv : Option Addr) (cv : Nat) (sk : Option Addr) (ck : Nat) (G : Nat → Prop) (hB : Bp p) (dp : Int) (hI : ∀ v, PicV p v → ItP Tryz.prog 156 v) (w0 : World) (hv : VlS G w0 sv p.1) (hk : VvS G w0 sk p.2) :
  CT Tryz.prog 51 [.agg #[.slice sv p.1.length cv, .slice sk p.2.length ck], .int .i64 dp] w0 no (fun v _ => v = showV (showR p dp)) := by
 have hB1 := hB.1
 have hB2 := hB.2.1
 have hv2 := vl_lt hv
 have hk2 := vv_lt hk
 have F0 := Fr.refl no w0
 refine ct_body Tryz.func51 rfl Tryz.ntmps51 (Nat.le_of_ble_eq_true rfl) ?_
 refine wk_seq ?_
 refine wk_region ?_
 refine lx_new (want rfl) (rn_box (t_agg rfl)) ?_
 intro b1 w1 hb1 Eb1 B1 hlb1
 have F1 := F0.ext Eb1
 have hzb1 := Eb1.size
 refine lx_value (want rfl) (as_string rfl) ?_
 refine lx_value (want rfl) (as_int rfl) ?_
 refine lx_nil ?_
 refine wk_seq ?_
 refine wk_block ?_
 refine wk_seq ?_
 refine wk_region ?_
 refine lx_value (want rfl) (rn_loadBlk ag_45 sz_45 rfl B1 rfl rfl) ?_
 refine lx_call (want rfl) (ent_func cf_33 (argsC (t_agg rfl) args0)) (pispic_ct p sv cv sk ck G hB w1 (hv.fr (vl_stab _) F1 (fun _ _ h => h)) (hk.fr (vv_stab _) F1 (fun _ _ h => h))) ?_
 rintro _ w2 E1 rfl
 have F2 := F1.ext E1
 have hz1 := E1.size
 refine lx_split (fun hp => ?_) (fun hp => ?_)
 ·
  refine lx_value (want rfl) (rn_not rfl) ?_
  refine lx_value (want rfl) (as_bool rfl) ?_
  refine lx_nil ?_
  refine wk_cond_f rfl ?_
  refine wk_seq ?_
  refine wk_region ?_
  refine lx_value (want rfl) (mv_int rfl) ?_
  refine lx_call (want rfl) (ent_func cf_94 (argsC (t_int rfl) (argsC (t_int rfl) (argsC (t_int rfl) args0)))) (within_ct _ _ _ w2) ?_
  rintro _ w3 E2 rfl
  have F3 := F2.ext E2
  have hz2 := E2.size
  refine lx_split (fun hd => ?_) (fun hd => ?_)
  ·
   replace hd := of_decide_eq_true hd
   obtain ⟨dn, rfl⟩ : ∃ n : Nat, dp = n := ⟨dp.toNat, by omega⟩
   refine lx_value (want rfl) (rn_not rfl) ?_
   refine lx_value (want rfl) (as_bool rfl) ?_
   refine lx_nil ?_
   refine wk_cond_f rfl ?_
   refine wk_skip ?_
   refine wk_seq ?_
   refine wk_region ?_
   refine lx_value (want rfl) (rn_fieldAddr fa_45_1 rfl) ?_
   refine lx_value (want rfl) (rn_load1Blk ag_43 rfl ((B1.ext E1).ext E2) rfl) ?_
   refine lx_value (want rfl) (rn_build1 (t_slice rfl) (fun w => bd_149_1 _ _ _ w)) ?_
   refine lx_new (want rfl) (rn_box (t_agg rfl)) ?_
   intro b2 w4 hb2 Eb2 B2 hlb2
   have F4 := F3.ext Eb2
   have hzb2 := Eb2.size
   obtain ⟨Z5, hMs, hMsi⟩ := sh_new (lo := w1.heap.size) B2 (by omega)
   have hinc := fun (k : Nat) (hk : zz zn Z5 k) => (Or.inr (hMsi k hk) : zz none (fun _ => False) k ∨ w1.heap.size ≤ k)
   have hlb18 := hMs.lt hMs.in
   have hGZ5 : ∀ k, (G k ∧ k < w0.heap.size) → ¬ Z5 k := fun k hk h => by have := hMsi k h; have := hk.2; omega
   have tg2 : ∀ k, zz zn Z5 k → w0.heap.size ≤ k := fun k hk => (hinc k hk).elim ((fun _ h => zz_nil h) k) (fun h => by omega)
   have tn2_1 : ∀ k, zz zn Z5 k → k ≠ b1 := fun k hk => (hinc k hk).elim ((fun _ h => zz_nil h) k) (fun h => by have := (B1).lt; omega)
   refine lx_value (want rfl) (as_pointer rfl) ?_
   refine lx_nil ?_
   refine wk_seq ?_
   refine wk_region ?_
   refine lx_value (want rfl) (mv_pointer rfl) ?_
   refine lx_value (want rfl) (rn_fieldAddr fa_45_0 rfl) ?_
   refine lx_value (want rfl) (rn_load1Blk ag_30 rfl (((B1.ext E1).ext E2).ext Eb2) rfl) ?_
   refine lx_value (want rfl) (mv_int rfl) ?_
   refine lx_call (want rfl) (ent_func cf_95 (argsC (t_pointer rfl) (argsC (t_slice rfl) (argsC (t_int rfl) args0)))) ((showall_ct (showOk_pic hp hI) b2 dn (by omega)).1 Z5 [] p.1 sv cv (fun k => G k ∧ k < w0.heap.size) w4 hGZ5 (fun k hk => Nat.lt_of_lt_of_le hk.2 F4.size) hGZ5 (fun k hk => Nat.lt_of_lt_of_le hk.2 F4.size) (fun v hv => .inl hv) hB.1 (Nat.zero_le _) hMs (hv2.fr (vl_stab _) F4 (fun _ _ h => h)) (hk2.fr (vv_stab _) F4 (fun _ _ h => h))) ?_
   rintro _ w5 E3 ⟨bs2, Z3, hq2, hM3, hi3⟩
   have F5 := F4.new E3 (fun k h => tg2 k h)
   have hz3 := E3.size
   have tg3 : ∀ k, zz zn Z3 k → w0.heap.size ≤ k := fun k hk => (hi3 k hk).elim (tg2 k) (fun h => by omega)
   have tn3_1 : ∀ k, zz zn Z3 k → k ≠ b1 := fun k hk => (hi3 k hk).elim (tn2_1 k) (fun h => by have := (B1).lt; omega)
   refine lx_nil ?_
   refine wk_seq ?_
   refine wk_seq ?_
   refine wk_region ?_
   refine lx_value (want rfl) (mv_pointer rfl) ?_
   refine lx_call (want rfl) (ent_func cf_96 (argsC (t_pointer rfl) args0)) (isfullS_ct hM3) ?_
   rintro _ w6 E4 rfl
   have F6 := F5.ext E4
   have hz4 := E4.size
   refine lx_split (fun hf => ?_) (fun hf => ?_)
   ·
    replace hf := of_decide_eq_true hf
    refine lx_nil ?_
    refine wk_cond_t rfl ?_
    refine wk_seq ?_
    refine wk_region ?_
    refine lx_value (want rfl) (as_string rfl) ?_
    refine lx_value (want rfl) (as_int rfl) ?_
    refine lx_nil ?_
    refine wk_ret ?_
    refine retR2 Tryz.results51 (.tmp (t_string rfl)) (.tmp (t_int rfl)) F6 ?_
    exact showR_5 hp hd hq2 hf
   ·
    replace hf := of_decide_eq_false hf
    refine lx_nil ?_
    refine wk_cond_f rfl ?_
    refine wk_skip ?_
    refine wk_seq ?_
    refine wk_region ?_
    refine lx_value (want rfl) (mv_pointer rfl) ?_
    refine lx_value (want rfl) (rn_nilCheck rfl) ?_
    refine lx_value (want rfl) (rn_fieldAddr fa_149_0 rfl) ?_
    refine lx_call (want rfl) (ent_func cf_97 (argsC (t_pointer rfl) args0)) (bstring_ct Z3 b2 bs2 sk p.2.length ck (by have := hq2.2.2; omega) w6 (hM3.ext E4)) ?_
    rintro _ w7 E5 rfl
    have F7 := F6.new E5 (fun k h => tg3 k h)
    have hz5 := E5.size
    refine lx_value (want rfl) (as_string rfl) ?_
    refine lx_value (want rfl) (as_int rfl) ?_
    refine lx_nil ?_
    refine wk_ret ?_
    refine retR2 Tryz.results51 (.tmp (t_string rfl)) (.tmp (t_int rfl)) F7 ?_
    exact showR_0 hp hd hq2 (by omega)
  ·
   replace hd := of_decide_eq_false hd
   refine lx_value (want rfl) (rn_not rfl) ?_
   refine lx_value (want rfl) (as_bool rfl) ?_
   refine lx_nil ?_
   refine wk_cond_t rfl ?_
   refine wk_seq ?_
   refine wk_region ?_
   refine lx_value (want rfl) (as_string rfl) ?_
   refine lx_value (want rfl) (as_int rfl) ?_
   refine lx_nil ?_
   refine wk_ret ?_
   refine retR2 Tryz.results51 (.tmp (t_string rfl)) (.tmp (t_int rfl)) F3 ?_
   exact showR_3 hp hd
 ·
  refine lx_value (want rfl) (rn_not rfl) ?_
  refine lx_value (want rfl) (as_bool rfl) ?_
  refine lx_nil ?_
  refine wk_cond_t rfl ?_
  refine wk_seq ?_
  refine wk_region ?_
  refine lx_value (want rfl) (as_string rfl) ?_
  refine lx_value (want rfl) (as_int rfl) ?_
  refine lx_nil ?_
  refine wk_ret ?_
  refine retR2 Tryz.results51 (.tmp (t_string rfl)) (.tmp (t_int rfl)) F2 ?_
  exact showR_4 (by rw [hp]; exact Bool.false_ne_true)

end Go.Proofs.YtnhgfmbmfjmonaaGreatDoor

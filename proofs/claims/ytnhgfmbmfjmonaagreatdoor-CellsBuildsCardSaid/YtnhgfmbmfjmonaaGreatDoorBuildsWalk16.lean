/- What functions compute: pshow. -/
import Derived.Test.YtnhgfmbmfjmonaaGreatDoorBuildsFacts
import Derived.Test.YtnhgfmbmfjmonaaGreatDoorBuildsPre
import Derived.Test.YtnhgfmbmfjmonaaGreatDoorBuildsWalk11
import Derived.Test.YtnhgfmbmfjmonaaGreatDoorBuildsWalk15
import Derived.Test.YtnhgfmbmfjmonaaGreatDoorBuildsWalk2
import Derived.Test.YtnhgfmbmfjmonaaGreatDoorBuildsWalk5
set_option maxRecDepth 100000
set_option linter.unusedVariables false
set_option linter.unusedSimpArgs false
namespace Go.Proofs.YtnhgfmbmfjmonaaGreatDoor
open Go Go.RowKit Go.Mix Go.Eng
set_option maxHeartbeats 2000000 in
theorem pshow_ct (p : Pic) (sv : Option Addr) (cv : Nat) (sk : Option Addr) (ck : Nat) (G : Nat → Prop) (hB : Bp p) (dp : Int) (hI : ∀ v, PicV p v → ItP Tryz.prog 156 v) (w0 : World) (hv : VlS G w0 sv p.1) (hk : VvS G w0 sk p.2) :
  CT Tryz.prog 51 [.agg #[.slice sv p.1.length cv, .slice sk p.2.length ck], .int .i64 dp] w0 no (fun v _ => v = showV (showR p dp)) := by
 have hB1 := hB.1
 have hB2 := hB.2.1
 have hv2 := vl_lt hv
 have hk2 := vv_lt hk
 have F0 := Fr.refl no w0
 refine ct_body Tryz.func51 rfl Tryz.ntmps51 (Nat.le_of_ble_eq_true rfl) ?_
 refine wk_seq ?_
 refine wk_region ?_
 refine lx_new (want rfl) (rn_box (t_agg rfl)) ?_
 intro b1 w1 hb1 Eb1 B1 hlb1
 have F1 := F0.ext Eb1
 have hzb1 := Eb1.size
 refine lx_value (want rfl) (as_string rfl) ?_
 refine lx_value (want rfl) (as_int rfl) ?_
 refine lx_nil ?_
 refine wk_seq ?_
 refine wk_block ?_
 refine wk_seq ?_
 refine wk_region ?_
 refine lx_value (want rfl) (rn_loadBlk ag_45 sz_45 rfl B1 rfl rfl) ?_
 refine lx_call (want rfl) (ent_func cf_33 (argsC (t_agg rfl) args0)) (pispic_ct p sv cv sk ck G hB w1 (hv.fr (vl_stab _) F1 (fun _ _ h => h)) (hk.fr (vv_stab _) F1 (fun _ _ h => h))) ?_
 rintro _ w2 E1 rfl
 have F2 := F1.ext E1
 have hz1 := E1.size
 refine lx_split (fun hp => ?_) (fun hp => ?_)
 ·
  refine lx_value (want rfl) (rn_not rfl) ?_
  refine lx_value (want rfl) (as_bool rfl) ?_
  refine lx_nil ?_
  refine wk_cond_f rfl ?_
  refine wk_seq ?_
  refine wk_region ?_
  refine lx_value (want rfl) (mv_int rfl) ?_
  refine lx_call (want rfl) (ent_func cf_94 (argsC (t_int rfl) (argsC (t_int rfl) (argsC (t_int rfl) args0)))) (within_ct _ _ _ w2) ?_
  rintro _ w3 E2 rfl
  have F3 := F2.ext E2
  have hz2 := E2.size
  refine lx_split (fun hd => ?_) (fun hd => ?_)
  ·
   replace hd := of_decide_eq_true hd
   obtain ⟨dn, rfl⟩ : ∃ n : Nat, dp = n := ⟨dp.toNat, by omega⟩
   refine lx_value (want rfl) (rn_not rfl) ?_
   refine lx_value (want rfl) (as_bool rfl) ?_
   refine lx_nil ?_
   refine wk_cond_f rfl ?_
   refine wk_skip ?_
   refine wk_seq ?_
   refine wk_region ?_
   refine lx_value (want rfl) (rn_fieldAddr fa_45_1 rfl) ?_
   refine lx_value (want rfl) (rn_load1Blk ag_43 rfl ((B1.ext E1).ext E2) rfl) ?_
   refine lx_value (want rfl) (rn_build1 (t_slice rfl) (fun w => bd_149_1 _ _ _ w)) ?_
   refine lx_new (want rfl) (rn_box (t_agg rfl)) ?_
   intro b2 w4 hb2 Eb2 B2 hlb2
   have F4 := F3.ext Eb2
   have hzb2 := Eb2.size
   obtain ⟨Z5, hMs, hMsi⟩ := sh_new (lo := w1.heap.size) B2 (by omega)
   have hinc := fun (k : Nat) (hk : zz zn Z5 k) => (Or.inr (hMsi k hk) : zz none (fun _ => False) k ∨ w1.heap.size ≤ k)
   have hlb18 := hMs.lt hMs.in
   have hGZ5 : ∀ k, (G k ∧ k < w0.heap.size) → ¬ Z5 k := fun k hk h => by have := hMsi k h; have := hk.2; omega
   have tg2 : ∀ k, zz zn Z5 k → w0.heap.size ≤ k := fun k hk => (hinc k hk).elim ((fun _ h => zz_nil h) k) (fun h => by omega)
   have tn2_1 : ∀ k, zz zn Z5 k → k ≠ b1 := fun k hk => (hinc k hk).elim ((fun _ h => zz_nil h) k) (fun h => by have := (B1).lt; omega)
   refine lx_value (want rfl) (as_pointer rfl) ?_
   refine lx_nil ?_
   refine wk_seq ?_
   refine wk_region ?_
   refine lx_value (want rfl) (mv_pointer rfl) ?_
   refine lx_value (want rfl) (rn_fieldAddr fa_45_0 rfl) ?_
   refine lx_value (want rfl) (rn_load1Blk ag_30 rfl (((B1.ext E1).ext E2).ext Eb2) rfl) ?_
   refine lx_value (want rfl) (mv_int rfl) ?_
   refine lx_call (want rfl) (ent_func cf_95 (argsC (t_pointer rfl) (argsC (t_slice rfl) (argsC (t_int rfl) args0)))) ((showall_ct (showOk_pic hp hI) b2 dn (by omega)).1 Z5 [] p.1 sv cv (fun k => G k ∧ k < w0.heap.size) w4 hGZ5 (fun k hk => Nat.lt_of_lt_of_le hk.2 F4.size) hGZ5 (fun k hk => Nat.lt_of_lt_of_le hk.2 F4.size) (fun v hv => .inl hv) hB.1 (Nat.zero_le _) hMs (hv2.fr (vl_stab _) F4 (fun _ _ h => h)) (hk2.fr (vv_stab _) F4 (fun _ _ h => h))) ?_
   rintro _ w5 E3 ⟨bs2, Z3, hq2, hM3, hi3⟩
   have F5 := F4.new E3 (fun k h => tg2 k h)
   have hz3 := E3.size
   have tg3 : ∀ k, zz zn Z3 k → w0.heap.size ≤ k := fun k hk => (hi3 k hk).elim (tg2 k) (fun h => by omega)
   have tn3_1 : ∀ k, zz zn Z3 k → k ≠ b1 := fun k hk => (hi3 k hk).elim (tn2_1 k) (fun h => by have := (B1).lt; omega)
   refine lx_nil ?_
   refine wk_seq ?_
   refine wk_seq ?_
   refine wk_region ?_
   refine lx_value (want rfl) (mv_pointer rfl) ?_
   refine lx_call (want rfl) (ent_func cf_96 (argsC (t_pointer rfl) args0)) (isfullS_ct hM3) ?_
   rintro _ w6 E4 rfl
   have F6 := F5.ext E4
   have hz4 := E4.size
   refine lx_split (fun hf => ?_) (fun hf => ?_)
   ·
    replace hf := of_decide_eq_true hf
    refine lx_nil ?_
    refine wk_cond_t rfl ?_
    refine wk_seq ?_
    refine wk_region ?_
    refine lx_value (want rfl) (as_string rfl) ?_
    refine lx_value (want rfl) (as_int rfl) ?_
    refine lx_nil ?_
    refine wk_ret ?_
    refine retR2 Tryz.results51 (.tmp (t_string rfl)) (.tmp (t_int rfl)) F6 ?_
    exact showR_5 hp hd hq2 hf
   ·
    replace hf := of_decide_eq_false hf
    refine lx_nil ?_
    refine wk_cond_f rfl ?_
    refine wk_skip ?_
    refine wk_seq ?_
    refine wk_region ?_
    refine lx_value (want rfl) (mv_pointer rfl) ?_
    refine lx_value (want rfl) (rn_nilCheck rfl) ?_
    refine lx_value (want rfl) (rn_fieldAddr fa_149_0 rfl) ?_
    refine lx_call (want rfl) (ent_func cf_97 (argsC (t_pointer rfl) args0)) (bstring_ct Z3 b2 bs2 sk p.2.length ck (by have := hq2.2.2; omega) w6 (hM3.ext E4)) ?_
    rintro _ w7 E5 rfl
    have F7 := F6.new E5 (fun k h => tg3 k h)
    have hz5 := E5.size
    refine lx_value (want rfl) (as_string rfl) ?_
    refine lx_value (want rfl) (as_int rfl) ?_
    refine lx_nil ?_
    refine wk_ret ?_
    refine retR2 Tryz.results51 (.tmp (t_string rfl)) (.tmp (t_int rfl)) F7 ?_
    exact showR_0 hp hd hq2 (by omega)
  ·
   replace hd := of_decide_eq_false hd
   refine lx_value (want rfl) (rn_not rfl) ?_
   refine lx_value (want rfl) (as_bool rfl) ?_
   refine lx_nil ?_
   refine wk_cond_t rfl ?_
   refine wk_seq ?_
   refine wk_region ?_
   refine lx_value (want rfl) (as_string rfl) ?_
   refine lx_value (want rfl) (as_int rfl) ?_
   refine lx_nil ?_
   refine wk_ret ?_
   refine retR2 Tryz.results51 (.tmp (t_string rfl)) (.tmp (t_int rfl)) F3 ?_
   exact showR_3 hp hd
 ·
  refine lx_value (want rfl) (rn_not rfl) ?_
  refine lx_value (want rfl) (as_bool rfl) ?_
  refine lx_nil ?_
  refine wk_cond_t rfl ?_
  refine wk_seq ?_
  refine wk_region ?_
  refine lx_value (want rfl) (as_string rfl) ?_
  refine lx_value (want rfl) (as_int rfl) ?_
  refine lx_nil ?_
  refine wk_ret ?_
  refine retR2 Tryz.results51 (.tmp (t_string rfl)) (.tmp (t_int rfl)) F2 ?_
  exact showR_4 (by rw [hp]; exact Bool.false_ne_true)

end Go.Proofs.YtnhgfmbmfjmonaaGreatDoor

/- What functions of the cube compute: xnewi, xput, xdo, xround. -/
import Derived.Test.YtlfclnkoimfhmaaDoorFacts
import Derived.Test.YtlfclnkoimfhmaaDoorPre
import Derived.Test.YtlfclnkoimfhmaaDoorWalk12
import Derived.Test.YtlfclnkoimfhmaaDoorWalk15
import Derived.Test.YtlfclnkoimfhmaaDoorWalk4
import Derived.Test.YtlfclnkoimfhmaaDoorWalk8
import Derived.Test.YtlfclnkoimfhmaaDoorWalk9
set_option linter.unusedVariables false
set_option linter.unusedSimpArgs false
namespace Go.Proofs.YtlfclnkoimfhmaaDoor
open Go Go.RowKit Go.Mix Go.Eng
theorem xnewi_ct (dim : Nat) (r : Int) (hd : dim ≤ 3) (w0 : World) (hT : Tb w0 1) :
    CT Tryd.prog 15 [.int .i64 dim, .int .i64 r] w0 no (fun v w => NewQ w0.heap.size dim r v w) := by
  have hTl := hT.lt
  have h32 := prod_le hd
  have h28 := pow2_le dim (Nat.le_refl _) hd
  have hcm : (dim + 1) * 2 ^ dim = 2 ^ dim * (dim + 1) := Nat.mul_comm _ _
  have F0 := Fr.refl no w0
  refine ct_body Tryd.func15 rfl Tryd.ntmps15 (Nat.le_of_ble_eq_true rfl) ?_
  refine wk_seq ?_
  refine wk_region ?_
  refine lx_new (want rfl) (rn_alloc ze_24) ?_
  intro b21 w1 hb21 Eb21 B21 hlb21
  have F1 := F0.ext Eb21
  have hzb21 := Eb21.size
  refine lx_value (want rfl) (as_int rfl) ?_
  refine lx_nil ?_
  refine wk_seq ?_
  refine wk_region ?_
  refine lx_value (want rfl) (mv_int rfl) ?_
  refine lx_value (want rfl) (mv_int rfl) ?_
  refine lx_value (want rfl) (rn_build2 (t_int rfl) (t_int rfl) (fun w => bd_24_0_1 _ _ w)) ?_
  refine lx_new (want rfl) (rn_alloc ze_24) ?_
  intro b22 w2 hb22 Eb22 B22 hlb22
  have F2 := F1.ext Eb22
  have hzb22 := Eb22.size
  refine lx_set (want rfl) sz_24 rfl (t_agg rfl) rfl rfl rfl B22 (Nat.le_of_ble_eq_true rfl) ?_
  intro w3 Es1 Bs1
  have F3 := F2.set Es1 (by omega)
  have hzs1 := Es1.size
  refine lx_nil ?_
  refine wk_seq ?_
  refine wk_seq ?_
  refine wk_region ?_
  refine lx_value (want rfl) (mv_int rfl) ?_
  refine lx_newS (want rfl) (rn_bslice (xs := [.tmp 11]) Tryd.underlying28 sz_3 ze_3 rfl (argsC (t_int rfl) args0) (CL.cons rfl rfl CL.nil) rfl (Nat.le_of_ble_eq_true rfl)) ?_
  intro b23 w4 hb23 Eb23 B23 hlb23
  have F4 := F3.ext Eb23
  have hzb23 := Eb23.size
  refine lx_call (want rfl) (ent_func cf_47 (argsC (t_int rfl) (argsC (t_int rfl) (argsC (t_slice rfl) args0)))) (within_ct 0 3 [(dim : Int)] _ _ _ w4 (blk_ints [(dim : Int)] B23) (by simp)) ?_
  rintro _ w5 E1 rfl
  have F5 := F4.ext E1
  have hz1 := E1.size
  refine lx_b_t (in_dim hd) ?_
  refine lx_nil ?_
  refine wk_cond_t rfl ?_
  refine wk_region ?_
  refine lx_value (want rfl) (mv_int rfl) ?_
  refine lx_value (want rfl) (rn_addN rfl (n := 1) rfl (by omega)) ?_
  refine lx_value (want rfl) (mv_int rfl) ?_
  refine lx_value (want rfl) (rn_shl rfl rfl (by omega)) ?_
  refine lx_newS (want rfl) (rn_makeSlice Tryd.underlying22 ti_49 rfl rfl rfl (by omega)) ?_
  intro b24 w6 hb24 Eb24 B24 hlb24
  have F6 := F5.ext Eb24
  have hzb24 := Eb24.size
  have hbuf := made_buf (lo := b24) B24 (Nat.le_refl _)
  refine lx_value (want rfl) (rn_fieldAddr fa_24_2 rfl) ?_
  refine lx_set (want rfl) sz_22 rfl (t_slice rfl) rfl rfl rfl (((Bs1.ext Eb23).ext E1).ext Eb24) (Nat.le_of_ble_eq_true rfl) ?_
  intro w7 Es2 Bs2
  have F7 := F6.set Es2 (by omega)
  have hzs2 := Es2.size
  refine lx_nil ?_
  refine wk_seq ?_
  refine wk_seq ?_
  refine wk_region ?_
  refine lx_value (want rfl) (rn_loadBlk ag_24 sz_24 rfl Bs2 rfl rfl) ?_
  refine lx_call (want rfl) (ent_func cf_24 (argsC (t_agg rfl) args0)) (chk_n (by rw [List.length_replicate]) (ccheck_ct dim r (List.replicate ((dim + 1) * 2 ^ dim) ([] : List Pk)) _ _ _ (bd_rep (by omega)) w7 (hbuf.fr (buf_stab _) (Fr.trans (Fr.refl (fun k => k = b22) w6) Es2 (fun k _ h => h)) (fun k hk h => by have := hk.1; (try dsimp only at h); omega)) (((((((hT.ext Eb21).ext Eb22).ne Es1 (by omega)).ext Eb23).ext E1).ext Eb24).ne Es2 (by omega)))) ?_
  rintro _ w8 E2 rfl
  have F8 := F7.ext E2
  have hz2 := E2.size
  refine lx_value (want rfl) (as_int rfl) ?_
  refine lx_nil ?_
  refine wk_seq ?_
  refine wk_region ?_
  refine lx_value (want rfl) (mv_int rfl) ?_
  refine lx_value (want rfl) (rn_neq rfl rfl) ?_
  refine lx_dec (fun he => ?_) (fun he => ?_)
  ·
    refine lx_nil ?_
    refine wk_cond_t rfl ?_
    refine wk_seq ?_
    refine wk_region ?_
    refine lx_value (want rfl) (rn_build0  (fun w => bd_24  w)) ?_
    refine lx_value (want rfl) (mv_int rfl) ?_
    refine lx_set (want rfl) sz_24 rfl (t_agg rfl) rfl rfl rfl (((((((B21.ext Eb22).ne Es1 (by omega)).ext Eb23).ext E1).ext Eb24).ne Es2 (by omega)).ext E2) (Nat.le_of_ble_eq_true rfl) ?_
    intro w9 Es3 Bs3
    have F9 := F8.set Es3 (by omega)
    have hzs3 := Es3.size
    refine lx_value (want rfl) (as_int rfl) ?_
    refine lx_nil ?_
    refine wk_ret ?_
    refine retR2 Tryd.results15 (.cell rfl (run_loadVar_blk ag_24 sz_24 Bs3 rfl rfl)) (.tmp (t_int rfl)) F9 ?_
    exact newp_bad (chk_rep hd) he
  ·
    refine lx_nil ?_
    refine wk_cond_f rfl ?_
    refine wk_skip ?_
    refine wk_seq ?_
    refine wk_region ?_
    refine lx_value (want rfl) (rn_loadBlk ag_24 sz_24 rfl (Bs2.ext E2) rfl rfl) ?_
    refine lx_set (want rfl) sz_24 rfl (t_agg rfl) rfl rfl rfl (((((((B21.ext Eb22).ne Es1 (by omega)).ext Eb23).ext E1).ext Eb24).ne Es2 (by omega)).ext E2) (Nat.le_of_ble_eq_true rfl) ?_
    intro w9 Es4 Bs4
    have F10 := F8.set Es4 (by omega)
    have hzs4 := Es4.size
    refine lx_value (want rfl) (as_int rfl) ?_
    refine lx_nil ?_
    refine wk_ret ?_
    refine retR2 Tryd.results15 (.cell rfl (run_loadVar_blk ag_24 sz_24 Bs4 rfl rfl)) (.tmp (t_int rfl)) F10 ?_
    exact newp_ok (by rw [← chk_rep hd]; exact Decidable.not_not.1 he) rfl (((B24.ne Es2 (by omega)).ext E2).ne Es4 (by omega)) (by omega)

theorem xput_ct (d r : Int) (L : List (List Pk)) (s : Option Addr) (c : Nat) (G : Nat → Prop) (hB : Bd L) (p1 p2 p3 : Int) (w0 : World) (hL : BufS G w0 s L) (hT : Tb w0 1) :
    CT Tryd.prog 28 [.agg #[.int .i64 d, .int .i64 r, .slice s L.length c], .agg #[.int .i64 p1, .int .i64 p2, .int .i64 p3]] w0 no (fun v w => PutQ w0.heap.size d r L (p1, p2, p3) v w) := by
  have hTl := hT.lt
  have F0 := Fr.refl no w0
  refine ct_body Tryd.func28 rfl Tryd.ntmps28 (Nat.le_of_ble_eq_true rfl) ?_
  refine wk_seq ?_
  refine wk_region ?_
  refine lx_new (want rfl) (rn_box (t_agg rfl)) ?_
  intro b21 w1 hb21 Eb21 B21 hlb21
  have F1 := F0.ext Eb21
  have hzb21 := Eb21.size
  refine lx_new (want rfl) (rn_box (t_agg rfl)) ?_
  intro b22 w2 hb22 Eb22 B22 hlb22
  have F2 := F1.ext Eb22
  have hzb22 := Eb22.size
  refine lx_new (want rfl) (rn_alloc ze_24) ?_
  intro b23 w3 hb23 Eb23 B23 hlb23
  have F3 := F2.ext Eb23
  have hzb23 := Eb23.size
  refine lx_value (want rfl) (as_int rfl) ?_
  refine lx_nil ?_
  refine wk_seq ?_
  refine wk_region ?_
  refine lx_value (want rfl) (rn_makeFunc (argsC (t_pointer rfl) args0)) ?_
  refine lx_value (want rfl) (rn_loadBlk ag_24 sz_24 rfl ((B21.ext Eb22).ext Eb23) rfl rfl) ?_
  refine lx_call (want rfl) (ent_func cf_57 (argsC (t_func rfl) (argsC (t_agg rfl) args0))) (onU (on_ct 54 [.pointer (some ⟨b22, 0, none⟩)] cf_54 d r L _ _ _ hB [] (putE d r L (p1, p2, p3)) (putL d.toNat r L (p1, p2, p3)) w3 (hL.fr (buf_stab _) F3 (fun _ _ h => h)) (((hT.ext Eb21).ext Eb22).ext Eb23) (fun dim w b s c T E hd hV hT hC hm hg => by subst hd; rw [Int.toNat_natCast]; exact put1_ct b dim r s c T L hm hV p1 p2 p3 b22 w hC hT (fun k hk => by have := hg k hk; omega) ((B22.ext Eb23).ext E) (fun k hk => by have := hg k hk; omega)))) ?_
  rintro _ w4 E1 ⟨_, _, rfl, ⟨sM, cM, rfl, hM⟩, ⟨sP, cP, rfl, hP⟩⟩
  have F4 := F3.ext E1
  have hz1 := E1.size
  refine lx_value (want rfl) (mv_tuple rfl) ?_
  refine lx_value (want rfl) (rn_extract rfl rfl) ?_
  refine lx_value (want rfl) (rn_extract rfl rfl) ?_
  refine lx_value (want rfl) (rn_extract rfl rfl) ?_
  refine lx_new (want rfl) (rn_alloc ze_24) ?_
  intro b24 w5 hb24 Eb24 B24 hlb24
  have F5 := F4.ext Eb24
  have hzb24 := Eb24.size
  refine lx_set (want rfl) sz_24 rfl (t_agg rfl) rfl rfl rfl B24 (Nat.le_of_ble_eq_true rfl) ?_
  intro w6 Es1 Bs1
  have F6 := F5.set Es1 (by omega)
  have hzs1 := Es1.size
  refine lx_value (want rfl) (as_slice rfl) ?_
  refine lx_value (want rfl) (as_int rfl) ?_
  refine lx_nil ?_
  refine wk_seq ?_
  refine wk_region ?_
  refine lx_value (want rfl) (rn_loadBlk ag_24 sz_24 rfl Bs1 rfl rfl) ?_
  refine lx_value (want rfl) (mv_int rfl) ?_
  refine lx_set (want rfl) sz_24 rfl (t_agg rfl) rfl rfl rfl (((B23.ext E1).ext Eb24).ne Es1 (by omega)) (Nat.le_of_ble_eq_true rfl) ?_
  intro w7 Es2 Bs2
  have F7 := F6.set Es2 (by omega)
  have hzs2 := Es2.size
  refine lx_value (want rfl) (as_int rfl) ?_
  refine lx_nil ?_
  refine wk_ret ?_
  refine retR2 Tryd.results28 (.cell rfl (run_loadVar_blk ag_24 sz_24 Bs2 rfl rfl)) (.tmp (t_int rfl)) F7 ?_
  exact putq_of (CubeR.fr ⟨sM, cM, rfl, hM⟩ (Fr.trans (Fr.trans (Fr.ext (Fr.refl (fun k => k = b24 ∨ k = b23) w4) Eb24) Es1 (fun k _ h => (.inl h))) Es2 (fun k _ h => (.inr h))) (fun k h1 h2 h => by (try dsimp only at h); omega) (by omega))

theorem xdo_ct (d r : Int) (L : List (List Pk)) (s : Option Addr) (c : Nat) (G : Nat → Prop) (hB : Bd L) (a a2 : Int) (w0 : World) (hL : BufS G w0 s L) (hT : Tb w0 1) :
    CT Tryd.prog 31 [.agg #[.int .i64 d, .int .i64 r, .slice s L.length c], .agg #[.int .i64 a, .int .i64 a2]] w0 no (fun v w => DoQ w0.heap.size d r L a a2 v w) := by
  have hTl := hT.lt
  have F0 := Fr.refl no w0
  refine ct_body Tryd.func31 rfl Tryd.ntmps31 (Nat.le_of_ble_eq_true rfl) ?_
  refine wk_seq ?_
  refine wk_region ?_
  refine lx_new (want rfl) (rn_box (t_agg rfl)) ?_
  intro b21 w1 hb21 Eb21 B21 hlb21
  have F1 := F0.ext Eb21
  have hzb21 := Eb21.size
  refine lx_new (want rfl) (rn_box (t_agg rfl)) ?_
  intro b22 w2 hb22 Eb22 B22 hlb22
  have F2 := F1.ext Eb22
  have hzb22 := Eb22.size
  refine lx_new (want rfl) (rn_alloc ze_24) ?_
  intro b23 w3 hb23 Eb23 B23 hlb23
  have F3 := F2.ext Eb23
  have hzb23 := Eb23.size
  refine lx_value (want rfl) (as_slice rfl) ?_
  refine lx_value (want rfl) (as_int rfl) ?_
  refine lx_nil ?_
  refine wk_seq ?_
  refine wk_region ?_
  refine lx_value (want rfl) (rn_makeFunc (argsC (t_pointer rfl) args0)) ?_
  refine lx_value (want rfl) (rn_loadBlk ag_24 sz_24 rfl ((B21.ext Eb22).ext Eb23) rfl rfl) ?_
  refine lx_call (want rfl) (ent_func cf_57 (argsC (t_func rfl) (argsC (t_agg rfl) args0))) (onU (on_ct 60 [.pointer (some ⟨b22, 0, none⟩)] cf_60 d r L _ _ _ hB (doO d r L a a2) (doE d r L a a2) (doL d.toNat r L a a2) w3 (hL.fr (buf_stab _) F3 (fun _ _ h => h)) (((hT.ext Eb21).ext Eb22).ext Eb23) (fun dim w b s c T E hd hV hT hC hm hg => by subst hd; rw [Int.toNat_natCast]; exact do1_ct b dim r s c T L hm hV a a2 b22 w hC hT (fun k hk => by have := hg k hk; omega) ((B22.ext Eb23).ext E) (fun k hk => by have := hg k hk; omega)))) ?_
  rintro _ w4 E1 ⟨_, _, rfl, ⟨sM, cM, rfl, hM⟩, ⟨sP, cP, rfl, hP⟩⟩
  have F4 := F3.ext E1
  have hz1 := E1.size
  refine lx_value (want rfl) (rn_extract rfl rfl) ?_
  refine lx_value (want rfl) (rn_extract rfl rfl) ?_
  refine lx_value (want rfl) (rn_extract rfl rfl) ?_
  refine lx_set (want rfl) sz_24 rfl (t_agg rfl) rfl rfl rfl (B23.ext E1) (Nat.le_of_ble_eq_true rfl) ?_
  intro w5 Es1 Bs1
  have F5 := F4.set Es1 (by omega)
  have hzs1 := Es1.size
  refine lx_value (want rfl) (as_slice rfl) ?_
  refine lx_value (want rfl) (as_int rfl) ?_
  refine lx_nil ?_
  refine wk_ret ?_
  refine retR3 Tryd.results31 (.cell rfl (run_loadVar_blk ag_24 sz_24 Bs1 rfl rfl)) (.tmp (t_slice rfl)) (.tmp (t_int rfl)) F5 ?_
  exact doq_of (CubeR.fr ⟨sM, cM, rfl, hM⟩ (Fr.trans (Fr.refl (fun k => k = b23) w4) Es1 (fun k _ h => h)) (fun k h1 h2 h => by (try dsimp only at h); omega) (by omega)) (PkR.fr ⟨sP, cP, rfl, hP⟩ (Fr.trans (Fr.refl (fun k => k = b23) w4) Es1 (fun k _ h => h)) (fun k h1 h2 h => by (try dsimp only at h); omega) (by omega))

theorem xround_ct (d r : Int) (L : List (List Pk)) (s : Option Addr) (c : Nat) (G : Nat → Prop) (hB : Bd L) (w0 : World) (hL : BufS G w0 s L) (hT : Tb w0 1) :
    CT Tryd.prog 44 [.agg #[.int .i64 d, .int .i64 r, .slice s L.length c]] w0 no (fun v w => RoundQ w0.heap.size d r L v w) := by
  have hTl := hT.lt
  have F0 := Fr.refl no w0
  refine ct_body Tryd.func44 rfl Tryd.ntmps44 (Nat.le_of_ble_eq_true rfl) ?_
  refine wk_seq ?_
  refine wk_region ?_
  refine lx_new (want rfl) (rn_box (t_agg rfl)) ?_
  intro b21 w1 hb21 Eb21 B21 hlb21
  have F1 := F0.ext Eb21
  have hzb21 := Eb21.size
  refine lx_new (want rfl) (rn_alloc ze_24) ?_
  intro b22 w2 hb22 Eb22 B22 hlb22
  have F2 := F1.ext Eb22
  have hzb22 := Eb22.size
  refine lx_value (want rfl) (as_slice rfl) ?_
  refine lx_value (want rfl) (as_int rfl) ?_
  refine lx_nil ?_
  refine wk_seq ?_
  refine wk_region ?_
  refine lx_value (want rfl) (rn_loadBlk ag_24 sz_24 rfl (B21.ext Eb22) rfl rfl) ?_
  refine lx_call (want rfl) (ent_func cf_57 (argsC rfl (argsC (t_agg rfl) args0))) (onU (on_ct 69 [] cf_69 d r L _ _ _ hB (rdB d.toNat r L L.length).2 0 (rdB d.toNat r L L.length).1 w2 (hL.fr (buf_stab _) F2 (fun _ _ h => h)) ((hT.ext Eb21).ext Eb22) (fun dim w b s c T E hd hV hT hC hm hg => by subst hd; rw [Int.toNat_natCast]; exact rd1_ct b dim r s c T L hm hV w hC hT (fun k hk => by have := hg k hk; omega)))) ?_
  rintro _ w3 E1 ⟨_, _, rfl, ⟨sM, cM, rfl, hM⟩, ⟨sP, cP, rfl, hP⟩⟩
  have F3 := F2.ext E1
  have hz1 := E1.size
  refine lx_value (want rfl) (rn_extract rfl rfl) ?_
  refine lx_value (want rfl) (rn_extract rfl rfl) ?_
  refine lx_value (want rfl) (rn_extract rfl rfl) ?_
  refine lx_set (want rfl) sz_24 rfl (t_agg rfl) rfl rfl rfl (B22.ext E1) (Nat.le_of_ble_eq_true rfl) ?_
  intro w4 Es1 Bs1
  have F4 := F3.set Es1 (by omega)
  have hzs1 := Es1.size
  refine lx_value (want rfl) (as_slice rfl) ?_
  refine lx_value (want rfl) (as_int rfl) ?_
  refine lx_nil ?_
  refine wk_ret ?_
  refine retR3 Tryd.results44 (.cell rfl (run_loadVar_blk ag_24 sz_24 Bs1 rfl rfl)) (.tmp (t_slice rfl)) (.tmp (t_int rfl)) F4 ?_
  exact rdq_of (CubeR.fr ⟨sM, cM, rfl, hM⟩ (Fr.trans (Fr.refl (fun k => k = b22) w3) Es1 (fun k _ h => h)) (fun k h1 h2 h => by (try dsimp only at h); omega) (by omega)) (PkR.fr ⟨sP, cP, rfl, hP⟩ (Fr.trans (Fr.refl (fun k => k = b22) w3) Es1 (fun k _ h => h)) (fun k h1 h2 h => by (try dsimp only at h); omega) (by omega))

end Go.Proofs.YtlfclnkoimfhmaaDoor

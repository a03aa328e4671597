/- What functions compute: refispic, pprim. -/
import Derived.Test.YtnhgfmbmfjmonaaGreatDoorStreamsFacts
import Derived.Test.YtnhgfmbmfjmonaaGreatDoorStreamsPre
import Derived.Test.YtnhgfmbmfjmonaaGreatDoorStreamsWalk10
import Derived.Test.YtnhgfmbmfjmonaaGreatDoorStreamsWalk11
import Derived.Test.YtnhgfmbmfjmonaaGreatDoorStreamsWalk12
import Derived.Test.YtnhgfmbmfjmonaaGreatDoorStreamsWalk2
import Derived.Test.YtnhgfmbmfjmonaaGreatDoorStreamsWalk5
import Derived.Test.YtnhgfmbmfjmonaaGreatDoorStreamsWalk6
import Derived.Test.YtnhgfmbmfjmonaaGreatDoorStreamsWalk7
set_option maxRecDepth 100000
set_option linter.unusedVariables false
set_option linter.unusedSimpArgs false
namespace Go.Proofs.YtnhgfmbmfjmonaaGreatDoor
open Go Go.RowKit Go.Mix Go.Eng
theorem refispic_ct (p : Pic) (sv : Option Addr) (cv : Nat) (sk : Option Addr) (ck : Nat) (G : Nat → Prop) (hB : Bp p) (w0 : World) (hv : VlS G w0 sv p.1) (hk : VvS G w0 sk p.2) :
  CT Tryz.prog 34 [.agg #[.slice sv p.1.length cv, .slice sk p.2.length ck]] w0 no (fun v _ => v = .bool (isPicB p)) := by
 have hB1 := hB.1
 have hB2 := hB.2.1
 have F0 := Fr.refl no w0
 refine ct_body Tryz.func34 rfl Tryz.ntmps34 (Nat.le_of_ble_eq_true rfl) ?_
 refine wk_seq ?_
 refine wk_region ?_
 refine lx_new (want rfl) (rn_box (t_agg rfl)) ?_
 intro b1 w1 hb1 Eb1 B1 hlb1
 have F1 := F0.ext Eb1
 have hzb1 := Eb1.size
 refine lx_value (want rfl) (as_bool rfl) ?_
 refine lx_nil ?_
 refine wk_seq ?_
 refine wk_region ?_
 refine lx_value (want rfl) (rn_loadBlk ag_45 sz_45 rfl B1 rfl rfl) ?_
 refine lx_call (want rfl) (ent_func cf_81 (argsC (t_agg rfl) args0)) (((refmemory_ct p sv cv sk ck G hB w1 (hv.fr (vl_stab _) F1 (fun _ _ h => h)) (hk.fr (vv_stab _) F1 (fun _ _ h => h))).mono (fun _ _ h => h) (fun _ _ _ h => h.read))) ?_
 rintro _ w2 E1 ⟨sM, cM, rfl, hMR⟩
 have F2 := F1.ext E1
 have hz1 := E1.size
 refine lx_new (want rfl) (rn_alloc ze_24) ?_
 intro b2 w3 hb2 Eb2 B2 hlb2
 have F3 := F2.ext Eb2
 have hzb2 := Eb2.size
 refine lx_set (want rfl) sz_24 rfl (t_agg rfl) rfl rfl rfl B2 (Nat.le_of_ble_eq_true rfl) ?_
 intro w4 Es1 Bs1
 have F4 := F3.set Es1 (by omega)
 have hzs1 := Es1.size
 refine lx_nil ?_
 refine wk_seq ?_
 refine wk_seq ?_
 refine wk_region ?_
 refine lx_value (want rfl) (rn_loadBlk ag_24 sz_24 rfl Bs1 rfl rfl) ?_
 refine lx_call (want rfl) (ent_func cf_56 (argsC (t_agg rfl) args0)) (refcheck_ct (memC p.2) sM cM _ (memC_Bm hB.2.1 hB.2.2) w4 (hMR.fr (st_stab _) (Fr.trans (Fr.ext (Fr.refl (fun k => k = b2) w2) Eb2) Es1 (fun k _ h => h)) (fun k hk h => by have hk1 := hk.1; have hk2 := hk.2; (try dsimp only at h hk1 hk2); first | exact h.elim | omega | (rcases (show _ ∨ _ from h) with h | h <;> omega)))) ?_
 rintro _ w5 E2 rfl
 have F5 := F4.ext E2
 have hz2 := E2.size
 refine lx_value (want rfl) (rn_neq rfl rfl) ?_
 refine lx_dec (fun he => ?_) (fun he => ?_)
 ·
  refine lx_value (want rfl) (mv_bool rfl) ?_
  refine lx_skip (want_if (j := 3) (d := 9) (x := false) (y := true) rfl rfl (by decide) rfl) ?_
  refine lx_skip (want_if (j := 3) (d := 9) (x := false) (y := true) rfl rfl (by decide) rfl) ?_
  refine lx_skip (want_if (j := 3) (d := 9) (x := false) (y := true) rfl rfl (by decide) rfl) ?_
  refine lx_skip (want_if (j := 3) (d := 9) (x := false) (y := true) rfl rfl (by decide) rfl) ?_
  refine lx_value (want rfl) (pick_t rfl rfl) ?_
  refine lx_value (want rfl) (mv_bool rfl) ?_
  refine lx_skip (want_if (j := 9) (d := 15) (x := false) (y := true) rfl rfl (by decide) rfl) ?_
  refine lx_skip (want_if (j := 9) (d := 15) (x := false) (y := true) rfl rfl (by decide) rfl) ?_
  refine lx_skip (want_if (j := 9) (d := 15) (x := false) (y := true) rfl rfl (by decide) rfl) ?_
  refine lx_skip (want_if (j := 9) (d := 15) (x := false) (y := true) rfl rfl (by decide) rfl) ?_
  refine lx_skip (want_if (j := 9) (d := 15) (x := false) (y := true) rfl rfl (by decide) rfl) ?_
  refine lx_skip (want_if (j := 9) (d := 15) (x := false) (y := true) rfl rfl (by decide) rfl) ?_
  refine lx_skip (want_if (j := 9) (d := 15) (x := false) (y := true) rfl rfl (by decide) rfl) ?_
  refine lx_value (want rfl) (pick_t rfl rfl) ?_
  refine lx_nil ?_
  refine wk_cond_t rfl ?_
  refine wk_seq ?_
  refine wk_region ?_
  refine lx_value (want rfl) (as_bool rfl) ?_
  refine lx_nil ?_
  refine wk_ret ?_
  refine retR1 Tryz.results34 (.tmp (t_bool rfl)) F5 ?_
  exact isPicR_1 he
 ·
  have hok : okM (memC p.2) = true := chk_0 he
  refine lx_value (want rfl) (mv_bool rfl) ?_
  refine lx_value (want_if (j := 3) (d := 9) (x := false) (y := false) rfl rfl (by decide) rfl) (rn_fieldAddr fa_45_0 rfl) ?_
  refine lx_value (want_if (j := 3) (d := 9) (x := false) (y := false) rfl rfl (by decide) rfl) (rn_load1Blk ag_30 rfl ((((B1.ext E1).ext Eb2).ne Es1 (by omega)).ext E2) rfl) ?_
  refine lx_value (want_if (j := 3) (d := 9) (x := false) (y := false) rfl rfl (by decide) rfl) (rn_len Tryz.underlying30 rfl) ?_
  refine lx_value (want_if (j := 3) (d := 9) (x := false) (y := false) rfl rfl (by decide) rfl) (rn_gtr rfl rfl) ?_
  refine lx_dec (fun h100 => ?_) (fun h100 => ?_)
  ·
   refine lx_value (want rfl) (pick_f rfl rfl) ?_
   refine lx_value (want rfl) (mv_bool rfl) ?_
   refine lx_skip (want_if (j := 9) (d := 15) (x := false) (y := true) rfl rfl (by decide) rfl) ?_
   refine lx_skip (want_if (j := 9) (d := 15) (x := false) (y := true) rfl rfl (by decide) rfl) ?_
   refine lx_skip (want_if (j := 9) (d := 15) (x := false) (y := true) rfl rfl (by decide) rfl) ?_
   refine lx_skip (want_if (j := 9) (d := 15) (x := false) (y := true) rfl rfl (by decide) rfl) ?_
   refine lx_skip (want_if (j := 9) (d := 15) (x := false) (y := true) rfl rfl (by decide) rfl) ?_
   refine lx_skip (want_if (j := 9) (d := 15) (x := false) (y := true) rfl rfl (by decide) rfl) ?_
   refine lx_skip (want_if (j := 9) (d := 15) (x := false) (y := true) rfl rfl (by decide) rfl) ?_
   refine lx_value (want rfl) (pick_t rfl rfl) ?_
   refine lx_nil ?_
   refine wk_cond_t rfl ?_
   refine wk_seq ?_
   refine wk_region ?_
   refine lx_value (want rfl) (as_bool rfl) ?_
   refine lx_nil ?_
   refine wk_ret ?_
   refine retR1 Tryz.results34 (.tmp (t_bool rfl)) F5 ?_
   exact isPicR_2 h100
  ·
   refine lx_value (want rfl) (pick_f rfl rfl) ?_
   refine lx_value (want rfl) (mv_bool rfl) ?_
   refine lx_value (want_if (j := 9) (d := 15) (x := false) (y := false) rfl rfl (by decide) rfl) (rn_fieldAddr fa_45_0 rfl) ?_
   refine lx_value (want_if (j := 9) (d := 15) (x := false) (y := false) rfl rfl (by decide) rfl) (rn_load1Blk ag_30 rfl ((((B1.ext E1).ext Eb2).ne Es1 (by omega)).ext E2) rfl) ?_
   refine lx_value (want_if (j := 9) (d := 15) (x := false) (y := false) rfl rfl (by decide) rfl) (rn_fieldAddr fa_45_1 rfl) ?_
   refine lx_value (want_if (j := 9) (d := 15) (x := false) (y := false) rfl rfl (by decide) rfl) (rn_load1Blk ag_43 rfl ((((B1.ext E1).ext Eb2).ne Es1 (by omega)).ext E2) rfl) ?_
   refine lx_value (want_if (j := 9) (d := 15) (x := false) (y := false) rfl rfl (by decide) rfl) (rn_len Tryz.underlying43 rfl) ?_
   refine lx_call (want_if (j := 9) (d := 15) (x := false) (y := false) rfl rfl (by decide) rfl) (ent_func cf_77 (argsC (t_slice rfl) (argsC (t_int rfl) args0))) (arevalues_ct p.1 sv cv G p.2.length w5 (hv.fr (vl_stab _) F5 (fun _ _ h => h)) hB1) ?_
   rintro _ w6 E3 rfl
   have F6 := F5.ext E3
   have hz3 := E3.size
   refine lx_split (fun hall => ?_) (fun hall => ?_)
   ·
    refine lx_value (want_if (j := 9) (d := 15) (x := false) (y := false) rfl rfl (by decide) rfl) (rn_not rfl) ?_
    refine lx_value (want rfl) (pick_f rfl rfl) ?_
    refine lx_nil ?_
    refine wk_cond_f rfl ?_
    refine wk_skip ?_
    refine wk_seq ?_
    have hM4 := (hMR.fr (st_stab _) (Fr.ext (Fr.ext (Fr.trans (Fr.ext (Fr.refl (fun k => k = b2) w2) Eb2) Es1 (fun k _ h => h)) E2) E3) (fun k hk h => by have hk1 := hk.1; have hk2 := hk.2; (try dsimp only at h hk1 hk2); first | exact h.elim | omega | (rcases (show _ ∨ _ from h) with h | h <;> omega)))
    refine wk_mix 6 (fun kS => match kS with | 3 => .any (fun I v w => PicI I w v (drawP p.2 p.1)) | 5 => .val (.bool (decide (drawP p.2 p.1 = p))) | _ => .none) (by kernel_rfl) (by kernel_rfl) (by intro kS G hk; (try dsimp only at hk); (split at hk) <;> first | (cases hk; done) | (injection hk with hk; subst hk; exact ⟨by intro j hkj I v w w' hR hG; first | exact hG | (exact hG.fr hR (fun _ _ h => h)), fun ⟨_, _, _, _, hs⟩ => by (try dsimp only at hs); split at hs <;> cases hs⟩)) (by intro kS s y G hk; (try dsimp only at hk); split at hk <;> cases hk) ?_
    simp only [List.take_succ_cons, List.take_zero, List.take_nil, List.drop_succ_cons, List.drop_zero, List.drop_nil]
    refine mx_calm rfl (want rfl) (fun u1 eu1 fu1 => rn_loadBlk ag_24 sz_24 rfl (((Bs1.ext E2).ext E3).ext ((ext_drawn _).trans' eu1)) rfl rfl) ?_
    refine mx_calm rfl (want rfl) (fun u2 eu2 fu2 => rn_fieldAddr fa_45_0 rfl) ?_
    refine mx_calm rfl (want rfl) (fun u3 eu3 fu3 => rn_load1Blk ag_30 rfl ((((((B1.ext E1).ext Eb2).ne Es1 (by omega)).ext E2).ext E3).ext ((ext_drawn _).trans' eu3)) rfl) ?_
    refine mx_any rfl rfl (want rfl) (fun u4 eu4 fu4 => do_call (ent_func cf_78 (argsC (t_agg rfl) (argsC (t_slice rfl) args0))) (refdrawn_ct (memC p.2) sM cM _ (memC_Bm hB.2.1 hB.2.2) hok p.1 sv cv G hB1 (by rw [memC_len]; exact hall) u4 (hM4.fr (st_stab _) ((ext_drawn _).trans' eu4) (fun _ _ h => h)) (hv.fr (vl_stab _) (F6.ext ((ext_drawn _).trans' eu4)) (fun _ _ h => h))) (fun v w' E h => ⟨E, (by rw [cells_memC] at h; exact h)⟩)) (fun I27 v27 => ?_)
    refine mx_calm rfl (want rfl) (fun u5 eu5 fu5 => rn_loadBlk ag_45 sz_45 rfl ((((((B1.ext E1).ext Eb2).ne Es1 (by omega)).ext E2).ext E3).ext ((ext_drawn _).trans' eu5)) rfl rfl) ?_
    refine mx_val rfl (want rfl) (fun u6 eu6 fu6 => by obtain ⟨s1, c1, s2, c2, rfl, hV1, hV2⟩ := fu6 27 _ rfl (show (27 : Nat) ∈ _ from by decide); exact do_call (ent_func cf_32 (argsC (t_agg rfl) (argsC (t_agg rfl) args0))) (samepic_ct (drawP p.2 p.1) s1 c1 s2 c2 _ p sv cv sk ck G hB u6 hV1 hV2 (hv.fr (vl_stab _) (F6.ext ((ext_drawn _).trans' eu6)) (fun _ _ h => h)) (hk.fr (vv_stab _) (F6.ext ((ext_drawn _).trans' eu6)) (fun _ _ h => h))) (fun _ _ E h => ⟨E, h⟩)) ?_
    refine mx_nil (fun w7 E4' H1 HS => ?_)
    have E4 := (ext_drawn _).trans' E4'
    have F7 := F6.ext E4
    have hz4 := E4.size
    have hI27 := (HS.1 27 _ rfl).2
    simp only at hI27
    have g27 := H1 27 _ rfl
    refine lx_value (want rfl) (as_bool rfl) ?_
    refine lx_nil ?_
    refine wk_ret ?_
    refine retR1 Tryz.results34 (.tmp (t_bool rfl)) F7 ?_
    exact isPicR_4 hok h100 hall
   ·
    refine lx_value (want_if (j := 9) (d := 15) (x := false) (y := false) rfl rfl (by decide) rfl) (rn_not rfl) ?_
    refine lx_value (want rfl) (pick_f rfl rfl) ?_
    refine lx_nil ?_
    refine wk_cond_t rfl ?_
    refine wk_seq ?_
    refine wk_region ?_
    refine lx_value (want rfl) (as_bool rfl) ?_
    refine lx_nil ?_
    refine wk_ret ?_
    refine retR1 Tryz.results34 (.tmp (t_bool rfl)) F6 ?_
    exact isPicR_3 hall

theorem pprim_ct (nm : ByteArray) (l : List Vl) (s : Option Addr) (c : Nat) (F : Nat → Prop) (hb : l.length ≤ 1048576) (w0 : World) (hl : VlS F w0 s l) :
  CT Tryz.prog 36 [.string nm, .slice s l.length c] w0 no (fun v _ => v = .tuple #[vlV (primS nm l).1, .int .i64 (primS nm l).2]) := by
 have F0 := Fr.refl no w0
 refine ct_body Tryz.func36 rfl Tryz.ntmps36 (Nat.le_of_ble_eq_true rfl) ?_
 refine wk_seq ?_
 refine wk_region ?_
 refine lx_new (want rfl) (rn_alloc ze_36) ?_
 intro b1 w1 hb1 Eb1 B1 hlb1
 have F1 := F0.ext Eb1
 have hzb1 := Eb1.size
 refine lx_value (want rfl) (as_int rfl) ?_
 refine lx_nil ?_
 refine wk_seq ?_
 refine wk_region ?_
 refine lx_call (want rfl) (ent_func cf_82 args0) (operations_ct w1) ?_
 rintro _ w2 E1 ⟨bO, bI, bE, bN, rfl, hMO, hBI, hBE, hBN⟩
 have F2 := F1.ext E1
 have hz1 := E1.size
 refine lx_value (want rfl) (mv_string rfl) ?_
 rcases look_op bI bE bN (.agg #[.int .i64 0, .slice none 0 0, .nilFunc]) nm with ⟨hid, hlk⟩ | ⟨k, hid, hlk⟩
 ·
  refine lx_value (v := .tuple #[.agg #[.int .i64 0, .slice none 0 0, .nilFunc], .bool false]) (want rfl) ((by rw [← hlk]; exact rn_lookOk mv_128 rfl rfl hMO)) ?_
  refine lx_value (want rfl) (mv_tuple rfl) ?_
  refine lx_value (want rfl) (rn_extract rfl rfl) ?_
  refine lx_value (want rfl) (rn_extract rfl rfl) ?_
  refine lx_b_f (rfl) ?_
  refine lx_new (want rfl) (rn_alloc ze_126) ?_
  intro b2 w3 hb2 Eb2 B2 hlb2
  have F3 := F2.ext Eb2
  have hzb2 := Eb2.size
  refine lx_set (want rfl) sz_126 rfl (t_agg rfl) rfl rfl rfl B2 (Nat.le_of_ble_eq_true rfl) ?_
  intro w4 Es1 Bs1
  have F4 := F3.set Es1 (by omega)
  have hzs1 := Es1.size
  refine lx_value (want rfl) (as_bool rfl) ?_
  refine lx_nil ?_
  refine wk_seq ?_
  refine wk_block ?_
  refine wk_seq ?_
  refine wk_region ?_
  refine lx_value (want rfl) (mv_bool rfl) ?_
  refine lx_value (want rfl) (rn_not rfl) ?_
  refine lx_value (want rfl) (as_bool rfl) ?_
  refine lx_nil ?_
  refine wk_cond_t rfl ?_
  refine wk_seq ?_
  refine wk_region ?_
  refine lx_value (want rfl) (rn_build0  (fun w => bd_36  w)) ?_
  refine lx_set (want rfl) sz_36 rfl (t_agg rfl) rfl rfl rfl (((B1.ext E1).ext Eb2).ne Es1 (by omega)) (Nat.le_of_ble_eq_true rfl) ?_
  intro w5 Es2 Bs2
  have F5 := F4.set Es2 (by omega)
  have hzs2 := Es2.size
  refine lx_value (want rfl) (as_int rfl) ?_
  refine lx_nil ?_
  refine wk_ret ?_
  refine retR2 Tryz.results36 (.cell rfl (run_loadVar_blk ag_36 sz_36 Bs2 rfl rfl)) (.tmp (t_int rfl)) F5 ?_
  exact ps_name hid
 ·
  refine lx_value (v := .tuple #[opV bI bE bN k, .bool true]) (want rfl) ((by rw [← hlk]; exact rn_lookOk mv_128 rfl rfl hMO)) ?_
  refine lx_value (want rfl) (mv_tuple rfl) ?_
  refine lx_value (want rfl) (rn_extract rfl rfl) ?_
  refine lx_value (want rfl) (rn_extract rfl rfl) ?_
  refine lx_b_t (rfl) ?_
  refine lx_new (want rfl) (rn_alloc ze_126) ?_
  intro b3 w3 hb3 Eb3 B3 hlb3
  have F6 := F2.ext Eb3
  have hzb3 := Eb3.size
  refine lx_set (want rfl) sz_126 rfl (t_agg rfl) rfl rfl rfl B3 (Nat.le_of_ble_eq_true rfl) ?_
  intro w4 Es3 Bs3
  have F7 := F6.set Es3 (by omega)
  have hzs3 := Es3.size
  refine lx_value (want rfl) (as_bool rfl) ?_
  refine lx_nil ?_
  refine wk_seq ?_
  refine wk_block ?_
  refine wk_seq ?_
  refine wk_region ?_
  refine lx_value (want rfl) (mv_bool rfl) ?_
  refine lx_value (want rfl) (rn_not rfl) ?_
  refine lx_value (want rfl) (as_bool rfl) ?_
  refine lx_nil ?_
  refine wk_cond_f rfl ?_
  refine wk_seq ?_
  refine wk_region ?_
  refine lx_value (want rfl) (mv_slice rfl) ?_
  refine lx_value (want rfl) (rn_len Tryz.underlying30 rfl) ?_
  refine lx_value (want rfl) (rn_fieldAddr fa_126_0 rfl) ?_
  refine lx_value (want rfl) (rn_load1Blk ag_3 rfl Bs3 rfl) ?_
  refine lx_value (want rfl) (rn_neq rfl rfl) ?_
  refine lx_dec (fun har => ?_) (fun har => ?_)
  ·
   refine lx_value (want rfl) (as_bool rfl) ?_
   refine lx_nil ?_
   refine wk_cond_t rfl ?_
   refine wk_seq ?_
   refine wk_region ?_
   refine lx_value (want rfl) (rn_build0  (fun w => bd_36  w)) ?_
   refine lx_set (want rfl) sz_36 rfl (t_agg rfl) rfl rfl rfl (((B1.ext E1).ext Eb3).ne Es3 (by omega)) (Nat.le_of_ble_eq_true rfl) ?_
   intro w5 Es4 Bs4
   have F8 := F7.set Es4 (by omega)
   have hzs4 := Es4.size
   refine lx_value (want rfl) (as_int rfl) ?_
   refine lx_nil ?_
   refine wk_ret ?_
   refine retR2 Tryz.results36 (.cell rfl (run_loadVar_blk ag_36 sz_36 Bs4 rfl rfl)) (.tmp (t_int rfl)) F8 ?_
   exact ps_arg hid (fun g => har g)
  ·
   refine lx_value (want rfl) (as_bool rfl) ?_
   refine lx_nil ?_
   refine wk_cond_f rfl ?_
   refine wk_seq ?_
   refine wk_region ?_
   refine lx_value (want rfl) (mv_slice rfl) ?_
   refine lx_call (want rfl) (ent_func cf_73 (argsC (t_slice rfl) (argsC rfl args0))) (containsv_ct l _ _ _ 83 [] (fun v => !isValA v) cf_83 w4 (hl.fr (vl_stab _) F7 (fun _ _ h => h)) hb (fun z w hz E => prim1_ct z w)) ?_
   rintro _ w5 E2 rfl
   have F9 := F7.ext E2
   have hz2 := E2.size
   refine lx_split (fun hany => ?_) (fun hany => ?_)
   ·
    refine lx_value (want rfl) (as_bool rfl) ?_
    refine lx_nil ?_
    refine wk_cond_t rfl ?_
    refine wk_seq ?_
    refine wk_region ?_
    refine lx_value (want rfl) (rn_build0  (fun w => bd_36  w)) ?_
    refine lx_set (want rfl) sz_36 rfl (t_agg rfl) rfl rfl rfl ((((B1.ext E1).ext Eb3).ne Es3 (by omega)).ext E2) (Nat.le_of_ble_eq_true rfl) ?_
    intro w6 Es5 Bs5
    have F10 := F9.set Es5 (by omega)
    have hzs5 := Es5.size
    refine lx_value (want rfl) (as_int rfl) ?_
    refine lx_nil ?_
    refine wk_ret ?_
    refine retR2 Tryz.results36 (.cell rfl (run_loadVar_blk ag_36 sz_36 Bs5 rfl rfl)) (.tmp (t_int rfl)) F10 ?_
    exact ps_form hid (Decidable.not_not.1 har) hany
   ·
    refine lx_value (want rfl) (as_bool rfl) ?_
    refine lx_nil ?_
    refine wk_cond_f rfl ?_
    refine wk_skip ?_
    refine wk_seq ?_
    refine wk_region ?_
    refine lx_value (want rfl) (rn_loadBlk ag_126 sz_126 rfl (Bs3.ext E2) rfl rfl) ?_
    refine lx_value (want rfl) (mv_slice rfl) ?_
    obtain ⟨hk10, hnm⟩ := idS_lt hid
    have hlA := (arity_pos k).1
    have harE : (l.length : Int) = (arity k : Int) := Decidable.not_not.1 har
    have hvA : l.all isValA = true := by rw [any_not] at hany; simpa using hany
    have hBI2 := hBI.fr (Fr.ext (Fr.trans (Fr.ext (Fr.refl (fun k => k = b3) w2) Eb3) Es3 (fun k _ h => h)) E2) (fun h => by have := hBI.lt; have h : bI = b3 := h; omega)
    have hBE2 := hBE.fr (Fr.ext (Fr.trans (Fr.ext (Fr.refl (fun k => k = b3) w2) Eb3) Es3 (fun k _ h => h)) E2) (fun h => by have := hBE.lt; have h : bE = b3 := h; omega)
    have hBN2 := hBN.fr (Fr.ext (Fr.trans (Fr.ext (Fr.refl (fun k => k = b3) w2) Eb3) Es3 (fun k _ h => h)) E2) (fun h => by have := hBN.lt; have h : bN = b3 := h; omega)
    refine lx_call (want rfl) (ent_func cf_84 (argsC (t_agg rfl) (argsC (t_slice rfl) args0))) (work_ct k (kbN bI bE bN k) (fidN k) l _ _ F hb (by omega) hvA (by rcases k10 hk10 with rfl | rfl | rfl | rfl | rfl | rfl | rfl | rfl | rfl | rfl; exact cf_124; exact cf_126; exact cf_127; exact cf_128; exact cf_131; exact cf_133; exact cf_134; exact cf_136; exact cf_137; exact cf_138) (fun a b w ha hb => by rcases k10 hk10 with rfl | rfl | rfl | rfl | rfl | rfl | rfl | rfl | rfl | rfl; exact op0_ct a b ha hb w; exact op1_ct a b ha hb w; exact op2_ct a b ha hb w; exact op3_ct a b ha hb w; exact op4_ct a b ha hb w; exact op5_ct a b ha hb w; exact op6_ct a b ha hb w; exact op7_ct a b ha hb w; exact op8_ct a b ha hb w; exact op9_ct a b ha hb w) w5 (by rcases k10 hk10 with rfl | rfl | rfl | rfl | rfl | rfl | rfl | rfl | rfl | rfl <;> first | exact hBI2 | exact hBE2 | exact hBN2) (hl.fr (vl_stab _) F9 (fun _ _ h => h))) ?_
    rintro _ w6 E3 rfl
    have F11 := F9.ext E3
    have hz3 := E3.size
    refine lx_set (want rfl) sz_36 rfl (t_agg rfl) rfl rfl rfl (((((B1.ext E1).ext Eb3).ne Es3 (by omega)).ext E2).ext E3) (Nat.le_of_ble_eq_true rfl) ?_
    intro w7 Es6 Bs6
    have F12 := F11.set Es6 (by omega)
    have hzs6 := Es6.size
    refine lx_value (want rfl) (as_int rfl) ?_
    refine lx_nil ?_
    refine wk_ret ?_
    refine retR2 Tryz.results36 (.cell rfl (run_loadVar_blk ag_36 sz_36 Bs6 rfl rfl)) (.tmp (t_int rfl)) F12 ?_
    exact ps_ok hid harE hany

theorem primTwo_ct {k : Nat} (hk : k < 10) (har : arity k = 2) {a b : Vl} (ha : isValA a = true) (hb : isValA b = true) {s : Option Addr} {c : Nat} {F : Nat → Prop} {w : World} (e : primS (nmB k) [a, b] = (primV k [a, b], 0)) (hl : VlS F w s [a, b]) : CT Tryz.prog 36 [.string (nmB k), .slice s 2 c] w no (fun v _ => v = .tuple #[.agg #[.int .u8 (primV k [a, b]).1, .int .i64 (primV k [a, b]).2], .int .i64 0]) := by
 have h := pprim_ct (nmB k) [a, b] s c F (by simp) w hl
 rw [e] at h; exact h

end Go.Proofs.YtnhgfmbmfjmonaaGreatDoor

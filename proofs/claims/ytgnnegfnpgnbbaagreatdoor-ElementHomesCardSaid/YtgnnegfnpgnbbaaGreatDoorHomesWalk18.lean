/- What functions compute: back. -/
import Derived.Test.YtgnnegfnpgnbbaaGreatDoorHomesFacts
import Derived.Test.YtgnnegfnpgnbbaaGreatDoorHomesPre
import Derived.Test.YtgnnegfnpgnbbaaGreatDoorHomesWalk12
import Derived.Test.YtgnnegfnpgnbbaaGreatDoorHomesWalk17
import Derived.Test.YtgnnegfnpgnbbaaGreatDoorHomesWalk7
import Derived.Test.YtgnnegfnpgnbbaaGreatDoorHomesWalk9
set_option maxRecDepth 100000
set_option linter.unusedVariables false
set_option linter.unusedSimpArgs false
namespace Go.Proofs.YtgnnegfnpgnbbaaGreatDoor
open Go Go.RowKit Go.Mix Go.Eng
theorem back_ct (SS : Sto) (sa : Option Addr) (ca : Nat) (sb : Option Addr) (cb : Nat) (F : Nat → Prop) (hok : OkS SS) (w0 : World) (hS : StR F w0 SS sa ca sb cb) :
  CT Tryz.prog 61 [.agg #[.slice sa SS.slots.length ca, .slice sb SS.code.length cb]] w0 no (fun v w => ∃ s n c, v = .tuple #[.slice s n c, .int .i64 0]) := by
 have hsl := smallS_len hok.sm
 have hcl := smallI_len (smallS_code hok.sm)
 have F0 := Fr.refl no w0
 refine ct_body Tryz.func61 rfl Tryz.ntmps61 (Nat.le_of_ble_eq_true rfl) ?_
 refine wk_seq ?_
 refine wk_region ?_
 refine lx_new (want rfl) (rn_box (t_agg rfl)) ?_
 intro b1 w1 hb1 Eb1 B1 hlb1
 have F1 := F0.ext Eb1
 have hzb1 := Eb1.size
 refine lx_value (want rfl) (as_slice rfl) ?_
 refine lx_value (want rfl) (as_int rfl) ?_
 refine lx_nil ?_
 refine wk_seq ?_
 refine wk_region ?_
 refine lx_value (want rfl) (rn_loadBlk ag_35 sz_35 rfl B1 rfl rfl) ?_
 refine lx_call (want rfl) (ent_func cf_83 (argsC (t_agg rfl) args0)) (segments_ct SS sa ca sb cb F hok.sm hok.seg w1 (hS.fr F1 (fun _ _ h => h))) ?_
 rintro _ w2 E1 ⟨sl, cl, rfl, hSG⟩
 have F2 := F1.ext E1
 have hz1 := E1.size
 refine lx_value (want rfl) (mv_tuple rfl) ?_
 refine lx_value (want rfl) (rn_extract rfl rfl) ?_
 refine lx_value (want rfl) (rn_extract rfl rfl) ?_
 refine lx_value (want rfl) (as_slice rfl) ?_
 refine lx_value (want rfl) (as_bool rfl) ?_
 refine lx_nil ?_
 refine wk_seq ?_
 refine wk_seq ?_
 refine wk_region ?_
 refine lx_value (want rfl) (mv_bool rfl) ?_
 refine lx_value (want rfl) (rn_not rfl) ?_
 refine lx_value (want rfl) (mv_bool rfl) ?_
 refine lx_value (want_if (j := 2) (d := 14) (x := false) (y := false) rfl rfl (by decide) rfl) (mv_slice rfl) ?_
 refine lx_call (want_if (j := 2) (d := 14) (x := false) (y := false) rfl rfl (by decide) rfl) (ent_func cf_84 (argsC (t_slice rfl) args0)) (kcheck_ct (segsL SS) sl cl _ hok.chk w2 (hSG.fr (sg_stab _) (Fr.refl no w2) (fun _ _ h => h)) (fun k hk => by have h9 := hk.2; omega)) ?_
 rintro _ w3 E2 rfl
 have F3 := F2.ext E2
 have hz2 := E2.size
 refine lx_value (want_if (j := 2) (d := 14) (x := false) (y := false) rfl rfl (by decide) rfl) (rn_neq rfl rfl) ?_
 refine lx_dec_f ((fun g => g rfl)) ?_
 refine lx_value (want rfl) (pick_f rfl rfl) ?_
 refine lx_nil ?_
 refine wk_cond_f rfl ?_
 refine wk_skip ?_
 refine wk_seq ?_
 refine wk_region ?_
 refine lx_value (want rfl) (mv_slice rfl) ?_
 refine lx_call (want rfl) (ent_func cf_85 (argsC (t_slice rfl) args0)) ((by have h := place_ct (segsL SS) sl cl _ hok.chk.sm hok.chk.dist hok.plc w3 (hSG.fr (sg_stab _) (Fr.ext (Fr.refl no w2) E2) (fun _ _ h => h)); rw [hok.eq] at h; exact h)) ?_
 rintro _ w4 E3 ⟨sa2, ca2, sb2, cb2, rfl, hS2⟩
 have F4 := F3.ext E3
 have hz3 := E3.size
 refine lx_new (want rfl) (rn_alloc ze_35) ?_
 intro b2 w5 hb2 Eb2 B2 hlb2
 have F5 := F4.ext Eb2
 have hzb2 := Eb2.size
 refine lx_set (want rfl) sz_35 rfl (t_agg rfl) rfl rfl rfl B2 (Nat.le_of_ble_eq_true rfl) ?_
 intro w6 Es1 Bs1
 have F6 := F5.set Es1 (by omega)
 have hzs1 := Es1.size
 refine lx_nil ?_
 refine wk_seq ?_
 refine wk_seq ?_
 refine wk_region ?_
 refine lx_value (want rfl) (rn_fieldAddr fa_35_0 rfl) ?_
 refine lx_value (want rfl) (rn_load1Blk ag_32 rfl Bs1 rfl) ?_
 refine lx_value (want rfl) (rn_fieldAddr fa_35_0 rfl) ?_
 refine lx_value (want rfl) (rn_load1Blk ag_32 rfl (((((B1.ext E1).ext E2).ext E3).ext Eb2).ne Es1 (by omega)) rfl) ?_
 refine lx_call (want rfl) (ent_func cf_86 (argsC (t_slice rfl) (argsC (t_slice rfl) (argsC rfl args0)))) (eqslots_ct SS.slots sa2 sa ca2 ca _ F hsl (smallS_slots hok.sm) w6 (hS2.slots.fr (so_stab _) (Fr.trans (Fr.ext (Fr.refl (fun k => k = b2) w4) Eb2) Es1 (fun k _ h => h)) (fun k hk h => by have h9 := hk.2; (try dsimp only at h); omega)) (hS.slots.fr (so_stab _) F6 (fun _ _ h => h))) ?_
 rintro _ w7 E4 rfl
 have F7 := F6.ext E4
 have hz4 := E4.size
 refine lx_value (want rfl) (rn_not rfl) ?_
 refine lx_value (want rfl) (mv_bool rfl) ?_
 refine lx_value (want_if (j := 6) (d := 27) (x := false) (y := false) rfl rfl (by decide) rfl) (rn_fieldAddr fa_35_1 rfl) ?_
 refine lx_value (want_if (j := 6) (d := 27) (x := false) (y := false) rfl rfl (by decide) rfl) (rn_load1Blk ag_33 rfl (Bs1.ext E4) rfl) ?_
 refine lx_value (want_if (j := 6) (d := 27) (x := false) (y := false) rfl rfl (by decide) rfl) (rn_fieldAddr fa_35_1 rfl) ?_
 refine lx_value (want_if (j := 6) (d := 27) (x := false) (y := false) rfl rfl (by decide) rfl) (rn_load1Blk ag_33 rfl ((((((B1.ext E1).ext E2).ext E3).ext Eb2).ne Es1 (by omega)).ext E4) rfl) ?_
 refine lx_call (want_if (j := 6) (d := 27) (x := false) (y := false) rfl rfl (by decide) rfl) (ent_func cf_88 (argsC (t_slice rfl) (argsC (t_slice rfl) (argsC rfl args0)))) (eqins_ct SS.code sb2 sb cb2 cb _ F hcl (smallS_ins hok.sm) w7 (hS2.code.fr (in_stab _) (Fr.ext (Fr.trans (Fr.ext (Fr.refl (fun k => k = b2) w4) Eb2) Es1 (fun k _ h => h)) E4) (fun k hk h => by have h9 := hk.2; (try dsimp only at h); omega)) (hS.code.fr (in_stab _) F7 (fun _ _ h => h))) ?_
 rintro _ w8 E5 rfl
 have F8 := F7.ext E5
 have hz5 := E5.size
 refine lx_value (want_if (j := 6) (d := 27) (x := false) (y := false) rfl rfl (by decide) rfl) (rn_not rfl) ?_
 refine lx_value (want rfl) (pick_f rfl rfl) ?_
 refine lx_nil ?_
 refine wk_cond_f rfl ?_
 refine wk_skip ?_
 refine wk_seq ?_
 refine wk_region ?_
 refine lx_value (want rfl) (mv_slice rfl) ?_
 refine lx_value (want rfl) (as_slice rfl) ?_
 refine lx_value (want rfl) (as_int rfl) ?_
 refine lx_nil ?_
 refine wk_ret ?_
 refine retR2 Tryz.results61 (.tmp (t_slice rfl)) (.tmp (t_int rfl)) F8 ?_
 exact ⟨_, _, _, rfl⟩

end Go.Proofs.YtgnnegfnpgnbbaaGreatDoor

/- What functions compute: eopen. -/
import Derived.Test.YtgnnegfnpgnbbaaGreatDoorHomesFacts
import Derived.Test.YtgnnegfnpgnbbaaGreatDoorHomesPre
import Derived.Test.YtgnnegfnpgnbbaaGreatDoorHomesWalk19
set_option maxRecDepth 100000
set_option linter.unusedVariables false
set_option linter.unusedSimpArgs false
namespace Go.Proofs.YtgnnegfnpgnbbaaGreatDoor
open Go Go.RowKit Go.Mix Go.Eng
theorem eopen_ct (SS : Sto) (sa : Option Addr) (ca : Nat) (sb : Option Addr) (cb : Nat) (F : Nat → Prop) (hok : OkS SS) (w0 : World) (hS : StR F w0 SS sa ca sb cb) :
  CT Tryz.prog 23 [.agg #[.slice sa SS.slots.length ca, .slice sb SS.code.length cb]] w0 no (fun v _ => v = .tuple #[.agg #[.slice sa SS.slots.length ca, .slice sb SS.code.length cb], .int .i64 0]) := by
 have F0 := Fr.refl no w0
 refine ct_body Tryz.func23 rfl Tryz.ntmps23 (Nat.le_of_ble_eq_true rfl) ?_
 refine wk_seq ?_
 refine wk_region ?_
 refine lx_new (want rfl) (rn_box (t_agg rfl)) ?_
 intro b1 w1 hb1 Eb1 B1 hlb1
 have F1 := F0.ext Eb1
 have hzb1 := Eb1.size
 refine lx_new (want rfl) (rn_alloc ze_80) ?_
 intro b2 w2 hb2 Eb2 B2 hlb2
 have F2 := F1.ext Eb2
 have hzb2 := Eb2.size
 refine lx_value (want rfl) (as_int rfl) ?_
 refine lx_nil ?_
 refine wk_seq ?_
 refine wk_mix 4 (fun kS => match kS with | 3 => .val (.int .i64 0) | _ => .none) (by kernel_rfl) (by kernel_rfl) (by intro kS G hk; (try dsimp only at hk); (split at hk) <;> first | (cases hk; done) | (injection hk with hk; subst hk; exact ⟨by intro j hkj I v w w' hR hG; first | exact hG, fun ⟨_, _, _, _, hs⟩ => by (try dsimp only at hs); split at hs <;> cases hs⟩)) (by intro kS s y G hk; (try dsimp only at hk); split at hk <;> cases hk) ?_
 simp only [List.take_succ_cons, List.take_zero, List.take_nil, List.drop_succ_cons, List.drop_zero, List.drop_nil]
 refine mx_calm rfl (want rfl) (fun u1 eu1 fu1 => rn_loadBlk ag_35 sz_35 rfl ((B1.ext Eb2).ext ((ext_drawn _).trans' eu1)) rfl rfl) ?_
 refine mx_calm rfl (want rfl) (fun u2 eu2 fu2 => rn_build1 (t_agg rfl) (fun w => bd_80_0 _ _ _ _ _ _ w)) ?_
 refine mx_calm rfl (want rfl) (fun u3 eu3 fu3 => rn_loadBlk ag_35 sz_35 rfl ((B1.ext Eb2).ext ((ext_drawn _).trans' eu3)) rfl rfl) ?_
 refine mx_val rfl (want rfl) (fun u4 eu4 fu4 => do_call (ent_func cf_34 (argsC (t_agg rfl) args0)) (checkstore_ct SS sa ca sb cb F hok u4 (hS.fr (F2.ext ((ext_drawn _).trans' eu4)) (fun _ _ h => h))) (fun _ _ E h => ⟨E, h⟩)) ?_
 refine mx_nil (fun w3 E1' H1 HS => ?_)
 have E1 := (ext_drawn _).trans' E1'
 have F3 := F2.ext E1
 have hz1 := E1.size
 refine lx_set (want rfl) sz_80 rfl (t_agg rfl) rfl rfl rfl (B2.ext E1) (Nat.le_of_ble_eq_true rfl) ?_
 intro w4 Es1 Bs1
 have F4 := F3.set Es1 (by omega)
 have hzs1 := Es1.size
 refine lx_value (want rfl) (as_int rfl) ?_
 refine lx_nil ?_
 refine wk_ret ?_
 refine retR2 Tryz.results23 (.cell rfl (run_loadVar_blk ag_80 sz_80 Bs1 rfl rfl)) (.tmp (t_int rfl)) F4 ?_
 exact rfl

end Go.Proofs.YtgnnegfnpgnbbaaGreatDoor

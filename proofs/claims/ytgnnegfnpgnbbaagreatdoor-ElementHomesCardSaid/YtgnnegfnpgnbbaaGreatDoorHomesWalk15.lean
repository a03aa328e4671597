/- What functions compute: ewaits, isready, shaped2, issent. -/
import Derived.Test.YtgnnegfnpgnbbaaGreatDoorHomesFacts
import Derived.Test.YtgnnegfnpgnbbaaGreatDoorHomesPre
import Derived.Test.YtgnnegfnpgnbbaaGreatDoorHomesWalk10
import Derived.Test.YtgnnegfnpgnbbaaGreatDoorHomesWalk12
import Derived.Test.YtgnnegfnpgnbbaaGreatDoorHomesWalk2
import Derived.Test.YtgnnegfnpgnbbaaGreatDoorHomesWalk8
set_option maxRecDepth 100000
set_option linter.unusedVariables false
set_option linter.unusedSimpArgs false
namespace Go.Proofs.YtgnnegfnpgnbbaaGreatDoor
open Go Go.RowKit Go.Mix Go.Eng
theorem ewaits_ct (SS : Sto) (sa : Option Addr) (ca : Nat) (sb : Option Addr) (cb : Nat) (F : Nat → Prop) (hsm : smallS SS = true) (x : Ent) (s : Option Addr) (c : Nat) (G : Nat → Prop) (hW : WaitB SS x) (w0 : World) (hS : StR F w0 SS sa ca sb cb) (hl : VlS G w0 s x.ports) :
  CT Tryz.prog 65 [.agg #[.slice sa SS.slots.length ca, .slice sb SS.code.length cb], .agg #[.int .i64 x.ctx, .int .i64 x.at_, .slice s x.ports.length c]] w0 no (fun v _ => v = .bool true) := by
 have hcl := smallI_len (smallS_code hsm)
 have hpl := hW.plc
 obtain ⟨hat, hax⟩ := placeB_at hpl
 have hO := opsOk_parts hW.ops
 have hS0 := hS
 obtain ⟨bx, ox, hsx, _, so, co, hcx, hco⟩ := hS.code _ _ hax
 subst hsx
 have htwo := hW.two
 have hho := hW.ho
 have hlen := hW.len
 have F0 := Fr.refl no w0
 refine ct_body Tryz.func65 rfl Tryz.ntmps65 (Nat.le_of_ble_eq_true rfl) ?_
 refine wk_seq ?_
 refine wk_region ?_
 refine lx_new (want rfl) (rn_box (t_agg rfl)) ?_
 intro b1 w1 hb1 Eb1 B1 hlb1
 have F1 := F0.ext Eb1
 have hzb1 := Eb1.size
 refine lx_new (want rfl) (rn_box (t_agg rfl)) ?_
 intro b2 w2 hb2 Eb2 B2 hlb2
 have F2 := F1.ext Eb2
 have hzb2 := Eb2.size
 refine lx_value (want rfl) (as_bool rfl) ?_
 refine lx_nil ?_
 refine wk_seq ?_
 refine wk_seq ?_
 refine wk_region ?_
 refine lx_value (want rfl) (rn_fieldAddr fa_55_0 rfl) ?_
 refine lx_value (want rfl) (rn_load1Blk ag_3 rfl B2 rfl) ?_
 refine lx_call (want rfl) (ent_func cf_8 (argsC (t_int rfl) args0)) (isctx_ct _ w2) ?_
 rintro _ w3 E1 rfl
 have F3 := F2.ext E1
 have hz1 := E1.size
 refine lx_b_t ((decide_eq_true hW.ctx)) ?_
 refine lx_value (want rfl) (rn_not rfl) ?_
 refine lx_value (want rfl) (mv_bool rfl) ?_
 refine lx_value (want_if (j := 4) (d := 10) (x := false) (y := false) rfl rfl (by decide) rfl) (rn_loadBlk ag_80 sz_80 rfl ((B1.ext Eb2).ext E1) rfl rfl) ?_
 refine lx_value (want_if (j := 4) (d := 10) (x := false) (y := false) rfl rfl (by decide) rfl) (rn_fieldAddr fa_55_1 rfl) ?_
 refine lx_value (want_if (j := 4) (d := 10) (x := false) (y := false) rfl rfl (by decide) rfl) (rn_load1Blk ag_3 rfl (B2.ext E1) rfl) ?_
 refine lx_call (want_if (j := 4) (d := 10) (x := false) (y := false) rfl rfl (by decide) rfl) (ent_func cf_24 (argsC (t_agg rfl) (argsC (t_int rfl) args0))) (ispl_ct SS sa ca _ cb hcl _ w3) ?_
 rintro _ w4 E2 rfl
 have F4 := F3.ext E2
 have hz2 := E2.size
 refine lx_b_t (hpl) ?_
 refine lx_value (want_if (j := 4) (d := 10) (x := false) (y := false) rfl rfl (by decide) rfl) (rn_not rfl) ?_
 refine lx_value (want rfl) (pick_f rfl rfl) ?_
 refine lx_value (want rfl) (mv_bool rfl) ?_
 refine lx_value (want_if (j := 11) (d := 17) (x := false) (y := false) rfl rfl (by decide) rfl) (rn_fieldAddr fa_80_0 rfl) ?_
 refine lx_value (want_if (j := 11) (d := 17) (x := false) (y := false) rfl rfl (by decide) rfl) (rn_fieldAddr fa_35_1 rfl) ?_
 refine lx_value (want_if (j := 11) (d := 17) (x := false) (y := false) rfl rfl (by decide) rfl) (rn_load1Blk ag_33 rfl (((B1.ext Eb2).ext E1).ext E2) rfl) ?_
 refine lx_value (want_if (j := 11) (d := 17) (x := false) (y := false) rfl rfl (by decide) rfl) (rn_fieldAddr fa_55_1 rfl) ?_
 refine lx_value (want_if (j := 11) (d := 17) (x := false) (y := false) rfl rfl (by decide) rfl) (rn_load1Blk ag_3 rfl ((B2.ext E1).ext E2) rfl) ?_
 refine lx_value (want_if (j := 11) (d := 17) (x := false) (y := false) rfl rfl (by decide) rfl) (rn_index x.at_.toNat Tryz.underlying33 sz_73 rfl rfl (by omega) (by omega)) ?_
 refine lx_value (want_if (j := 11) (d := 17) (x := false) (y := false) rfl rfl (by decide) rfl) (rn_fieldAddr fa_73_0 rfl) ?_
 refine lx_value (want_if (j := 11) (d := 17) (x := false) (y := false) rfl rfl (by decide) rfl) (rn_load1 ag_5 rfl (F4.cell (fun h => h) (hcx 0 _ rfl))) ?_
 refine lx_value (want_if (j := 11) (d := 17) (x := false) (y := false) rfl rfl (by decide) rfl) (rn_eql rfl rfl) ?_
 refine lx_dec_f (hW.nm) ?_
 refine lx_value (want rfl) (pick_f rfl rfl) ?_
 refine lx_value (want rfl) (mv_bool rfl) ?_
 refine lx_value (want_if (j := 22) (d := 28) (x := false) (y := false) rfl rfl (by decide) rfl) (rn_loadBlk ag_80 sz_80 rfl (((B1.ext Eb2).ext E1).ext E2) rfl rfl) ?_
 refine lx_value (want_if (j := 22) (d := 28) (x := false) (y := false) rfl rfl (by decide) rfl) (rn_fieldAddr fa_55_1 rfl) ?_
 refine lx_value (want_if (j := 22) (d := 28) (x := false) (y := false) rfl rfl (by decide) rfl) (rn_load1Blk ag_3 rfl ((B2.ext E1).ext E2) rfl) ?_
 refine lx_call (want_if (j := 22) (d := 28) (x := false) (y := false) rfl rfl (by decide) rfl) (ent_func cf_25 (argsC (t_agg rfl) (argsC (t_int rfl) args0))) (eports_ct SS sa ca _ cb F hsm _ hpl w4 (hS.fr F4 (fun _ _ h => h))) ?_
 rintro _ w5 E3 rfl
 have F5 := F4.ext E3
 have hz3 := E3.size
 refine lx_value (want_if (j := 22) (d := 28) (x := false) (y := false) rfl rfl (by decide) rfl) (rn_lss rfl rfl) ?_
 refine lx_dec_f ((by omega)) ?_
 refine lx_value (want rfl) (pick_f rfl rfl) ?_
 refine lx_value (want rfl) (mv_bool rfl) ?_
 refine lx_value (want_if (j := 29) (d := 35) (x := false) (y := false) rfl rfl (by decide) rfl) (rn_loadBlk ag_80 sz_80 rfl ((((B1.ext Eb2).ext E1).ext E2).ext E3) rfl rfl) ?_
 refine lx_value (want_if (j := 29) (d := 35) (x := false) (y := false) rfl rfl (by decide) rfl) (rn_fieldAddr fa_55_1 rfl) ?_
 refine lx_value (want_if (j := 29) (d := 35) (x := false) (y := false) rfl rfl (by decide) rfl) (rn_load1Blk ag_3 rfl (((B2.ext E1).ext E2).ext E3) rfl) ?_
 refine lx_value (want_if (j := 29) (d := 35) (x := false) (y := false) rfl rfl (by decide) rfl) (rn_fieldAddr fa_55_2 rfl) ?_
 refine lx_value (want_if (j := 29) (d := 35) (x := false) (y := false) rfl rfl (by decide) rfl) (rn_load1Blk ag_53 rfl (((B2.ext E1).ext E2).ext E3) rfl) ?_
 refine lx_call (want_if (j := 29) (d := 35) (x := false) (y := false) rfl rfl (by decide) rfl) (ent_func cf_47 (argsC (t_agg rfl) (argsC (t_int rfl) (argsC (t_slice rfl) args0)))) (areops_ct SS sa ca _ cb F hsm _ hpl x.ports s c G hO hlen w5 (hS.fr F5 (fun _ _ h => h)) (hl.fr (vl_stab _) F5 (fun _ _ h => h))) ?_
 rintro _ w6 E4 rfl
 have F6 := F5.ext E4
 have hz4 := E4.size
 refine lx_value (want_if (j := 29) (d := 35) (x := false) (y := false) rfl rfl (by decide) rfl) (rn_not rfl) ?_
 refine lx_value (want rfl) (pick_f rfl rfl) ?_
 refine lx_nil ?_
 refine wk_cond_f rfl ?_
 refine wk_skip ?_
 refine wk_seq ?_
 refine wk_region ?_
 refine lx_value (want rfl) (rn_fieldAddr fa_55_2 rfl) ?_
 refine lx_value (want rfl) (rn_load1Blk ag_53 rfl ((((B2.ext E1).ext E2).ext E3).ext E4) rfl) ?_
 refine lx_call (want rfl) (ent_func cf_44 (argsC (t_slice rfl) args0)) (holes_ct x.ports s c G hlen w6 (hl.fr (vl_stab _) F6 (fun _ _ h => h))) ?_
 rintro _ w7 E5 rfl
 have F7 := F6.ext E5
 have hz5 := E5.size
 refine lx_value (want rfl) (as_int rfl) ?_
 refine lx_nil ?_
 refine wk_seq ?_
 refine wk_region ?_
 refine lx_value (want rfl) (mv_int rfl) ?_
 refine lx_value (want rfl) (rn_gtr rfl rfl) ?_
 refine lx_dec_t ((by omega)) ?_
 refine lx_value (want rfl) (mv_bool rfl) ?_
 refine lx_value (want_if (j := 2) (d := 49) (x := true) (y := true) rfl rfl (by decide) rfl) (mv_int rfl) ?_
 refine lx_value (want_if (j := 2) (d := 49) (x := true) (y := true) rfl rfl (by decide) rfl) (rn_fieldAddr fa_55_2 rfl) ?_
 refine lx_value (want_if (j := 2) (d := 49) (x := true) (y := true) rfl rfl (by decide) rfl) (rn_load1Blk ag_53 rfl (((((B2.ext E1).ext E2).ext E3).ext E4).ext E5) rfl) ?_
 refine lx_value (want_if (j := 2) (d := 49) (x := true) (y := true) rfl rfl (by decide) rfl) (rn_len Tryz.underlying53 rfl) ?_
 refine lx_value (want_if (j := 2) (d := 49) (x := true) (y := true) rfl rfl (by decide) rfl) (rn_lss rfl rfl) ?_
 refine lx_value (want rfl) (pick_t rfl rfl) ?_
 refine lx_value (want rfl) (as_bool rfl) ?_
 refine lx_nil ?_
 refine wk_ret ?_
 refine retR1 Tryz.results65 (.tmp (t_bool rfl)) F7 ?_
 exact congrArg Value.bool (decide_eq_true (by omega))

theorem isready_ct (SS : Sto) (sa : Option Addr) (ca : Nat) (sb : Option Addr) (cb : Nat) (F : Nat → Prop) (hsm : smallS SS = true) (x : Ent) (s : Option Addr) (c : Nat) (G : Nat → Prop) (hctx : 0 ≤ x.ctx ∧ x.ctx ≤ 399) (hpl : placeB SS x.at_ = true) (hn6 : (codeAt SS x.at_).op ≠ 6) (hO : OpsOk (codeAt SS x.at_) x.ports) (hlen : x.ports.length ≤ 1000) (hho : holesN x.ports = 0) (w0 : World) (hS : StR F w0 SS sa ca sb cb) (hl : VlS G w0 s x.ports) :
  CT Tryz.prog 30 [.agg #[.slice sa SS.slots.length ca, .slice sb SS.code.length cb], .agg #[.int .i64 x.ctx, .int .i64 x.at_, .slice s x.ports.length c]] w0 no (fun v _ => v = .int .i64 0) := by
 have hcl := smallI_len (smallS_code hsm)
 obtain ⟨hat, hax⟩ := placeB_at hpl
 have hS0 := hS
 obtain ⟨bx, ox, hsx, _, so, co, hcx, hco⟩ := hS.code _ _ hax
 subst hsx
 have F0 := Fr.refl no w0
 refine ct_body Tryz.func30 rfl Tryz.ntmps30 (Nat.le_of_ble_eq_true rfl) ?_
 refine wk_seq ?_
 refine wk_region ?_
 refine lx_new (want rfl) (rn_box (t_agg rfl)) ?_
 intro b1 w1 hb1 Eb1 B1 hlb1
 have F1 := F0.ext Eb1
 have hzb1 := Eb1.size
 refine lx_new (want rfl) (rn_box (t_agg rfl)) ?_
 intro b2 w2 hb2 Eb2 B2 hlb2
 have F2 := F1.ext Eb2
 have hzb2 := Eb2.size
 refine lx_value (want rfl) (as_int rfl) ?_
 refine lx_nil ?_
 refine wk_seq ?_
 refine wk_seq ?_
 refine wk_region ?_
 refine lx_value (want rfl) (rn_fieldAddr fa_55_0 rfl) ?_
 refine lx_value (want rfl) (rn_load1Blk ag_3 rfl B2 rfl) ?_
 refine lx_call (want rfl) (ent_func cf_8 (argsC (t_int rfl) args0)) (isctx_ct _ w2) ?_
 rintro _ w3 E1 rfl
 have F3 := F2.ext E1
 have hz1 := E1.size
 refine lx_b_t ((decide_eq_true hctx)) ?_
 refine lx_value (want rfl) (rn_not rfl) ?_
 refine lx_value (want rfl) (mv_bool rfl) ?_
 refine lx_value (want_if (j := 4) (d := 10) (x := false) (y := false) rfl rfl (by decide) rfl) (rn_loadBlk ag_80 sz_80 rfl ((B1.ext Eb2).ext E1) rfl rfl) ?_
 refine lx_value (want_if (j := 4) (d := 10) (x := false) (y := false) rfl rfl (by decide) rfl) (rn_fieldAddr fa_55_1 rfl) ?_
 refine lx_value (want_if (j := 4) (d := 10) (x := false) (y := false) rfl rfl (by decide) rfl) (rn_load1Blk ag_3 rfl (B2.ext E1) rfl) ?_
 refine lx_call (want_if (j := 4) (d := 10) (x := false) (y := false) rfl rfl (by decide) rfl) (ent_func cf_24 (argsC (t_agg rfl) (argsC (t_int rfl) args0))) (ispl_ct SS sa ca _ cb hcl _ w3) ?_
 rintro _ w4 E2 rfl
 have F4 := F3.ext E2
 have hz2 := E2.size
 refine lx_b_t (hpl) ?_
 refine lx_value (want_if (j := 4) (d := 10) (x := false) (y := false) rfl rfl (by decide) rfl) (rn_not rfl) ?_
 refine lx_value (want rfl) (pick_f rfl rfl) ?_
 refine lx_nil ?_
 refine wk_cond_f rfl ?_
 refine wk_skip ?_
 refine wk_seq ?_
 refine wk_region ?_
 refine lx_value (want rfl) (as_int rfl) ?_
 refine lx_nil ?_
 refine wk_seq ?_
 refine wk_seq ?_
 refine wk_region ?_
 refine lx_value (want rfl) (rn_fieldAddr fa_80_0 rfl) ?_
 refine lx_value (want rfl) (rn_fieldAddr fa_35_1 rfl) ?_
 refine lx_value (want rfl) (rn_load1Blk ag_33 rfl (((B1.ext Eb2).ext E1).ext E2) rfl) ?_
 refine lx_value (want rfl) (rn_fieldAddr fa_55_1 rfl) ?_
 refine lx_value (want rfl) (rn_load1Blk ag_3 rfl ((B2.ext E1).ext E2) rfl) ?_
 refine lx_value (want rfl) (rn_index x.at_.toNat Tryz.underlying33 sz_73 rfl rfl (by omega) (by omega)) ?_
 refine lx_value (want rfl) (rn_fieldAddr fa_73_0 rfl) ?_
 refine lx_value (want rfl) (rn_load1 ag_5 rfl (F4.cell (fun h => h) (hcx 0 _ rfl))) ?_
 refine lx_value (want rfl) (rn_eql rfl rfl) ?_
 refine lx_dec_f (hn6) ?_
 refine lx_nil ?_
 refine wk_cond_f rfl ?_
 refine wk_skip ?_
 refine wk_seq ?_
 refine wk_seq ?_
 refine wk_region ?_
 refine lx_value (want rfl) (rn_loadBlk ag_80 sz_80 rfl (((B1.ext Eb2).ext E1).ext E2) rfl rfl) ?_
 refine lx_value (want rfl) (rn_fieldAddr fa_55_1 rfl) ?_
 refine lx_value (want rfl) (rn_load1Blk ag_3 rfl ((B2.ext E1).ext E2) rfl) ?_
 refine lx_value (want rfl) (rn_fieldAddr fa_55_2 rfl) ?_
 refine lx_value (want rfl) (rn_load1Blk ag_53 rfl ((B2.ext E1).ext E2) rfl) ?_
 refine lx_call (want rfl) (ent_func cf_47 (argsC (t_agg rfl) (argsC (t_int rfl) (argsC (t_slice rfl) args0)))) (areops_ct SS sa ca _ cb F hsm _ hpl x.ports s c G hO hlen w4 (hS0.fr F4 (fun _ _ h => h)) (hl.fr (vl_stab _) F4 (fun _ _ h => h))) ?_
 rintro _ w5 E3 rfl
 have F5 := F4.ext E3
 have hz3 := E3.size
 refine lx_value (want rfl) (rn_not rfl) ?_
 refine lx_value (want rfl) (mv_bool rfl) ?_
 refine lx_value (want_if (j := 7) (d := 33) (x := false) (y := false) rfl rfl (by decide) rfl) (rn_fieldAddr fa_55_2 rfl) ?_
 refine lx_value (want_if (j := 7) (d := 33) (x := false) (y := false) rfl rfl (by decide) rfl) (rn_load1Blk ag_53 rfl (((B2.ext E1).ext E2).ext E3) rfl) ?_
 refine lx_call (want_if (j := 7) (d := 33) (x := false) (y := false) rfl rfl (by decide) rfl) (ent_func cf_44 (argsC (t_slice rfl) args0)) (holes_ct x.ports s c G hlen w5 (hl.fr (vl_stab _) F5 (fun _ _ h => h))) ?_
 rintro _ w6 E4 rfl
 have F6 := F5.ext E4
 have hz4 := E4.size
 refine lx_value (want_if (j := 7) (d := 33) (x := false) (y := false) rfl rfl (by decide) rfl) (mv_int rfl) ?_
 refine lx_value (want_if (j := 7) (d := 33) (x := false) (y := false) rfl rfl (by decide) rfl) (rn_neq rfl rfl) ?_
 refine lx_dec_f ((fun g => g (by rw [hho]; rfl))) ?_
 refine lx_value (want rfl) (pick_f rfl rfl) ?_
 refine lx_nil ?_
 refine wk_cond_f rfl ?_
 refine wk_skip ?_
 refine wk_seq ?_
 refine wk_region ?_
 refine lx_value (want rfl) (as_int rfl) ?_
 refine lx_nil ?_
 refine wk_ret ?_
 refine retR1 Tryz.results30 (.tmp (t_int rfl)) F6 ?_
 exact rfl

theorem shaped2_ct (F : Nat → Prop) (l : List Sg) (b : Nat) (g : Sg) (ss : Option Addr) (cs : Nat) (si : Option Addr) (ci : Nat) (hsm : smallG l = true) (hsi : smallI g.ins = true) (hsd : smallD g.st = true) (x : Ins) (so : Option Addr) (co : Nat) (bq : Nat) (hok : okN l x = true) (w0 : World) (hp : PrgO F w0 b l) (hB : Blk w0 bq [.pointer (some ⟨b, 0, none⟩), .string g.nm, .int .i64 (g.ex : Nat), .slice ss g.st.length cs, .slice si g.ins.length ci] 193) :
  CT Tryz.prog 146 [.agg #[.int .u8 x.op, .string x.nm, .int .i64 x.n, .slice so x.outs.length co], .pointer (some ⟨bq, 0, none⟩)] w0 no (fun v _ => v = .bool (decide ((x.outs.length : Int) = outP l x))) := by
 have hp0 := hp
 have F0 := Fr.refl no w0
 refine ct_body Tryz.func146 rfl Tryz.ntmps146 (Nat.le_of_ble_eq_true rfl) ?_
 refine wk_seq ?_
 refine wk_region ?_
 refine lx_new (want rfl) (rn_box (t_agg rfl)) ?_
 intro b21 w1 hb21 Eb21 B21 hlb21
 have F1 := F0.ext Eb21
 have hzb21 := Eb21.size
 refine lx_value (want rfl) (as_bool rfl) ?_
 refine lx_nil ?_
 refine wk_seq ?_
 refine wk_region ?_
 refine lx_value (want rfl) (rn_fieldAddr fa_193_0 rfl) ?_
 refine lx_value (want rfl) (rn_load1Blk ag_182 rfl (hB.ext Eb21) rfl) ?_
 refine lx_value (want rfl) (rn_loadBlk ag_73 sz_73 rfl B21 rfl rfl) ?_
 refine lx_call (want rfl) (ent_func cf_147 (argsC (t_pointer rfl) (argsC (t_agg rfl) args0))) (kports_ct F l b _ _ _ hsm hok w1 (hp0.fr F1 (fun _ _ h => h))) ?_
 rintro _ w2 E1 rfl
 have F2 := F1.ext E1
 have hz1 := E1.size
 refine lx_value (want rfl) (mv_tuple rfl) ?_
 refine lx_value (want rfl) (rn_extract rfl rfl) ?_
 refine lx_value (want rfl) (rn_extract rfl rfl) ?_
 refine lx_value (want rfl) (as_int rfl) ?_
 refine lx_value (want rfl) (as_int rfl) ?_
 refine lx_nil ?_
 refine wk_seq ?_
 refine wk_region ?_
 refine lx_value (want rfl) (rn_fieldAddr fa_73_3 rfl) ?_
 refine lx_value (want rfl) (rn_load1Blk ag_71 rfl (B21.ext E1) rfl) ?_
 refine lx_value (want rfl) (rn_len Tryz.underlying71 rfl) ?_
 refine lx_value (want rfl) (mv_int rfl) ?_
 refine lx_value (want rfl) (rn_eql rfl rfl) ?_
 refine lx_value (want rfl) (as_bool rfl) ?_
 refine lx_nil ?_
 refine wk_ret ?_
 refine retR1 Tryz.results146 (.tmp (t_bool rfl)) F2 ?_
 exact rfl

theorem issent_ct (SS : Sto) (sa : Option Addr) (ca : Nat) (sb : Option Addr) (cb : Nat) (F : Nat → Prop) (hsm : smallS SS = true) (l : List Tok) (s : Option Addr) (c : Nat) (G : Nat → Prop) (hl1 : l.length ≤ 2000) (hs : l.all (sentB SS) = true) (w0 : World) (hS : StR F w0 SS sa ca sb cb) (hl : TkS G w0 s l) :
  CT Tryz.prog 60 [.agg #[.slice sa SS.slots.length ca, .slice sb SS.code.length cb], .slice s l.length c] w0 no (fun v _ => v = .int .i64 0) := by
 have F0 := Fr.refl no w0
 refine ct_body Tryz.func60 rfl Tryz.ntmps60 (Nat.le_of_ble_eq_true rfl) ?_
 refine wk_seq ?_
 refine wk_region ?_
 refine lx_new (want rfl) (rn_box (t_agg rfl)) ?_
 intro b1 w1 hb1 Eb1 B1 hlb1
 have F1 := F0.ext Eb1
 have hzb1 := Eb1.size
 refine lx_value (want rfl) (as_int rfl) ?_
 refine lx_nil ?_
 refine wk_seq ?_
 refine wk_seq ?_
 refine wk_region ?_
 refine lx_value (want rfl) (mv_slice rfl) ?_
 refine lx_value (want rfl) (rn_makeFunc (argsC (t_pointer rfl) args0)) ?_
 refine lx_call (want rfl) (ent_func cf_81 (argsC (t_slice rfl) (argsC (t_func rfl) args0))) (allt_ct l s c G 82 [] [.pointer (some ⟨b1, 0, none⟩)] (sentB SS) cf_82 w1 (hl.fr (tk_stab _) F1 (fun _ _ h => h)) hl1 (fun z w hz E => (issent1_ct SS sa ca sb cb F hsm z (List.all_eq_true.1 hs z hz) b1 w ((hS.fr F1 (fun _ _ h => h)).ext E) (B1.ext E)).mono (fun _ _ h => h) (fun v w' _ h => by rw [h, List.all_eq_true.1 hs z hz]))) ?_
 rintro _ w2 E1 rfl
 have F2 := F1.ext E1
 have hz1 := E1.size
 refine lx_b_t (hs) ?_
 refine lx_value (want rfl) (rn_not rfl) ?_
 refine lx_nil ?_
 refine wk_cond_f rfl ?_
 refine wk_skip ?_
 refine wk_seq ?_
 refine wk_region ?_
 refine lx_value (want rfl) (as_int rfl) ?_
 refine lx_nil ?_
 refine wk_ret ?_
 refine retR1 Tryz.results60 (.tmp (t_int rfl)) F2 ?_
 exact rfl

end Go.Proofs.YtgnnegfnpgnbbaaGreatDoor

/- What functions compute: fits, sameslot, sameins, prim, new, ispl, isctx. -/
import Derived.Test.YtgnnegfnpgnbbaaGreatDoorHomesFacts
import Derived.Test.YtgnnegfnpgnbbaaGreatDoorHomesPre
import Derived.Test.YtgnnegfnpgnbbaaGreatDoorHomesWalk1
import Derived.Test.YtgnnegfnpgnbbaaGreatDoorHomesWalk6
import Derived.Test.YtgnnegfnpgnbbaaGreatDoorHomesWalk8
set_option maxRecDepth 100000
set_option linter.unusedVariables false
set_option linter.unusedSimpArgs false
namespace Go.Proofs.YtgnnegfnpgnbbaaGreatDoor
open Go Go.RowKit Go.Mix Go.Eng
set_option maxRecDepth 100000 in
theorem fits_ct (SS : Sto) (sa : Option Addr) (ca : Nat) (sb : Option Addr) (cb : Nat) (F : Nat → Prop) (hsm : smallS SS = true) (at_ : Int) (hpl : placeB SS at_ = true) (port : Int) (v : Vl) (hna : (codeAt SS at_).op ≠ 21) (hv0 : fitB v = true) (w0 : World) (hS : StR F w0 SS sa ca sb cb) :
  CT Tryz.prog 70 [.agg #[.slice sa SS.slots.length ca, .slice sb SS.code.length cb], .int .i64 at_, .int .i64 port, vlV v] w0 no (fun v _ => v = .bool true) := by
 obtain ⟨hat, hax⟩ := placeB_at hpl
 have hcl := smallI_len (smallS_code hsm)
 obtain ⟨bx, ox, rfl, _, so, co, hcx, hco⟩ := hS.code _ _ hax
 have hv := fitB_or hv0
 have F0 := Fr.refl no w0
 refine ct_body Tryz.func70 rfl Tryz.ntmps70 (Nat.le_of_ble_eq_true rfl) ?_
 refine wk_seq ?_
 refine wk_region ?_
 refine lx_new (want rfl) (rn_box (t_agg rfl)) ?_
 intro b1 w1 hb1 Eb1 B1 hlb1
 have F1 := F0.ext Eb1
 have hzb1 := Eb1.size
 refine lx_new (want rfl) (rn_box (t_agg rfl)) ?_
 intro b2 w2 hb2 Eb2 B2 hlb2
 have F2 := F1.ext Eb2
 have hzb2 := Eb2.size
 refine lx_value (want rfl) (as_bool rfl) ?_
 refine lx_nil ?_
 refine wk_seq ?_
 refine wk_region ?_
 refine lx_value (want rfl) (rn_fieldAddr fa_80_0 rfl) ?_
 refine lx_value (want rfl) (rn_fieldAddr fa_35_1 rfl) ?_
 refine lx_value (want rfl) (rn_load1Blk ag_33 rfl (B1.ext Eb2) rfl) ?_
 refine lx_value (want rfl) (mv_int rfl) ?_
 refine lx_value (want rfl) (rn_index at_.toNat Tryz.underlying33 sz_73 rfl rfl (by omega) (by omega)) ?_
 refine lx_value (want rfl) (rn_fieldAddr fa_73_0 rfl) ?_
 refine lx_value (want rfl) (rn_load1 ag_5 rfl (F2.cell (fun h => h) (hcx 0 _ rfl))) ?_
 refine lx_value (want rfl) (rn_eql rfl rfl) ?_
 refine lx_dec_f (hna) ?_
 refine lx_value (want rfl) (mv_bool rfl) ?_
 refine lx_skip (want_if (j := 8) (d := 18) (x := true) (y := false) rfl rfl (by decide) rfl) ?_
 refine lx_skip (want_if (j := 8) (d := 18) (x := true) (y := false) rfl rfl (by decide) rfl) ?_
 refine lx_value (want rfl) (pick_f rfl rfl) ?_
 refine lx_value (want rfl) (as_bool rfl) ?_
 refine lx_nil ?_
 refine wk_seq ?_
 refine wk_seq ?_
 refine wk_region ?_
 refine lx_value (want rfl) (rn_fieldAddr fa_48_0 rfl) ?_
 refine lx_value (want rfl) (rn_load1Blk ag_5 rfl B2 rfl) ?_
 refine lx_nil ?_
 refine wk_block ?_
 refine wk_seq ?_
 refine wk_region ?_
 refine lx_value (want rfl) (rn_eql rfl rfl) ?_
 refine lx_dec_f ((by omega)) ?_
 refine lx_value (want rfl) (as_bool rfl) ?_
 refine lx_nil ?_
 refine wk_cond_f rfl ?_
 refine wk_seq ?_
 refine wk_region ?_
 refine lx_value (want rfl) (rn_eql rfl rfl) ?_
 refine lx_dec_f ((by omega)) ?_
 refine lx_value (want rfl) (as_bool rfl) ?_
 refine lx_nil ?_
 refine wk_cond_f rfl ?_
 refine wk_seq ?_
 refine wk_region ?_
 refine lx_value (want rfl) (rn_eql rfl rfl) ?_
 refine lx_dec (fun hk1 => ?_) (fun hk1 => ?_)
 ·
  refine lx_value (want rfl) (as_bool rfl) ?_
  refine lx_nil ?_
  refine wk_cond_t rfl ?_
  refine wk_seq ?_
  refine wk_region ?_
  refine lx_value (want rfl) (mv_bool rfl) ?_
  refine lx_value (want rfl) (rn_not rfl) ?_
  refine lx_value (want rfl) (mv_bool rfl) ?_
  refine lx_value (want_if (j := 2) (d := 42) (x := true) (y := true) rfl rfl (by decide) rfl) (rn_fieldAddr fa_48_1 rfl) ?_
  refine lx_value (want_if (j := 2) (d := 42) (x := true) (y := true) rfl rfl (by decide) rfl) (rn_load1Blk ag_3 rfl B2 rfl) ?_
  refine lx_newS (want_if (j := 2) (d := 42) (x := true) (y := true) rfl rfl (by decide) rfl) (rn_bslice (xs := [.tmp 44]) Tryz.underlying68 sz_3 ze_3 rfl (argsC (t_int rfl) args0) (CL.cons rfl rfl CL.nil) rfl (Nat.le_of_ble_eq_true rfl)) ?_
  intro b3 w3 hb3 Eb3 B3 hlb3
  have F3 := F2.ext Eb3
  have hzb3 := Eb3.size
  refine lx_call (want_if (j := 2) (d := 42) (x := true) (y := true) rfl rfl (by decide) rfl) (ent_func cf_7 (argsC (t_int rfl) (argsC (t_int rfl) (argsC (t_slice rfl) args0)))) (ewithin_ct _ _ _ _ _ w3 (one_sl B3)) ?_
  rintro _ w4 E1 rfl
  have F4 := F3.ext E1
  have hz1 := E1.size
  refine lx_value (want rfl) (pick_t rfl rfl) ?_
  refine lx_value (want rfl) (as_bool rfl) ?_
  refine lx_nil ?_
  refine wk_ret ?_
  refine retR1 Tryz.results70 (.tmp (t_bool rfl)) F4 ?_
  exact congrArg Value.bool (decide_eq_true (by omega))
 ·
  refine lx_value (want rfl) (as_bool rfl) ?_
  refine lx_nil ?_
  refine wk_cond_f rfl ?_
  refine wk_seq ?_
  refine wk_region ?_
  refine lx_value (want rfl) (rn_eql rfl rfl) ?_
  refine lx_dec_f ((by omega)) ?_
  refine lx_value (want rfl) (as_bool rfl) ?_
  refine lx_nil ?_
  refine wk_cond_f rfl ?_
  refine wk_seq ?_
  refine wk_region ?_
  refine lx_value (want rfl) (rn_eql rfl rfl) ?_
  refine lx_dec_t ((by omega)) ?_
  refine lx_value (want rfl) (as_bool rfl) ?_
  refine lx_nil ?_
  refine wk_cond_t rfl ?_
  refine wk_seq ?_
  refine wk_region ?_
  refine lx_value (want rfl) (mv_bool rfl) ?_
  refine lx_value (want rfl) (rn_not rfl) ?_
  refine lx_value (want rfl) (mv_bool rfl) ?_
  refine lx_value (want_if (j := 2) (d := 62) (x := true) (y := true) rfl rfl (by decide) rfl) (rn_fieldAddr fa_48_1 rfl) ?_
  refine lx_value (want_if (j := 2) (d := 62) (x := true) (y := true) rfl rfl (by decide) rfl) (rn_load1Blk ag_3 rfl B2 rfl) ?_
  refine lx_value (want_if (j := 2) (d := 62) (x := true) (y := true) rfl rfl (by decide) rfl) (rn_eql rfl rfl) ?_
  refine lx_value (want rfl) (pick_t rfl rfl) ?_
  refine lx_value (want rfl) (as_bool rfl) ?_
  refine lx_nil ?_
  refine wk_ret ?_
  refine retR1 Tryz.results70 (.tmp (t_bool rfl)) F2 ?_
  exact congrArg Value.bool (decide_eq_true (by omega))

theorem sameslot_ct (x : Slt) (s1 s2 : Option Addr) (c1 c2 : Nat) (Fa Fb : Nat → Prop) (hsm : smallD x.st = true) (w0 : World) (ha : DdS Fa w0 s1 x.st) (hb : DdS Fb w0 s2 x.st) :
  CT Tryz.prog 87 [.agg #[.string x.nm, .int .i64 (x.base : Nat), .int .i64 (x.size : Nat), .int .i64 (x.ex : Nat), .bool x.loop, .slice s1 x.st.length c1], .agg #[.string x.nm, .int .i64 (x.base : Nat), .int .i64 (x.size : Nat), .int .i64 (x.ex : Nat), .bool x.loop, .slice s2 x.st.length c2]] w0 no (fun v _ => v = .bool true) := by
 have F0 := Fr.refl no w0
 refine ct_body Tryz.func87 rfl Tryz.ntmps87 (Nat.le_of_ble_eq_true rfl) ?_
 refine wk_seq ?_
 refine wk_region ?_
 refine lx_new (want rfl) (rn_box (t_agg rfl)) ?_
 intro b1 w1 hb1 Eb1 B1 hlb1
 have F1 := F0.ext Eb1
 have hzb1 := Eb1.size
 refine lx_new (want rfl) (rn_box (t_agg rfl)) ?_
 intro b2 w2 hb2 Eb2 B2 hlb2
 have F2 := F1.ext Eb2
 have hzb2 := Eb2.size
 refine lx_value (want rfl) (as_bool rfl) ?_
 refine lx_nil ?_
 refine wk_seq ?_
 refine wk_region ?_
 refine lx_value (want rfl) (rn_fieldAddr fa_78_0 rfl) ?_
 refine lx_value (want rfl) (rn_load1Blk ag_9 rfl (B1.ext Eb2) rfl) ?_
 refine lx_value (want rfl) (rn_fieldAddr fa_78_0 rfl) ?_
 refine lx_value (want rfl) (rn_load1Blk ag_9 rfl B2 rfl) ?_
 refine lx_value (want rfl) (rn_eqlBA rfl rfl) ?_
 refine lx_dec_t (rfl) ?_
 refine lx_value (want rfl) (mv_bool rfl) ?_
 refine lx_value (want_if (j := 5) (d := 10) (x := true) (y := true) rfl rfl (by decide) rfl) (rn_fieldAddr fa_78_1 rfl) ?_
 refine lx_value (want_if (j := 5) (d := 10) (x := true) (y := true) rfl rfl (by decide) rfl) (rn_load1Blk ag_3 rfl (B1.ext Eb2) rfl) ?_
 refine lx_value (want_if (j := 5) (d := 10) (x := true) (y := true) rfl rfl (by decide) rfl) (rn_fieldAddr fa_78_1 rfl) ?_
 refine lx_value (want_if (j := 5) (d := 10) (x := true) (y := true) rfl rfl (by decide) rfl) (rn_load1Blk ag_3 rfl B2 rfl) ?_
 refine lx_value (want_if (j := 5) (d := 10) (x := true) (y := true) rfl rfl (by decide) rfl) (rn_eql rfl rfl) ?_
 refine lx_dec_t (rfl) ?_
 refine lx_value (want rfl) (pick_t rfl rfl) ?_
 refine lx_value (want rfl) (mv_bool rfl) ?_
 refine lx_value (want_if (j := 12) (d := 17) (x := true) (y := true) rfl rfl (by decide) rfl) (rn_fieldAddr fa_78_2 rfl) ?_
 refine lx_value (want_if (j := 12) (d := 17) (x := true) (y := true) rfl rfl (by decide) rfl) (rn_load1Blk ag_3 rfl (B1.ext Eb2) rfl) ?_
 refine lx_value (want_if (j := 12) (d := 17) (x := true) (y := true) rfl rfl (by decide) rfl) (rn_fieldAddr fa_78_2 rfl) ?_
 refine lx_value (want_if (j := 12) (d := 17) (x := true) (y := true) rfl rfl (by decide) rfl) (rn_load1Blk ag_3 rfl B2 rfl) ?_
 refine lx_value (want_if (j := 12) (d := 17) (x := true) (y := true) rfl rfl (by decide) rfl) (rn_eql rfl rfl) ?_
 refine lx_dec_t (rfl) ?_
 refine lx_value (want rfl) (pick_t rfl rfl) ?_
 refine lx_value (want rfl) (mv_bool rfl) ?_
 refine lx_value (want_if (j := 19) (d := 24) (x := true) (y := true) rfl rfl (by decide) rfl) (rn_fieldAddr fa_78_3 rfl) ?_
 refine lx_value (want_if (j := 19) (d := 24) (x := true) (y := true) rfl rfl (by decide) rfl) (rn_load1Blk ag_3 rfl (B1.ext Eb2) rfl) ?_
 refine lx_value (want_if (j := 19) (d := 24) (x := true) (y := true) rfl rfl (by decide) rfl) (rn_fieldAddr fa_78_3 rfl) ?_
 refine lx_value (want_if (j := 19) (d := 24) (x := true) (y := true) rfl rfl (by decide) rfl) (rn_load1Blk ag_3 rfl B2 rfl) ?_
 refine lx_value (want_if (j := 19) (d := 24) (x := true) (y := true) rfl rfl (by decide) rfl) (rn_eql rfl rfl) ?_
 refine lx_dec_t (rfl) ?_
 refine lx_value (want rfl) (pick_t rfl rfl) ?_
 refine lx_value (want rfl) (mv_bool rfl) ?_
 refine lx_value (want_if (j := 26) (d := 31) (x := true) (y := true) rfl rfl (by decide) rfl) (rn_fieldAddr fa_78_4 rfl) ?_
 refine lx_value (want_if (j := 26) (d := 31) (x := true) (y := true) rfl rfl (by decide) rfl) (rn_load1Blk ag_4 rfl (B1.ext Eb2) rfl) ?_
 refine lx_value (want_if (j := 26) (d := 31) (x := true) (y := true) rfl rfl (by decide) rfl) (rn_fieldAddr fa_78_4 rfl) ?_
 refine lx_value (want_if (j := 26) (d := 31) (x := true) (y := true) rfl rfl (by decide) rfl) (rn_load1Blk ag_4 rfl B2 rfl) ?_
 refine lx_value (want_if (j := 26) (d := 31) (x := true) (y := true) rfl rfl (by decide) rfl) (rn_eqlB Tryz.underlying4 rfl rfl) ?_
 refine lx_dec_t (rfl) ?_
 refine lx_value (want rfl) (pick_t rfl rfl) ?_
 refine lx_value (want rfl) (mv_bool rfl) ?_
 refine lx_value (want_if (j := 33) (d := 38) (x := true) (y := true) rfl rfl (by decide) rfl) (rn_fieldAddr fa_78_5 rfl) ?_
 refine lx_value (want_if (j := 33) (d := 38) (x := true) (y := true) rfl rfl (by decide) rfl) (rn_load1Blk ag_71 rfl (B1.ext Eb2) rfl) ?_
 refine lx_value (want_if (j := 33) (d := 38) (x := true) (y := true) rfl rfl (by decide) rfl) (rn_fieldAddr fa_78_5 rfl) ?_
 refine lx_value (want_if (j := 33) (d := 38) (x := true) (y := true) rfl rfl (by decide) rfl) (rn_load1Blk ag_71 rfl B2 rfl) ?_
 refine lx_call (want_if (j := 33) (d := 38) (x := true) (y := true) rfl rfl (by decide) rfl) (ent_func cf_129 (argsC (t_slice rfl) (argsC (t_slice rfl) args0))) (osame_ct x.st s1 s2 c1 c2 Fa Fb hsm w2 (ha.fr (dd_stab _) F2 (fun _ _ h => h)) (hb.fr (dd_stab _) F2 (fun _ _ h => h))) ?_
 rintro _ w3 E1 rfl
 have F3 := F2.ext E1
 have hz1 := E1.size
 refine lx_value (want rfl) (pick_t rfl rfl) ?_
 refine lx_value (want rfl) (as_bool rfl) ?_
 refine lx_nil ?_
 refine wk_ret ?_
 refine retR1 Tryz.results87 (.tmp (t_bool rfl)) F3 ?_
 exact rfl

theorem sameins_ct (x : Ins) (s1 s2 : Option Addr) (c1 c2 : Nat) (Fa Fb : Nat → Prop) (hsm : smallD x.outs = true) (w0 : World) (ha : DdS Fa w0 s1 x.outs) (hb : DdS Fb w0 s2 x.outs) :
  CT Tryz.prog 89 [.agg #[.int .u8 x.op, .string x.nm, .int .i64 x.n, .slice s1 x.outs.length c1], .agg #[.int .u8 x.op, .string x.nm, .int .i64 x.n, .slice s2 x.outs.length c2]] w0 no (fun v _ => v = .bool true) := by
 have F0 := Fr.refl no w0
 refine ct_body Tryz.func89 rfl Tryz.ntmps89 (Nat.le_of_ble_eq_true rfl) ?_
 refine wk_seq ?_
 refine wk_region ?_
 refine lx_new (want rfl) (rn_box (t_agg rfl)) ?_
 intro b1 w1 hb1 Eb1 B1 hlb1
 have F1 := F0.ext Eb1
 have hzb1 := Eb1.size
 refine lx_new (want rfl) (rn_box (t_agg rfl)) ?_
 intro b2 w2 hb2 Eb2 B2 hlb2
 have F2 := F1.ext Eb2
 have hzb2 := Eb2.size
 refine lx_value (want rfl) (as_bool rfl) ?_
 refine lx_nil ?_
 refine wk_seq ?_
 refine wk_region ?_
 refine lx_value (want rfl) (rn_fieldAddr fa_73_0 rfl) ?_
 refine lx_value (want rfl) (rn_load1Blk ag_5 rfl (B1.ext Eb2) rfl) ?_
 refine lx_value (want rfl) (rn_fieldAddr fa_73_0 rfl) ?_
 refine lx_value (want rfl) (rn_load1Blk ag_5 rfl B2 rfl) ?_
 refine lx_value (want rfl) (rn_eql rfl rfl) ?_
 refine lx_dec_t (rfl) ?_
 refine lx_value (want rfl) (mv_bool rfl) ?_
 refine lx_value (want_if (j := 5) (d := 10) (x := true) (y := true) rfl rfl (by decide) rfl) (rn_fieldAddr fa_73_1 rfl) ?_
 refine lx_value (want_if (j := 5) (d := 10) (x := true) (y := true) rfl rfl (by decide) rfl) (rn_load1Blk ag_9 rfl (B1.ext Eb2) rfl) ?_
 refine lx_value (want_if (j := 5) (d := 10) (x := true) (y := true) rfl rfl (by decide) rfl) (rn_fieldAddr fa_73_1 rfl) ?_
 refine lx_value (want_if (j := 5) (d := 10) (x := true) (y := true) rfl rfl (by decide) rfl) (rn_load1Blk ag_9 rfl B2 rfl) ?_
 refine lx_value (want_if (j := 5) (d := 10) (x := true) (y := true) rfl rfl (by decide) rfl) (rn_eqlBA rfl rfl) ?_
 refine lx_dec_t (rfl) ?_
 refine lx_value (want rfl) (pick_t rfl rfl) ?_
 refine lx_value (want rfl) (mv_bool rfl) ?_
 refine lx_value (want_if (j := 12) (d := 17) (x := true) (y := true) rfl rfl (by decide) rfl) (rn_fieldAddr fa_73_2 rfl) ?_
 refine lx_value (want_if (j := 12) (d := 17) (x := true) (y := true) rfl rfl (by decide) rfl) (rn_load1Blk ag_3 rfl (B1.ext Eb2) rfl) ?_
 refine lx_value (want_if (j := 12) (d := 17) (x := true) (y := true) rfl rfl (by decide) rfl) (rn_fieldAddr fa_73_2 rfl) ?_
 refine lx_value (want_if (j := 12) (d := 17) (x := true) (y := true) rfl rfl (by decide) rfl) (rn_load1Blk ag_3 rfl B2 rfl) ?_
 refine lx_value (want_if (j := 12) (d := 17) (x := true) (y := true) rfl rfl (by decide) rfl) (rn_eql rfl rfl) ?_
 refine lx_dec_t (rfl) ?_
 refine lx_value (want rfl) (pick_t rfl rfl) ?_
 refine lx_value (want rfl) (mv_bool rfl) ?_
 refine lx_value (want_if (j := 19) (d := 24) (x := true) (y := true) rfl rfl (by decide) rfl) (rn_fieldAddr fa_73_3 rfl) ?_
 refine lx_value (want_if (j := 19) (d := 24) (x := true) (y := true) rfl rfl (by decide) rfl) (rn_load1Blk ag_71 rfl (B1.ext Eb2) rfl) ?_
 refine lx_value (want_if (j := 19) (d := 24) (x := true) (y := true) rfl rfl (by decide) rfl) (rn_fieldAddr fa_73_3 rfl) ?_
 refine lx_value (want_if (j := 19) (d := 24) (x := true) (y := true) rfl rfl (by decide) rfl) (rn_load1Blk ag_71 rfl B2 rfl) ?_
 refine lx_call (want_if (j := 19) (d := 24) (x := true) (y := true) rfl rfl (by decide) rfl) (ent_func cf_129 (argsC (t_slice rfl) (argsC (t_slice rfl) args0))) (osame_ct x.outs s1 s2 c1 c2 Fa Fb hsm w2 (ha.fr (dd_stab _) F2 (fun _ _ h => h)) (hb.fr (dd_stab _) F2 (fun _ _ h => h))) ?_
 rintro _ w3 E1 rfl
 have F3 := F2.ext E1
 have hz1 := E1.size
 refine lx_value (want rfl) (pick_t rfl rfl) ?_
 refine lx_value (want rfl) (as_bool rfl) ?_
 refine lx_nil ?_
 refine wk_ret ?_
 refine retR1 Tryz.results89 (.tmp (t_bool rfl)) F3 ?_
 exact rfl

theorem prim_ct (a b : Vl) (ha : intB a) (hb : intB b) (s : Option Addr) (c : Nat) (G : Nat → Prop) (w0 : World) (hl : VlS G w0 s [a, b]) :
  CT Tryz.prog 54 [.string ltN, .slice s 2 c] w0 no (fun u _ => u = .tuple #[vlV (ltV a b), .int .i64 0]) := by
 have F0 := Fr.refl no w0
 refine ct_body Tryz.func54 rfl Tryz.ntmps54 (Nat.le_of_ble_eq_true rfl) ?_
 refine wk_seq ?_
 refine wk_region ?_
 refine lx_new (want rfl) (rn_alloc ze_48) ?_
 intro b1 w1 hb1 Eb1 B1 hlb1
 have F1 := F0.ext Eb1
 have hzb1 := Eb1.size
 refine lx_value (want rfl) (as_int rfl) ?_
 refine lx_nil ?_
 refine wk_seq ?_
 refine wk_region ?_
 refine lx_call (want rfl) (ent_func cf_62 args0) (operations_ct w1) ?_
 rintro _ w2 E1 ⟨bO, bI, bE, bN, rfl, hMO, hBI, hBE, hBN⟩
 have F2 := F1.ext E1
 have hz1 := E1.size
 have hblI := hBI.lt
 refine lx_value (want rfl) (mv_string rfl) ?_
 refine lx_value (v := .tuple #[.agg #[.int .i64 2, .slice (some ⟨bI, 0, none⟩) 1 1, .func (.func 100) #[] #[]], .bool true]) (want rfl) ((by rw [← opsL_lt bI bE bN]; exact rn_lookLOk (k := ltN) mv_135.g rfl rfl hMO)) ?_
 refine lx_value (want rfl) (mv_tuple rfl) ?_
 refine lx_value (want rfl) (rn_extract rfl rfl) ?_
 refine lx_value (want rfl) (rn_extract rfl rfl) ?_
 refine lx_new (want rfl) (rn_alloc ze_134) ?_
 intro b2 w3 hb2 Eb2 B2 hlb2
 have F3 := F2.ext Eb2
 have hzb2 := Eb2.size
 refine lx_set (want rfl) sz_134 rfl (t_agg rfl) rfl rfl rfl B2 (Nat.le_of_ble_eq_true rfl) ?_
 intro w4 Es1 Bs1
 have F4 := F3.set Es1 (by omega)
 have hzs1 := Es1.size
 refine lx_value (want rfl) (as_bool rfl) ?_
 refine lx_nil ?_
 refine wk_seq ?_
 refine wk_block ?_
 refine wk_seq ?_
 refine wk_region ?_
 refine lx_value (want rfl) (mv_bool rfl) ?_
 refine lx_value (want rfl) (rn_not rfl) ?_
 refine lx_value (want rfl) (as_bool rfl) ?_
 refine lx_nil ?_
 refine wk_cond_f rfl ?_
 refine wk_seq ?_
 refine wk_region ?_
 refine lx_value (want rfl) (mv_slice rfl) ?_
 refine lx_value (want rfl) (rn_len Tryz.underlying53 rfl) ?_
 refine lx_value (want rfl) (rn_fieldAddr fa_134_0 rfl) ?_
 refine lx_value (want rfl) (rn_load1Blk ag_3 rfl Bs1 rfl) ?_
 refine lx_value (want rfl) (rn_neq rfl rfl) ?_
 refine lx_dec_f ((by decide)) ?_
 refine lx_value (want rfl) (as_bool rfl) ?_
 refine lx_nil ?_
 refine wk_cond_f rfl ?_
 refine wk_seq ?_
 refine wk_region ?_
 refine lx_value (want rfl) (mv_slice rfl) ?_
 refine lx_call (want rfl) (ent_func cf_74 (argsC (t_slice rfl) (argsC rfl args0))) (containsv_ct [a, b] s c G 75 [] (fun _ => false) cf_75 w4 (hl.fr (vl_stab _) F4 (fun _ _ h => h)) (Nat.le_of_ble_eq_true rfl) (fun z w hz E => prim1_ct z (ab_int ha hb hz) w)) ?_
 rintro _ w5 E2 rfl
 have F5 := F4.ext E2
 have hz2 := E2.size
 refine lx_b_f (rfl) ?_
 refine lx_value (want rfl) (as_bool rfl) ?_
 refine lx_nil ?_
 refine wk_cond_f rfl ?_
 refine wk_skip ?_
 refine wk_seq ?_
 refine wk_region ?_
 refine lx_value (want rfl) (rn_loadBlk ag_134 sz_134 rfl (Bs1.ext E2) rfl rfl) ?_
 refine lx_value (want rfl) (mv_slice rfl) ?_
 refine lx_call (want rfl) (ent_func cf_77 (argsC (t_agg rfl) (argsC (t_slice rfl) args0))) (work_ct a b ha hb s c G bI w5 (hl.fr (vl_stab _) F5 (fun _ _ h => h)) (hBI.fr (Fr.ext (Fr.trans (Fr.ext (Fr.refl (fun k => k = b2) w2) Eb2) Es1 (fun k _ h => h)) E2) (fun h => by (try dsimp only at h); omega))) ?_
 rintro _ w6 E3 rfl
 have F6 := F5.ext E3
 have hz3 := E3.size
 refine lx_set (want rfl) sz_48 rfl (t_agg rfl) rfl rfl rfl (((((B1.ext E1).ext Eb2).ne Es1 (by omega)).ext E2).ext E3) (Nat.le_of_ble_eq_true rfl) ?_
 intro w7 Es2 Bs2
 have F7 := F6.set Es2 (by omega)
 have hzs2 := Es2.size
 refine lx_value (want rfl) (as_int rfl) ?_
 refine lx_nil ?_
 refine wk_ret ?_
 refine retR2 Tryz.results54 (.cell rfl (run_loadVar_blk ag_48 sz_48 Bs2 rfl rfl)) (.tmp (t_int rfl)) F7 ?_
 exact rfl

theorem new_ct (n : Nat) (hn : 1 ≤ n ∧ n ≤ 64) (w0 : World) :
  CT Tryz.prog 12 [.int .i64 (n : Nat)] w0 no (fun v _ => v = .tuple #[.agg #[.int .i64 (n : Nat), .slice none 0 0, .slice none 0 0, .slice none 0 0], .int .i64 0]) := by
 have F0 := Fr.refl no w0
 refine ct_body Tryz.func12 rfl Tryz.ntmps12 (Nat.le_of_ble_eq_true rfl) ?_
 refine wk_seq ?_
 refine wk_region ?_
 refine lx_new (want rfl) (rn_alloc ze_42) ?_
 intro b1 w1 hb1 Eb1 B1 hlb1
 have F1 := F0.ext Eb1
 have hzb1 := Eb1.size
 refine lx_value (want rfl) (as_int rfl) ?_
 refine lx_nil ?_
 refine wk_seq ?_
 refine wk_seq ?_
 refine wk_region ?_
 refine lx_value (want rfl) (mv_int rfl) ?_
 refine lx_newS (want rfl) (rn_bslice (xs := [.tmp 4]) Tryz.underlying68 sz_3 ze_3 rfl (argsC (t_int rfl) args0) (CL.cons rfl rfl CL.nil) rfl (Nat.le_of_ble_eq_true rfl)) ?_
 intro b2 w2 hb2 Eb2 B2 hlb2
 have F2 := F1.ext Eb2
 have hzb2 := Eb2.size
 refine lx_call (want rfl) (ent_func cf_7 (argsC (t_int rfl) (argsC (t_int rfl) (argsC (t_slice rfl) args0)))) (ewithin_ct _ _ _ _ _ w2 (one_sl B2)) ?_
 rintro _ w3 E1 rfl
 have F3 := F2.ext E1
 have hz1 := E1.size
 refine lx_b_t (decide_eq_true (by omega)) ?_
 refine lx_value (want rfl) (rn_not rfl) ?_
 refine lx_nil ?_
 refine wk_cond_f rfl ?_
 refine wk_skip ?_
 refine wk_seq ?_
 refine wk_region ?_
 refine lx_value (want rfl) (mv_int rfl) ?_
 refine lx_value (want rfl) (rn_build1 (t_int rfl) (fun w => bd_42_0 _ w)) ?_
 refine lx_set (want rfl) sz_42 rfl (t_agg rfl) rfl rfl rfl ((B1.ext Eb2).ext E1) (Nat.le_of_ble_eq_true rfl) ?_
 intro w4 Es1 Bs1
 have F4 := F3.set Es1 (by omega)
 have hzs1 := Es1.size
 refine lx_value (want rfl) (as_int rfl) ?_
 refine lx_nil ?_
 refine wk_ret ?_
 refine retR2 Tryz.results12 (.cell rfl (run_loadVar_blk ag_42 sz_42 Bs1 rfl rfl)) (.tmp (t_int rfl)) F4 ?_
 exact rfl

theorem ispl_ct (SS : Sto) (sa : Option Addr) (ca : Nat) (sb : Option Addr) (cb : Nat) (hb : SS.code.length ≤ 1000) (at_ : Int) (w0 : World) :
  CT Tryz.prog 24 [.agg #[.slice sa SS.slots.length ca, .slice sb SS.code.length cb], .int .i64 at_] w0 no (fun v _ => v = .bool (placeB SS at_)) := by
 have F0 := Fr.refl no w0
 refine ct_body Tryz.func24 rfl Tryz.ntmps24 (Nat.le_of_ble_eq_true rfl) ?_
 refine wk_seq ?_
 refine wk_region ?_
 refine lx_new (want rfl) (rn_box (t_agg rfl)) ?_
 intro b1 w1 hb1 Eb1 B1 hlb1
 have F1 := F0.ext Eb1
 have hzb1 := Eb1.size
 refine lx_value (want rfl) (as_bool rfl) ?_
 refine lx_nil ?_
 refine wk_seq ?_
 refine wk_region ?_
 refine lx_value (want rfl) (rn_fieldAddr fa_80_0 rfl) ?_
 refine lx_value (want rfl) (rn_fieldAddr fa_35_1 rfl) ?_
 refine lx_value (want rfl) (rn_load1Blk ag_33 rfl B1 rfl) ?_
 refine lx_value (want rfl) (rn_len Tryz.underlying33 rfl) ?_
 refine lx_value (want rfl) (rn_sub rfl rfl (by omega)) ?_
 refine lx_value (want rfl) (mv_int rfl) ?_
 refine lx_newS (want rfl) (rn_bslice (xs := [.tmp 10]) Tryz.underlying68 sz_3 ze_3 rfl (argsC (t_int rfl) args0) (CL.cons rfl rfl CL.nil) rfl (Nat.le_of_ble_eq_true rfl)) ?_
 intro b2 w2 hb2 Eb2 B2 hlb2
 have F2 := F1.ext Eb2
 have hzb2 := Eb2.size
 refine lx_call (want rfl) (ent_func cf_7 (argsC (t_int rfl) (argsC (t_int rfl) (argsC (t_slice rfl) args0)))) (ewithin_ct _ _ _ _ _ w2 (one_sl B2)) ?_
 rintro _ w3 E1 rfl
 have F3 := F2.ext E1
 have hz1 := E1.size
 refine lx_value (want rfl) (as_bool rfl) ?_
 refine lx_nil ?_
 refine wk_ret ?_
 refine retR1 Tryz.results24 (.tmp (t_bool rfl)) F3 ?_
 exact rfl

theorem isctx_ct (n : Int) (w0 : World) :
  CT Tryz.prog 8 [.int .i64 n] w0 no (fun v _ => v = .bool (decide (0 ≤ n ∧ n ≤ 399))) := by
 have F0 := Fr.refl no w0
 refine ct_body Tryz.func8 rfl Tryz.ntmps8 (Nat.le_of_ble_eq_true rfl) ?_
 refine wk_seq ?_
 refine wk_region ?_
 refine lx_value (want rfl) (as_bool rfl) ?_
 refine lx_nil ?_
 refine wk_seq ?_
 refine wk_region ?_
 refine lx_value (want rfl) (mv_int rfl) ?_
 refine lx_newS (want rfl) (rn_bslice (xs := [.tmp 3]) Tryz.underlying68 sz_3 ze_3 rfl (argsC (t_int rfl) args0) (CL.cons rfl rfl CL.nil) rfl (Nat.le_of_ble_eq_true rfl)) ?_
 intro b1 w1 hb1 Eb1 B1 hlb1
 have F1 := F0.ext Eb1
 have hzb1 := Eb1.size
 refine lx_call (want rfl) (ent_func cf_7 (argsC (t_int rfl) (argsC (t_int rfl) (argsC (t_slice rfl) args0)))) (ewithin_ct _ _ _ _ _ w1 (one_sl B1)) ?_
 rintro _ w2 E1 rfl
 have F2 := F1.ext E1
 have hz1 := E1.size
 refine lx_value (want rfl) (as_bool rfl) ?_
 refine lx_nil ?_
 refine wk_ret ?_
 refine retR1 Tryz.results8 (.tmp (t_bool rfl)) F2 ?_
 exact rfl

end Go.Proofs.YtgnnegfnpgnbbaaGreatDoor

/- What functions compute: takec1, takeb1, takea1. -/
import Derived.Test.YtgnnegfnpgnbbaaGreatDoorHomesFacts
import Derived.Test.YtgnnegfnpgnbbaaGreatDoorHomesPre
import Derived.Test.YtgnnegfnpgnbbaaGreatDoorHomesWalk14
import Derived.Test.YtgnnegfnpgnbbaaGreatDoorHomesWalk21
set_option maxRecDepth 100000
set_option linter.unusedVariables false
set_option linter.unusedSimpArgs false
namespace Go.Proofs.YtgnnegfnpgnbbaaGreatDoor
open Go Go.RowKit Go.Mix Go.Eng
set_option maxHeartbeats 2000000 in
theorem takec1_ct (SS : Sto) (sa : Option Addr) (ca : Nat) (sb : Option Addr) (cb : Nat) (F : Nat → Prop) (hok : OkS SS) (rm : Nat) (tc ta : Int) (v : Vl) (hT : TokB SS (tc, ta, 1, v)) (hp2 : portN (codeAt SS ta) = 2) (hn6 : (codeAt SS ta).op ≠ 6) (s1 : Option Addr) (c1 : Nat) (s2 : Option Addr) (c2 : Nat) (G : Nat → Prop) (p0 : Vl) (e2 : Ent) (hrm : 1 ≤ rm) (hp0 : p0.1 ≠ 0) (hv0 : v.1 ≠ 0) (hR : RightE SS rm [⟨tc, ta, [p0, (0, 0)]⟩] [e2]) (w0 : World) (hS : StR F w0 SS sa ca sb cb) (hF : ∀ k, F k → k < w0.heap.size) (h1 : EnS G w0 s1 [⟨tc, ta, [p0, (0, 0)]⟩]) (h2 : EnS G w0 s2 [e2]) :
  CT Tryz.prog 13 [.agg #[.slice sa SS.slots.length ca, .slice sb SS.code.length cb], .agg #[.int .i64 (rm : Nat), .slice s1 1 c1, .slice s2 1 c2, .slice none 0 0], .agg #[.int .i64 tc, .int .i64 ta, .int .i64 ((1 : Nat) : Int), .int .u8 v.1, .int .i64 v.2]] w0 no (fun u w => ∃ s c s3 c3 sR cR, u = .tuple #[.agg #[.int .i64 (rm : Nat), .slice s 1 c, .slice s3 0 c3, .slice none 0 0], .slice sR 1 cR, .int .i64 0] ∧ EnS (fun k => w0.heap.size ≤ k) w s [e2] ∧ EnS (fun k => w0.heap.size ≤ k) w sR [⟨tc, ta, [p0, v]⟩]) := by
 have F0 := Fr.refl no w0
 refine ct_body Tryz.func13 rfl Tryz.ntmps13 (Nat.le_of_ble_eq_true rfl) ?_
 refine wk_seq ?_
 refine wk_region ?_
 refine lx_new (want rfl) (rn_box (t_agg rfl)) ?_
 intro b1 w1 hb1 Eb1 B1 hlb1
 have F1 := F0.ext Eb1
 have hzb1 := Eb1.size
 refine lx_new (want rfl) (rn_box (t_agg rfl)) ?_
 intro b2 w2 hb2 Eb2 B2 hlb2
 have F2 := F1.ext Eb2
 have hzb2 := Eb2.size
 refine lx_new (want rfl) (rn_box (t_agg rfl)) ?_
 intro b3 w3 hb3 Eb3 B3 hlb3
 have F3 := F2.ext Eb3
 have hzb3 := Eb3.size
 refine lx_new (want rfl) (rn_alloc ze_42) ?_
 intro b4 w4 hb4 Eb4 B4 hlb4
 have F4 := F3.ext Eb4
 have hzb4 := Eb4.size
 refine lx_value (want rfl) (as_slice rfl) ?_
 refine lx_value (want rfl) (as_int rfl) ?_
 refine lx_nil ?_
 refine wk_seq ?_
 refine wk_region ?_
 refine lx_value (want rfl) (rn_loadBlk ag_35 sz_35 rfl (((B1.ext Eb2).ext Eb3).ext Eb4) rfl rfl) ?_
 refine lx_value (want rfl) (rn_loadBlk ag_42 sz_42 rfl ((B2.ext Eb3).ext Eb4) rfl rfl) ?_
 refine lx_call (want rfl) (ent_func cf_27 (argsC (t_agg rfl) (argsC (t_agg rfl) args0))) (begin_ct SS sa ca sb cb F hok rm [⟨tc, ta, [p0, (0, 0)]⟩] [e2] s1 c1 s2 c2 G hR w4 (hS.fr F4 (fun _ _ h => h)) (h1.fr (en_stab _) F4 (fun _ _ h => h)) (h2.fr (en_stab _) F4 (fun _ _ h => h))) ?_
 rintro _ w5 E1 ⟨bE, sA, cA, usA, ZA, sB, cB, usB, ZB, rfl, hBE, hEO⟩
 have F5 := F4.ext E1
 have hz1 := E1.size
 have hlbE := (hBE).lt
 refine lx_value (want rfl) (mv_tuple rfl) ?_
 refine lx_value (want rfl) (rn_extract rfl rfl) ?_
 refine lx_value (want rfl) (rn_extract rfl rfl) ?_
 refine lx_value (want rfl) (as_pointer rfl) ?_
 refine lx_value (want rfl) (as_int rfl) ?_
 refine lx_nil ?_
 refine wk_seq ?_
 refine wk_seq ?_
 refine wk_region ?_
 refine lx_value (want rfl) (mv_int rfl) ?_
 refine lx_value (want rfl) (rn_neq rfl rfl) ?_
 refine lx_dec_f ((fun g => g rfl)) ?_
 refine lx_nil ?_
 refine wk_cond_f rfl ?_
 refine wk_skip ?_
 refine wk_seq ?_
 refine wk_region ?_
 refine lx_value (want rfl) (mv_pointer rfl) ?_
 refine lx_value (want rfl) (rn_loadBlk ag_51 sz_51 rfl ((B3.ext Eb4).ext E1) rfl rfl) ?_
 have hEb := hEO.lob
 obtain ⟨y1, z1, y4, z4, d4, y2, z2, s2x, c2x, rfl, rfl, hc1, hO1, hO4, hcx2, hv2, hlo1, hlo4, hn1, hn4, hs14, hZ2, hGZ⟩ := el_c hEO
 refine lx_call (want rfl) (ent_func cf_28 (argsC (t_pointer rfl) (argsC (t_agg rfl) args0))) (takec_ct (fun k => k = bE ∨ ob (some (⟨y1, z1, none⟩ : Addr)) k ∨ ob (some (⟨y4, z4, none⟩ : Addr)) k) SS sa ca sb cb F hok bE rm tc ta v hT hp2 hn6 (fun k hk => (fun h => h.elim (fun e => by have hk0 := e; have := hF k hk; omega) (fun h => h.elim (fun e => by have := hlo1 _ e; have := hF k hk; omega) (fun h => (fun e => by have := hlo4 _ e; have := hF k hk; omega) h)))) (.inl rfl) w4.heap.size hEb p0 e2 y1 z1 cA y4 z4 d4 y2 z2 cB s2x c2x ZB hrm hp0 hv0 hc1 hlo1 hlo4 hEO.lz2 (fun k h => .inr (.inl h)) (fun k h => .inr (.inr h)) hn1 hn4 hs14 hZ2 hGZ w5 (hS.fr F5 (fun _ _ h => h)) (by omega) hBE hO1 hO4 hcx2 hv2) ?_
 rintro _ w6 E2 ⟨sR, cR, sT, cT, s3, c3, rfl, hBN, hE2, hER⟩
 have F6 := F5.new E2 (fun k => (fun h => h.elim (fun e => by have hk0 := e; omega) (fun h => h.elim (fun e => by have := hlo1 _ e; omega) (fun h => (fun e => by have := hlo4 _ e; omega) h))))
 have hz2 := E2.size
 refine lx_value (want rfl) (mv_tuple rfl) ?_
 refine lx_value (want rfl) (rn_extract rfl rfl) ?_
 refine lx_value (want rfl) (rn_extract rfl rfl) ?_
 refine lx_value (want rfl) (as_slice rfl) ?_
 refine lx_value (want rfl) (as_int rfl) ?_
 refine lx_nil ?_
 refine wk_seq ?_
 refine wk_seq ?_
 refine wk_region ?_
 refine lx_value (want rfl) (mv_int rfl) ?_
 refine lx_value (want rfl) (rn_neq rfl rfl) ?_
 refine lx_dec_f ((fun g => g rfl)) ?_
 refine lx_nil ?_
 refine wk_cond_f rfl ?_
 refine wk_skip ?_
 refine wk_seq ?_
 refine wk_region ?_
 refine lx_value (want rfl) (mv_pointer rfl) ?_
 refine lx_value (want rfl) (rn_nilCheck rfl) ?_
 refine lx_value (want rfl) (rn_fieldAddr fa_90_1 rfl) ?_
 refine lx_value (want rfl) (rn_loadBlk ag_42 sz_42 rfl hBN rfl rfl) ?_
 refine lx_value (want rfl) (mv_slice rfl) ?_
 refine lx_set (want rfl) sz_42 rfl (t_agg rfl) rfl rfl rfl ((B4.ext E1).fr E2 (fun h => h.elim (fun e => by have hk0 := e; omega) (fun h => h.elim (fun e => by have := hlo1 _ e; omega) (fun h => (fun e => by have := hlo4 _ e; omega) h)))) (Nat.le_of_ble_eq_true rfl) ?_
 intro w7 Es1 Bs1
 have F7 := F6.set Es1 (by omega)
 have hzs1 := Es1.size
 refine lx_value (want rfl) (as_slice rfl) ?_
 refine lx_value (want rfl) (as_int rfl) ?_
 refine lx_nil ?_
 refine wk_ret ?_
 refine retR3 Tryz.results13 (.cell rfl (run_loadVar_blk ag_42 sz_42 Bs1 rfl rfl)) (.tmp (t_slice rfl)) (.tmp (t_int rfl)) F7 ?_
 exact ⟨sT, cT, s3, c3, sR, cR, rfl, en_wide (fun k hk => by have hk : _ ≤ k := hk; omega) (hE2.fr (en_stab _) (Fr.trans (Fr.refl (fun k => k = b4) w6) Es1 (fun k _ h => h)) (fun k hk h => by (try dsimp only at hk h); omega)), en_wide (fun k hk => by have hk : _ ≤ k := hk; omega) (hER.fr (en_stab _) (Fr.trans (Fr.refl (fun k => k = b4) w6) Es1 (fun k _ h => h)) (fun k hk h => by (try dsimp only at hk h); omega))⟩

set_option maxHeartbeats 2000000 in
theorem takeb1_ct (SS : Sto) (sa : Option Addr) (ca : Nat) (sb : Option Addr) (cb : Nat) (F : Nat → Prop) (hok : OkS SS) (rm : Nat) (tc ta : Int) (v : Vl) (hT : TokB SS (tc, ta, 1, v)) (hp2 : portN (codeAt SS ta) = 2) (hn6 : (codeAt SS ta).op ≠ 6) (s1 : Option Addr) (c1 : Nat) (s2 : Option Addr) (c2 : Nat) (G : Nat → Prop) (e1 : Ent) (hrm : rm ≤ 1) (hq1 : atP (tc, ta) e1 = false) (hR : RightE SS rm [e1] []) (w0 : World) (hS : StR F w0 SS sa ca sb cb) (hF : ∀ k, F k → k < w0.heap.size) (h1 : EnS G w0 s1 [e1]) (h2 : EnS G w0 s2 []) :
  CT Tryz.prog 13 [.agg #[.slice sa SS.slots.length ca, .slice sb SS.code.length cb], .agg #[.int .i64 (rm : Nat), .slice s1 1 c1, .slice s2 0 c2, .slice none 0 0], .agg #[.int .i64 tc, .int .i64 ta, .int .i64 ((1 : Nat) : Int), .int .u8 v.1, .int .i64 v.2]] w0 no (fun u w => ∃ s c s3 c3, u = .tuple #[.agg #[.int .i64 (rm : Nat), .slice s 1 c, .slice s3 1 c3, .slice none 0 0], .slice none 0 0, .int .i64 0] ∧ EnS (fun k => w0.heap.size ≤ k) w s [e1] ∧ EnS (fun k => w0.heap.size ≤ k) w s3 [⟨tc, ta, [(0, 0), v]⟩]) := by
 have F0 := Fr.refl no w0
 refine ct_body Tryz.func13 rfl Tryz.ntmps13 (Nat.le_of_ble_eq_true rfl) ?_
 refine wk_seq ?_
 refine wk_region ?_
 refine lx_new (want rfl) (rn_box (t_agg rfl)) ?_
 intro b1 w1 hb1 Eb1 B1 hlb1
 have F1 := F0.ext Eb1
 have hzb1 := Eb1.size
 refine lx_new (want rfl) (rn_box (t_agg rfl)) ?_
 intro b2 w2 hb2 Eb2 B2 hlb2
 have F2 := F1.ext Eb2
 have hzb2 := Eb2.size
 refine lx_new (want rfl) (rn_box (t_agg rfl)) ?_
 intro b3 w3 hb3 Eb3 B3 hlb3
 have F3 := F2.ext Eb3
 have hzb3 := Eb3.size
 refine lx_new (want rfl) (rn_alloc ze_42) ?_
 intro b4 w4 hb4 Eb4 B4 hlb4
 have F4 := F3.ext Eb4
 have hzb4 := Eb4.size
 refine lx_value (want rfl) (as_slice rfl) ?_
 refine lx_value (want rfl) (as_int rfl) ?_
 refine lx_nil ?_
 refine wk_seq ?_
 refine wk_region ?_
 refine lx_value (want rfl) (rn_loadBlk ag_35 sz_35 rfl (((B1.ext Eb2).ext Eb3).ext Eb4) rfl rfl) ?_
 refine lx_value (want rfl) (rn_loadBlk ag_42 sz_42 rfl ((B2.ext Eb3).ext Eb4) rfl rfl) ?_
 refine lx_call (want rfl) (ent_func cf_27 (argsC (t_agg rfl) (argsC (t_agg rfl) args0))) (begin_ct SS sa ca sb cb F hok rm [e1] [] s1 c1 s2 c2 G hR w4 (hS.fr F4 (fun _ _ h => h)) (h1.fr (en_stab _) F4 (fun _ _ h => h)) (h2.fr (en_stab _) F4 (fun _ _ h => h))) ?_
 rintro _ w5 E1 ⟨bE, sA, cA, usA, ZA, sB, cB, usB, ZB, rfl, hBE, hEO⟩
 have F5 := F4.ext E1
 have hz1 := E1.size
 have hlbE := (hBE).lt
 refine lx_value (want rfl) (mv_tuple rfl) ?_
 refine lx_value (want rfl) (rn_extract rfl rfl) ?_
 refine lx_value (want rfl) (rn_extract rfl rfl) ?_
 refine lx_value (want rfl) (as_pointer rfl) ?_
 refine lx_value (want rfl) (as_int rfl) ?_
 refine lx_nil ?_
 refine wk_seq ?_
 refine wk_seq ?_
 refine wk_region ?_
 refine lx_value (want rfl) (mv_int rfl) ?_
 refine lx_value (want rfl) (rn_neq rfl rfl) ?_
 refine lx_dec_f ((fun g => g rfl)) ?_
 refine lx_nil ?_
 refine wk_cond_f rfl ?_
 refine wk_skip ?_
 refine wk_seq ?_
 refine wk_region ?_
 refine lx_value (want rfl) (mv_pointer rfl) ?_
 refine lx_value (want rfl) (rn_loadBlk ag_51 sz_51 rfl ((B3.ext Eb4).ext E1) rfl rfl) ?_
 have hEb := hEO.lob
 refine lx_call (want rfl) (ent_func cf_28 (argsC (t_pointer rfl) (argsC (t_agg rfl) args0))) (takeb_ct (fun k => k = bE ∨ ob sB k) SS sa ca sb cb F hok bE rm tc ta v hT hp2 hn6 (fun k hk => (fun h => h.elim (fun e => by have hk0 := e; have := hF k hk; omega) (fun h => (fun e => by have := hEO.lo2 _ e; have := hF k hk; omega) h))) (.inl rfl) w4.heap.size hEb e1 (fun k => ob sA k ∨ ZA k) sA cA sB cB hrm hq1 hEO.lo2 (fun k h => h.elim (hEO.lo1 k) (hEO.lz1 k)) (fun k h => .inr h) hEO.n2 w5 (hS.fr F5 (fun _ _ h => h)) (by omega) (fun k h => h.elim (fun h => ⟨hEO.n1 k h, fun g => hEO.oo k h g, hEO.o1.lt h⟩) (fun h => ⟨hEO.nz1 k h, fun g => hEO.x2 k h g, hEO.h1.lt h⟩)) hBE (qo_sl hEO.h1 hEO.o1 (fun _ h => .inr h) (fun _ h => .inl h)) (el_nil2 hEO)) ?_
 rintro _ w6 E2 ⟨rfl, sT, cT, hBN, hE1, hET⟩
 have F6 := F5.new E2 (fun k => (fun h => h.elim (fun e => by have hk0 := e; omega) (fun h => (fun e => by have := hEO.lo2 _ e; omega) h)))
 have hz2 := E2.size
 refine lx_value (want rfl) (mv_tuple rfl) ?_
 refine lx_value (want rfl) (rn_extract rfl rfl) ?_
 refine lx_value (want rfl) (rn_extract rfl rfl) ?_
 refine lx_value (want rfl) (as_slice rfl) ?_
 refine lx_value (want rfl) (as_int rfl) ?_
 refine lx_nil ?_
 refine wk_seq ?_
 refine wk_seq ?_
 refine wk_region ?_
 refine lx_value (want rfl) (mv_int rfl) ?_
 refine lx_value (want rfl) (rn_neq rfl rfl) ?_
 refine lx_dec_f ((fun g => g rfl)) ?_
 refine lx_nil ?_
 refine wk_cond_f rfl ?_
 refine wk_skip ?_
 refine wk_seq ?_
 refine wk_region ?_
 refine lx_value (want rfl) (mv_pointer rfl) ?_
 refine lx_value (want rfl) (rn_nilCheck rfl) ?_
 refine lx_value (want rfl) (rn_fieldAddr fa_90_1 rfl) ?_
 refine lx_value (want rfl) (rn_loadBlk ag_42 sz_42 rfl hBN rfl rfl) ?_
 refine lx_value (want rfl) (mv_slice rfl) ?_
 refine lx_set (want rfl) sz_42 rfl (t_agg rfl) rfl rfl rfl ((B4.ext E1).fr E2 (fun h => h.elim (fun e => by have hk0 := e; omega) (fun h => (fun e => by have := hEO.lo2 _ e; omega) h))) (Nat.le_of_ble_eq_true rfl) ?_
 intro w7 Es1 Bs1
 have F7 := F6.set Es1 (by omega)
 have hzs1 := Es1.size
 refine lx_value (want rfl) (as_slice rfl) ?_
 refine lx_value (want rfl) (as_int rfl) ?_
 refine lx_nil ?_
 refine wk_ret ?_
 refine retR3 Tryz.results13 (.cell rfl (run_loadVar_blk ag_42 sz_42 Bs1 rfl rfl)) (.tmp (t_slice rfl)) (.tmp (t_int rfl)) F7 ?_
 exact ⟨sA, cA, sT, cT, rfl, en_wide (fun k hk => by have hk : _ ≤ k := hk; omega) (hE1.fr (en_stab _) (Fr.trans (Fr.refl (fun k => k = b4) w6) Es1 (fun k _ h => h)) (fun k hk h => by (try dsimp only at hk h); omega)), en_wide (fun k hk => by have hk : _ ≤ k := hk; omega) (hET.fr (en_stab _) (Fr.trans (Fr.refl (fun k => k = b4) w6) Es1 (fun k _ h => h)) (fun k hk h => by (try dsimp only at hk h); omega))⟩

set_option maxHeartbeats 2000000 in
theorem takea1_ct (SS : Sto) (sa : Option Addr) (ca : Nat) (sb : Option Addr) (cb : Nat) (F : Nat → Prop) (hok : OkS SS) (rm : Nat) (tc ta : Int) (v : Vl) (hT : TokB SS (tc, ta, 0, v)) (hp2 : portN (codeAt SS ta) = 2) (hn6 : (codeAt SS ta).op ≠ 6) (s1 : Option Addr) (c1 : Nat) (s2 : Option Addr) (c2 : Nat) (G : Nat → Prop) (hrm : 1 ≤ rm) (hR : RightE SS rm [] []) (w0 : World) (hS : StR F w0 SS sa ca sb cb) (hF : ∀ k, F k → k < w0.heap.size) (h1 : EnS G w0 s1 []) (h2 : EnS G w0 s2 []) :
  CT Tryz.prog 13 [.agg #[.slice sa SS.slots.length ca, .slice sb SS.code.length cb], .agg #[.int .i64 (rm : Nat), .slice s1 0 c1, .slice s2 0 c2, .slice none 0 0], .agg #[.int .i64 tc, .int .i64 ta, .int .i64 ((0 : Nat) : Int), .int .u8 v.1, .int .i64 v.2]] w0 no (fun u w => ∃ s c s3 c3, u = .tuple #[.agg #[.int .i64 (rm : Nat), .slice s 1 c, .slice s3 0 c3, .slice none 0 0], .slice none 0 0, .int .i64 0] ∧ EnS (fun k => w0.heap.size ≤ k) w s [⟨tc, ta, [v, (0, 0)]⟩]) := by
 have F0 := Fr.refl no w0
 refine ct_body Tryz.func13 rfl Tryz.ntmps13 (Nat.le_of_ble_eq_true rfl) ?_
 refine wk_seq ?_
 refine wk_region ?_
 refine lx_new (want rfl) (rn_box (t_agg rfl)) ?_
 intro b1 w1 hb1 Eb1 B1 hlb1
 have F1 := F0.ext Eb1
 have hzb1 := Eb1.size
 refine lx_new (want rfl) (rn_box (t_agg rfl)) ?_
 intro b2 w2 hb2 Eb2 B2 hlb2
 have F2 := F1.ext Eb2
 have hzb2 := Eb2.size
 refine lx_new (want rfl) (rn_box (t_agg rfl)) ?_
 intro b3 w3 hb3 Eb3 B3 hlb3
 have F3 := F2.ext Eb3
 have hzb3 := Eb3.size
 refine lx_new (want rfl) (rn_alloc ze_42) ?_
 intro b4 w4 hb4 Eb4 B4 hlb4
 have F4 := F3.ext Eb4
 have hzb4 := Eb4.size
 refine lx_value (want rfl) (as_slice rfl) ?_
 refine lx_value (want rfl) (as_int rfl) ?_
 refine lx_nil ?_
 refine wk_seq ?_
 refine wk_region ?_
 refine lx_value (want rfl) (rn_loadBlk ag_35 sz_35 rfl (((B1.ext Eb2).ext Eb3).ext Eb4) rfl rfl) ?_
 refine lx_value (want rfl) (rn_loadBlk ag_42 sz_42 rfl ((B2.ext Eb3).ext Eb4) rfl rfl) ?_
 refine lx_call (want rfl) (ent_func cf_27 (argsC (t_agg rfl) (argsC (t_agg rfl) args0))) (begin_ct SS sa ca sb cb F hok rm [] [] s1 c1 s2 c2 G hR w4 (hS.fr F4 (fun _ _ h => h)) (h1.fr (en_stab _) F4 (fun _ _ h => h)) (h2.fr (en_stab _) F4 (fun _ _ h => h))) ?_
 rintro _ w5 E1 ⟨bE, sA, cA, usA, ZA, sB, cB, usB, ZB, rfl, hBE, hEO⟩
 have F5 := F4.ext E1
 have hz1 := E1.size
 have hlbE := (hBE).lt
 refine lx_value (want rfl) (mv_tuple rfl) ?_
 refine lx_value (want rfl) (rn_extract rfl rfl) ?_
 refine lx_value (want rfl) (rn_extract rfl rfl) ?_
 refine lx_value (want rfl) (as_pointer rfl) ?_
 refine lx_value (want rfl) (as_int rfl) ?_
 refine lx_nil ?_
 refine wk_seq ?_
 refine wk_seq ?_
 refine wk_region ?_
 refine lx_value (want rfl) (mv_int rfl) ?_
 refine lx_value (want rfl) (rn_neq rfl rfl) ?_
 refine lx_dec_f ((fun g => g rfl)) ?_
 refine lx_nil ?_
 refine wk_cond_f rfl ?_
 refine wk_skip ?_
 refine wk_seq ?_
 refine wk_region ?_
 refine lx_value (want rfl) (mv_pointer rfl) ?_
 refine lx_value (want rfl) (rn_loadBlk ag_51 sz_51 rfl ((B3.ext Eb4).ext E1) rfl rfl) ?_
 have hEb := hEO.lob
 refine lx_call (want rfl) (ent_func cf_28 (argsC (t_pointer rfl) (argsC (t_agg rfl) args0))) (takea_ct (fun k => k = bE ∨ ob sA k) SS sa ca sb cb F hok bE rm tc ta v hT hp2 hn6 (fun k hk => (fun h => h.elim (fun e => by have hk0 := e; have := hF k hk; omega) (fun h => (fun e => by have := hEO.lo1 _ e; have := hF k hk; omega) h))) (.inl rfl) w4.heap.size hEb sA cA sB cB hrm hEO.lo1 (fun k h => .inr h) hEO.n1 w5 (hS.fr F5 (fun _ _ h => h)) (by omega) hBE (el_nil1 hEO)) ?_
 rintro _ w6 E2 ⟨rfl, sT, cT, hBN, hET⟩
 have F6 := F5.new E2 (fun k => (fun h => h.elim (fun e => by have hk0 := e; omega) (fun h => (fun e => by have := hEO.lo1 _ e; omega) h)))
 have hz2 := E2.size
 refine lx_value (want rfl) (mv_tuple rfl) ?_
 refine lx_value (want rfl) (rn_extract rfl rfl) ?_
 refine lx_value (want rfl) (rn_extract rfl rfl) ?_
 refine lx_value (want rfl) (as_slice rfl) ?_
 refine lx_value (want rfl) (as_int rfl) ?_
 refine lx_nil ?_
 refine wk_seq ?_
 refine wk_seq ?_
 refine wk_region ?_
 refine lx_value (want rfl) (mv_int rfl) ?_
 refine lx_value (want rfl) (rn_neq rfl rfl) ?_
 refine lx_dec_f ((fun g => g rfl)) ?_
 refine lx_nil ?_
 refine wk_cond_f rfl ?_
 refine wk_skip ?_
 refine wk_seq ?_
 refine wk_region ?_
 refine lx_value (want rfl) (mv_pointer rfl) ?_
 refine lx_value (want rfl) (rn_nilCheck rfl) ?_
 refine lx_value (want rfl) (rn_fieldAddr fa_90_1 rfl) ?_
 refine lx_value (want rfl) (rn_loadBlk ag_42 sz_42 rfl hBN rfl rfl) ?_
 refine lx_value (want rfl) (mv_slice rfl) ?_
 refine lx_set (want rfl) sz_42 rfl (t_agg rfl) rfl rfl rfl ((B4.ext E1).fr E2 (fun h => h.elim (fun e => by have hk0 := e; omega) (fun h => (fun e => by have := hEO.lo1 _ e; omega) h))) (Nat.le_of_ble_eq_true rfl) ?_
 intro w7 Es1 Bs1
 have F7 := F6.set Es1 (by omega)
 have hzs1 := Es1.size
 refine lx_value (want rfl) (as_slice rfl) ?_
 refine lx_value (want rfl) (as_int rfl) ?_
 refine lx_nil ?_
 refine wk_ret ?_
 refine retR3 Tryz.results13 (.cell rfl (run_loadVar_blk ag_42 sz_42 Bs1 rfl rfl)) (.tmp (t_slice rfl)) (.tmp (t_int rfl)) F7 ?_
 exact ⟨sT, cT, sB, cB, rfl, en_wide (fun k hk => by have hk : _ ≤ k := hk; omega) (hET.fr (en_stab _) (Fr.trans (Fr.refl (fun k => k = b4) w6) Es1 (fun k _ h => h)) (fun k hk h => by (try dsimp only at hk h); omega))⟩

end Go.Proofs.YtgnnegfnpgnbbaaGreatDoor

/- What functions compute: divided, pdraw1, op2, op0, op1, isstruct1, op5. -/
import Derived.Test.YtnhgfmbmfjmonaaGreatDoorLessFacts
import Derived.Test.YtnhgfmbmfjmonaaGreatDoorLessPre
import Derived.Test.YtnhgfmbmfjmonaaGreatDoorLessWalk2
import Derived.Test.YtnhgfmbmfjmonaaGreatDoorLessWalk7
import Derived.Test.YtnhgfmbmfjmonaaGreatDoorLessWalk8
set_option maxRecDepth 100000
set_option linter.unusedVariables false
set_option linter.unusedSimpArgs false
namespace Go.Proofs.YtnhgfmbmfjmonaaGreatDoor
open Go Go.RowKit Go.Mix Go.Eng
theorem divided_ct (b z : Int) (fid : FuncId) (caps : List Value) (hcf : ∀ args w, (callFunc fid args).run Tryz.prog w = .ok (.enter fid args) w) (w0 : World) (hn : ¬ b = 0 → ∀ w, Ext w0 w → CT Tryz.prog fid caps w no (fun v _ => v = .int .i64 z)) :
  CT Tryz.prog 129 [.int .i64 b, .func (.func fid) #[] caps.toArray] w0 no (fun v _ => v = vlV (divV b z)) := by
 have F0 := Fr.refl no w0
 refine ct_body Tryz.func129 rfl Tryz.ntmps129 (Nat.le_of_ble_eq_true rfl) ?_
 refine wk_seq ?_
 refine wk_region ?_
 refine lx_new (want rfl) (rn_alloc ze_36) ?_
 intro b1 w1 hb1 Eb1 B1 hlb1
 have F1 := F0.ext Eb1
 have hzb1 := Eb1.size
 refine lx_nil ?_
 refine wk_seq ?_
 refine wk_seq ?_
 refine wk_region ?_
 refine lx_value (want rfl) (mv_int rfl) ?_
 refine lx_value (want rfl) (rn_eql rfl rfl) ?_
 refine lx_dec (fun h0 => ?_) (fun h0 => ?_)
 ·
  refine lx_nil ?_
  refine wk_cond_t rfl ?_
  refine wk_seq ?_
  refine wk_region ?_
  refine lx_call (want rfl) (ent_func cf_141 (argsC (t_int rfl) args0)) (bad_ct _ w1) ?_
  rintro _ w2 E1 rfl
  have F2 := F1.ext E1
  have hz1 := E1.size
  refine lx_set (want rfl) sz_36 rfl (t_agg rfl) rfl rfl rfl (B1.ext E1) (Nat.le_of_ble_eq_true rfl) ?_
  intro w3 Es1 Bs1
  have F3 := F2.set Es1 (by omega)
  have hzs1 := Es1.size
  refine lx_nil ?_
  refine wk_ret ?_
  refine retR1 Tryz.results129 (.cell rfl (run_loadVar_blk ag_36 sz_36 Bs1 rfl rfl)) F3 ?_
  exact dv_0 h0
 ·
  refine lx_nil ?_
  refine wk_cond_f rfl ?_
  refine wk_skip ?_
  refine wk_seq ?_
  refine wk_region ?_
  refine lx_value (want rfl) (mv_func rfl) ?_
  refine lx_call (want rfl) (ent_value hcf rfl args0) (hn h0 w1 F1) ?_
  rintro _ w2 E2 rfl
  have F4 := F1.ext E2
  have hz2 := E2.size
  refine lx_call (want rfl) (ent_func cf_125 (argsC (t_int rfl) args0)) (sized_ct _ w2) ?_
  rintro _ w3 E3 rfl
  have F5 := F4.ext E3
  have hz3 := E3.size
  refine lx_set (want rfl) sz_36 rfl (t_agg rfl) rfl rfl rfl ((B1.ext E2).ext E3) (Nat.le_of_ble_eq_true rfl) ?_
  intro w4 Es2 Bs2
  have F6 := F5.set Es2 (by omega)
  have hzs2 := Es2.size
  refine lx_nil ?_
  refine wk_ret ?_
  refine retR1 Tryz.results129 (.cell rfl (run_loadVar_blk ag_36 sz_36 Bs2 rfl rfl)) F6 ?_
  exact dv_1 h0

theorem pdraw1_ct (z : Vl) (n : Nat) (hn : n ≤ 1048576) (bp b : Nat) (sM : Option Addr) (cM : Nat) (wt : Int) (stM : Option Addr) (nt ctM : Nat) (w0 : World) (BP : Blk w0 bp [.pointer (some ⟨b, 0, none⟩)] 108) (BM : Blk w0 b [.slice sM n cM, .int .i64 wt, .slice stM nt ctM] 113) :
  CT Tryz.prog 74 [vlV z, .pointer (some ⟨bp, 0, none⟩)] w0 no (fun v _ => v = .bool (!isVal z n)) := by
 have F0 := Fr.refl no w0
 refine ct_body Tryz.func74 rfl Tryz.ntmps74 (Nat.le_of_ble_eq_true rfl) ?_
 refine wk_seq ?_
 refine wk_region ?_
 refine lx_new (want rfl) (rn_box (t_agg rfl)) ?_
 intro b21 w1 hb21 Eb21 B21 hlb21
 have F1 := F0.ext Eb21
 have hzb21 := Eb21.size
 refine lx_value (want rfl) (as_bool rfl) ?_
 refine lx_nil ?_
 refine wk_seq ?_
 refine wk_mix 6 (fun _ => .none) (by kernel_rfl) (by kernel_rfl) (fun kS G hk => by cases hk) (fun kS s y G hk => by cases hk) ?_
 simp only [List.take_succ_cons, List.take_zero, List.take_nil, List.drop_succ_cons, List.drop_zero, List.drop_nil]
 refine mx_calm rfl (want rfl) (fun u1 eu1 fu1 => rn_loadBlk ag_36 sz_36 rfl (B21.ext ((ext_drawn _).trans' eu1)) rfl rfl) ?_
 refine mx_calm rfl (want rfl) (fun u2 eu2 fu2 => rn_load1Blk ag_108 rfl ((BP.ext Eb21).ext ((ext_drawn _).trans' eu2)) rfl) ?_
 refine mx_calm rfl (want rfl) (fun u3 eu3 fu3 => rn_nilCheck rfl) ?_
 refine mx_calm rfl (want rfl) (fun u4 eu4 fu4 => rn_fieldAddr fa_113_0 rfl) ?_
 refine mx_calm rfl (want rfl) (fun u5 eu5 fu5 => rn_load1Blk ag_22 rfl ((BM.ext Eb21).ext ((ext_drawn _).trans' eu5)) rfl) ?_
 refine mx_calm rfl (want rfl) (fun u6 eu6 fu6 => rn_len Tryz.underlying22 rfl) ?_
 refine mx_nil (fun w2 E1' H1 HS => ?_)
 have E1 := (ext_drawn _).trans' E1'
 have F2 := F1.ext E1
 have hz1 := E1.size
 refine lx_call (want rfl) (ent_func cf_75 (argsC (t_agg rfl) (argsC (t_int rfl) args0))) (isvalue_ct z.1 z.2 n hn w2) ?_
 rintro _ w3 E2 rfl
 have F3 := F2.ext E2
 have hz2 := E2.size
 refine lx_value (want rfl) (rn_not rfl) ?_
 refine lx_value (want rfl) (as_bool rfl) ?_
 refine lx_nil ?_
 refine wk_ret ?_
 refine retR1 Tryz.results74 (.tmp (t_bool rfl)) F3 ?_
 exact rfl

theorem op2_ct (a b : Int) (ha : -1000000000 ≤ a ∧ a ≤ 1000000000) (hb : -1000000000 ≤ b ∧ b ≤ 1000000000) (w0 : World) :
  CT Tryz.prog 127 [.int .i64 a, .int .i64 b] w0 no (fun v _ => v = vlV (workV 2 a b)) := by
 have F0 := Fr.refl no w0
 refine ct_body Tryz.func127 rfl Tryz.ntmps127 (Nat.le_of_ble_eq_true rfl) ?_
 refine wk_seq ?_
 refine wk_region ?_
 refine lx_new (want rfl) (rn_alloc ze_36) ?_
 intro b1 w1 hb1 Eb1 B1 hlb1
 have F1 := F0.ext Eb1
 have hzb1 := Eb1.size
 refine lx_nil ?_
 refine wk_seq ?_
 refine wk_region ?_
 refine lx_value (want rfl) (mv_int rfl) ?_
 refine lx_value (want rfl) (mv_int rfl) ?_
 refine lx_value (want rfl) (rn_mul rfl rfl (mul_bd ha hb)) ?_
 refine lx_call (want rfl) (ent_func cf_125 (argsC (t_int rfl) args0)) (sized_ct _ w1) ?_
 rintro _ w2 E1 rfl
 have F2 := F1.ext E1
 have hz1 := E1.size
 refine lx_set (want rfl) sz_36 rfl (t_agg rfl) rfl rfl rfl (B1.ext E1) (Nat.le_of_ble_eq_true rfl) ?_
 intro w3 Es1 Bs1
 have F3 := F2.set Es1 (by omega)
 have hzs1 := Es1.size
 refine lx_nil ?_
 refine wk_ret ?_
 refine retR1 Tryz.results127 (.cell rfl (run_loadVar_blk ag_36 sz_36 Bs1 rfl rfl)) F3 ?_
 exact rfl

theorem op0_ct (a b : Int) (ha : -1000000000 ≤ a ∧ a ≤ 1000000000) (hb : -1000000000 ≤ b ∧ b ≤ 1000000000) (w0 : World) :
  CT Tryz.prog 124 [.int .i64 a, .int .i64 b] w0 no (fun v _ => v = vlV (workV 0 a b)) := by
 have F0 := Fr.refl no w0
 refine ct_body Tryz.func124 rfl Tryz.ntmps124 (Nat.le_of_ble_eq_true rfl) ?_
 refine wk_seq ?_
 refine wk_region ?_
 refine lx_new (want rfl) (rn_alloc ze_36) ?_
 intro b1 w1 hb1 Eb1 B1 hlb1
 have F1 := F0.ext Eb1
 have hzb1 := Eb1.size
 refine lx_nil ?_
 refine wk_seq ?_
 refine wk_region ?_
 refine lx_value (want rfl) (mv_int rfl) ?_
 refine lx_value (want rfl) (mv_int rfl) ?_
 refine lx_value (want rfl) (rn_add rfl rfl (by omega)) ?_
 refine lx_call (want rfl) (ent_func cf_125 (argsC (t_int rfl) args0)) (sized_ct _ w1) ?_
 rintro _ w2 E1 rfl
 have F2 := F1.ext E1
 have hz1 := E1.size
 refine lx_set (want rfl) sz_36 rfl (t_agg rfl) rfl rfl rfl (B1.ext E1) (Nat.le_of_ble_eq_true rfl) ?_
 intro w3 Es1 Bs1
 have F3 := F2.set Es1 (by omega)
 have hzs1 := Es1.size
 refine lx_nil ?_
 refine wk_ret ?_
 refine retR1 Tryz.results124 (.cell rfl (run_loadVar_blk ag_36 sz_36 Bs1 rfl rfl)) F3 ?_
 exact rfl

theorem op1_ct (a b : Int) (ha : -1000000000 ≤ a ∧ a ≤ 1000000000) (hb : -1000000000 ≤ b ∧ b ≤ 1000000000) (w0 : World) :
  CT Tryz.prog 126 [.int .i64 a, .int .i64 b] w0 no (fun v _ => v = vlV (workV 1 a b)) := by
 have F0 := Fr.refl no w0
 refine ct_body Tryz.func126 rfl Tryz.ntmps126 (Nat.le_of_ble_eq_true rfl) ?_
 refine wk_seq ?_
 refine wk_region ?_
 refine lx_new (want rfl) (rn_alloc ze_36) ?_
 intro b1 w1 hb1 Eb1 B1 hlb1
 have F1 := F0.ext Eb1
 have hzb1 := Eb1.size
 refine lx_nil ?_
 refine wk_seq ?_
 refine wk_region ?_
 refine lx_value (want rfl) (mv_int rfl) ?_
 refine lx_value (want rfl) (mv_int rfl) ?_
 refine lx_value (want rfl) (rn_sub rfl rfl (by omega)) ?_
 refine lx_call (want rfl) (ent_func cf_125 (argsC (t_int rfl) args0)) (sized_ct _ w1) ?_
 rintro _ w2 E1 rfl
 have F2 := F1.ext E1
 have hz1 := E1.size
 refine lx_set (want rfl) sz_36 rfl (t_agg rfl) rfl rfl rfl (B1.ext E1) (Nat.le_of_ble_eq_true rfl) ?_
 intro w3 Es1 Bs1
 have F3 := F2.set Es1 (by omega)
 have hzs1 := Es1.size
 refine lx_nil ?_
 refine wk_ret ?_
 refine retR1 Tryz.results126 (.cell rfl (run_loadVar_blk ag_36 sz_36 Bs1 rfl rfl)) F3 ?_
 exact rfl

theorem isstruct1_ct (z : Vl) (m b3 : Nat) (hm : m ≤ 1048576) (w0 : World) (B3 : Blk w0 b3 [.int .i64 m] 3) :
  CT Tryz.prog 149 [vlV z, .pointer (some ⟨b3, 0, none⟩)] w0 no (fun v _ => v = .bool (!isVal z m)) := by
 have F0 := Fr.refl no w0
 refine ct_body Tryz.func149 rfl Tryz.ntmps149 (Nat.le_of_ble_eq_true rfl) ?_
 refine wk_seq ?_
 refine wk_region ?_
 refine lx_new (want rfl) (rn_box (t_agg rfl)) ?_
 intro b21 w1 hb21 Eb21 B21 hlb21
 have F1 := F0.ext Eb21
 have hzb21 := Eb21.size
 refine lx_value (want rfl) (as_bool rfl) ?_
 refine lx_nil ?_
 refine wk_seq ?_
 refine wk_region ?_
 refine lx_value (want rfl) (rn_loadBlk ag_36 sz_36 rfl B21 rfl rfl) ?_
 refine lx_value (want rfl) (rn_load1Blk ag_3 rfl (B3.ext Eb21) rfl) ?_
 refine lx_call (want rfl) (ent_func cf_75 (argsC (t_agg rfl) (argsC (t_int rfl) args0))) (isvalue_ct _ _ _ (by omega) w1) ?_
 rintro _ w2 E1 rfl
 have F2 := F1.ext E1
 have hz1 := E1.size
 refine lx_value (want rfl) (rn_not rfl) ?_
 refine lx_value (want rfl) (as_bool rfl) ?_
 refine lx_nil ?_
 refine wk_ret ?_
 refine retR1 Tryz.results149 (.tmp (t_bool rfl)) F2 ?_
 exact rfl

theorem op5_ct (a b : Int) (ha : -1000000000 ≤ a ∧ a ≤ 1000000000) (hb : -1000000000 ≤ b ∧ b ≤ 1000000000) (w0 : World) :
  CT Tryz.prog 133 [.int .i64 a, .int .i64 b] w0 no (fun v _ => v = vlV (workV 5 a b)) := by
 have F0 := Fr.refl no w0
 refine ct_body Tryz.func133 rfl Tryz.ntmps133 (Nat.le_of_ble_eq_true rfl) ?_
 refine wk_seq ?_
 refine wk_region ?_
 refine lx_new (want rfl) (rn_alloc ze_36) ?_
 intro b1 w1 hb1 Eb1 B1 hlb1
 have F1 := F0.ext Eb1
 have hzb1 := Eb1.size
 refine lx_nil ?_
 refine wk_seq ?_
 refine wk_region ?_
 refine lx_value (want rfl) (mv_int rfl) ?_
 refine lx_value (want rfl) (rn_neg rfl (by omega)) ?_
 refine lx_call (want rfl) (ent_func cf_125 (argsC (t_int rfl) args0)) (sized_ct _ w1) ?_
 rintro _ w2 E1 rfl
 have F2 := F1.ext E1
 have hz1 := E1.size
 refine lx_set (want rfl) sz_36 rfl (t_agg rfl) rfl rfl rfl (B1.ext E1) (Nat.le_of_ble_eq_true rfl) ?_
 intro w3 Es1 Bs1
 have F3 := F2.set Es1 (by omega)
 have hzs1 := Es1.size
 refine lx_nil ?_
 refine wk_ret ?_
 refine retR1 Tryz.results133 (.cell rfl (run_loadVar_blk ag_36 sz_36 Bs1 rfl rfl)) F3 ?_
 exact rfl

end Go.Proofs.YtnhgfmbmfjmonaaGreatDoor

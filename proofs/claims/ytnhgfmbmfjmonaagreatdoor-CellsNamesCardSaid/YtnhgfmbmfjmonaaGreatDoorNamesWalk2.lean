/- What functions compute: indexr, indexv, mul64, indexi, indexu, growi, copycheck, bstring, truth, cloner, clonev, build2, within, values, refbool, pout, fbool2, blen, integer, bad, refbad, int, ref, op3c, op4c, isbad, ishole, hole, none, nil. -/
import Derived.Test.YtnhgfmbmfjmonaaGreatDoorNamesFacts
import Derived.Test.YtnhgfmbmfjmonaaGreatDoorNamesPre
set_option maxRecDepth 100000
set_option linter.unusedVariables false
set_option linter.unusedSimpArgs false
namespace Go.Proofs.YtnhgfmbmfjmonaaGreatDoor
open Go Go.RowKit Go.Mix Go.Eng
theorem indexr_ct (l : List Rd) (s : Option Addr) (c : Nat) (F : Nat → Prop) (fid : FuncId) (caps : List Value) (q : Rd → Bool) (hcf : ∀ args w, (callFunc fid args).run Tryz.prog w = .ok (.enter fid args) w) (w0 : World) (hl : RdS F w0 s l) (hb : l.length ≤ 1048576) (hq : ∀ z w, z ∈ l → Ext w0 w → CT Tryz.prog fid (.agg #[.int .i64 z.1, .int .i64 z.2] :: caps) w no (fun v _ => v = .bool (q z))) :
  CT Tryz.prog 159 [.slice s l.length c, .func (.func fid) #[] caps.toArray] w0 no (fun v _ => ∃ z : Int, v = .int .i64 z ∧ IdxR q l z) := by
 have F0 := Fr.refl no w0
 refine ct_body Tryz.func159 rfl Tryz.ntmps159 (Nat.le_of_ble_eq_true rfl) ?_
 refine wk_seq ?_
 refine wk_region ?_
 refine lx_value (want rfl) (as_int rfl) ?_
 refine lx_nil ?_
 refine wk_seq ?_
 refine wk_seq ?_
 refine wk_region ?_
 refine lx_value (want rfl) (mv_slice rfl) ?_
 refine lx_value (want rfl) (rn_len Tryz.underlying63 rfl) ?_
 refine lx_value (want rfl) (mv_int rfl) ?_
 refine lx_nil ?_
 refine wk_block ?_
 refine wk_loopA [4, 5, 8, 9, 10, 11, 12, 13, 14, 15, 16, 17, 18] no (fun nM ρ w => ∃ (i : Nat), nM = l.length - i ∧ ρ 8 = .int .i64 i ∧ (i ≤ l.length) ∧ ((l.take i).any q = false)) _ ⟨0, rfl, rfl, by omega, rfl⟩ ?_
 rintro n1 ρ1 w1 A1 EL1 ⟨i, rfl, hs1_8, hi, hq0⟩
 have F1 := F0.ext EL1
 have hzL1 := EL1.size
 refine wk_seq ?_
 refine wk_region ?_
 refine lx_value (want rfl) (rn_lss hs1_8 (A1.at 7 rfl rfl)) ?_
 refine lx_dec (fun hlt => ?_) (fun hlt => ?_)
 ·
  obtain ⟨z, hz⟩ := getx hlt
  obtain ⟨bx, ox, rfl, _, hcx⟩ := hl i z hz
  refine lx_nil ?_
  refine wk_seq ?_
  refine wk_cond_t rfl ?_
  refine wk_skip ?_
  refine wk_seq ?_
  refine wk_block ?_
  refine wk_seq ?_
  refine wk_region ?_
  refine lx_value (want rfl) (mv_int hs1_8) ?_
  refine lx_value (want rfl) (as_int rfl) ?_
  refine lx_nil ?_
  refine wk_seq ?_
  refine wk_region ?_
  refine lx_value (want rfl) (mv_func (A1.at 1 rfl rfl)) ?_
  refine lx_value (want rfl) (mv_slice (A1.at 0 rfl rfl)) ?_
  refine lx_value (want rfl) (mv_int rfl) ?_
  refine lx_value (want rfl) (rn_index _ Tryz.underlying63 sz_115 rfl rfl rfl (by omega)) ?_
  refine lx_value (want rfl) (rn_load2 ag_115 sz_115 rfl (F1.cell (fun h => h) (hcx 0 _ rfl)) (F1.cell (fun h => h) (hcx 1 _ rfl))) ?_
  refine lx_call (want rfl) (ent_value hcf rfl (argsC (t_agg rfl) args0)) (hq z w1 (List.mem_of_getElem? hz) F1) ?_
  rintro _ w2 E1 rfl
  have F2 := F1.ext E1
  have hz1 := E1.size
  refine lx_split (fun h16 => ?_) (fun h16 => ?_)
  ·
   refine lx_nil ?_
   refine wk_cond_t rfl ?_
   refine wk_seq ?_
   refine wk_region ?_
   refine lx_value (want rfl) (mv_int rfl) ?_
   refine lx_value (want rfl) (as_int rfl) ?_
   refine lx_nil ?_
   refine wk_ret ?_
   refine retR1 Tryz.results159 (.tmp (t_int rfl)) F2 ?_
   exact idx_some hz h16 hq0
  ·
   refine lx_nil ?_
   refine wk_cond_f rfl ?_
   refine wk_skip ?_
   refine wk_region ?_
   refine lx_value (want rfl) (rn_add hs1_8 rfl (by omega)) ?_
   refine lx_value (want rfl) (mv_int rfl) ?_
   refine lx_nil ?_
   exact ⟨rfl, (((((((((((A1.up rfl _).up rfl _).up rfl _).up rfl _).up rfl _).up rfl _).up rfl _).up rfl _).up rfl _).up rfl _).up rfl _), (Fr.ext EL1 E1), _, (by omega), i + 1, rfl, rfl, by omega, (any_step hq0 hz h16)⟩
 ·
  refine lx_nil ?_
  refine wk_seq ?_
  refine wk_cond_f rfl ?_
  refine wk_exit ?_
  refine wk_seq ?_
  refine wk_region ?_
  refine lx_value (want rfl) (as_int rfl) ?_
  refine lx_nil ?_
  refine wk_ret ?_
  refine retR1 Tryz.results159 (.tmp (t_int rfl)) F1 ?_
  exact idx_none hq0 hlt

theorem indexv_ct (l : List Vl) (s : Option Addr) (c : Nat) (F : Nat → Prop) (fid : FuncId) (caps : List Value) (q : Vl → Bool) (hcf : ∀ args w, (callFunc fid args).run Tryz.prog w = .ok (.enter fid args) w) (w0 : World) (hl : VlS F w0 s l) (hb : l.length ≤ 1048576) (hq : ∀ z w, z ∈ l → Ext w0 w → CT Tryz.prog fid (vlV z :: caps) w no (fun v _ => v = .bool (q z))) :
  CT Tryz.prog 119 [.slice s l.length c, .func (.func fid) #[] caps.toArray] w0 no (fun v _ => ∃ z : Int, v = .int .i64 z ∧ IdxR q l z) := by
 have F0 := Fr.refl no w0
 refine ct_body Tryz.func119 rfl Tryz.ntmps119 (Nat.le_of_ble_eq_true rfl) ?_
 refine wk_seq ?_
 refine wk_region ?_
 refine lx_value (want rfl) (as_int rfl) ?_
 refine lx_nil ?_
 refine wk_seq ?_
 refine wk_seq ?_
 refine wk_region ?_
 refine lx_value (want rfl) (mv_slice rfl) ?_
 refine lx_value (want rfl) (rn_len Tryz.underlying30 rfl) ?_
 refine lx_value (want rfl) (mv_int rfl) ?_
 refine lx_nil ?_
 refine wk_block ?_
 refine wk_loopA [4, 5, 8, 9, 10, 11, 12, 13, 14, 15, 16, 17, 18] no (fun nM ρ w => ∃ (i : Nat), nM = l.length - i ∧ ρ 8 = .int .i64 i ∧ (i ≤ l.length) ∧ ((l.take i).any q = false)) _ ⟨0, rfl, rfl, by omega, rfl⟩ ?_
 rintro n1 ρ1 w1 A1 EL1 ⟨i, rfl, hs1_8, hi, hq0⟩
 have F1 := F0.ext EL1
 have hzL1 := EL1.size
 refine wk_seq ?_
 refine wk_region ?_
 refine lx_value (want rfl) (rn_lss hs1_8 (A1.at 7 rfl rfl)) ?_
 refine lx_dec (fun hlt => ?_) (fun hlt => ?_)
 ·
  obtain ⟨z, hz⟩ := getx hlt
  obtain ⟨bx, ox, rfl, _, hcx⟩ := hl i z hz
  refine lx_nil ?_
  refine wk_seq ?_
  refine wk_cond_t rfl ?_
  refine wk_skip ?_
  refine wk_seq ?_
  refine wk_block ?_
  refine wk_seq ?_
  refine wk_region ?_
  refine lx_value (want rfl) (mv_int hs1_8) ?_
  refine lx_value (want rfl) (as_int rfl) ?_
  refine lx_nil ?_
  refine wk_seq ?_
  refine wk_region ?_
  refine lx_value (want rfl) (mv_func (A1.at 1 rfl rfl)) ?_
  refine lx_value (want rfl) (mv_slice (A1.at 0 rfl rfl)) ?_
  refine lx_value (want rfl) (mv_int rfl) ?_
  refine lx_value (want rfl) (rn_index _ Tryz.underlying30 sz_36 rfl rfl rfl (by omega)) ?_
  refine lx_value (want rfl) (rn_load2 ag_36 sz_36 rfl (F1.cell (fun h => h) (hcx 0 _ rfl)) (F1.cell (fun h => h) (hcx 1 _ rfl))) ?_
  refine lx_call (want rfl) (ent_value hcf rfl (argsC (t_agg rfl) args0)) (hq z w1 (List.mem_of_getElem? hz) F1) ?_
  rintro _ w2 E1 rfl
  have F2 := F1.ext E1
  have hz1 := E1.size
  refine lx_split (fun h16 => ?_) (fun h16 => ?_)
  ·
   refine lx_nil ?_
   refine wk_cond_t rfl ?_
   refine wk_seq ?_
   refine wk_region ?_
   refine lx_value (want rfl) (mv_int rfl) ?_
   refine lx_value (want rfl) (as_int rfl) ?_
   refine lx_nil ?_
   refine wk_ret ?_
   refine retR1 Tryz.results119 (.tmp (t_int rfl)) F2 ?_
   exact idx_some hz h16 hq0
  ·
   refine lx_nil ?_
   refine wk_cond_f rfl ?_
   refine wk_skip ?_
   refine wk_region ?_
   refine lx_value (want rfl) (rn_add hs1_8 rfl (by omega)) ?_
   refine lx_value (want rfl) (mv_int rfl) ?_
   refine lx_nil ?_
   exact ⟨rfl, (((((((((((A1.up rfl _).up rfl _).up rfl _).up rfl _).up rfl _).up rfl _).up rfl _).up rfl _).up rfl _).up rfl _).up rfl _), (Fr.ext EL1 E1), _, (by omega), i + 1, rfl, rfl, by omega, (any_step hq0 hz h16)⟩
 ·
  refine lx_nil ?_
  refine wk_seq ?_
  refine wk_cond_f rfl ?_
  refine wk_exit ?_
  refine wk_seq ?_
  refine wk_region ?_
  refine lx_value (want rfl) (as_int rfl) ?_
  refine lx_nil ?_
  refine wk_ret ?_
  refine retR1 Tryz.results119 (.tmp (t_int rfl)) F1 ?_
  exact idx_none hq0 hlt

theorem mul64_ct (y : Nat) (hy : y ≤ 100) (w0 : World) :
  CT Tryz.prog 165 [.int .u64 ((1 : Nat) : Int), .int .u64 y] w0 no (fun v _ => v = .tuple #[.int .u64 0, .int .u64 y]) := by
 have F0 := Fr.refl no w0
 refine ct_body Tryz.func165 rfl Tryz.ntmps165 (Nat.le_of_ble_eq_true rfl) ?_
 refine wk_seq ?_
 refine wk_region ?_
 refine lx_value (want rfl) (as_int rfl) ?_
 refine lx_value (want rfl) (as_int rfl) ?_
 refine lx_nil ?_
 refine wk_seq ?_
 refine wk_region ?_
 refine lx_value (want rfl) (mv_int rfl) ?_
 refine lx_value (want rfl) (rnU_and rfl rfl) ?_
 refine lx_value (want rfl) (as_int rfl) ?_
 refine lx_nil ?_
 refine wk_seq ?_
 refine wk_region ?_
 refine lx_value (want rfl) (mv_int rfl) ?_
 refine lx_value (want rfl) (rnU_shr rfl rfl (by decide)) ?_
 refine lx_value (want rfl) (as_int rfl) ?_
 refine lx_nil ?_
 refine wk_seq ?_
 refine wk_region ?_
 refine lx_value (want rfl) (mv_int rfl) ?_
 refine lx_value (want rfl) (rnU_and rfl rfl) ?_
 refine lx_value (want rfl) (as_int rfl) ?_
 refine lx_nil ?_
 refine wk_seq ?_
 refine wk_region ?_
 refine lx_value (want rfl) (mv_int rfl) ?_
 refine lx_value (want rfl) (rnU_shr rfl rfl (by decide)) ?_
 refine lx_value (want rfl) (as_int rfl) ?_
 refine lx_nil ?_
 refine wk_seq ?_
 refine wk_region ?_
 refine lx_value (want rfl) (mv_int rfl) ?_
 refine lx_value (want rfl) (mv_int rfl) ?_
 refine lx_value (want rfl) (rnU_mul rfl rfl) ?_
 refine lx_value (want rfl) (as_int rfl) ?_
 refine lx_nil ?_
 refine wk_seq ?_
 refine wk_region ?_
 refine lx_value (want rfl) (mv_int rfl) ?_
 refine lx_value (want rfl) (mv_int rfl) ?_
 refine lx_value (want rfl) (rnU_mul rfl rfl) ?_
 refine lx_value (want rfl) (mv_int rfl) ?_
 refine lx_value (want rfl) (rnU_shr rfl rfl (by decide)) ?_
 refine lx_value (want rfl) (rnU_add rfl rfl) ?_
 refine lx_value (want rfl) (as_int rfl) ?_
 refine lx_nil ?_
 refine wk_seq ?_
 refine wk_region ?_
 refine lx_value (want rfl) (mv_int rfl) ?_
 refine lx_value (want rfl) (rnU_and rfl rfl) ?_
 refine lx_value (want rfl) (as_int rfl) ?_
 refine lx_nil ?_
 refine wk_seq ?_
 refine wk_region ?_
 refine lx_value (want rfl) (mv_int rfl) ?_
 refine lx_value (want rfl) (rnU_shr rfl rfl (by decide)) ?_
 refine lx_value (want rfl) (as_int rfl) ?_
 refine lx_nil ?_
 refine wk_seq ?_
 refine wk_region ?_
 refine lx_value (want rfl) (mv_int rfl) ?_
 refine lx_value (want rfl) (mv_int rfl) ?_
 refine lx_value (want rfl) (mv_int rfl) ?_
 refine lx_value (want rfl) (rnU_mul rfl rfl) ?_
 refine lx_value (want rfl) (rnU_add rfl rfl) ?_
 refine lx_value (want rfl) (as_int rfl) ?_
 refine lx_nil ?_
 refine wk_seq ?_
 refine wk_region ?_
 refine lx_value (want rfl) (mv_int rfl) ?_
 refine lx_value (want rfl) (mv_int rfl) ?_
 refine lx_value (want rfl) (rnU_mul rfl rfl) ?_
 refine lx_value (want rfl) (mv_int rfl) ?_
 refine lx_value (want rfl) (rnU_add rfl rfl) ?_
 refine lx_value (want rfl) (mv_int rfl) ?_
 refine lx_value (want rfl) (rnU_shr rfl rfl (by decide)) ?_
 refine lx_value (want rfl) (rnU_add rfl rfl) ?_
 refine lx_value (want rfl) (as_int rfl) ?_
 refine lx_nil ?_
 refine wk_seq ?_
 refine wk_region ?_
 refine lx_value (want rfl) (mv_int rfl) ?_
 refine lx_value (want rfl) (mv_int rfl) ?_
 refine lx_value (want rfl) (rnU_mul rfl rfl) ?_
 refine lx_value (want rfl) (as_int rfl) ?_
 refine lx_nil ?_
 refine wk_ret ?_
 refine retR2 Tryz.results165 (.tmp (t_int rfl)) (.tmp (t_int rfl)) F0 ?_
 refine mul_fin ?_ ?_ <;> (obtain ⟨q, rfl⟩ : ∃ q : Fin 101, q.val = y := ⟨⟨y, by omega⟩, rfl⟩; revert q; decide +kernel)

theorem indexi_ct (l : List Int) (s : Option Addr) (c : Nat) (F : Nat → Prop) (fid : FuncId) (caps : List Value) (q : Int → Bool) (hcf : ∀ args w, (callFunc fid args).run Tryz.prog w = .ok (.enter fid args) w) (w0 : World) (hl : Sl F w0 s 1 l (Fl intC)) (hb : l.length ≤ 1048576) (hq : ∀ z w, z ∈ l → Ext w0 w → CT Tryz.prog fid (.int .i64 z :: caps) w no (fun v _ => v = .bool (q z))) :
  CT Tryz.prog 148 [.slice s l.length c, .func (.func fid) #[] caps.toArray] w0 no (fun v _ => ∃ z : Int, v = .int .i64 z ∧ IdxR q l z) := by
 have F0 := Fr.refl no w0
 refine ct_body Tryz.func148 rfl Tryz.ntmps148 (Nat.le_of_ble_eq_true rfl) ?_
 refine wk_seq ?_
 refine wk_region ?_
 refine lx_value (want rfl) (as_int rfl) ?_
 refine lx_nil ?_
 refine wk_seq ?_
 refine wk_seq ?_
 refine wk_region ?_
 refine lx_value (want rfl) (mv_slice rfl) ?_
 refine lx_value (want rfl) (rn_len Tryz.underlying77 rfl) ?_
 refine lx_value (want rfl) (mv_int rfl) ?_
 refine lx_nil ?_
 refine wk_block ?_
 refine wk_loopA [4, 5, 8, 9, 10, 11, 12, 13, 14, 15, 16, 17, 18] no (fun nM ρ w => ∃ (i : Nat), nM = l.length - i ∧ ρ 8 = .int .i64 i ∧ (i ≤ l.length) ∧ ((l.take i).any q = false)) _ ⟨0, rfl, rfl, by omega, rfl⟩ ?_
 rintro n1 ρ1 w1 A1 EL1 ⟨i, rfl, hs1_8, hi, hq0⟩
 have F1 := F0.ext EL1
 have hzL1 := EL1.size
 refine wk_seq ?_
 refine wk_region ?_
 refine lx_value (want rfl) (rn_lss hs1_8 (A1.at 7 rfl rfl)) ?_
 refine lx_dec (fun hlt => ?_) (fun hlt => ?_)
 ·
  obtain ⟨z, hz⟩ := getx hlt
  obtain ⟨bx, ox, rfl, _, hcx⟩ := hl i z hz
  refine lx_nil ?_
  refine wk_seq ?_
  refine wk_cond_t rfl ?_
  refine wk_skip ?_
  refine wk_seq ?_
  refine wk_block ?_
  refine wk_seq ?_
  refine wk_region ?_
  refine lx_value (want rfl) (mv_int hs1_8) ?_
  refine lx_value (want rfl) (as_int rfl) ?_
  refine lx_nil ?_
  refine wk_seq ?_
  refine wk_region ?_
  refine lx_value (want rfl) (mv_func (A1.at 1 rfl rfl)) ?_
  refine lx_value (want rfl) (mv_slice (A1.at 0 rfl rfl)) ?_
  refine lx_value (want rfl) (mv_int rfl) ?_
  refine lx_value (want rfl) (rn_index _ Tryz.underlying77 sz_3 rfl rfl rfl (by omega)) ?_
  refine lx_value (want rfl) (rn_load1 ag_3 rfl (F1.cell (fun h => h) (hcx 0 _ rfl))) ?_
  refine lx_call (want rfl) (ent_value hcf rfl (argsC (t_int rfl) args0)) (hq z w1 (List.mem_of_getElem? hz) F1) ?_
  rintro _ w2 E1 rfl
  have F2 := F1.ext E1
  have hz1 := E1.size
  refine lx_split (fun h16 => ?_) (fun h16 => ?_)
  ·
   refine lx_nil ?_
   refine wk_cond_t rfl ?_
   refine wk_seq ?_
   refine wk_region ?_
   refine lx_value (want rfl) (mv_int rfl) ?_
   refine lx_value (want rfl) (as_int rfl) ?_
   refine lx_nil ?_
   refine wk_ret ?_
   refine retR1 Tryz.results148 (.tmp (t_int rfl)) F2 ?_
   exact idx_some hz h16 hq0
  ·
   refine lx_nil ?_
   refine wk_cond_f rfl ?_
   refine wk_skip ?_
   refine wk_region ?_
   refine lx_value (want rfl) (rn_add hs1_8 rfl (by omega)) ?_
   refine lx_value (want rfl) (mv_int rfl) ?_
   refine lx_nil ?_
   exact ⟨rfl, (((((((((((A1.up rfl _).up rfl _).up rfl _).up rfl _).up rfl _).up rfl _).up rfl _).up rfl _).up rfl _).up rfl _).up rfl _), (Fr.ext EL1 E1), _, (by omega), i + 1, rfl, rfl, by omega, (any_step hq0 hz h16)⟩
 ·
  refine lx_nil ?_
  refine wk_seq ?_
  refine wk_cond_f rfl ?_
  refine wk_exit ?_
  refine wk_seq ?_
  refine wk_region ?_
  refine lx_value (want rfl) (as_int rfl) ?_
  refine lx_nil ?_
  refine wk_ret ?_
  refine retR1 Tryz.results148 (.tmp (t_int rfl)) F1 ?_
  exact idx_none hq0 hlt

theorem indexu_ct (l : List Int) (s : Option Addr) (c : Nat) (F : Nat → Prop) (x : Int) (w0 : World) (hl : Sl F w0 s 1 l (Fl u8C)) (hb : l.length ≤ 1048576) :
  CT Tryz.prog 154 [.slice s l.length c, .int .u8 x] w0 no (fun v _ => ∃ z : Int, v = .int .i64 z ∧ IdxR (fun y => decide (x = y)) l z) := by
 have F0 := Fr.refl no w0
 refine ct_body Tryz.func154 rfl Tryz.ntmps154 (Nat.le_of_ble_eq_true rfl) ?_
 refine wk_seq ?_
 refine wk_region ?_
 refine lx_value (want rfl) (as_int rfl) ?_
 refine lx_nil ?_
 refine wk_seq ?_
 refine wk_seq ?_
 refine wk_region ?_
 refine lx_value (want rfl) (mv_slice rfl) ?_
 refine lx_value (want rfl) (rn_len Tryz.underlying123 rfl) ?_
 refine lx_value (want rfl) (mv_int rfl) ?_
 refine lx_nil ?_
 refine wk_block ?_
 refine wk_loopA [4, 5, 8, 9, 10, 11, 12, 13, 14, 15, 16, 17, 18] no (fun nM ρ w => ∃ (i : Nat), nM = l.length - i ∧ ρ 8 = .int .i64 i ∧ (i ≤ l.length) ∧ ((l.take i).any (fun y => decide (x = y)) = false)) _ ⟨0, rfl, rfl, by omega, rfl⟩ ?_
 rintro n1 ρ1 w1 A1 EL1 ⟨i, rfl, hs1_8, hi, hq0⟩
 have F1 := F0.ext EL1
 have hzL1 := EL1.size
 refine wk_seq ?_
 refine wk_region ?_
 refine lx_value (want rfl) (rn_lss hs1_8 (A1.at 7 rfl rfl)) ?_
 refine lx_dec (fun hlt => ?_) (fun hlt => ?_)
 ·
  obtain ⟨z, hz⟩ := getx hlt
  obtain ⟨bx, ox, rfl, _, hcx⟩ := hl i z hz
  refine lx_nil ?_
  refine wk_seq ?_
  refine wk_cond_t rfl ?_
  refine wk_skip ?_
  refine wk_seq ?_
  refine wk_block ?_
  refine wk_seq ?_
  refine wk_region ?_
  refine lx_value (want rfl) (mv_int hs1_8) ?_
  refine lx_value (want rfl) (as_int rfl) ?_
  refine lx_nil ?_
  refine wk_seq ?_
  refine wk_region ?_
  refine lx_value (want rfl) (mv_int (A1.at 1 rfl rfl)) ?_
  refine lx_value (want rfl) (mv_slice (A1.at 0 rfl rfl)) ?_
  refine lx_value (want rfl) (mv_int rfl) ?_
  refine lx_value (want rfl) (rn_index _ Tryz.underlying123 sz_5 rfl rfl rfl (by omega)) ?_
  refine lx_value (want rfl) (rn_load1 ag_5 rfl (F1.cell (fun h => h) (hcx 0 _ rfl))) ?_
  refine lx_value (want rfl) (rn_eql rfl rfl) ?_
  refine lx_dec (fun h16 => ?_) (fun h16 => ?_)
  ·
   refine lx_nil ?_
   refine wk_cond_t rfl ?_
   refine wk_seq ?_
   refine wk_region ?_
   refine lx_value (want rfl) (mv_int rfl) ?_
   refine lx_value (want rfl) (as_int rfl) ?_
   refine lx_nil ?_
   refine wk_ret ?_
   refine retR1 Tryz.results154 (.tmp (t_int rfl)) F1 ?_
   exact idx_some hz (decide_eq_true h16) hq0
  ·
   refine lx_nil ?_
   refine wk_cond_f rfl ?_
   refine wk_skip ?_
   refine wk_region ?_
   refine lx_value (want rfl) (rn_add hs1_8 rfl (by omega)) ?_
   refine lx_value (want rfl) (mv_int rfl) ?_
   refine lx_nil ?_
   exact ⟨rfl, (((((((((((A1.up rfl _).up rfl _).up rfl _).up rfl _).up rfl _).up rfl _).up rfl _).up rfl _).up rfl _).up rfl _).up rfl _), EL1, _, (by omega), i + 1, rfl, rfl, by omega, (any_step hq0 hz (decide_eq_false h16))⟩
 ·
  refine lx_nil ?_
  refine wk_seq ?_
  refine wk_cond_f rfl ?_
  refine wk_exit ?_
  refine wk_seq ?_
  refine wk_region ?_
  refine lx_value (want rfl) (as_int rfl) ?_
  refine lx_nil ?_
  refine wk_ret ?_
  refine retR1 Tryz.results154 (.tmp (t_int rfl)) F1 ?_
  exact idx_none hq0 hlt

theorem growi_ct (n : Nat) (hn : n ≤ 1048576) (w0 : World) :
  CT Tryz.prog 147 [.slice none 0 0, .int .i64 (n : Nat)] w0 no (fun v w => ∃ s c, v = .slice s 0 c ∧ OwnS w 3 1 s 0 c [] ∧ ∀ k, ob s k → w0.heap.size ≤ k) := by
 have F0 := Fr.refl no w0
 refine ct_body Tryz.func147 rfl Tryz.ntmps147 (Nat.le_of_ble_eq_true rfl) ?_
 refine wk_seq ?_
 refine wk_region ?_
 refine lx_value (want rfl) (as_slice rfl) ?_
 refine lx_nil ?_
 refine wk_seq ?_
 refine wk_seq ?_
 refine wk_region ?_
 refine lx_value (want rfl) (mv_int rfl) ?_
 refine lx_value (want rfl) (rn_lss rfl rfl) ?_
 refine lx_dec_f ((by omega)) ?_
 refine lx_nil ?_
 refine wk_cond_f rfl ?_
 refine wk_skip ?_
 refine wk_seq ?_
 refine wk_seq ?_
 refine wk_region ?_
 refine lx_value (want rfl) (mv_int rfl) ?_
 refine lx_value (want rfl) (mv_slice rfl) ?_
 refine lx_value (want rfl) (rn_cap Tryz.underlying77 rfl) ?_
 refine lx_value (want rfl) (mv_slice rfl) ?_
 refine lx_value (want rfl) (rn_len Tryz.underlying77 rfl) ?_
 refine lx_value (want rfl) (rn_sub rfl rfl (by omega)) ?_
 refine lx_value (v := .int .i64 ((n : Nat) : Int)) (want rfl) ((rn_sub00 rfl rfl (by omega))) ?_
 refine lx_value (want rfl) (as_int rfl) ?_
 refine lx_nil ?_
 refine wk_seq ?_
 refine wk_region ?_
 refine lx_value (want rfl) (mv_int rfl) ?_
 refine lx_value (want rfl) (rn_gtr rfl rfl) ?_
 refine lx_dec (fun h0 => ?_) (fun h0 => ?_)
 ·
  refine lx_nil ?_
  refine wk_cond_t rfl ?_
  refine wk_region ?_
  refine lx_value (want rfl) (mv_slice rfl) ?_
  refine lx_value (want rfl) (mv_slice rfl) ?_
  refine lx_value (want rfl) (rn_cap Tryz.underlying77 rfl) ?_
  refine lx_value (want rfl) (rn_sliceTo 0 Tryz.underlying77 sz_3 rfl rfl rfl (Nat.le_refl _)) ?_
  refine lx_value (want rfl) (mv_int rfl) ?_
  refine lx_appendZ 8 n (want rfl) Tryz.underlying77 Tryz.underlying3 ti_3 (by decide) rfl (by decide) rfl rfl (by omega) (by omega) (fun bZ cZ w1 hbZ EZ hOZ => ?_)
  have F1 := F0.ext EZ
  have hzZ := EZ.size
  have ge1 : ∀ k, ob (some (⟨bZ, 0, none⟩ : Addr)) k → w0.heap.size ≤ k := fun k hk => (by have := ob_some hk; omega)
  refine lx_value (want rfl) (mv_slice rfl) ?_
  refine lx_value (want rfl) (rn_len Tryz.underlying77 rfl) ?_
  refine lx_value (want rfl) (rn_sliceTo 0 Tryz.underlying77 sz_3 rfl rfl rfl (Nat.zero_le _)) ?_
  refine lx_value (want rfl) (as_slice rfl) ?_
  refine lx_nil ?_
  refine wk_seq ?_
  refine wk_region ?_
  refine lx_value (want rfl) (mv_slice rfl) ?_
  refine lx_value (want rfl) (as_slice rfl) ?_
  refine lx_nil ?_
  refine wk_ret ?_
  refine retR1 Tryz.results147 (.tmp (t_slice rfl)) F1 ?_
  exact ⟨_, _, rfl, hOZ, ge1⟩
 ·
  refine lx_nil ?_
  refine wk_cond_f rfl ?_
  refine wk_skip ?_
  refine wk_seq ?_
  refine wk_region ?_
  refine lx_value (want rfl) (mv_slice rfl) ?_
  refine lx_value (want rfl) (as_slice rfl) ?_
  refine lx_nil ?_
  refine wk_ret ?_
  refine retR1 Tryz.results147 (.tmp (t_slice rfl)) F0 ?_
  exact ⟨none, 0, rfl, OwnS.nil _ _ _, fun _ h => ob_none h⟩

theorem copycheck_ct (Z : Nat → Prop) (b : Nat) (ad : Option Addr) (had : ad = none ∨ ad = some ⟨b, 0, none⟩) (hZb50 : Z b) (v1 v2 : Value) (w0 : World) (hBs : Blk w0 b [.pointer ad, v1, v2] 149) :
  CT Tryz.prog 155 [.pointer (some ⟨b, 0, none⟩)] w0 Z (fun v w => v = .tuple #[] ∧ Blk w b [.pointer (some ⟨b, 0, none⟩), v1, v2] 149) := by
 have hlb := hBs.lt
 have F0 := Fr.refl Z w0
 refine ct_body Tryz.func155 rfl Tryz.ntmps155 (Nat.le_of_ble_eq_true rfl) ?_
 refine wk_seq ?_
 refine wk_region ?_
 refine lx_value (want rfl) (mv_pointer rfl) ?_
 refine lx_value (want rfl) (rn_nilCheck rfl) ?_
 refine lx_value (want rfl) (rn_fieldAddr fa_147_0 rfl) ?_
 refine lx_value (want rfl) (rn_load1Blk ag_145 rfl hBs rfl) ?_
 refine lx_value (want rfl) (rn_eqlP Tryz.underlying145 rfl rfl) ?_
 refine lx_split (fun hn => ?_) (fun hn => ?_)
 ·
  refine lx_nil ?_
  refine wk_cond_t rfl ?_
  refine wk_region ?_
  refine lx_value (want rfl) (mv_pointer rfl) ?_
  refine lx_value (want rfl) (mv_pointer rfl) ?_
  refine lx_value (want rfl) (rn_toUnsafe rfl Tryz.underlying145 Tryz.underlying203 ti_147 (by decide) (blk_shape hBs) (by show 0 < 3; decide)) ?_
  refine lx_value (want rfl) (rn_noEscape rfl (fun args w => run_callFunc_extern Tryz.func161 (by kernel_rfl) (by kernel_rfl) (by kernel_rfl) (e := Extern.AbiNoEscape.same) (by kernel_rfl) args w)) ?_
  refine lx_value (want rfl) (rn_fromUnsafe rfl Tryz.underlying203 Tryz.underlying145 ti_147 (blk_shape hBs) (by kernel_rfl)) ?_
  refine lx_value (want rfl) (rn_nilCheck rfl) ?_
  refine lx_value (want rfl) (rn_fieldAddr fa_147_0 rfl) ?_
  refine lx_set (want rfl) sz_145 rfl (t_pointer rfl) rfl rfl rfl hBs (Nat.le_of_ble_eq_true rfl) ?_
  intro w1 Es1 Bs1
  have F1 := F0.new' Es1 (fun k h => by have h : k = b := h; rw [h]; exact (.inl hZb50))
  have hzs1 := Es1.size
  refine lx_nil ?_
  (try simp only [thenK, blockK, if_true])
  refine retN ?_
  refine ret0 Tryz.results155 F1 ?_
  exact ⟨rfl, Bs1⟩
 ·
  have hae : ad = some ⟨b, 0, none⟩ := had.resolve_left (fun h => by rw [h] at hn; cases hn)
  subst hae
  refine lx_nil ?_
  refine wk_cond_f rfl ?_
  refine wk_seq ?_
  refine wk_region ?_
  refine lx_value (want rfl) (mv_pointer rfl) ?_
  refine lx_value (want rfl) (rn_nilCheck rfl) ?_
  refine lx_value (want rfl) (rn_fieldAddr fa_147_0 rfl) ?_
  refine lx_value (want rfl) (rn_load1Blk ag_145 rfl hBs rfl) ?_
  refine lx_value (want rfl) (mv_pointer rfl) ?_
  refine lx_value (want rfl) (rn_neqSame sz_147 Tryz.underlying145 rfl rfl) ?_
  refine lx_nil ?_
  refine wk_cond_f rfl ?_
  refine wk_skip ?_
  (try simp only [thenK, blockK, if_true])
  refine retN ?_
  refine ret0 Tryz.results155 F0 ?_
  exact ⟨rfl, hBs⟩

theorem bstring_ct (Z : Nat → Prop) (b : Nat) (bs : List UInt8) (sk : Option Addr) (nk ck : Nat) (hbd : bs.length ≤ 1073741824) (w0 : World) (hM : SH Z w0 b bs sk nk ck) :
  CT Tryz.prog 97 [.pointer (some ⟨b, 0, none⟩)] w0 Z (fun v w => v = .string ⟨bs.toArray⟩) := by
 obtain ⟨ad, sB, cB, hBs, had, hOs, h0s, hns, hZb50, hZo2, hZl⟩ := hM
 have hlb := hBs.lt
 have h0x : ∀ g o sp, sB = some ⟨g, o, sp⟩ → o = 0 ∧ sp = none := fun g o sp h => ⟨(h0s g o sp h).1, (h0s g o sp h).2.1⟩
 have F0 := Fr.refl Z w0
 have zo2 : ∀ k, ob sB k → Z k ∨ w0.heap.size ≤ k := fun k h => .inl (hZo2 k h)
 refine ct_body Tryz.func97 rfl Tryz.ntmps97 (Nat.le_of_ble_eq_true rfl) ?_
 refine wk_seq ?_
 refine wk_region ?_
 refine lx_value (want rfl) (as_string rfl) ?_
 refine lx_nil ?_
 refine wk_seq ?_
 refine wk_mix 10 (fun _ => .none) (by kernel_rfl) (by kernel_rfl) (fun kS G hk => by cases hk) (fun kS s y G hk => by cases hk) ?_
 simp only [List.take_succ_cons, List.take_zero, List.take_nil, List.drop_succ_cons, List.drop_zero, List.drop_nil]
 refine mx_calm rfl (want rfl) (fun u1 eu1 fu1 => mv_pointer rfl) ?_
 refine mx_calm rfl (want rfl) (fun u2 eu2 fu2 => rn_nilCheck rfl) ?_
 refine mx_calm rfl (want rfl) (fun u3 eu3 fu3 => rn_fieldAddr fa_147_1 rfl) ?_
 refine mx_calm rfl (want rfl) (fun u4 eu4 fu4 => rn_load1Blk ag_123 rfl (hBs.ext ((ext_drawn _).trans' eu4)) rfl) ?_
 refine mx_calm rfl (want rfl) (fun u5 eu5 fu5 => rn_sliceData rfl (fun h => by cases sB with | none => exact absurd rfl h | some q => obtain ⟨g, o, sp⟩ := q; have := (h0s g o sp rfl).2.2; omega)) ?_
 refine mx_calm rfl (want rfl) (fun u6 eu6 fu6 => mv_pointer rfl) ?_
 refine mx_calm rfl (want rfl) (fun u7 eu7 fu7 => rn_nilCheck rfl) ?_
 refine mx_calm rfl (want rfl) (fun u8 eu8 fu8 => rn_fieldAddr fa_147_1 rfl) ?_
 refine mx_calm rfl (want rfl) (fun u9 eu9 fu9 => rn_load1Blk ag_123 rfl (hBs.ext ((ext_drawn _).trans' eu9)) rfl) ?_
 refine mx_calm rfl (want rfl) (fun u10 eu10 fu10 => rn_len Tryz.underlying123 rfl) ?_
 refine mx_nil (fun w1 E1' H1 HS => ?_)
 have E1 := (ext_drawn _).trans' E1'
 have F1 := F0.ext E1
 have hz1 := E1.size
 refine lx_unsafeString (want rfl) Tryz.underlying186 (by kernel_rfl) rfl rfl (hOs.ext E1) h0x hbd ?_
 intro w2 Eus
 have F2 := F1.new' Eus (fun kq => (fun h => (zo2 _) h))
 have hzus := Eus.size
 refine lx_value (want rfl) (as_string rfl) ?_
 refine lx_nil ?_
 refine wk_ret ?_
 refine retR1 Tryz.results97 (.tmp (t_string rfl)) F2 ?_
 exact rfl

theorem truth_ct (b : Bool) (w0 : World) :
  CT Tryz.prog 135 [.bool b] w0 no (fun v _ => v = vlV (truthV b)) := by
 have F0 := Fr.refl no w0
 refine ct_body Tryz.func135 rfl Tryz.ntmps135 (Nat.le_of_ble_eq_true rfl) ?_
 refine wk_seq ?_
 refine wk_region ?_
 refine lx_new (want rfl) (rn_alloc ze_36) ?_
 intro b1 w1 hb1 Eb1 B1 hlb1
 have F1 := F0.ext Eb1
 have hzb1 := Eb1.size
 refine lx_nil ?_
 refine wk_seq ?_
 refine wk_region ?_
 refine lx_value (want rfl) (rn_build1 (t_int rfl) (fun w => bd_36_0 _ w)) ?_
 refine lx_new (want rfl) (rn_alloc ze_36) ?_
 intro b2 w2 hb2 Eb2 B2 hlb2
 have F2 := F1.ext Eb2
 have hzb2 := Eb2.size
 refine lx_set (want rfl) sz_36 rfl (t_agg rfl) rfl rfl rfl B2 (Nat.le_of_ble_eq_true rfl) ?_
 intro w3 Es1 Bs1
 have F3 := F2.set Es1 (by omega)
 have hzs1 := Es1.size
 refine lx_nil ?_
 refine wk_seq ?_
 refine wk_seq ?_
 refine wk_region ?_
 refine lx_value (want rfl) (mv_bool rfl) ?_
 refine lx_split (fun hb => ?_) (fun hb => ?_)
 ·
  refine lx_nil ?_
  refine wk_cond_t rfl ?_
  refine wk_region ?_
  refine lx_value (want rfl) (rn_fieldAddr fa_36_1 rfl) ?_
  refine lx_set (want rfl) sz_3 rfl (t_int rfl) rfl rfl rfl Bs1 (Nat.le_of_ble_eq_true rfl) ?_
  intro w4 Es2 Bs2
  have F4 := F3.set Es2 (by omega)
  have hzs2 := Es2.size
  refine lx_nil ?_
  refine wk_seq ?_
  refine wk_region ?_
  refine lx_value (want rfl) (rn_loadBlk ag_36 sz_36 rfl Bs2 rfl rfl) ?_
  refine lx_set (want rfl) sz_36 rfl (t_agg rfl) rfl rfl rfl (((B1.ext Eb2).ne Es1 (by omega)).ne Es2 (by omega)) (Nat.le_of_ble_eq_true rfl) ?_
  intro w5 Es3 Bs3
  have F5 := F4.set Es3 (by omega)
  have hzs3 := Es3.size
  refine lx_nil ?_
  refine wk_ret ?_
  refine retR1 Tryz.results135 (.cell rfl (run_loadVar_blk ag_36 sz_36 Bs3 rfl rfl)) F5 ?_
  exact tr_t hb
 ·
  refine lx_nil ?_
  refine wk_cond_f rfl ?_
  refine wk_skip ?_
  refine wk_seq ?_
  refine wk_region ?_
  refine lx_value (want rfl) (rn_loadBlk ag_36 sz_36 rfl Bs1 rfl rfl) ?_
  refine lx_set (want rfl) sz_36 rfl (t_agg rfl) rfl rfl rfl ((B1.ext Eb2).ne Es1 (by omega)) (Nat.le_of_ble_eq_true rfl) ?_
  intro w4 Es4 Bs4
  have F6 := F3.set Es4 (by omega)
  have hzs4 := Es4.size
  refine lx_nil ?_
  refine wk_ret ?_
  refine retR1 Tryz.results135 (.cell rfl (run_loadVar_blk ag_36 sz_36 Bs4 rfl rfl)) F6 ?_
  exact tr_f hb

theorem cloner_ct (l : List Rd) (s : Option Addr) (c : Nat) (F : Nat → Prop) (w0 : World) (hl : RdS F w0 s l) (hb : l.length ≤ 1048576) :
  CT Tryz.prog 112 [.slice s l.length c] w0 no (fun v w => ∃ s' c', v = .slice s' l.length c' ∧ OwnS w 115 2 s' l.length c' (l.flatMap rdC) ∧ ∀ k, ob s' k → w0.heap.size ≤ k) := by
 have F0 := Fr.refl no w0
 refine ct_body Tryz.func112 rfl Tryz.ntmps112 (Nat.le_of_ble_eq_true rfl) ?_
 refine wk_seq ?_
 refine wk_region ?_
 refine lx_value (want rfl) (as_slice rfl) ?_
 refine lx_nil ?_
 refine wk_seq ?_
 refine wk_seq ?_
 refine wk_region ?_
 refine lx_value (want rfl) (mv_slice rfl) ?_
 refine lx_value (want rfl) (rn_eqlNil Tryz.underlying63 rfl rfl) ?_
 refine lx_split (fun h4 => ?_) (fun h4 => ?_)
 ·
  obtain rfl := clone_nil hl h4
  refine lx_nil ?_
  refine wk_cond_t rfl ?_
  refine wk_seq ?_
  refine wk_region ?_
  refine lx_value (want rfl) (as_slice rfl) ?_
  refine lx_nil ?_
  refine wk_ret ?_
  refine retR1 Tryz.results112 (.tmp (t_slice rfl)) F0 ?_
  exact ⟨_, _, rfl, OwnS.nil _ _ _, fun _ h => ob_none h⟩
 ·
  refine lx_nil ?_
  refine wk_cond_f rfl ?_
  refine wk_skip ?_
  refine wk_seq ?_
  refine wk_region ?_
  refine lx_newS (want rfl) (rn_bslice (xs := []) Tryz.underlying63 sz_115 ze_115 rfl args0 CL.nil rfl (Nat.le_of_ble_eq_true rfl)) ?_
  intro b1 w1 hb1 Eb1 B1 hlb1
  have F1 := F0.ext Eb1
  have hzb1 := Eb1.size
  have ow1 := OwnS.full (n := 0) (size := 2) B1 rfl (by decide)
  have ge1 : ∀ k, ob (some (⟨b1, 0, none⟩ : Addr)) k → w0.heap.size ≤ k := fun k hk => (by have := ob_some hk; omega)
  refine lx_value (want rfl) (mv_slice rfl) ?_
  refine lx_append 16 (want rfl) Tryz.underlying63 ti_115 (by decide) rfl (by decide) rfl rfl ow1 ((hl.fr (rd_stab _) F1 (fun _ _ h => h)).src (fun _ _ => rfl) (fun _ _ u hu => rd_one hu) (by decide)) (by omega) ?_
  intro sq2 cq2 w2 AP2
  have EA2 := AP2.fr
  have ow2 := AP2.own
  have ge2 : ∀ k, ob sq2 k → w0.heap.size ≤ k := fun k hk => (AP2.blk k hk).elim (ge1 k) (fun h => (Nat.le_trans F1.size h))
  have F2 := F1.new EA2 ge1
  have hzA2 := EA2.size
  refine lx_value (want rfl) (as_slice rfl) ?_
  refine lx_nil ?_
  refine wk_ret ?_
  refine retR1 Tryz.results112 (.tmp (t_slice rfl)) F2 ?_
  exact ⟨_, _, by rw [Nat.zero_add], by have h := ow2; simpa using h, ge2⟩

theorem clonev_ct (l : List Vl) (s : Option Addr) (c : Nat) (F : Nat → Prop) (w0 : World) (hl : VlS F w0 s l) (hb : l.length ≤ 1048576) :
  CT Tryz.prog 111 [.slice s l.length c] w0 no (fun v w => ∃ s' c', v = .slice s' l.length c' ∧ OwnS w 36 2 s' l.length c' (l.flatMap vlC) ∧ ∀ k, ob s' k → w0.heap.size ≤ k) := by
 have F0 := Fr.refl no w0
 refine ct_body Tryz.func111 rfl Tryz.ntmps111 (Nat.le_of_ble_eq_true rfl) ?_
 refine wk_seq ?_
 refine wk_region ?_
 refine lx_value (want rfl) (as_slice rfl) ?_
 refine lx_nil ?_
 refine wk_seq ?_
 refine wk_seq ?_
 refine wk_region ?_
 refine lx_value (want rfl) (mv_slice rfl) ?_
 refine lx_value (want rfl) (rn_eqlNil Tryz.underlying30 rfl rfl) ?_
 refine lx_split (fun h4 => ?_) (fun h4 => ?_)
 ·
  obtain rfl := clone_nil hl h4
  refine lx_nil ?_
  refine wk_cond_t rfl ?_
  refine wk_seq ?_
  refine wk_region ?_
  refine lx_value (want rfl) (as_slice rfl) ?_
  refine lx_nil ?_
  refine wk_ret ?_
  refine retR1 Tryz.results111 (.tmp (t_slice rfl)) F0 ?_
  exact ⟨_, _, rfl, OwnS.nil _ _ _, fun _ h => ob_none h⟩
 ·
  refine lx_nil ?_
  refine wk_cond_f rfl ?_
  refine wk_skip ?_
  refine wk_seq ?_
  refine wk_region ?_
  refine lx_newS (want rfl) (rn_bslice (xs := []) Tryz.underlying30 sz_36 ze_36 rfl args0 CL.nil rfl (Nat.le_of_ble_eq_true rfl)) ?_
  intro b1 w1 hb1 Eb1 B1 hlb1
  have F1 := F0.ext Eb1
  have hzb1 := Eb1.size
  have ow1 := OwnS.full (n := 0) (size := 2) B1 rfl (by decide)
  have ge1 : ∀ k, ob (some (⟨b1, 0, none⟩ : Addr)) k → w0.heap.size ≤ k := fun k hk => (by have := ob_some hk; omega)
  refine lx_value (want rfl) (mv_slice rfl) ?_
  refine lx_append 16 (want rfl) Tryz.underlying30 ti_36 (by decide) rfl (by decide) rfl rfl ow1 ((hl.fr (vl_stab _) F1 (fun _ _ h => h)).src (fun _ _ => rfl) (fun _ _ u hu => vl_one hu) (by decide)) (by omega) ?_
  intro sq2 cq2 w2 AP2
  have EA2 := AP2.fr
  have ow2 := AP2.own
  have ge2 : ∀ k, ob sq2 k → w0.heap.size ≤ k := fun k hk => (AP2.blk k hk).elim (ge1 k) (fun h => (Nat.le_trans F1.size h))
  have F2 := F1.new EA2 ge1
  have hzA2 := EA2.size
  refine lx_value (want rfl) (as_slice rfl) ?_
  refine lx_nil ?_
  refine wk_ret ?_
  refine retR1 Tryz.results111 (.tmp (t_slice rfl)) F2 ?_
  exact ⟨_, _, by rw [Nat.zero_add], by have h := ow2; simpa using h, ge2⟩

theorem build2_ct (n base : Nat) (e : Vl) (b10 b4 : Nat) (s : Option Addr) (c : Nat) (w0 : World) (B10 : Blk w0 b10 [.int .u8 e.1, .int .i64 e.2] 36) (B4 : Blk w0 b4 [.slice s base c] 24) :
  CT Tryz.prog 107 [.int .i64 (n : Nat), .pointer (some ⟨b10, 0, none⟩), .pointer (some ⟨b4, 0, none⟩)] w0 no (fun v _ => v = .agg #[.int .u8 (cloV e base n).1, .int .i64 (cloV e base n).2]) := by
 have F0 := Fr.refl no w0
 refine ct_body Tryz.func107 rfl Tryz.ntmps107 (Nat.le_of_ble_eq_true rfl) ?_
 refine wk_seq ?_
 refine wk_region ?_
 refine lx_new (want rfl) (rn_alloc ze_36) ?_
 intro b21 w1 hb21 Eb21 B21 hlb21
 have F1 := F0.ext Eb21
 have hzb21 := Eb21.size
 refine lx_nil ?_
 refine wk_seq ?_
 refine wk_seq ?_
 refine wk_region ?_
 refine lx_value (want rfl) (mv_int rfl) ?_
 refine lx_value (want rfl) (rn_eql rfl rfl) ?_
 refine lx_dec (fun h0 => ?_) (fun h0 => ?_)
 ·
  have hr : cloV e base n = e := if_pos (by omega)
  refine lx_nil ?_
  refine wk_cond_t rfl ?_
  refine wk_seq ?_
  refine wk_region ?_
  refine lx_value (want rfl) (rn_loadBlk ag_36 sz_36 rfl (B10.ext Eb21) rfl rfl) ?_
  refine lx_set (want rfl) sz_36 rfl (t_agg rfl) rfl rfl rfl B21 (Nat.le_of_ble_eq_true rfl) ?_
  intro w2 Es1 Bs1
  have F2 := F1.set Es1 (by omega)
  have hzs1 := Es1.size
  refine lx_nil ?_
  refine wk_ret ?_
  refine retR1 Tryz.results107 (.cell rfl (run_loadVar_blk ag_36 sz_36 Bs1 rfl rfl)) F2 ?_
  rw [hr]; exact rfl
 ·
  have hr : cloV e base n = (4, (base : Int)) := if_neg (by omega)
  refine lx_nil ?_
  refine wk_cond_f rfl ?_
  refine wk_skip ?_
  refine wk_seq ?_
  refine wk_region ?_
  refine lx_value (want rfl) (rn_fieldAddr fa_24_0 rfl) ?_
  refine lx_value (want rfl) (rn_load1Blk ag_22 rfl (B4.ext Eb21) rfl) ?_
  refine lx_value (want rfl) (rn_len Tryz.underlying22 rfl) ?_
  refine lx_value (want rfl) (rn_build2 (t_int rfl) (t_int rfl) (fun w => bd_36_0_1 _ _ w)) ?_
  refine lx_set (want rfl) sz_36 rfl (t_agg rfl) rfl rfl rfl B21 (Nat.le_of_ble_eq_true rfl) ?_
  intro w2 Es2 Bs2
  have F3 := F1.set Es2 (by omega)
  have hzs2 := Es2.size
  refine lx_nil ?_
  refine wk_ret ?_
  refine retR1 Tryz.results107 (.cell rfl (run_loadVar_blk ag_36 sz_36 Bs2 rfl rfl)) F3 ?_
  rw [hr]; exact rfl

theorem within_ct (n a b : Int) (w0 : World) :
  CT Tryz.prog 94 [.int .i64 n, .int .i64 a, .int .i64 b] w0 no (fun v _ => v = .bool (decide (a ≤ n ∧ n ≤ b))) := by
 have F0 := Fr.refl no w0
 refine ct_body Tryz.func94 rfl Tryz.ntmps94 (Nat.le_of_ble_eq_true rfl) ?_
 refine wk_seq ?_
 refine wk_region ?_
 refine lx_value (want rfl) (as_bool rfl) ?_
 refine lx_nil ?_
 refine wk_seq ?_
 refine wk_region ?_
 refine lx_value (want rfl) (mv_int rfl) ?_
 refine lx_value (want rfl) (mv_int rfl) ?_
 refine lx_value (want rfl) (rn_geq rfl rfl) ?_
 refine lx_dec (fun h1 => ?_) (fun h1 => ?_)
 ·
  refine lx_value (want rfl) (mv_bool rfl) ?_
  refine lx_value (want_if (j := 3) (d := 10) (x := true) (y := true) rfl rfl (by decide) rfl) (mv_int rfl) ?_
  refine lx_value (want_if (j := 3) (d := 10) (x := true) (y := true) rfl rfl (by decide) rfl) (mv_int rfl) ?_
  refine lx_value (want_if (j := 3) (d := 10) (x := true) (y := true) rfl rfl (by decide) rfl) (rn_leq rfl rfl) ?_
  refine lx_value (want rfl) (pick_t rfl rfl) ?_
  refine lx_value (want rfl) (as_bool rfl) ?_
  refine lx_nil ?_
  refine wk_ret ?_
  refine retR1 Tryz.results94 (.tmp (t_bool rfl)) F0 ?_
  exact win_t h1
 ·
  refine lx_value (want rfl) (mv_bool rfl) ?_
  refine lx_skip (want_if (j := 3) (d := 10) (x := true) (y := false) rfl rfl (by decide) rfl) ?_
  refine lx_skip (want_if (j := 3) (d := 10) (x := true) (y := false) rfl rfl (by decide) rfl) ?_
  refine lx_skip (want_if (j := 3) (d := 10) (x := true) (y := false) rfl rfl (by decide) rfl) ?_
  refine lx_value (want rfl) (pick_f rfl rfl) ?_
  refine lx_value (want rfl) (as_bool rfl) ?_
  refine lx_nil ?_
  refine wk_ret ?_
  refine retR1 Tryz.results94 (.tmp (t_bool rfl)) F0 ?_
  exact win_f h1

theorem values_ct (l : List Vl) (s : Option Addr) (c : Nat) (F : Nat → Prop) (w0 : World) (hl : VlS F w0 s l) (hb : l.length ≤ 1048576) :
  CT Tryz.prog 28 [.slice s l.length c] w0 no (fun v w => ∃ s' c', v = .slice s' l.length c' ∧ OwnS w 36 2 s' l.length c' (l.flatMap vlC) ∧ ∀ k, ob s' k → w0.heap.size ≤ k) := by
 have F0 := Fr.refl no w0
 refine ct_body Tryz.func28 rfl Tryz.ntmps28 (Nat.le_of_ble_eq_true rfl) ?_
 refine wk_seq ?_
 refine wk_region ?_
 refine lx_value (want rfl) (as_slice rfl) ?_
 refine lx_nil ?_
 refine wk_seq ?_
 refine wk_region ?_
 refine lx_newS (want rfl) (rn_bslice (xs := []) Tryz.underlying30 sz_36 ze_36 rfl args0 CL.nil rfl (Nat.le_of_ble_eq_true rfl)) ?_
 intro b1 w1 hb1 Eb1 B1 hlb1
 have F1 := F0.ext Eb1
 have hzb1 := Eb1.size
 have ow1 := OwnS.full (n := 0) (size := 2) B1 rfl (by decide)
 have ge1 : ∀ k, ob (some (⟨b1, 0, none⟩ : Addr)) k → w0.heap.size ≤ k := fun k hk => (by have := ob_some hk; omega)
 refine lx_value (want rfl) (mv_slice rfl) ?_
 refine lx_append 16 (want rfl) Tryz.underlying30 ti_36 (by decide) rfl (by decide) rfl rfl ow1 ((hl.fr (vl_stab _) F1 (fun _ _ h => h)).src (fun _ _ => rfl) (fun _ _ u hu => vl_one hu) (by decide)) (by omega) ?_
 intro sq2 cq2 w2 AP2
 have EA2 := AP2.fr
 have ow2 := AP2.own
 have ge2 : ∀ k, ob sq2 k → w0.heap.size ≤ k := fun k hk => (AP2.blk k hk).elim (ge1 k) (fun h => (Nat.le_trans F1.size h))
 have F2 := F1.new EA2 ge1
 have hzA2 := EA2.size
 refine lx_value (want rfl) (as_slice rfl) ?_
 refine lx_nil ?_
 refine wk_ret ?_
 refine retR1 Tryz.results28 (.tmp (t_slice rfl)) F2 ?_
 exact ⟨_, _, by rw [Nat.zero_add], by have h := ow2; simpa using h, ge2⟩

theorem refbool_ct (b : Bool) (w0 : World) :
  CT Tryz.prog 68 [.bool b] w0 no (fun v _ => v = vlV (truthV b)) := by
 have F0 := Fr.refl no w0
 refine ct_body Tryz.func68 rfl Tryz.ntmps68 (Nat.le_of_ble_eq_true rfl) ?_
 refine wk_seq ?_
 refine wk_region ?_
 refine lx_new (want rfl) (rn_alloc ze_36) ?_
 intro b1 w1 hb1 Eb1 B1 hlb1
 have F1 := F0.ext Eb1
 have hzb1 := Eb1.size
 refine lx_nil ?_
 refine wk_seq ?_
 refine wk_seq ?_
 refine wk_region ?_
 refine lx_value (want rfl) (mv_bool rfl) ?_
 refine lx_split (fun hb => ?_) (fun hb => ?_)
 ·
  refine lx_nil ?_
  refine wk_cond_t rfl ?_
  refine wk_seq ?_
  refine wk_region ?_
  refine lx_value (want rfl) (rn_build2 (t_int rfl) (t_int rfl) (fun w => bd_36_0_1 _ _ w)) ?_
  refine lx_set (want rfl) sz_36 rfl (t_agg rfl) rfl rfl rfl B1 (Nat.le_of_ble_eq_true rfl) ?_
  intro w2 Es1 Bs1
  have F2 := F1.set Es1 (by omega)
  have hzs1 := Es1.size
  refine lx_nil ?_
  refine wk_ret ?_
  refine retR1 Tryz.results68 (.cell rfl (run_loadVar_blk ag_36 sz_36 Bs1 rfl rfl)) F2 ?_
  exact tr_t hb
 ·
  refine lx_nil ?_
  refine wk_cond_f rfl ?_
  refine wk_skip ?_
  refine wk_seq ?_
  refine wk_region ?_
  refine lx_value (want rfl) (rn_build1 (t_int rfl) (fun w => bd_36_0 _ w)) ?_
  refine lx_set (want rfl) sz_36 rfl (t_agg rfl) rfl rfl rfl B1 (Nat.le_of_ble_eq_true rfl) ?_
  intro w2 Es2 Bs2
  have F3 := F1.set Es2 (by omega)
  have hzs2 := Es2.size
  refine lx_nil ?_
  refine wk_ret ?_
  refine retR1 Tryz.results68 (.cell rfl (run_loadVar_blk ag_36 sz_36 Bs2 rfl rfl)) F3 ?_
  exact tr_f hb

theorem pout_ct (b : Nat) (sM : Option Addr) (n cM : Nat) (wt : Int) (stM : Option Addr) (nt ctM : Nat) (w0 : World) (BM : Blk w0 b [.slice sM n cM, .int .i64 wt, .slice stM nt ctM] 113) :
  CT Tryz.prog 72 [.pointer (some ⟨b, 0, none⟩)] w0 no (fun v _ => v = .agg #[.slice sM n cM]) := by
 have hlb := BM.lt
 have F0 := Fr.refl no w0
 refine ct_body Tryz.func72 rfl Tryz.ntmps72 (Nat.le_of_ble_eq_true rfl) ?_
 refine wk_seq ?_
 refine wk_region ?_
 refine lx_new (want rfl) (rn_alloc ze_24) ?_
 intro b21 w1 hb21 Eb21 B21 hlb21
 have F1 := F0.ext Eb21
 have hzb21 := Eb21.size
 refine lx_nil ?_
 refine wk_seq ?_
 refine wk_region ?_
 refine lx_value (want rfl) (mv_pointer rfl) ?_
 refine lx_value (want rfl) (rn_nilCheck rfl) ?_
 refine lx_value (want rfl) (rn_fieldAddr fa_113_0 rfl) ?_
 refine lx_value (want rfl) (rn_load1Blk ag_22 rfl (BM.ext Eb21) rfl) ?_
 refine lx_value (want rfl) (rn_build1 (t_slice rfl) (fun w => bd_24_0 _ _ _ w)) ?_
 refine lx_set (want rfl) sz_24 rfl (t_agg rfl) rfl rfl rfl B21 (Nat.le_of_ble_eq_true rfl) ?_
 intro w2 Es1 Bs1
 have F2 := F1.set Es1 (by omega)
 have hzs1 := Es1.size
 refine lx_nil ?_
 refine wk_ret ?_
 refine retR1 Tryz.results72 (.cell rfl (run_loadVar_blk ag_24 sz_24 Bs1 rfl rfl)) F2 ?_
 exact rfl

theorem fbool2_ct (b : Bool) (w0 : World) :
  CT Tryz.prog 163 [.bool b] w0 no (fun v _ => v = .string (if b = true then ⟨#[116, 114, 117, 101]⟩ else ⟨#[102, 97, 108, 115, 101]⟩ : ByteArray)) := by
 have F0 := Fr.refl no w0
 refine ct_body Tryz.func163 rfl Tryz.ntmps163 (Nat.le_of_ble_eq_true rfl) ?_
 refine wk_seq ?_
 refine wk_region ?_
 refine lx_value (want rfl) (as_string rfl) ?_
 refine lx_nil ?_
 refine wk_seq ?_
 refine wk_seq ?_
 refine wk_region ?_
 refine lx_value (want rfl) (mv_bool rfl) ?_
 refine lx_split (fun hb => ?_) (fun hb => ?_)
 ·
  refine lx_nil ?_
  refine wk_cond_t rfl ?_
  refine wk_seq ?_
  refine wk_region ?_
  refine lx_value (want rfl) (as_string rfl) ?_
  refine lx_nil ?_
  refine wk_ret ?_
  refine retR1 Tryz.results163 (.tmp (t_string rfl)) F0 ?_
  exact (by rw [hb]; rfl)
 ·
  refine lx_nil ?_
  refine wk_cond_f rfl ?_
  refine wk_skip ?_
  refine wk_seq ?_
  refine wk_region ?_
  refine lx_value (want rfl) (as_string rfl) ?_
  refine lx_nil ?_
  refine wk_ret ?_
  refine retR1 Tryz.results163 (.tmp (t_string rfl)) F0 ?_
  exact (by rw [hb]; rfl)

theorem blen_ct (b : Nat) (ad s : Option Addr) (n c : Nat) (v2 : Value) (w0 : World) (hBs : Blk w0 b [.pointer ad, .slice s n c, v2] 149) :
  CT Tryz.prog 145 [.pointer (some ⟨b, 0, none⟩)] w0 no (fun v _ => v = .int .i64 n) := by
 have hlb := hBs.lt
 have F0 := Fr.refl no w0
 refine ct_body Tryz.func145 rfl Tryz.ntmps145 (Nat.le_of_ble_eq_true rfl) ?_
 refine wk_seq ?_
 refine wk_region ?_
 refine lx_value (want rfl) (as_int rfl) ?_
 refine lx_nil ?_
 refine wk_seq ?_
 refine wk_region ?_
 refine lx_value (want rfl) (mv_pointer rfl) ?_
 refine lx_value (want rfl) (rn_nilCheck rfl) ?_
 refine lx_value (want rfl) (rn_fieldAddr fa_147_1 rfl) ?_
 refine lx_value (want rfl) (rn_load1Blk ag_123 rfl hBs rfl) ?_
 refine lx_value (want rfl) (rn_len Tryz.underlying123 rfl) ?_
 refine lx_value (want rfl) (as_int rfl) ?_
 refine lx_nil ?_
 refine wk_ret ?_
 refine retR1 Tryz.results145 (.tmp (t_int rfl)) F0 ?_
 exact rfl

theorem integer_ct (n : Int) (w0 : World) :
  CT Tryz.prog 108 [.int .i64 n] w0 no (fun v _ => v = .agg #[.int .u8 1, .int .i64 n]) := by
 have F0 := Fr.refl no w0
 refine ct_body Tryz.func108 rfl Tryz.ntmps108 (Nat.le_of_ble_eq_true rfl) ?_
 refine wk_seq ?_
 refine wk_region ?_
 refine lx_new (want rfl) (rn_alloc ze_36) ?_
 intro b1 w1 hb1 Eb1 B1 hlb1
 have F1 := F0.ext Eb1
 have hzb1 := Eb1.size
 refine lx_nil ?_
 refine wk_seq ?_
 refine wk_region ?_
 refine lx_value (want rfl) (mv_int rfl) ?_
 refine lx_value (want rfl) (rn_build2 (t_int rfl) (t_int rfl) (fun w => bd_36_0_1 _ _ w)) ?_
 refine lx_set (want rfl) sz_36 rfl (t_agg rfl) rfl rfl rfl B1 (Nat.le_of_ble_eq_true rfl) ?_
 intro w2 Es1 Bs1
 have F2 := F1.set Es1 (by omega)
 have hzs1 := Es1.size
 refine lx_nil ?_
 refine wk_ret ?_
 refine retR1 Tryz.results108 (.cell rfl (run_loadVar_blk ag_36 sz_36 Bs1 rfl rfl)) F2 ?_
 exact rfl

theorem bad_ct (n : Int) (w0 : World) :
  CT Tryz.prog 141 [.int .i64 n] w0 no (fun v _ => v = .agg #[.int .u8 5, .int .i64 n]) := by
 have F0 := Fr.refl no w0
 refine ct_body Tryz.func141 rfl Tryz.ntmps141 (Nat.le_of_ble_eq_true rfl) ?_
 refine wk_seq ?_
 refine wk_region ?_
 refine lx_new (want rfl) (rn_alloc ze_36) ?_
 intro b1 w1 hb1 Eb1 B1 hlb1
 have F1 := F0.ext Eb1
 have hzb1 := Eb1.size
 refine lx_nil ?_
 refine wk_seq ?_
 refine wk_region ?_
 refine lx_value (want rfl) (mv_int rfl) ?_
 refine lx_value (want rfl) (rn_build2 (t_int rfl) (t_int rfl) (fun w => bd_36_0_1 _ _ w)) ?_
 refine lx_set (want rfl) sz_36 rfl (t_agg rfl) rfl rfl rfl B1 (Nat.le_of_ble_eq_true rfl) ?_
 intro w2 Es1 Bs1
 have F2 := F1.set Es1 (by omega)
 have hzs1 := Es1.size
 refine lx_nil ?_
 refine wk_ret ?_
 refine retR1 Tryz.results141 (.cell rfl (run_loadVar_blk ag_36 sz_36 Bs1 rfl rfl)) F2 ?_
 exact rfl

theorem refbad_ct (n : Int) (w0 : World) :
  CT Tryz.prog 67 [.int .i64 n] w0 no (fun v _ => v = .agg #[.int .u8 5, .int .i64 n]) := by
 have F0 := Fr.refl no w0
 refine ct_body Tryz.func67 rfl Tryz.ntmps67 (Nat.le_of_ble_eq_true rfl) ?_
 refine wk_seq ?_
 refine wk_region ?_
 refine lx_new (want rfl) (rn_alloc ze_36) ?_
 intro b1 w1 hb1 Eb1 B1 hlb1
 have F1 := F0.ext Eb1
 have hzb1 := Eb1.size
 refine lx_nil ?_
 refine wk_seq ?_
 refine wk_region ?_
 refine lx_value (want rfl) (mv_int rfl) ?_
 refine lx_value (want rfl) (rn_build2 (t_int rfl) (t_int rfl) (fun w => bd_36_0_1 _ _ w)) ?_
 refine lx_set (want rfl) sz_36 rfl (t_agg rfl) rfl rfl rfl B1 (Nat.le_of_ble_eq_true rfl) ?_
 intro w2 Es1 Bs1
 have F2 := F1.set Es1 (by omega)
 have hzs1 := Es1.size
 refine lx_nil ?_
 refine wk_ret ?_
 refine retR1 Tryz.results67 (.cell rfl (run_loadVar_blk ag_36 sz_36 Bs1 rfl rfl)) F2 ?_
 exact rfl

theorem int_ct (n : Int) (w0 : World) :
  CT Tryz.prog 41 [.int .i64 n] w0 no (fun v _ => v = .agg #[.int .u8 1, .int .i64 n]) := by
 have F0 := Fr.refl no w0
 refine ct_body Tryz.func41 rfl Tryz.ntmps41 (Nat.le_of_ble_eq_true rfl) ?_
 refine wk_seq ?_
 refine wk_region ?_
 refine lx_new (want rfl) (rn_alloc ze_36) ?_
 intro b1 w1 hb1 Eb1 B1 hlb1
 have F1 := F0.ext Eb1
 have hzb1 := Eb1.size
 refine lx_nil ?_
 refine wk_seq ?_
 refine wk_region ?_
 refine lx_value (want rfl) (mv_int rfl) ?_
 refine lx_value (want rfl) (rn_build2 (t_int rfl) (t_int rfl) (fun w => bd_36_0_1 _ _ w)) ?_
 refine lx_set (want rfl) sz_36 rfl (t_agg rfl) rfl rfl rfl B1 (Nat.le_of_ble_eq_true rfl) ?_
 intro w2 Es1 Bs1
 have F2 := F1.set Es1 (by omega)
 have hzs1 := Es1.size
 refine lx_nil ?_
 refine wk_ret ?_
 refine retR1 Tryz.results41 (.cell rfl (run_loadVar_blk ag_36 sz_36 Bs1 rfl rfl)) F2 ?_
 exact rfl

theorem ref_ct (n : Int) (w0 : World) :
  CT Tryz.prog 61 [.int .i64 n] w0 no (fun v _ => v = .agg #[.int .u8 4, .int .i64 n]) := by
 have F0 := Fr.refl no w0
 refine ct_body Tryz.func61 rfl Tryz.ntmps61 (Nat.le_of_ble_eq_true rfl) ?_
 refine wk_seq ?_
 refine wk_region ?_
 refine lx_new (want rfl) (rn_alloc ze_36) ?_
 intro b1 w1 hb1 Eb1 B1 hlb1
 have F1 := F0.ext Eb1
 have hzb1 := Eb1.size
 refine lx_nil ?_
 refine wk_seq ?_
 refine wk_region ?_
 refine lx_value (want rfl) (mv_int rfl) ?_
 refine lx_value (want rfl) (rn_build2 (t_int rfl) (t_int rfl) (fun w => bd_36_0_1 _ _ w)) ?_
 refine lx_set (want rfl) sz_36 rfl (t_agg rfl) rfl rfl rfl B1 (Nat.le_of_ble_eq_true rfl) ?_
 intro w2 Es1 Bs1
 have F2 := F1.set Es1 (by omega)
 have hzs1 := Es1.size
 refine lx_nil ?_
 refine wk_ret ?_
 refine retR1 Tryz.results61 (.cell rfl (run_loadVar_blk ag_36 sz_36 Bs1 rfl rfl)) F2 ?_
 exact rfl

theorem op3c_ct (a b : Int) (b1 b2 : Nat) (ha : -1000000000 ≤ a ∧ a ≤ 1000000000) (hn : ¬ b = 0) (w0 : World) (B1 : Blk w0 b1 [.int .i64 a] 3) (B2 : Blk w0 b2 [.int .i64 b] 3) :
  CT Tryz.prog 130 [.pointer (some ⟨b1, 0, none⟩), .pointer (some ⟨b2, 0, none⟩)] w0 no (fun v _ => v = .int .i64 (a.tdiv b)) := by
 have F0 := Fr.refl no w0
 refine ct_body Tryz.func130 rfl Tryz.ntmps130 (Nat.le_of_ble_eq_true rfl) ?_
 refine wk_seq ?_
 refine wk_region ?_
 refine lx_value (want rfl) (as_int rfl) ?_
 refine lx_nil ?_
 refine wk_seq ?_
 refine wk_region ?_
 refine lx_value (want rfl) (rn_load1Blk ag_3 rfl B1 rfl) ?_
 refine lx_value (want rfl) (rn_load1Blk ag_3 rfl B2 rfl) ?_
 refine lx_value (want rfl) (rn_tquo rfl rfl ha hn) ?_
 refine lx_value (want rfl) (as_int rfl) ?_
 refine lx_nil ?_
 refine wk_ret ?_
 refine retR1 Tryz.results130 (.tmp (t_int rfl)) F0 ?_
 exact rfl

theorem op4c_ct (a b : Int) (b1 b2 : Nat) (ha : -1000000000 ≤ a ∧ a ≤ 1000000000) (hn : ¬ b = 0) (w0 : World) (B1 : Blk w0 b1 [.int .i64 a] 3) (B2 : Blk w0 b2 [.int .i64 b] 3) :
  CT Tryz.prog 132 [.pointer (some ⟨b1, 0, none⟩), .pointer (some ⟨b2, 0, none⟩)] w0 no (fun v _ => v = .int .i64 (a.tmod b)) := by
 have F0 := Fr.refl no w0
 refine ct_body Tryz.func132 rfl Tryz.ntmps132 (Nat.le_of_ble_eq_true rfl) ?_
 refine wk_seq ?_
 refine wk_region ?_
 refine lx_value (want rfl) (as_int rfl) ?_
 refine lx_nil ?_
 refine wk_seq ?_
 refine wk_region ?_
 refine lx_value (want rfl) (rn_load1Blk ag_3 rfl B1 rfl) ?_
 refine lx_value (want rfl) (rn_load1Blk ag_3 rfl B2 rfl) ?_
 refine lx_value (want rfl) (rn_trem rfl rfl ha hn) ?_
 refine lx_value (want rfl) (as_int rfl) ?_
 refine lx_nil ?_
 refine wk_ret ?_
 refine retR1 Tryz.results132 (.tmp (t_int rfl)) F0 ?_
 exact rfl

theorem isbad_ct (k n : Int) (w0 : World) :
  CT Tryz.prog 139 [.agg #[.int .u8 k, .int .i64 n]] w0 no (fun v _ => v = .bool (decide (k = 5))) := by
 have F0 := Fr.refl no w0
 refine ct_body Tryz.func139 rfl Tryz.ntmps139 (Nat.le_of_ble_eq_true rfl) ?_
 refine wk_seq ?_
 refine wk_region ?_
 refine lx_new (want rfl) (rn_box (t_agg rfl)) ?_
 intro b1 w1 hb1 Eb1 B1 hlb1
 have F1 := F0.ext Eb1
 have hzb1 := Eb1.size
 refine lx_value (want rfl) (as_bool rfl) ?_
 refine lx_nil ?_
 refine wk_seq ?_
 refine wk_region ?_
 refine lx_value (want rfl) (rn_fieldAddr fa_36_0 rfl) ?_
 refine lx_value (want rfl) (rn_load1Blk ag_5 rfl B1 rfl) ?_
 refine lx_value (want rfl) (rn_eql rfl rfl) ?_
 refine lx_value (want rfl) (as_bool rfl) ?_
 refine lx_nil ?_
 refine wk_ret ?_
 refine retR1 Tryz.results139 (.tmp (t_bool rfl)) F1 ?_
 exact rfl

theorem ishole_ct (k n : Int) (w0 : World) :
  CT Tryz.prog 99 [.agg #[.int .u8 k, .int .i64 n]] w0 no (fun v _ => v = .bool (decide (k = 0))) := by
 have F0 := Fr.refl no w0
 refine ct_body Tryz.func99 rfl Tryz.ntmps99 (Nat.le_of_ble_eq_true rfl) ?_
 refine wk_seq ?_
 refine wk_region ?_
 refine lx_new (want rfl) (rn_box (t_agg rfl)) ?_
 intro b1 w1 hb1 Eb1 B1 hlb1
 have F1 := F0.ext Eb1
 have hzb1 := Eb1.size
 refine lx_value (want rfl) (as_bool rfl) ?_
 refine lx_nil ?_
 refine wk_seq ?_
 refine wk_region ?_
 refine lx_value (want rfl) (rn_fieldAddr fa_36_0 rfl) ?_
 refine lx_value (want rfl) (rn_load1Blk ag_5 rfl B1 rfl) ?_
 refine lx_value (want rfl) (rn_eql rfl rfl) ?_
 refine lx_value (want rfl) (as_bool rfl) ?_
 refine lx_nil ?_
 refine wk_ret ?_
 refine retR1 Tryz.results99 (.tmp (t_bool rfl)) F1 ?_
 exact rfl

theorem hole_ct (w0 : World) :
  CT Tryz.prog 105 [] w0 no (fun v _ => v = .agg #[.int .u8 0, .int .i64 0]) := by
 have F0 := Fr.refl no w0
 refine ct_body Tryz.func105 rfl Tryz.ntmps105 (Nat.le_of_ble_eq_true rfl) ?_
 refine wk_seq ?_
 refine wk_region ?_
 refine lx_new (want rfl) (rn_alloc ze_36) ?_
 intro b1 w1 hb1 Eb1 B1 hlb1
 have F1 := F0.ext Eb1
 have hzb1 := Eb1.size
 refine lx_nil ?_
 refine wk_seq ?_
 refine wk_region ?_
 refine lx_value (want rfl) (rn_build1 (t_int rfl) (fun w => bd_36_0 _ w)) ?_
 refine lx_set (want rfl) sz_36 rfl (t_agg rfl) rfl rfl rfl B1 (Nat.le_of_ble_eq_true rfl) ?_
 intro w2 Es1 Bs1
 have F2 := F1.set Es1 (by omega)
 have hzs1 := Es1.size
 refine lx_nil ?_
 refine wk_ret ?_
 refine retR1 Tryz.results105 (.cell rfl (run_loadVar_blk ag_36 sz_36 Bs1 rfl rfl)) F2 ?_
 exact rfl

theorem none_ct (w0 : World) :
  CT Tryz.prog 106 [] w0 no (fun v _ => v = .agg #[.int .u8 3, .int .i64 0]) := by
 have F0 := Fr.refl no w0
 refine ct_body Tryz.func106 rfl Tryz.ntmps106 (Nat.le_of_ble_eq_true rfl) ?_
 refine wk_seq ?_
 refine wk_region ?_
 refine lx_new (want rfl) (rn_alloc ze_36) ?_
 intro b1 w1 hb1 Eb1 B1 hlb1
 have F1 := F0.ext Eb1
 have hzb1 := Eb1.size
 refine lx_nil ?_
 refine wk_seq ?_
 refine wk_region ?_
 refine lx_value (want rfl) (rn_build1 (t_int rfl) (fun w => bd_36_0 _ w)) ?_
 refine lx_set (want rfl) sz_36 rfl (t_agg rfl) rfl rfl rfl B1 (Nat.le_of_ble_eq_true rfl) ?_
 intro w2 Es1 Bs1
 have F2 := F1.set Es1 (by omega)
 have hzs1 := Es1.size
 refine lx_nil ?_
 refine wk_ret ?_
 refine retR1 Tryz.results106 (.cell rfl (run_loadVar_blk ag_36 sz_36 Bs1 rfl rfl)) F2 ?_
 exact rfl

theorem nil_ct (w0 : World) :
  CT Tryz.prog 66 [] w0 no (fun v _ => v = .agg #[.int .u8 3, .int .i64 0]) := by
 have F0 := Fr.refl no w0
 refine ct_body Tryz.func66 rfl Tryz.ntmps66 (Nat.le_of_ble_eq_true rfl) ?_
 refine wk_seq ?_
 refine wk_region ?_
 refine lx_new (want rfl) (rn_alloc ze_36) ?_
 intro b1 w1 hb1 Eb1 B1 hlb1
 have F1 := F0.ext Eb1
 have hzb1 := Eb1.size
 refine lx_nil ?_
 refine wk_seq ?_
 refine wk_region ?_
 refine lx_value (want rfl) (rn_build1 (t_int rfl) (fun w => bd_36_0 _ w)) ?_
 refine lx_set (want rfl) sz_36 rfl (t_agg rfl) rfl rfl rfl B1 (Nat.le_of_ble_eq_true rfl) ?_
 intro w2 Es1 Bs1
 have F2 := F1.set Es1 (by omega)
 have hzs1 := Es1.size
 refine lx_nil ?_
 refine wk_ret ?_
 refine retR1 Tryz.results66 (.cell rfl (run_loadVar_blk ag_36 sz_36 Bs1 rfl rfl)) F2 ?_
 exact rfl

end Go.Proofs.YtnhgfmbmfjmonaaGreatDoor

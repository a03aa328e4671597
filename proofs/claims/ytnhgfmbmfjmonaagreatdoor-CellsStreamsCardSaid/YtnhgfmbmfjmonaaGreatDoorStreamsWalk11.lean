/- What functions compute: repeat, psame, arevalues, isthere, divided, pdraw1, op2, op0, op1, isstruct1, op5. -/
import Derived.Test.YtnhgfmbmfjmonaaGreatDoorStreamsFacts
import Derived.Test.YtnhgfmbmfjmonaaGreatDoorStreamsPre
import Derived.Test.YtnhgfmbmfjmonaaGreatDoorStreamsWalk2
import Derived.Test.YtnhgfmbmfjmonaaGreatDoorStreamsWalk3
import Derived.Test.YtnhgfmbmfjmonaaGreatDoorStreamsWalk6
import Derived.Test.YtnhgfmbmfjmonaaGreatDoorStreamsWalk7
set_option maxRecDepth 100000
set_option linter.unusedVariables false
set_option linter.unusedSimpArgs false
namespace Go.Proofs.YtnhgfmbmfjmonaaGreatDoor
open Go Go.RowKit Go.Mix Go.Eng
theorem repeat_ct (n : Nat) (hn : n ≤ 100) (bx : Nat) (w0 : World) (BX : Blk w0 bx hzC 36) :
  CT Tryz.prog 152 [.slice (some ⟨bx, 0, none⟩) 1 1, .int .i64 n] w0 no (fun v w => ∃ b4, v = .slice (some ⟨b4, 0, none⟩) n n ∧ w0.heap.size ≤ b4 ∧ Blk w b4 ((List.replicate n hzC).flatten) 36) := by
 have hlx := BX.lt
 have hmn : Nat.min 1 n ≤ 1 := Nat.min_le_left _ _
 have hmn2 : Nat.min 1 n ≤ n := Nat.min_le_right _ _
 have F0 := Fr.refl no w0
 refine ct_body Tryz.func152 rfl Tryz.ntmps152 (Nat.le_of_ble_eq_true rfl) ?_
 refine wk_seq ?_
 refine wk_region ?_
 refine lx_value (want rfl) (as_slice rfl) ?_
 refine lx_nil ?_
 refine wk_seq ?_
 refine wk_seq ?_
 refine wk_region ?_
 refine lx_value (want rfl) (mv_int rfl) ?_
 refine lx_value (want rfl) (rn_lss rfl rfl) ?_
 refine lx_dec_f ((by omega)) ?_
 refine lx_nil ?_
 refine wk_cond_f rfl ?_
 refine wk_skip ?_
 refine wk_seq ?_
 refine wk_region ?_
 refine lx_value (want rfl) (mv_slice rfl) ?_
 refine lx_value (want rfl) (rn_len Tryz.underlying30 rfl) ?_
 refine lx_value (want rfl) (rn_conv Tryz.underlying3 Tryz.underlying100 rfl (wrapU64_nat (by omega))) ?_
 refine lx_value (want rfl) (mv_int rfl) ?_
 refine lx_value (want rfl) (rn_conv Tryz.underlying3 Tryz.underlying100 rfl (wrapU64_nat (by omega))) ?_
 refine lx_call (want rfl) (ent_func cf_160 (argsC (t_int rfl) (argsC (t_int rfl) args0))) (mul_ct n hn w0) ?_
 rintro _ w1 E1 rfl
 have F1 := F0.ext E1
 have hz1 := E1.size
 refine lx_value (want rfl) (mv_tuple rfl) ?_
 refine lx_value (want rfl) (rn_extract rfl rfl) ?_
 refine lx_value (want rfl) (rn_extract rfl rfl) ?_
 refine lx_value (want rfl) (as_int rfl) ?_
 refine lx_value (want rfl) (as_int rfl) ?_
 refine lx_nil ?_
 refine wk_seq ?_
 refine wk_seq ?_
 refine wk_region ?_
 refine lx_value (want rfl) (mv_int rfl) ?_
 refine lx_value (want rfl) (rn_gtr rfl rfl) ?_
 refine lx_dec_f ((by omega)) ?_
 refine lx_value (want rfl) (mv_bool rfl) ?_
 refine lx_value (want_if (j := 2) (d := 23) (x := false) (y := false) rfl rfl (by decide) rfl) (mv_int rfl) ?_
 refine lx_value (want_if (j := 2) (d := 23) (x := false) (y := false) rfl rfl (by decide) rfl) (rn_gtr rfl rfl) ?_
 refine lx_dec_f ((by omega)) ?_
 refine lx_value (want rfl) (pick_f rfl rfl) ?_
 refine lx_nil ?_
 refine wk_cond_f rfl ?_
 refine wk_skip ?_
 refine wk_seq ?_
 refine wk_region ?_
 refine lx_value (want rfl) (mv_int rfl) ?_
 refine lx_value (want rfl) (rn_conv Tryz.underlying100 Tryz.underlying3 rfl (wrap64_nat (by omega))) ?_
 refine lx_newS (want rfl) (rn_makeSliceN (n := n) Tryz.underlying30 ti_36 rfl (by decide) rfl rfl rfl (by omega)) ?_
 intro b21 w2 hb21 Eb21 B21 hlb21
 have F2 := F1.ext Eb21
 have hzb21 := Eb21.size
 refine lx_value (want rfl) (as_slice rfl) ?_
 refine lx_nil ?_
 refine wk_seq ?_
 refine wk_region ?_
 refine lx_value (want rfl) (mv_slice rfl) ?_
 refine lx_value (want rfl) (mv_slice rfl) ?_
 refine lx_value (want rfl) (rn_copySame (k := Nat.min 1 n) (cs' := ((List.replicate (Nat.min 1 n) hzC).flatten)) Tryz.underlying30 sz_36 rfl rfl rfl B21 (rep_len _) (rep_seg0 hmn2) (Nat.zero_le _) (rep_src1 ((BX.ext E1).ext Eb21) hmn) (rep_one _)) ?_
 refine lx_value (want rfl) (as_int rfl) ?_
 refine lx_nil ?_
 refine wk_seq ?_
 refine wk_block ?_
 refine wk_loopA [8, 34, 35, 36, 37, 38, 39, 40, 41, 42, 43, 44, 45, 46] no (fun nM ρ w => ∃ (k : Nat), nM = n - k ∧ ρ 8 = .int .i64 (k : Nat) ∧ (k ≤ n) ∧ (0 < n → 0 < k)) _ ⟨(Nat.min 1 n), rfl, rfl, hmn2, (fun h => by have : Nat.min 1 n = 1 := Nat.min_eq_left (by omega); omega)⟩ ?_
 rintro n1 ρ1 w3 A1 EL1 ⟨k, rfl, hs1_8, hk, hk1⟩
 have F3 := F2.ext EL1
 have hzL1 := EL1.size
 refine wk_seq ?_
 refine wk_seq ?_
 refine wk_region ?_
 refine lx_value (want rfl) (mv_int hs1_8) ?_
 refine lx_value (want rfl) (mv_slice (A1.at 7 rfl rfl)) ?_
 refine lx_value (want rfl) (rn_len Tryz.underlying30 rfl) ?_
 refine lx_value (want rfl) (rn_lss rfl rfl) ?_
 refine lx_dec (fun hlt => ?_) (fun hlt => ?_)
 ·
  refine lx_nil ?_
  refine wk_cond_t rfl ?_
  refine wk_skip ?_
  refine wk_block ?_
  refine wk_mix 8 (fun _ => .none) (by kernel_rfl) (by kernel_rfl) (fun kS G hk => by cases hk) (fun kS s y G hk => by cases hk) ?_
  simp only [List.take_succ_cons, List.take_zero, List.take_nil, List.drop_succ_cons, List.drop_zero, List.drop_nil]
  refine mx_calm rfl (want rfl) (fun u1 eu1 fu1 => mv_int hs1_8) ?_
  refine mx_calm rfl (want rfl) (fun u2 eu2 fu2 => mv_slice (A1.at 7 rfl rfl)) ?_
  refine mx_calm rfl (want rfl) (fun u3 eu3 fu3 => mv_int hs1_8) ?_
  refine mx_calm (v := .slice (some ⟨b21, k * 2, none⟩) (n - k) (n - k)) rfl (want rfl) (fun u4 eu4 fu4 => (by rw [← drop_some (b := b21) (show k < n by omega)]; exact rn_sliceFrom k Tryz.underlying30 sz_36 rfl rfl rfl (by omega))) ?_
  refine mx_calm rfl (want rfl) (fun u5 eu5 fu5 => mv_slice (A1.at 7 rfl rfl)) ?_
  refine mx_calm rfl (want rfl) (fun u6 eu6 fu6 => mv_int hs1_8) ?_
  refine mx_calm (v := .slice (some ⟨b21, 0, none⟩) k n) rfl (want rfl) (fun u7 eu7 fu7 => rn_sliceTo k Tryz.underlying30 sz_36 rfl rfl rfl (by omega)) ?_
  refine mx_calm (v := .int .i64 ((Nat.min k (n - k) : Nat) : Int)) rfl (want rfl) (fun u8 eu8 fu8 => rn_copySame (k := Nat.min k (n - k)) (cs' := ((List.replicate (Nat.min k (n - k)) hzC).flatten)) Tryz.underlying30 sz_36 rfl rfl rfl ((B21.ext EL1).ext ((ext_drawn _).trans' eu8)) (rep_len _) (rep_seg (by have : Nat.min k (n - k) ≤ n - k := Nat.min_le_right _ _; omega)) (by rw [rep_len]; omega) (rep_srcN ((B21.ext EL1).ext ((ext_drawn _).trans' eu8)) (by have : Nat.min k (n - k) ≤ k := Nat.min_le_left _ _; omega)) (rep_one _)) ?_
  refine mx_nil (fun w4 E2' H1 HS => ?_)
  have E2 := (ext_drawn _).trans' E2'
  have F4 := F3.ext E2
  have hz2 := E2.size
  refine lx_value (want rfl) (rn_addN rfl rfl (by have : Nat.min k (n - k) ≤ n - k := Nat.min_le_right _ _; omega)) ?_
  refine lx_value (want rfl) (as_int rfl) ?_
  refine lx_nil ?_
  exact ⟨rfl, ((((((((((((((A1.up rfl _).up rfl _).up rfl _).up rfl _).up rfl _).up rfl _).up rfl _).up rfl _).up rfl _).up rfl _).up rfl _).up rfl _).up rfl _).up rfl _), (Fr.ext EL1 E2), _, (by have h1 := hk1 (by omega); have h2 : 0 < Nat.min k (n - k) := Nat.lt_min.2 ⟨h1, by omega⟩; have : Nat.min k (n - k) ≤ n - k := Nat.min_le_right _ _; omega), (k + Nat.min k (n - k)), rfl, rfl, by have : Nat.min k (n - k) ≤ n - k := Nat.min_le_right _ _; omega, (fun h => by have := hk1 h; omega)⟩
 ·
  refine lx_nil ?_
  refine wk_cond_f rfl ?_
  refine wk_exit ?_
  refine wk_seq ?_
  refine wk_region ?_
  refine lx_value (want rfl) (mv_slice (A1.at 7 rfl rfl)) ?_
  refine lx_value (want rfl) (as_slice rfl) ?_
  refine lx_nil ?_
  refine wk_ret ?_
  refine retR1 Tryz.results152 (.tmp (t_slice rfl)) F3 ?_
  exact ⟨_, rfl, by omega, (B21.ext EL1)⟩

theorem psame_ct (p : Pic) (sv : Option Addr) (cv : Nat) (sk : Option Addr) (ck : Nat) (G : Nat → Prop) (q : Pic) (sv2 : Option Addr) (cv2 : Nat) (sk2 : Option Addr) (ck2 : Nat) (G2 : Nat → Prop) (hB : Bp q) (w0 : World) (hv : VlS G w0 sv p.1) (hk : VvS G w0 sk p.2) (hv2 : VlS G2 w0 sv2 q.1) (hk2 : VvS G2 w0 sk2 q.2) :
  CT Tryz.prog 80 [.agg #[.slice sv p.1.length cv, .slice sk p.2.length ck], .agg #[.slice sv2 q.1.length cv2, .slice sk2 q.2.length ck2]] w0 no (fun v _ => v = .bool (decide (p = q))) := by
 have hB1 := hB.1
 have hB2 := hB.2.1
 have F0 := Fr.refl no w0
 refine ct_body Tryz.func80 rfl Tryz.ntmps80 (Nat.le_of_ble_eq_true rfl) ?_
 refine wk_seq ?_
 refine wk_region ?_
 refine lx_new (want rfl) (rn_box (t_agg rfl)) ?_
 intro b1 w1 hb1 Eb1 B1 hlb1
 have F1 := F0.ext Eb1
 have hzb1 := Eb1.size
 refine lx_new (want rfl) (rn_box (t_agg rfl)) ?_
 intro b2 w2 hb2 Eb2 B2 hlb2
 have F2 := F1.ext Eb2
 have hzb2 := Eb2.size
 refine lx_value (want rfl) (as_bool rfl) ?_
 refine lx_nil ?_
 refine wk_seq ?_
 refine wk_region ?_
 refine lx_value (want rfl) (rn_fieldAddr fa_45_0 rfl) ?_
 refine lx_value (want rfl) (rn_load1Blk ag_30 rfl (B1.ext Eb2) rfl) ?_
 refine lx_value (want rfl) (rn_fieldAddr fa_45_0 rfl) ?_
 refine lx_value (want rfl) (rn_load1Blk ag_30 rfl B2 rfl) ?_
 refine lx_call (want rfl) (ent_func cf_122 (argsC (t_slice rfl) (argsC (t_slice rfl) args0))) (equalv_ct p.1 q.1 _ _ _ _ _ _ w2 (hv.fr (vl_stab _) F2 (fun _ _ h => h)) (hv2.fr (vl_stab _) F2 (fun _ _ h => h)) hB1) ?_
 rintro _ w3 E1 rfl
 have F3 := F2.ext E1
 have hz1 := E1.size
 refine lx_split (fun h1 => ?_) (fun h1 => ?_)
 ·
  refine lx_value (want rfl) (mv_bool rfl) ?_
  refine lx_value (want_if (j := 5) (d := 10) (x := true) (y := true) rfl rfl (by decide) rfl) (rn_fieldAddr fa_45_1 rfl) ?_
  refine lx_value (want_if (j := 5) (d := 10) (x := true) (y := true) rfl rfl (by decide) rfl) (rn_load1Blk ag_43 rfl ((B1.ext Eb2).ext E1) rfl) ?_
  refine lx_value (want_if (j := 5) (d := 10) (x := true) (y := true) rfl rfl (by decide) rfl) (rn_fieldAddr fa_45_1 rfl) ?_
  refine lx_value (want_if (j := 5) (d := 10) (x := true) (y := true) rfl rfl (by decide) rfl) (rn_load1Blk ag_43 rfl (B2.ext E1) rfl) ?_
  refine lx_call (want_if (j := 5) (d := 10) (x := true) (y := true) rfl rfl (by decide) rfl) (ent_func cf_123 (argsC (t_slice rfl) (argsC (t_slice rfl) (argsC rfl args0)))) (equalfv_ct p.2 q.2 _ _ _ _ _ _ w3 (hk.fr (vv_stab _) F3 (fun _ _ h => h)) (hk2.fr (vv_stab _) F3 (fun _ _ h => h)) hB2 hB.2.2) ?_
  rintro _ w4 E2 rfl
  have F4 := F3.ext E2
  have hz2 := E2.size
  refine lx_value (want rfl) (pick_t rfl rfl) ?_
  refine lx_value (want rfl) (as_bool rfl) ?_
  refine lx_nil ?_
  refine wk_ret ?_
  refine retR1 Tryz.results80 (.tmp (t_bool rfl)) F4 ?_
  exact pic_dec1 (of_decide_eq_true h1)
 ·
  refine lx_value (want rfl) (mv_bool rfl) ?_
  refine lx_skip (want_if (j := 5) (d := 10) (x := true) (y := false) rfl rfl (by decide) rfl) ?_
  refine lx_skip (want_if (j := 5) (d := 10) (x := true) (y := false) rfl rfl (by decide) rfl) ?_
  refine lx_skip (want_if (j := 5) (d := 10) (x := true) (y := false) rfl rfl (by decide) rfl) ?_
  refine lx_skip (want_if (j := 5) (d := 10) (x := true) (y := false) rfl rfl (by decide) rfl) ?_
  refine lx_skip (want_if (j := 5) (d := 10) (x := true) (y := false) rfl rfl (by decide) rfl) ?_
  refine lx_value (want rfl) (pick_f rfl rfl) ?_
  refine lx_value (want rfl) (as_bool rfl) ?_
  refine lx_nil ?_
  refine wk_ret ?_
  refine retR1 Tryz.results80 (.tmp (t_bool rfl)) F3 ?_
  exact no_dec (fun h => of_decide_eq_false h1 (by rw [h]))

theorem arevalues_ct (l : List Vl) (s : Option Addr) (c : Nat) (F : Nat → Prop) (m : Nat) (w0 : World) (hl : VlS F w0 s l) (hb : l.length ≤ 1048576) :
  CT Tryz.prog 77 [.slice s l.length c, .int .i64 m] w0 no (fun v _ => v = .bool (l.all fun v => isVal v m)) := by
 have F0 := Fr.refl no w0
 refine ct_body Tryz.func77 rfl Tryz.ntmps77 (Nat.le_of_ble_eq_true rfl) ?_
 refine wk_seq ?_
 refine wk_region ?_
 refine lx_value (want rfl) (as_bool rfl) ?_
 refine lx_nil ?_
 refine wk_seq ?_
 refine wk_seq ?_
 refine wk_region ?_
 refine lx_value (want rfl) (as_int rfl) ?_
 refine lx_nil ?_
 refine wk_block ?_
 refine wk_loopA [4, 5, 6, 7, 8, 9, 10, 11, 12, 13, 14, 15, 16, 17, 18] no (fun nM ρ w => ∃ (i : Nat), nM = l.length - i ∧ ρ 5 = .int .i64 i ∧ (i ≤ l.length) ∧ ((l.take i).all (fun v => isVal v m) = true)) _ ⟨0, rfl, rfl, by omega, rfl⟩ ?_
 rintro n1 ρ1 w1 A1 EL1 ⟨i, rfl, hs1_5, hi, hq⟩
 have F1 := F0.ext EL1
 have hzL1 := EL1.size
 refine wk_seq ?_
 refine wk_seq ?_
 refine wk_region ?_
 refine lx_value (want rfl) (mv_int hs1_5) ?_
 refine lx_value (want rfl) (mv_slice (A1.at 0 rfl rfl)) ?_
 refine lx_value (want rfl) (rn_len Tryz.underlying30 rfl) ?_
 refine lx_value (want rfl) (rn_lss rfl rfl) ?_
 refine lx_dec (fun hlt => ?_) (fun hlt => ?_)
 ·
  obtain ⟨x, hx⟩ := getx hlt
  obtain ⟨bx, ox, rfl, _, hcx⟩ := hl i x hx
  refine lx_nil ?_
  refine wk_cond_t rfl ?_
  refine wk_skip ?_
  refine wk_seq ?_
  refine wk_block ?_
  refine wk_seq ?_
  refine wk_region ?_
  refine lx_value (want rfl) (mv_slice (A1.at 0 rfl rfl)) ?_
  refine lx_value (want rfl) (mv_int hs1_5) ?_
  refine lx_value (want rfl) (rn_index _ Tryz.underlying30 sz_36 rfl rfl rfl (by omega)) ?_
  refine lx_value (want rfl) (rn_load2 ag_36 sz_36 rfl (F1.cell (fun h => h) (hcx 0 _ rfl)) (F1.cell (fun h => h) (hcx 1 _ rfl))) ?_
  refine lx_value (want rfl) (mv_int (A1.at 1 rfl rfl)) ?_
  refine lx_call (want rfl) (ent_func cf_35 (argsC (t_agg rfl) (argsC (t_int rfl) args0))) (refisvalue_ct _ _ _ w1) ?_
  rintro _ w2 E1 rfl
  have F2 := F1.ext E1
  have hz1 := E1.size
  refine lx_split (fun hv => ?_) (fun hv => ?_)
  ·
   refine lx_value (want rfl) (rn_not rfl) ?_
   refine lx_nil ?_
   refine wk_cond_f rfl ?_
   refine wk_skip ?_
   refine wk_region ?_
   refine lx_value (want rfl) (mv_int hs1_5) ?_
   refine lx_value (want rfl) (rn_add rfl rfl (by omega)) ?_
   refine lx_value (want rfl) (as_int rfl) ?_
   refine lx_nil ?_
   exact ⟨rfl, ((((((((((((((A1.up rfl _).up rfl _).up rfl _).up rfl _).up rfl _).up rfl _).up rfl _).up rfl _).up rfl _).up rfl _).up rfl _).up rfl _).up rfl _).up rfl _), (Fr.ext EL1 E1), _, (by omega), i + 1, rfl, rfl, by omega, (all_step hq hx (by rw [← isValR_nat]; exact hv))⟩
  ·
   refine lx_value (want rfl) (rn_not rfl) ?_
   refine lx_nil ?_
   refine wk_cond_t rfl ?_
   refine wk_seq ?_
   refine wk_region ?_
   refine lx_value (want rfl) (as_bool rfl) ?_
   refine lx_nil ?_
   refine wk_ret ?_
   refine retR1 Tryz.results77 (.tmp (t_bool rfl)) F2 ?_
   exact all_val hx hv
 ·
  refine lx_nil ?_
  refine wk_cond_f rfl ?_
  refine wk_exit ?_
  refine wk_seq ?_
  refine wk_region ?_
  refine lx_value (want rfl) (as_bool rfl) ?_
  refine lx_nil ?_
  refine wk_ret ?_
  refine retR1 Tryz.results77 (.tmp (t_bool rfl)) F1 ?_
  exact congrArg Value.bool (all_end hq hlt).symm

theorem isthere_ct (k n : Int) (m : Nat) (hm : m ≤ 1048576) (w0 : World) :
  CT Tryz.prog 114 [.agg #[.int .u8 k, .int .i64 n], .int .i64 m] w0 no (fun v _ => v = .bool (decide (k ≠ 0) && isVal (k, n) m)) := by
 have F0 := Fr.refl no w0
 refine ct_body Tryz.func114 rfl Tryz.ntmps114 (Nat.le_of_ble_eq_true rfl) ?_
 refine wk_seq ?_
 refine wk_region ?_
 refine lx_new (want rfl) (rn_box (t_agg rfl)) ?_
 intro b1 w1 hb1 Eb1 B1 hlb1
 have F1 := F0.ext Eb1
 have hzb1 := Eb1.size
 refine lx_value (want rfl) (as_bool rfl) ?_
 refine lx_nil ?_
 refine wk_seq ?_
 refine wk_region ?_
 refine lx_value (want rfl) (rn_loadBlk ag_36 sz_36 rfl B1 rfl rfl) ?_
 refine lx_call (want rfl) (ent_func cf_99 (argsC (t_agg rfl) args0)) (ishole_ct _ _ w1) ?_
 rintro _ w2 E1 rfl
 have F2 := F1.ext E1
 have hz1 := E1.size
 refine lx_split (fun h0 => ?_) (fun h0 => ?_)
 ·
  refine lx_value (want rfl) (rn_not rfl) ?_
  refine lx_value (want rfl) (mv_bool rfl) ?_
  refine lx_skip (want_if (j := 3) (d := 8) (x := true) (y := false) rfl rfl (by decide) rfl) ?_
  refine lx_skip (want_if (j := 3) (d := 8) (x := true) (y := false) rfl rfl (by decide) rfl) ?_
  refine lx_skip (want_if (j := 3) (d := 8) (x := true) (y := false) rfl rfl (by decide) rfl) ?_
  refine lx_value (want rfl) (pick_f rfl rfl) ?_
  refine lx_value (want rfl) (as_bool rfl) ?_
  refine lx_nil ?_
  refine wk_ret ?_
  refine retR1 Tryz.results114 (.tmp (t_bool rfl)) F2 ?_
  exact there_f (of_decide_eq_true h0)
 ·
  refine lx_value (want rfl) (rn_not rfl) ?_
  refine lx_value (want rfl) (mv_bool rfl) ?_
  refine lx_value (want_if (j := 3) (d := 8) (x := true) (y := true) rfl rfl (by decide) rfl) (rn_loadBlk ag_36 sz_36 rfl (B1.ext E1) rfl rfl) ?_
  refine lx_value (want_if (j := 3) (d := 8) (x := true) (y := true) rfl rfl (by decide) rfl) (mv_int rfl) ?_
  refine lx_call (want_if (j := 3) (d := 8) (x := true) (y := true) rfl rfl (by decide) rfl) (ent_func cf_75 (argsC (t_agg rfl) (argsC (t_int rfl) args0))) (isvalue_ct _ _ _ (by omega) w2) ?_
  rintro _ w3 E2 rfl
  have F3 := F2.ext E2
  have hz2 := E2.size
  refine lx_value (want rfl) (pick_t rfl rfl) ?_
  refine lx_value (want rfl) (as_bool rfl) ?_
  refine lx_nil ?_
  refine wk_ret ?_
  refine retR1 Tryz.results114 (.tmp (t_bool rfl)) F3 ?_
  exact there_t (of_decide_eq_false h0)

theorem divided_ct (b z : Int) (fid : FuncId) (caps : List Value) (hcf : ∀ args w, (callFunc fid args).run Tryz.prog w = .ok (.enter fid args) w) (w0 : World) (hn : ¬ b = 0 → ∀ w, Ext w0 w → CT Tryz.prog fid caps w no (fun v _ => v = .int .i64 z)) :
  CT Tryz.prog 129 [.int .i64 b, .func (.func fid) #[] caps.toArray] w0 no (fun v _ => v = vlV (divV b z)) := by
 have F0 := Fr.refl no w0
 refine ct_body Tryz.func129 rfl Tryz.ntmps129 (Nat.le_of_ble_eq_true rfl) ?_
 refine wk_seq ?_
 refine wk_region ?_
 refine lx_new (want rfl) (rn_alloc ze_36) ?_
 intro b1 w1 hb1 Eb1 B1 hlb1
 have F1 := F0.ext Eb1
 have hzb1 := Eb1.size
 refine lx_nil ?_
 refine wk_seq ?_
 refine wk_seq ?_
 refine wk_region ?_
 refine lx_value (want rfl) (mv_int rfl) ?_
 refine lx_value (want rfl) (rn_eql rfl rfl) ?_
 refine lx_dec (fun h0 => ?_) (fun h0 => ?_)
 ·
  refine lx_nil ?_
  refine wk_cond_t rfl ?_
  refine wk_seq ?_
  refine wk_region ?_
  refine lx_call (want rfl) (ent_func cf_141 (argsC (t_int rfl) args0)) (bad_ct _ w1) ?_
  rintro _ w2 E1 rfl
  have F2 := F1.ext E1
  have hz1 := E1.size
  refine lx_set (want rfl) sz_36 rfl (t_agg rfl) rfl rfl rfl (B1.ext E1) (Nat.le_of_ble_eq_true rfl) ?_
  intro w3 Es1 Bs1
  have F3 := F2.set Es1 (by omega)
  have hzs1 := Es1.size
  refine lx_nil ?_
  refine wk_ret ?_
  refine retR1 Tryz.results129 (.cell rfl (run_loadVar_blk ag_36 sz_36 Bs1 rfl rfl)) F3 ?_
  exact dv_0 h0
 ·
  refine lx_nil ?_
  refine wk_cond_f rfl ?_
  refine wk_skip ?_
  refine wk_seq ?_
  refine wk_region ?_
  refine lx_value (want rfl) (mv_func rfl) ?_
  refine lx_call (want rfl) (ent_value hcf rfl args0) (hn h0 w1 F1) ?_
  rintro _ w2 E2 rfl
  have F4 := F1.ext E2
  have hz2 := E2.size
  refine lx_call (want rfl) (ent_func cf_125 (argsC (t_int rfl) args0)) (sized_ct _ w2) ?_
  rintro _ w3 E3 rfl
  have F5 := F4.ext E3
  have hz3 := E3.size
  refine lx_set (want rfl) sz_36 rfl (t_agg rfl) rfl rfl rfl ((B1.ext E2).ext E3) (Nat.le_of_ble_eq_true rfl) ?_
  intro w4 Es2 Bs2
  have F6 := F5.set Es2 (by omega)
  have hzs2 := Es2.size
  refine lx_nil ?_
  refine wk_ret ?_
  refine retR1 Tryz.results129 (.cell rfl (run_loadVar_blk ag_36 sz_36 Bs2 rfl rfl)) F6 ?_
  exact dv_1 h0

theorem pdraw1_ct (z : Vl) (n : Nat) (hn : n ≤ 1048576) (bp b : Nat) (sM : Option Addr) (cM : Nat) (wt : Int) (stM : Option Addr) (nt ctM : Nat) (w0 : World) (BP : Blk w0 bp [.pointer (some ⟨b, 0, none⟩)] 108) (BM : Blk w0 b [.slice sM n cM, .int .i64 wt, .slice stM nt ctM] 113) :
  CT Tryz.prog 74 [vlV z, .pointer (some ⟨bp, 0, none⟩)] w0 no (fun v _ => v = .bool (!isVal z n)) := by
 have F0 := Fr.refl no w0
 refine ct_body Tryz.func74 rfl Tryz.ntmps74 (Nat.le_of_ble_eq_true rfl) ?_
 refine wk_seq ?_
 refine wk_region ?_
 refine lx_new (want rfl) (rn_box (t_agg rfl)) ?_
 intro b21 w1 hb21 Eb21 B21 hlb21
 have F1 := F0.ext Eb21
 have hzb21 := Eb21.size
 refine lx_value (want rfl) (as_bool rfl) ?_
 refine lx_nil ?_
 refine wk_seq ?_
 refine wk_mix 6 (fun _ => .none) (by kernel_rfl) (by kernel_rfl) (fun kS G hk => by cases hk) (fun kS s y G hk => by cases hk) ?_
 simp only [List.take_succ_cons, List.take_zero, List.take_nil, List.drop_succ_cons, List.drop_zero, List.drop_nil]
 refine mx_calm rfl (want rfl) (fun u1 eu1 fu1 => rn_loadBlk ag_36 sz_36 rfl (B21.ext ((ext_drawn _).trans' eu1)) rfl rfl) ?_
 refine mx_calm rfl (want rfl) (fun u2 eu2 fu2 => rn_load1Blk ag_108 rfl ((BP.ext Eb21).ext ((ext_drawn _).trans' eu2)) rfl) ?_
 refine mx_calm rfl (want rfl) (fun u3 eu3 fu3 => rn_nilCheck rfl) ?_
 refine mx_calm rfl (want rfl) (fun u4 eu4 fu4 => rn_fieldAddr fa_113_0 rfl) ?_
 refine mx_calm rfl (want rfl) (fun u5 eu5 fu5 => rn_load1Blk ag_22 rfl ((BM.ext Eb21).ext ((ext_drawn _).trans' eu5)) rfl) ?_
 refine mx_calm rfl (want rfl) (fun u6 eu6 fu6 => rn_len Tryz.underlying22 rfl) ?_
 refine mx_nil (fun w2 E1' H1 HS => ?_)
 have E1 := (ext_drawn _).trans' E1'
 have F2 := F1.ext E1
 have hz1 := E1.size
 refine lx_call (want rfl) (ent_func cf_75 (argsC (t_agg rfl) (argsC (t_int rfl) args0))) (isvalue_ct z.1 z.2 n hn w2) ?_
 rintro _ w3 E2 rfl
 have F3 := F2.ext E2
 have hz2 := E2.size
 refine lx_value (want rfl) (rn_not rfl) ?_
 refine lx_value (want rfl) (as_bool rfl) ?_
 refine lx_nil ?_
 refine wk_ret ?_
 refine retR1 Tryz.results74 (.tmp (t_bool rfl)) F3 ?_
 exact rfl

theorem op2_ct (a b : Int) (ha : -1000000000 ≤ a ∧ a ≤ 1000000000) (hb : -1000000000 ≤ b ∧ b ≤ 1000000000) (w0 : World) :
  CT Tryz.prog 127 [.int .i64 a, .int .i64 b] w0 no (fun v _ => v = vlV (workV 2 a b)) := by
 have F0 := Fr.refl no w0
 refine ct_body Tryz.func127 rfl Tryz.ntmps127 (Nat.le_of_ble_eq_true rfl) ?_
 refine wk_seq ?_
 refine wk_region ?_
 refine lx_new (want rfl) (rn_alloc ze_36) ?_
 intro b1 w1 hb1 Eb1 B1 hlb1
 have F1 := F0.ext Eb1
 have hzb1 := Eb1.size
 refine lx_nil ?_
 refine wk_seq ?_
 refine wk_region ?_
 refine lx_value (want rfl) (mv_int rfl) ?_
 refine lx_value (want rfl) (mv_int rfl) ?_
 refine lx_value (want rfl) (rn_mul rfl rfl (mul_bd ha hb)) ?_
 refine lx_call (want rfl) (ent_func cf_125 (argsC (t_int rfl) args0)) (sized_ct _ w1) ?_
 rintro _ w2 E1 rfl
 have F2 := F1.ext E1
 have hz1 := E1.size
 refine lx_set (want rfl) sz_36 rfl (t_agg rfl) rfl rfl rfl (B1.ext E1) (Nat.le_of_ble_eq_true rfl) ?_
 intro w3 Es1 Bs1
 have F3 := F2.set Es1 (by omega)
 have hzs1 := Es1.size
 refine lx_nil ?_
 refine wk_ret ?_
 refine retR1 Tryz.results127 (.cell rfl (run_loadVar_blk ag_36 sz_36 Bs1 rfl rfl)) F3 ?_
 exact rfl

theorem op0_ct (a b : Int) (ha : -1000000000 ≤ a ∧ a ≤ 1000000000) (hb : -1000000000 ≤ b ∧ b ≤ 1000000000) (w0 : World) :
  CT Tryz.prog 124 [.int .i64 a, .int .i64 b] w0 no (fun v _ => v = vlV (workV 0 a b)) := by
 have F0 := Fr.refl no w0
 refine ct_body Tryz.func124 rfl Tryz.ntmps124 (Nat.le_of_ble_eq_true rfl) ?_
 refine wk_seq ?_
 refine wk_region ?_
 refine lx_new (want rfl) (rn_alloc ze_36) ?_
 intro b1 w1 hb1 Eb1 B1 hlb1
 have F1 := F0.ext Eb1
 have hzb1 := Eb1.size
 refine lx_nil ?_
 refine wk_seq ?_
 refine wk_region ?_
 refine lx_value (want rfl) (mv_int rfl) ?_
 refine lx_value (want rfl) (mv_int rfl) ?_
 refine lx_value (want rfl) (rn_add rfl rfl (by omega)) ?_
 refine lx_call (want rfl) (ent_func cf_125 (argsC (t_int rfl) args0)) (sized_ct _ w1) ?_
 rintro _ w2 E1 rfl
 have F2 := F1.ext E1
 have hz1 := E1.size
 refine lx_set (want rfl) sz_36 rfl (t_agg rfl) rfl rfl rfl (B1.ext E1) (Nat.le_of_ble_eq_true rfl) ?_
 intro w3 Es1 Bs1
 have F3 := F2.set Es1 (by omega)
 have hzs1 := Es1.size
 refine lx_nil ?_
 refine wk_ret ?_
 refine retR1 Tryz.results124 (.cell rfl (run_loadVar_blk ag_36 sz_36 Bs1 rfl rfl)) F3 ?_
 exact rfl

theorem op1_ct (a b : Int) (ha : -1000000000 ≤ a ∧ a ≤ 1000000000) (hb : -1000000000 ≤ b ∧ b ≤ 1000000000) (w0 : World) :
  CT Tryz.prog 126 [.int .i64 a, .int .i64 b] w0 no (fun v _ => v = vlV (workV 1 a b)) := by
 have F0 := Fr.refl no w0
 refine ct_body Tryz.func126 rfl Tryz.ntmps126 (Nat.le_of_ble_eq_true rfl) ?_
 refine wk_seq ?_
 refine wk_region ?_
 refine lx_new (want rfl) (rn_alloc ze_36) ?_
 intro b1 w1 hb1 Eb1 B1 hlb1
 have F1 := F0.ext Eb1
 have hzb1 := Eb1.size
 refine lx_nil ?_
 refine wk_seq ?_
 refine wk_region ?_
 refine lx_value (want rfl) (mv_int rfl) ?_
 refine lx_value (want rfl) (mv_int rfl) ?_
 refine lx_value (want rfl) (rn_sub rfl rfl (by omega)) ?_
 refine lx_call (want rfl) (ent_func cf_125 (argsC (t_int rfl) args0)) (sized_ct _ w1) ?_
 rintro _ w2 E1 rfl
 have F2 := F1.ext E1
 have hz1 := E1.size
 refine lx_set (want rfl) sz_36 rfl (t_agg rfl) rfl rfl rfl (B1.ext E1) (Nat.le_of_ble_eq_true rfl) ?_
 intro w3 Es1 Bs1
 have F3 := F2.set Es1 (by omega)
 have hzs1 := Es1.size
 refine lx_nil ?_
 refine wk_ret ?_
 refine retR1 Tryz.results126 (.cell rfl (run_loadVar_blk ag_36 sz_36 Bs1 rfl rfl)) F3 ?_
 exact rfl

theorem isstruct1_ct (z : Vl) (m b3 : Nat) (hm : m ≤ 1048576) (w0 : World) (B3 : Blk w0 b3 [.int .i64 m] 3) :
  CT Tryz.prog 149 [vlV z, .pointer (some ⟨b3, 0, none⟩)] w0 no (fun v _ => v = .bool (!isVal z m)) := by
 have F0 := Fr.refl no w0
 refine ct_body Tryz.func149 rfl Tryz.ntmps149 (Nat.le_of_ble_eq_true rfl) ?_
 refine wk_seq ?_
 refine wk_region ?_
 refine lx_new (want rfl) (rn_box (t_agg rfl)) ?_
 intro b21 w1 hb21 Eb21 B21 hlb21
 have F1 := F0.ext Eb21
 have hzb21 := Eb21.size
 refine lx_value (want rfl) (as_bool rfl) ?_
 refine lx_nil ?_
 refine wk_seq ?_
 refine wk_region ?_
 refine lx_value (want rfl) (rn_loadBlk ag_36 sz_36 rfl B21 rfl rfl) ?_
 refine lx_value (want rfl) (rn_load1Blk ag_3 rfl (B3.ext Eb21) rfl) ?_
 refine lx_call (want rfl) (ent_func cf_75 (argsC (t_agg rfl) (argsC (t_int rfl) args0))) (isvalue_ct _ _ _ (by omega) w1) ?_
 rintro _ w2 E1 rfl
 have F2 := F1.ext E1
 have hz1 := E1.size
 refine lx_value (want rfl) (rn_not rfl) ?_
 refine lx_value (want rfl) (as_bool rfl) ?_
 refine lx_nil ?_
 refine wk_ret ?_
 refine retR1 Tryz.results149 (.tmp (t_bool rfl)) F2 ?_
 exact rfl

theorem op5_ct (a b : Int) (ha : -1000000000 ≤ a ∧ a ≤ 1000000000) (hb : -1000000000 ≤ b ∧ b ≤ 1000000000) (w0 : World) :
  CT Tryz.prog 133 [.int .i64 a, .int .i64 b] w0 no (fun v _ => v = vlV (workV 5 a b)) := by
 have F0 := Fr.refl no w0
 refine ct_body Tryz.func133 rfl Tryz.ntmps133 (Nat.le_of_ble_eq_true rfl) ?_
 refine wk_seq ?_
 refine wk_region ?_
 refine lx_new (want rfl) (rn_alloc ze_36) ?_
 intro b1 w1 hb1 Eb1 B1 hlb1
 have F1 := F0.ext Eb1
 have hzb1 := Eb1.size
 refine lx_nil ?_
 refine wk_seq ?_
 refine wk_region ?_
 refine lx_value (want rfl) (mv_int rfl) ?_
 refine lx_value (want rfl) (rn_neg rfl (by omega)) ?_
 refine lx_call (want rfl) (ent_func cf_125 (argsC (t_int rfl) args0)) (sized_ct _ w1) ?_
 rintro _ w2 E1 rfl
 have F2 := F1.ext E1
 have hz1 := E1.size
 refine lx_set (want rfl) sz_36 rfl (t_agg rfl) rfl rfl rfl (B1.ext E1) (Nat.le_of_ble_eq_true rfl) ?_
 intro w3 Es1 Bs1
 have F3 := F2.set Es1 (by omega)
 have hzs1 := Es1.size
 refine lx_nil ?_
 refine wk_ret ?_
 refine retR1 Tryz.results133 (.cell rfl (run_loadVar_blk ag_36 sz_36 Bs1 rfl rfl)) F3 ?_
 exact rfl

end Go.Proofs.YtnhgfmbmfjmonaaGreatDoor

/- What functions compute: equald, firsts, rvalues, rtokens, holes, differ, trim, indexe, delete, isnode, indext, indexn, indexv, indexi, isidle. -/
import Derived.Test.YtgnnegfnpgnbbaaGreatDoorHomesFacts
import Derived.Test.YtgnnegfnpgnbbaaGreatDoorHomesPre
set_option maxRecDepth 100000
set_option linter.unusedVariables false
set_option linter.unusedSimpArgs false
namespace Go.Proofs.YtgnnegfnpgnbbaaGreatDoor
open Go Go.RowKit Go.Mix Go.Eng
theorem equald_ct (a : List Ds) (sa sb : Option Addr) (ca cb : Nat) (Fa Fb : Nat → Prop) (hal : a.length ≤ 1000) (w0 : World) (ha : DsS Fa w0 sa a) (hb : DsS Fb w0 sb a) :
  CT Tryz.prog 151 [.slice sa a.length ca, .slice sb a.length cb] w0 no (fun v _ => v = .bool true) := by
 have F0 := Fr.refl no w0
 refine ct_body Tryz.func151 rfl Tryz.ntmps151 (Nat.le_of_ble_eq_true rfl) ?_
 refine wk_seq ?_
 refine wk_region ?_
 refine lx_value (want rfl) (as_bool rfl) ?_
 refine lx_nil ?_
 refine wk_seq ?_
 refine wk_seq ?_
 refine wk_region ?_
 refine lx_value (want rfl) (mv_slice rfl) ?_
 refine lx_value (want rfl) (rn_len Tryz.underlying76 rfl) ?_
 refine lx_value (want rfl) (mv_slice rfl) ?_
 refine lx_value (want rfl) (rn_len Tryz.underlying76 rfl) ?_
 refine lx_value (want rfl) (rn_neq rfl rfl) ?_
 refine lx_dec_f ((fun g => g rfl)) ?_
 refine lx_nil ?_
 refine wk_cond_f rfl ?_
 refine wk_skip ?_
 refine wk_seq ?_
 refine wk_seq ?_
 refine wk_region ?_
 refine lx_value (want rfl) (mv_slice rfl) ?_
 refine lx_value (want rfl) (rn_len Tryz.underlying76 rfl) ?_
 refine lx_value (want rfl) (mv_int rfl) ?_
 refine lx_nil ?_
 refine wk_block ?_
 refine wk_loopA [4, 5, 13, 14, 15, 16, 17, 18, 19, 20, 21, 22, 23, 24, 25] no (fun nM ρ w => ∃ (i : Nat), nM = a.length - i ∧ ρ 13 = .int .i64 i ∧ (i ≤ a.length)) _ ⟨0, rfl, rfl, by omega⟩ ?_
 rintro n1 ρ1 w1 A1 EL1 ⟨i, rfl, hs1_13, hi⟩
 have F1 := F0.ext EL1
 have hzL1 := EL1.size
 refine wk_seq ?_
 refine wk_region ?_
 refine lx_value (want rfl) (rn_lss hs1_13 (A1.at 12 rfl rfl)) ?_
 refine lx_dec (fun hlt => ?_) (fun hlt => ?_)
 ·
  obtain ⟨x, hx⟩ := getx hlt
  obtain ⟨bx, ox, rfl, _, hcx⟩ := ha i x hx
  obtain ⟨by_, oy, rfl, _, hcy⟩ := hb i x hx
  refine lx_nil ?_
  refine wk_seq ?_
  refine wk_cond_t rfl ?_
  refine wk_skip ?_
  refine wk_seq ?_
  refine wk_block ?_
  refine wk_seq ?_
  refine wk_region ?_
  refine lx_value (want rfl) (mv_int hs1_13) ?_
  refine lx_value (want rfl) (as_int rfl) ?_
  refine lx_nil ?_
  refine wk_seq ?_
  refine wk_mix 8 (fun _ => .none) (by kernel_rfl) (by kernel_rfl) (fun kS G hk => by cases hk) (fun kS s y G hk => by cases hk) ?_
  simp only [List.take_succ_cons, List.take_zero, List.take_nil, List.drop_succ_cons, List.drop_zero, List.drop_nil]
  refine mx_calm rfl (want rfl) (fun u1 eu1 fu1 => mv_slice (A1.at 0 rfl rfl)) ?_
  refine mx_calm rfl (want rfl) (fun u2 eu2 fu2 => mv_int rfl) ?_
  refine mx_calm rfl (want rfl) (fun u3 eu3 fu3 => rn_index _ Tryz.underlying76 sz_75 rfl rfl rfl (by omega)) ?_
  refine mx_calm rfl (want rfl) (fun u4 eu4 fu4 => rn_load2 ag_75 sz_75 rfl ((F1.ext ((ext_drawn _).trans' eu4)).cell (fun h => h) (hcx 0 _ rfl)) ((F1.ext ((ext_drawn _).trans' eu4)).cell (fun h => h) (hcx 1 _ rfl))) ?_
  refine mx_calm rfl (want rfl) (fun u5 eu5 fu5 => mv_slice (A1.at 1 rfl rfl)) ?_
  refine mx_calm rfl (want rfl) (fun u6 eu6 fu6 => mv_int rfl) ?_
  refine mx_calm rfl (want rfl) (fun u7 eu7 fu7 => rn_index _ Tryz.underlying76 sz_75 rfl rfl rfl (by omega)) ?_
  refine mx_calm rfl (want rfl) (fun u8 eu8 fu8 => rn_load2 ag_75 sz_75 rfl ((F1.ext ((ext_drawn _).trans' eu8)).cell (fun h => h) (hcy 0 _ rfl)) ((F1.ext ((ext_drawn _).trans' eu8)).cell (fun h => h) (hcy 1 _ rfl))) ?_
  refine mx_nil (fun w2 E1' H1 HS => ?_)
  have E1 := (ext_drawn _).trans' E1'
  have F2 := F1.ext E1
  have hz1 := E1.size
  refine lx_value (want rfl) (rn_cmpS (t_agg rfl) (t_agg rfl) (gneq_75 _ _ _ _) (neq_75 _ _ _ _)) ?_
  refine lx_dec_f ((fun g => g ⟨rfl, rfl⟩)) ?_
  refine lx_nil ?_
  refine wk_cond_f rfl ?_
  refine wk_skip ?_
  refine wk_region ?_
  refine lx_value (want rfl) (rn_add hs1_13 rfl (by omega)) ?_
  refine lx_value (want rfl) (mv_int rfl) ?_
  refine lx_nil ?_
  exact ⟨rfl, ((((((((((((((A1.up rfl _).up rfl _).up rfl _).up rfl _).up rfl _).up rfl _).up rfl _).up rfl _).up rfl _).up rfl _).up rfl _).up rfl _).up rfl _).up rfl _), (Fr.ext EL1 E1), _, (by omega), i + 1, rfl, rfl, by omega⟩
 ·
  refine lx_nil ?_
  refine wk_seq ?_
  refine wk_cond_f rfl ?_
  refine wk_exit ?_
  refine wk_seq ?_
  refine wk_region ?_
  refine lx_value (want rfl) (as_bool rfl) ?_
  refine lx_nil ?_
  refine wk_ret ?_
  refine retR1 Tryz.results151 (.tmp (t_bool rfl)) F1 ?_
  exact rfl

theorem firsts_ct (a n : Nat) (ha : a ≤ 10000000) (hn : n ≤ 1000) (w0 : World) :
  CT Tryz.prog 164 [.int .i64 (a : Nat), .int .i64 (n : Nat)] w0 no (fun v w => ∃ s c, v = .slice s (firstsL a n).length c ∧ OwnS w 75 2 s (firstsL a n).length c ((firstsL a n).flatMap dsC) ∧ ∀ k, ob s k → w0.heap.size ≤ k) := by
 have F0 := Fr.refl no w0
 refine ct_body Tryz.func164 rfl Tryz.ntmps164 (Nat.le_of_ble_eq_true rfl) ?_
 refine wk_seq ?_
 refine wk_region ?_
 refine lx_value (want rfl) (as_slice rfl) ?_
 refine lx_nil ?_
 refine wk_seq ?_
 refine wk_seq ?_
 refine wk_region ?_
 refine lx_value (want rfl) (mv_int rfl) ?_
 refine lx_value (want rfl) (mv_int rfl) ?_
 refine lx_nil ?_
 refine wk_block ?_
 refine wk_loopA [4, 5, 7, 8, 9, 10, 11, 12, 13, 14, 15, 16, 17] no (fun nM ρ w => ∃ (i : Nat) (so1_1 : Option Addr) (co1_1 : Nat), nM = n - i ∧ ρ 7 = .int .i64 i ∧ ρ 4 = .slice so1_1 (i) co1_1 ∧ OwnS w 75 2 so1_1 (i) co1_1 (((firstsL a n).take i).flatMap dsC) ∧ (∀ k, ob so1_1 k → w0.heap.size ≤ k) ∧ (∀ k, ob so1_1 k → (ob (none : Option Addr) k ∨ w0.heap.size ≤ k)) ∧ (i ≤ n)) _ ⟨0, none, 0, rfl, rfl, rfl, (OwnS.nil w0 75 2), (fun _ h => ob_none h), (fun k h => .inl h), by omega⟩ ?_
 rintro n1 ρ1 w1 A1 EL1 ⟨i, so1_1, co1_1, rfl, hs1_7, ho1_1, ow1L_1, ge1L_1, bk1L_1, hi⟩
 have F1 := F0.ext EL1
 have hzL1 := EL1.size
 refine wk_seq ?_
 refine wk_region ?_
 refine lx_value (want rfl) (rn_lss hs1_7 (A1.at 6 rfl rfl)) ?_
 refine lx_dec (fun hlt => ?_) (fun hlt => ?_)
 ·
  refine lx_nil ?_
  refine wk_seq ?_
  refine wk_cond_t rfl ?_
  refine wk_skip ?_
  refine wk_seq ?_
  refine wk_block ?_
  refine wk_seq ?_
  refine wk_region ?_
  refine lx_value (want rfl) (mv_int hs1_7) ?_
  refine lx_value (want rfl) (as_int rfl) ?_
  refine lx_nil ?_
  refine wk_region ?_
  refine lx_value (want rfl) (mv_slice ho1_1) ?_
  refine lx_value (want rfl) (mv_int (A1.at 0 rfl rfl)) ?_
  refine lx_value (want rfl) (mv_int rfl) ?_
  refine lx_value (want rfl) (rn_addN rfl rfl (by omega)) ?_
  refine lx_value (want rfl) (rn_build1 (t_int rfl) (fun w => bd_75_0 _ w)) ?_
  refine lx_newS (want rfl) (rn_bslice (xs := [.tmp 14]) Tryz.underlying76 sz_75 ze_75 rfl (argsC (t_agg rfl) args0) (CL.cons rfl rfl CL.nil) rfl (Nat.le_of_ble_eq_true rfl)) ?_
  intro b1 w2 hb1 Eb1 B1 hlb1
  have F2 := F1.ext Eb1
  have hzb1 := Eb1.size
  have nb1 : ∀ k, ob so1_1 k → k ≠ b1 := fun k hk => by have := (ow1L_1).lt hk; omega
  refine lx_append 16 (want rfl) Tryz.underlying76 ti_75 (by decide) rfl (by decide) rfl rfl (ow1L_1.ext Eb1) ((Src.blk B1 rfl rfl)) (by omega) ?_
  intro sq2 cq2 w3 AP2
  have EA2 := AP2.fr
  have ow2 := AP2.own
  have ge2 : ∀ k, ob sq2 k → w0.heap.size ≤ k := fun k hk => (AP2.blk k hk).elim (ge1L_1 k) (fun h => (Nat.le_trans F2.size h))
  have ne2_1 : ∀ k, ob sq2 k → k ≠ b1 := fun k hk => (AP2.blk k hk).elim (nb1 k) (fun h => by have := (B1).lt; omega)
  have bk2_1 : ∀ k, ob sq2 k → (ob (none : Option Addr) k ∨ w0.heap.size ≤ k) := fun k hk => (AP2.blk k hk).elim (bk1L_1 k) (fun h => .inr (by omega))
  have F3 := F2.new EA2 ge1L_1
  have hzA2 := EA2.size
  have BA2_1 := B1.fr EA2 (fun h => nb1 _ h rfl)
  refine lx_value (want rfl) (as_slice rfl) ?_
  refine lx_nil ?_
  refine wk_region ?_
  refine lx_value (want rfl) (rn_add hs1_7 rfl (by omega)) ?_
  refine lx_value (want rfl) (mv_int rfl) ?_
  refine lx_nil ?_
  exact ⟨rfl, (((((((((((((A1.up rfl _).up rfl _).up rfl _).up rfl _).up rfl _).up rfl _).up rfl _).up rfl _).up rfl _).up rfl _).up rfl _).up rfl _).up rfl _), (Fr.trans (Fr.ext EL1 Eb1) EA2 (fun i hi1 h => ((bk1L_1 _ h).elim (fun h => (ob_none h)) (fun h => absurd hi1 (by omega))))), _, (by omega), i + 1, sq2, cq2, rfl, rfl, rfl, (own_take (firstsL_at (by omega)) ow2 rfl), ge2, bk2_1, by omega⟩
 ·
  refine lx_nil ?_
  refine wk_seq ?_
  refine wk_cond_f rfl ?_
  refine wk_exit ?_
  refine wk_seq ?_
  refine wk_region ?_
  refine lx_value (want rfl) (mv_slice ho1_1) ?_
  refine lx_value (want rfl) (as_slice rfl) ?_
  refine lx_nil ?_
  refine wk_ret ?_
  refine retR1 Tryz.results164 (.tmp (t_slice rfl)) F1 ?_
  have hlen := firstsL_len a n; obtain rfl : i = (firstsL a n).length := by omega
  exact ⟨_, _, rfl, by have h := ow1L_1; rwa [List.take_length] at h, ge1L_1⟩

theorem rvalues_ct (L : List Vl) (s1 s2 : Option Addr) (c1 c2 : Nat) (Fa Fb : Nat → Prop) (hal : L.length ≤ 1000) (w0 : World) (ha : VlS Fa w0 s1 L) (hb : VlS Fb w0 s2 L) :
  CT Tryz.prog 29 [.slice s1 L.length c1, .slice s2 L.length c2] w0 no (fun v _ => v = .bool true) := by
 have F0 := Fr.refl no w0
 refine ct_body Tryz.func29 rfl Tryz.ntmps29 (Nat.le_of_ble_eq_true rfl) ?_
 refine wk_seq ?_
 refine wk_region ?_
 refine lx_value (want rfl) (as_bool rfl) ?_
 refine lx_nil ?_
 refine wk_seq ?_
 refine wk_seq ?_
 refine wk_region ?_
 refine lx_value (want rfl) (mv_slice rfl) ?_
 refine lx_value (want rfl) (rn_len Tryz.underlying53 rfl) ?_
 refine lx_value (want rfl) (mv_slice rfl) ?_
 refine lx_value (want rfl) (rn_len Tryz.underlying53 rfl) ?_
 refine lx_value (want rfl) (rn_neq rfl rfl) ?_
 refine lx_dec_f ((fun g => g rfl)) ?_
 refine lx_nil ?_
 refine wk_cond_f rfl ?_
 refine wk_skip ?_
 refine wk_seq ?_
 refine wk_seq ?_
 refine wk_region ?_
 refine lx_value (want rfl) (as_int rfl) ?_
 refine lx_nil ?_
 refine wk_block ?_
 refine wk_loopA [4, 5, 11, 12, 13, 14, 15, 16, 17, 18, 19, 20, 21, 22, 23, 24, 25] no (fun nM ρ w => ∃ (i : Nat), nM = L.length - i ∧ ρ 5 = .int .i64 i ∧ (i ≤ L.length)) _ ⟨0, rfl, rfl, by omega⟩ ?_
 rintro n1 ρ1 w1 A1 EL1 ⟨i, rfl, hs1_5, hi⟩
 have F1 := F0.ext EL1
 have hzL1 := EL1.size
 refine wk_seq ?_
 refine wk_seq ?_
 refine wk_region ?_
 refine lx_value (want rfl) (mv_int hs1_5) ?_
 refine lx_value (want rfl) (mv_slice (A1.at 0 rfl rfl)) ?_
 refine lx_value (want rfl) (rn_len Tryz.underlying53 rfl) ?_
 refine lx_value (want rfl) (rn_lss rfl rfl) ?_
 refine lx_dec (fun hlt => ?_) (fun hlt => ?_)
 ·
  obtain ⟨x, hx⟩ := getx hlt
  obtain ⟨bx, ox, rfl, _, hcx⟩ := ha i x hx
  obtain ⟨by_, oy, rfl, _, hcy⟩ := hb i x hx
  refine lx_nil ?_
  refine wk_cond_t rfl ?_
  refine wk_skip ?_
  refine wk_seq ?_
  refine wk_block ?_
  refine wk_seq ?_
  refine wk_mix 8 (fun _ => .none) (by kernel_rfl) (by kernel_rfl) (fun kS G hk => by cases hk) (fun kS s y G hk => by cases hk) ?_
  simp only [List.take_succ_cons, List.take_zero, List.take_nil, List.drop_succ_cons, List.drop_zero, List.drop_nil]
  refine mx_calm rfl (want rfl) (fun u1 eu1 fu1 => mv_slice (A1.at 0 rfl rfl)) ?_
  refine mx_calm rfl (want rfl) (fun u2 eu2 fu2 => mv_int hs1_5) ?_
  refine mx_calm rfl (want rfl) (fun u3 eu3 fu3 => rn_index _ Tryz.underlying53 sz_48 rfl rfl rfl (by omega)) ?_
  refine mx_calm rfl (want rfl) (fun u4 eu4 fu4 => rn_load2 ag_48 sz_48 rfl ((F1.ext ((ext_drawn _).trans' eu4)).cell (fun h => h) (hcx 0 _ rfl)) ((F1.ext ((ext_drawn _).trans' eu4)).cell (fun h => h) (hcx 1 _ rfl))) ?_
  refine mx_calm rfl (want rfl) (fun u5 eu5 fu5 => mv_slice (A1.at 1 rfl rfl)) ?_
  refine mx_calm rfl (want rfl) (fun u6 eu6 fu6 => mv_int hs1_5) ?_
  refine mx_calm rfl (want rfl) (fun u7 eu7 fu7 => rn_index _ Tryz.underlying53 sz_48 rfl rfl rfl (by omega)) ?_
  refine mx_calm rfl (want rfl) (fun u8 eu8 fu8 => rn_load2 ag_48 sz_48 rfl ((F1.ext ((ext_drawn _).trans' eu8)).cell (fun h => h) (hcy 0 _ rfl)) ((F1.ext ((ext_drawn _).trans' eu8)).cell (fun h => h) (hcy 1 _ rfl))) ?_
  refine mx_nil (fun w2 E1' H1 HS => ?_)
  have E1 := (ext_drawn _).trans' E1'
  have F2 := F1.ext E1
  have hz1 := E1.size
  refine lx_value (want rfl) (rn_cmpS (t_agg rfl) (t_agg rfl) (gneq_48 _ _ _ _) (neq_48 _ _ _ _)) ?_
  refine lx_dec_f ((fun g => g ⟨rfl, rfl⟩)) ?_
  refine lx_nil ?_
  refine wk_cond_f rfl ?_
  refine wk_skip ?_
  refine wk_region ?_
  refine lx_value (want rfl) (mv_int hs1_5) ?_
  refine lx_value (want rfl) (rn_add rfl rfl (by omega)) ?_
  refine lx_value (want rfl) (as_int rfl) ?_
  refine lx_nil ?_
  exact ⟨rfl, ((((((((((((((((A1.up rfl _).up rfl _).up rfl _).up rfl _).up rfl _).up rfl _).up rfl _).up rfl _).up rfl _).up rfl _).up rfl _).up rfl _).up rfl _).up rfl _).up rfl _).up rfl _), (Fr.ext EL1 E1), _, (by omega), i + 1, rfl, rfl, by omega⟩
 ·
  refine lx_nil ?_
  refine wk_cond_f rfl ?_
  refine wk_exit ?_
  refine wk_seq ?_
  refine wk_region ?_
  refine lx_value (want rfl) (as_bool rfl) ?_
  refine lx_nil ?_
  refine wk_ret ?_
  refine retR1 Tryz.results29 (.tmp (t_bool rfl)) F1 ?_
  exact rfl

theorem rtokens_ct (L : List Tok) (s1 s2 : Option Addr) (c1 c2 : Nat) (Fa Fb : Nat → Prop) (hal : L.length ≤ 1000) (w0 : World) (ha : TkS Fa w0 s1 L) (hb : TkS Fb w0 s2 L) :
  CT Tryz.prog 18 [.slice s1 L.length c1, .slice s2 L.length c2] w0 no (fun v _ => v = .bool true) := by
 have F0 := Fr.refl no w0
 refine ct_body Tryz.func18 rfl Tryz.ntmps18 (Nat.le_of_ble_eq_true rfl) ?_
 refine wk_seq ?_
 refine wk_region ?_
 refine lx_value (want rfl) (as_bool rfl) ?_
 refine lx_nil ?_
 refine wk_seq ?_
 refine wk_seq ?_
 refine wk_region ?_
 refine lx_value (want rfl) (mv_slice rfl) ?_
 refine lx_value (want rfl) (rn_len Tryz.underlying56 rfl) ?_
 refine lx_value (want rfl) (mv_slice rfl) ?_
 refine lx_value (want rfl) (rn_len Tryz.underlying56 rfl) ?_
 refine lx_value (want rfl) (rn_neq rfl rfl) ?_
 refine lx_dec_f ((fun g => g rfl)) ?_
 refine lx_nil ?_
 refine wk_cond_f rfl ?_
 refine wk_skip ?_
 refine wk_seq ?_
 refine wk_seq ?_
 refine wk_region ?_
 refine lx_value (want rfl) (as_int rfl) ?_
 refine lx_nil ?_
 refine wk_block ?_
 refine wk_loopA [4, 5, 11, 12, 13, 14, 15, 16, 17, 18, 19, 20, 21, 22, 23, 24, 25] no (fun nM ρ w => ∃ (i : Nat), nM = L.length - i ∧ ρ 5 = .int .i64 i ∧ (i ≤ L.length)) _ ⟨0, rfl, rfl, by omega⟩ ?_
 rintro n1 ρ1 w1 A1 EL1 ⟨i, rfl, hs1_5, hi⟩
 have F1 := F0.ext EL1
 have hzL1 := EL1.size
 refine wk_seq ?_
 refine wk_seq ?_
 refine wk_region ?_
 refine lx_value (want rfl) (mv_int hs1_5) ?_
 refine lx_value (want rfl) (mv_slice (A1.at 0 rfl rfl)) ?_
 refine lx_value (want rfl) (rn_len Tryz.underlying56 rfl) ?_
 refine lx_value (want rfl) (rn_lss rfl rfl) ?_
 refine lx_dec (fun hlt => ?_) (fun hlt => ?_)
 ·
  obtain ⟨x, hx⟩ := getx hlt
  obtain ⟨bx, ox, rfl, _, hcx⟩ := ha i x hx
  obtain ⟨by_, oy, rfl, _, hcy⟩ := hb i x hx
  refine lx_nil ?_
  refine wk_cond_t rfl ?_
  refine wk_skip ?_
  refine wk_seq ?_
  refine wk_block ?_
  refine wk_seq ?_
  refine wk_mix 8 (fun _ => .none) (by kernel_rfl) (by kernel_rfl) (fun kS G hk => by cases hk) (fun kS s y G hk => by cases hk) ?_
  simp only [List.take_succ_cons, List.take_zero, List.take_nil, List.drop_succ_cons, List.drop_zero, List.drop_nil]
  refine mx_calm rfl (want rfl) (fun u1 eu1 fu1 => mv_slice (A1.at 0 rfl rfl)) ?_
  refine mx_calm rfl (want rfl) (fun u2 eu2 fu2 => mv_int hs1_5) ?_
  refine mx_calm rfl (want rfl) (fun u3 eu3 fu3 => rn_index _ Tryz.underlying56 sz_51 rfl rfl rfl (by omega)) ?_
  refine mx_calm rfl (want rfl) (fun u4 eu4 fu4 => rn_loadN ag_51 sz_51 rfl rfl ((show Cs _ _ _ (tkC x) from hcx).fr (F1.ext ((ext_drawn _).trans' eu4)) (fun h => h))) ?_
  refine mx_calm rfl (want rfl) (fun u5 eu5 fu5 => mv_slice (A1.at 1 rfl rfl)) ?_
  refine mx_calm rfl (want rfl) (fun u6 eu6 fu6 => mv_int hs1_5) ?_
  refine mx_calm rfl (want rfl) (fun u7 eu7 fu7 => rn_index _ Tryz.underlying56 sz_51 rfl rfl rfl (by omega)) ?_
  refine mx_calm rfl (want rfl) (fun u8 eu8 fu8 => rn_loadN ag_51 sz_51 rfl rfl ((show Cs _ _ _ (tkC x) from hcy).fr (F1.ext ((ext_drawn _).trans' eu8)) (fun h => h))) ?_
  refine mx_nil (fun w2 E1' H1 HS => ?_)
  have E1 := (ext_drawn _).trans' E1'
  have F2 := F1.ext E1
  have hz1 := E1.size
  refine lx_value (want rfl) (rn_cmpS (t_agg rfl) (t_agg rfl) (gneq_51 _ _ _ _ _ _ _ _ _ _) (neq_51 _ _ _ _ _ _ _ _ _ _)) ?_
  refine lx_dec_f ((fun g => g ⟨rfl, rfl, rfl, rfl, rfl⟩)) ?_
  refine lx_nil ?_
  refine wk_cond_f rfl ?_
  refine wk_skip ?_
  refine wk_region ?_
  refine lx_value (want rfl) (mv_int hs1_5) ?_
  refine lx_value (want rfl) (rn_add rfl rfl (by omega)) ?_
  refine lx_value (want rfl) (as_int rfl) ?_
  refine lx_nil ?_
  exact ⟨rfl, ((((((((((((((((A1.up rfl _).up rfl _).up rfl _).up rfl _).up rfl _).up rfl _).up rfl _).up rfl _).up rfl _).up rfl _).up rfl _).up rfl _).up rfl _).up rfl _).up rfl _).up rfl _), (Fr.ext EL1 E1), _, (by omega), i + 1, rfl, rfl, by omega⟩
 ·
  refine lx_nil ?_
  refine wk_cond_f rfl ?_
  refine wk_exit ?_
  refine wk_seq ?_
  refine wk_region ?_
  refine lx_value (want rfl) (as_bool rfl) ?_
  refine lx_nil ?_
  refine wk_ret ?_
  refine retR1 Tryz.results18 (.tmp (t_bool rfl)) F1 ?_
  exact rfl

theorem holes_ct (l : List Vl) (s : Option Addr) (c : Nat) (F : Nat → Prop) (hb : l.length ≤ 1000) (w0 : World) (hl : VlS F w0 s l) :
  CT Tryz.prog 44 [.slice s l.length c] w0 no (fun v _ => v = .int .i64 (holesN l : Nat)) := by
 have F0 := Fr.refl no w0
 refine ct_body Tryz.func44 rfl Tryz.ntmps44 (Nat.le_of_ble_eq_true rfl) ?_
 refine wk_seq ?_
 refine wk_region ?_
 refine lx_value (want rfl) (as_int rfl) ?_
 refine lx_nil ?_
 refine wk_seq ?_
 refine wk_seq ?_
 refine wk_region ?_
 refine lx_value (want rfl) (mv_slice rfl) ?_
 refine lx_value (want rfl) (rn_len Tryz.underlying53 rfl) ?_
 refine lx_value (want rfl) (mv_int rfl) ?_
 refine lx_nil ?_
 refine wk_block ?_
 refine wk_loopA [2, 4, 7, 8, 9, 10, 11, 12, 13, 14, 15, 16] no (fun nM ρ w => ∃ (i : Nat), nM = l.length - i ∧ ρ 7 = .int .i64 i ∧ ρ 2 = .int .i64 (holesN (l.take i) : Nat) ∧ (i ≤ l.length)) _ ⟨0, rfl, rfl, rfl, by omega⟩ ?_
 rintro n1 ρ1 w1 A1 EL1 ⟨i, rfl, hs1_7, hs1_2, hi⟩
 have F1 := F0.ext EL1
 have hzL1 := EL1.size
 refine wk_seq ?_
 refine wk_region ?_
 refine lx_value (want rfl) (rn_lss hs1_7 (A1.at 6 rfl rfl)) ?_
 refine lx_dec (fun hlt => ?_) (fun hlt => ?_)
 ·
  obtain ⟨v, hv⟩ := getx hlt
  obtain ⟨bx, ox, rfl, _, hcx⟩ := hl i v hv
  have hst := holesN_step hv
  have hle := holesN_le l i
  refine lx_nil ?_
  refine wk_seq ?_
  refine wk_cond_t rfl ?_
  refine wk_skip ?_
  refine wk_seq ?_
  refine wk_block ?_
  refine wk_seq ?_
  refine wk_region ?_
  refine lx_value (want rfl) (rn_index _ Tryz.underlying53 sz_48 (A1.at 5 rfl rfl) hs1_7 rfl (by omega)) ?_
  refine lx_value (want rfl) (rn_load2 ag_48 sz_48 rfl (F1.cell (fun h => h) (hcx 0 _ rfl)) (F1.cell (fun h => h) (hcx 1 _ rfl))) ?_
  refine lx_new (want rfl) (rn_alloc ze_48) ?_
  intro b1 w2 hb1 Eb1 B1 hlb1
  have F2 := F1.ext Eb1
  have hzb1 := Eb1.size
  refine lx_set (want rfl) sz_48 rfl (t_agg rfl) rfl rfl rfl B1 (Nat.le_of_ble_eq_true rfl) ?_
  intro w3 Es1 Bs1
  have F3 := F2.set Es1 (by omega)
  have hzs1 := Es1.size
  refine lx_nil ?_
  refine wk_seq ?_
  refine wk_region ?_
  refine lx_value (want rfl) (rn_fieldAddr fa_48_0 rfl) ?_
  refine lx_value (want rfl) (rn_load1Blk ag_5 rfl Bs1 rfl) ?_
  refine lx_value (want rfl) (rn_eql rfl rfl) ?_
  refine lx_dec (fun h0 => ?_) (fun h0 => ?_)
  ·
   rw [if_pos h0] at hst
   refine lx_nil ?_
   refine wk_cond_t rfl ?_
   refine wk_region ?_
   refine lx_value (want rfl) (mv_int hs1_2) ?_
   refine lx_value (want rfl) (rn_addN rfl (n := 1) rfl (by omega)) ?_
   refine lx_value (want rfl) (as_int rfl) ?_
   refine lx_nil ?_
   refine wk_region ?_
   refine lx_value (want rfl) (rn_add hs1_7 rfl (by omega)) ?_
   refine lx_value (want rfl) (mv_int rfl) ?_
   refine lx_nil ?_
   exact ⟨rfl, (((((((((((((A1.up rfl _).up rfl _).up rfl _).up rfl _).none _).up rfl _).up rfl _).up rfl _).up rfl _).up rfl _).up rfl _).up rfl _).up rfl _), (Fr.trans (Fr.ext EL1 Eb1) Es1 (fun i hi1 h => (absurd hi1 (by omega)))), _, (by omega), i + 1, rfl, rfl, (by rw [hst]; exact rfl), by omega⟩
  ·
   rw [if_neg h0] at hst
   refine lx_nil ?_
   refine wk_cond_f rfl ?_
   refine wk_skip ?_
   refine wk_region ?_
   refine lx_value (want rfl) (rn_add hs1_7 rfl (by omega)) ?_
   refine lx_value (want rfl) (mv_int rfl) ?_
   refine lx_nil ?_
   exact ⟨rfl, ((((((((((A1.up rfl _).up rfl _).up rfl _).up rfl _).none _).up rfl _).up rfl _).up rfl _).up rfl _).up rfl _), (Fr.trans (Fr.ext EL1 Eb1) Es1 (fun i hi1 h => (absurd hi1 (by omega)))), _, (by omega), i + 1, rfl, rfl, (by rw [hst]; exact hs1_2), by omega⟩
 ·
  refine lx_nil ?_
  refine wk_seq ?_
  refine wk_cond_f rfl ?_
  refine wk_exit ?_
  refine wk_seq ?_
  refine wk_region ?_
  refine lx_value (want rfl) (mv_int hs1_2) ?_
  refine lx_value (want rfl) (as_int rfl) ?_
  refine lx_nil ?_
  refine wk_ret ?_
  refine retR1 Tryz.results44 (.tmp (t_int rfl)) F1 ?_
  exact congrArg (fun n : Nat => Value.int .i64 n) (holesN_end hlt)

theorem differ_ct (l : List Ds) (s : Option Addr) (c : Nat) (F : Nat → Prop) (hb : l.length ≤ 2000) (hn : l.Nodup) (w0 : World) (hl : DsS F w0 s l) :
  CT Tryz.prog 68 [.slice s l.length c] w0 no (fun v _ => v = .bool true) := by
 have F0 := Fr.refl no w0
 refine ct_body Tryz.func68 rfl Tryz.ntmps68 (Nat.le_of_ble_eq_true rfl) ?_
 refine wk_seq ?_
 refine wk_region ?_
 refine lx_value (want rfl) (as_bool rfl) ?_
 refine lx_nil ?_
 refine wk_seq ?_
 refine wk_region ?_
 refine lx_makeMapL kD (want rfl) ?_
 intro b1 w1 hb1 Eb1 B1
 have F1 := F0.ext Eb1
 have hzb1 := Eb1.size
 have hlb1 := B1.lt
 refine lx_value (want rfl) (as_map rfl) ?_
 refine lx_nil ?_
 refine wk_seq ?_
 refine wk_seq ?_
 refine wk_region ?_
 refine lx_value (want rfl) (mv_slice rfl) ?_
 refine lx_value (want rfl) (rn_len Tryz.underlying40 rfl) ?_
 refine lx_value (want rfl) (mv_int rfl) ?_
 refine lx_nil ?_
 refine wk_block ?_
 refine wk_loopA [5, 9, 10, 11, 12, 13, 14, 15] (fun j => no j ∨ w0.heap.size ≤ j) (fun nM ρ w => ∃ (i : Nat), nM = l.length - i ∧ ρ 9 = .int .i64 i ∧ MapL w b1 kD (ptM (l.take i)) ∧ (i ≤ l.length)) _ ⟨0, rfl, rfl, (by first | (rw [← ptM_step hx]; exact B1) | exact B1), by omega⟩ ?_
 rintro n1 ρ1 w2 A1 EL1 ⟨i, rfl, hs1_9, BL1_1, hi⟩
 have F2 := F1.wide EL1
 have hzL1 := EL1.size
 refine wk_seq ?_
 refine wk_region ?_
 refine lx_value (want rfl) (rn_lss hs1_9 (A1.at 8 rfl rfl)) ?_
 refine lx_dec (fun hlt => ?_) (fun hlt => ?_)
 ·
  obtain ⟨x, hx⟩ := getx hlt
  obtain ⟨bx, ox, rfl, _, hcx⟩ := hl i x hx
  refine lx_nil ?_
  refine wk_seq ?_
  refine wk_cond_t rfl ?_
  refine wk_skip ?_
  refine wk_seq ?_
  refine wk_block ?_
  refine wk_seq ?_
  refine wk_region ?_
  refine lx_value (want rfl) (rn_index _ Tryz.underlying40 sz_23 (A1.at 7 rfl rfl) hs1_9 rfl (by omega)) ?_
  refine lx_value (want rfl) (rn_load2 ag_23 sz_23 rfl (F2.cell (fun h => h) (hcx 0 _ rfl)) (F2.cell (fun h => h) (hcx 1 _ rfl))) ?_
  refine lx_new (want rfl) (rn_alloc ze_23) ?_
  intro b2 w3 hb2 Eb2 B2 hlb2
  have F3 := F2.ext Eb2
  have hzb2 := Eb2.size
  refine lx_set (want rfl) sz_23 rfl (t_agg rfl) rfl rfl rfl B2 (Nat.le_of_ble_eq_true rfl) ?_
  intro w4 Es1 Bs1
  have F4 := F3.set Es1 (by omega)
  have hzs1 := Es1.size
  refine lx_nil ?_
  refine wk_region ?_
  refine lx_value (want rfl) (mv_map (A1.at 3 rfl rfl)) ?_
  refine lx_value (want rfl) (rn_loadBlk ag_23 sz_23 rfl Bs1 rfl rfl) ?_
  refine lx_updL (want rfl) mg_170 rfl (show _ = kD x from rfl) (t_bool rfl) ((BL1_1.ext Eb2).ne Es1 (by omega)) (ptM_new hn hx) ?_
  intro w5 Em1 HMEm1
  have F5 := F4.set Em1 (by omega)
  have hzm1 := Em1.size
  refine lx_nil ?_
  refine wk_region ?_
  refine lx_value (want rfl) (rn_add hs1_9 rfl (by omega)) ?_
  refine lx_value (want rfl) (mv_int rfl) ?_
  refine lx_nil ?_
  exact ⟨rfl, ((((((((((A1.up rfl _).up rfl _).up rfl _).up rfl _).none _).up rfl _).up rfl _).none _).up rfl _).up rfl _), Fr.between F1 F5 (by omega), _, (by omega), i + 1, rfl, rfl, (by first | (rw [← ptM_step hx]; exact HMEm1) | exact HMEm1), by omega⟩
 ·
  refine lx_nil ?_
  refine wk_seq ?_
  refine wk_cond_f rfl ?_
  refine wk_exit ?_
  refine wk_seq ?_
  refine wk_region ?_
  refine lx_value (want rfl) (mv_map (A1.at 3 rfl rfl)) ?_
  refine lx_value (want rfl) (rn_lenM Tryz.underlying170 rfl BL1_1) ?_
  refine lx_value (want rfl) (mv_slice (A1.at 0 rfl rfl)) ?_
  refine lx_value (want rfl) (rn_len Tryz.underlying40 rfl) ?_
  refine lx_value (want rfl) (rn_eql rfl rfl) ?_
  refine lx_value (want rfl) (as_bool rfl) ?_
  refine lx_nil ?_
  refine wk_ret ?_
  refine retR1 Tryz.results68 (.tmp (t_bool rfl)) F2 ?_
  exact congrArg Value.bool (decide_eq_true (by rw [ptM_len, List.length_take]; omega))

def trimRen : Go.Shelf.Ren := ⟨fun | 119 => 180 | 120 => 178 | 137 => 179 | 151 => 174 | 152 => 177 | 160 => 156 | 197 => 173 | 217 => 183 | 224 => 181 | 225 => 182 | 227 => 167 | 228 => 172 | 231 => 165 | 232 => 166 | 233 => 168 | 234 => 169 | 235 => 170 | 236 => 171 | 260 => 176 | 266 => 184 | 271 => 175 | n => n, fun | 0 => 0 | 3 => 3 | 4 => 4 | 5 => 5 | 9 => 9 | 21 => 21 | 46 => 153 | 105 => 246 | 116 => 240 | 117 => 241 | 119 => 250 | 124 => 244 | 138 => 252 | 139 => 253 | n => n, fun | 3 => 0 | 4 => 1 | n => n⟩
theorem trimLays : Go.Proofs.Lays.n160 Tryz.prog trimRen where
 mixed := by kernel_rfl
 f119 := Tryz.func180.trans (congrArg some (by kernel_rfl))
 f120 := Tryz.func178.trans (congrArg some (by kernel_rfl))
 f137 := Tryz.func179.trans (congrArg some (by kernel_rfl))
 f151 := Tryz.func174.trans (congrArg some (by kernel_rfl))
 f152 := Tryz.func177.trans (congrArg some (by kernel_rfl))
 f160 := Tryz.func156.trans (congrArg some (by kernel_rfl))
 f197 := Tryz.func173.trans (congrArg some (by kernel_rfl))
 f217 := Tryz.func183.trans (congrArg some (by kernel_rfl))
 f224 := Tryz.func181.trans (congrArg some (by kernel_rfl))
 f225 := Tryz.func182.trans (congrArg some (by kernel_rfl))
 f227 := Tryz.func167.trans (congrArg some (by kernel_rfl))
 f228 := Tryz.func172.trans (congrArg some (by kernel_rfl))
 f231 := Tryz.func165.trans (congrArg some (by kernel_rfl))
 f232 := Tryz.func166.trans (congrArg some (by kernel_rfl))
 f233 := Tryz.func168.trans (congrArg some (by kernel_rfl))
 f234 := Tryz.func169.trans (congrArg some (by kernel_rfl))
 f235 := Tryz.func170.trans (congrArg some (by kernel_rfl))
 f236 := Tryz.func171.trans (congrArg some (by kernel_rfl))
 f260 := Tryz.func176.trans (congrArg some (by kernel_rfl))
 f266 := Tryz.func184.trans (congrArg some (by kernel_rfl))
 f271 := Tryz.func175.trans (congrArg some (by kernel_rfl))
 t0 := Tryz.underlying0
 a0 := Tryz.isAgg0
 z0 := Tryz.sizeOf0
 v0 := Tryz.zeroValue0
 t3 := Tryz.underlying3
 a3 := Tryz.isAgg3
 z3 := Tryz.sizeOf3
 v3 := Tryz.zeroValue3
 t4 := Tryz.underlying4
 a4 := Tryz.isAgg4
 z4 := Tryz.sizeOf4
 v4 := Tryz.zeroValue4
 t5 := Tryz.underlying5
 a5 := Tryz.isAgg5
 z5 := Tryz.sizeOf5
 v5 := Tryz.zeroValue5
 t9 := Tryz.underlying9
 a9 := Tryz.isAgg9
 z9 := Tryz.sizeOf9
 v9 := Tryz.zeroValue9
 t21 := Tryz.underlying21
 a21 := Tryz.isAgg21
 z21 := Tryz.sizeOf21
 v21 := Tryz.zeroValue21
 t46 := Tryz.underlying153
 a46 := Tryz.isAgg153
 z46 := Tryz.sizeOf153
 v46 := Tryz.zeroValue153
 t105 := Tryz.underlying246
 a105 := Tryz.isAgg246
 z105 := Tryz.sizeOf246
 v105 := Tryz.zeroValue246
 t116 := Tryz.underlying240
 a116 := Tryz.isAgg240
 z116 := Tryz.sizeOf240
 t117 := Tryz.underlying241
 a117 := Tryz.isAgg241
 z117 := Tryz.sizeOf241
 v117 := Tryz.zeroValue241
 t119 := Tryz.underlying250
 a119 := Tryz.isAgg250
 z119 := Tryz.sizeOf250
 t124 := Tryz.underlying244
 a124 := Tryz.isAgg244
 z124 := Tryz.sizeOf244
 v124 := Tryz.zeroValue244
 t138 := Tryz.underlying252
 a138 := Tryz.isAgg252
 z138 := Tryz.sizeOf252
 v138 := Tryz.zeroValue252
 t139 := Tryz.underlying253
 a139 := Tryz.isAgg253
 z139 := Tryz.sizeOf253
 v139 := Tryz.zeroValue253
 g3 := by kernel_rfl
 g4 := by kernel_rfl
theorem trim_ct (s cut : ByteArray) (hs : s.size ≤ 1000000) (hc : cut.size ≤ 1000) (ha : cut.data.toList.all (fun b => decide (b.toNat < 128)) = true) (w : World) : CT Tryz.prog 156 [.string s, .string cut] w no (fun u _ => u = .string ⟨(Go.Lib.trimS s.data.toList cut.data.toList).toArray⟩) :=
 ⟨callsIn_wide.2 ((Go.Proofs.Any.strings_Trim_laid trimLays (by kernel_rfl) s cut w (by omega) (by omega) (Go.Proofs.ascii_of_all ha)).mono fun e w' ⟨he, hw⟩ => ⟨_, he, ⟨hw.os, hw.tape, hw.output, hw.size, fun k hk _ => hw.block k hk⟩, rfl⟩)⟩

theorem indexe_ct (l : List Ent) (s : Option Addr) (c : Nat) (F : Nat → Prop) (fid : FuncId) (bnd caps : List Value) (q : Ent → Bool) (hcf : ∀ args w, (callFunc fid args).run Tryz.prog w = .ok (.enter fid args) w) (w0 : World) (hl : EnS F w0 s l) (hb : l.length ≤ 2000) (hq : ∀ z so co w, z ∈ l → VlS F w so z.ports → Ext w0 w → CT Tryz.prog fid (bnd ++ [.agg #[.int .i64 z.ctx, .int .i64 z.at_, .slice so z.ports.length co]] ++ caps) w no (fun v _ => v = .bool (q z))) :
  CT Tryz.prog 72 [.slice s l.length c, .func (.func fid) bnd.toArray caps.toArray] w0 no (fun v _ => ∃ z : Int, v = .int .i64 z ∧ IdxR q l z) := by
 have F0 := Fr.refl no w0
 refine ct_body Tryz.func72 rfl Tryz.ntmps72 (Nat.le_of_ble_eq_true rfl) ?_
 refine wk_seq ?_
 refine wk_region ?_
 refine lx_value (want rfl) (as_int rfl) ?_
 refine lx_nil ?_
 refine wk_seq ?_
 refine wk_seq ?_
 refine wk_region ?_
 refine lx_value (want rfl) (mv_slice rfl) ?_
 refine lx_value (want rfl) (rn_len Tryz.underlying39 rfl) ?_
 refine lx_value (want rfl) (mv_int rfl) ?_
 refine lx_nil ?_
 refine wk_block ?_
 refine wk_loopA [4, 5, 8, 9, 10, 11, 12, 13, 14, 15, 16, 17, 18] no (fun nM ρ w => ∃ (i : Nat), nM = l.length - i ∧ ρ 8 = .int .i64 i ∧ (i ≤ l.length) ∧ ((l.take i).any q = false)) _ ⟨0, rfl, rfl, by omega, rfl⟩ ?_
 rintro n1 ρ1 w1 A1 EL1 ⟨i, rfl, hs1_8, hi, hq0⟩
 have F1 := F0.ext EL1
 have hzL1 := EL1.size
 refine wk_seq ?_
 refine wk_region ?_
 refine lx_value (want rfl) (rn_lss hs1_8 (A1.at 7 rfl rfl)) ?_
 refine lx_dec (fun hlt => ?_) (fun hlt => ?_)
 ·
  obtain ⟨z, hz⟩ := getx hlt
  obtain ⟨bx, ox, rfl, _, so, co, hcx, hco⟩ := hl i z hz
  refine lx_nil ?_
  refine wk_seq ?_
  refine wk_cond_t rfl ?_
  refine wk_skip ?_
  refine wk_seq ?_
  refine wk_block ?_
  refine wk_seq ?_
  refine wk_region ?_
  refine lx_value (want rfl) (mv_int hs1_8) ?_
  refine lx_value (want rfl) (as_int rfl) ?_
  refine lx_nil ?_
  refine wk_seq ?_
  refine wk_region ?_
  refine lx_value (want rfl) (mv_func (A1.at 1 rfl rfl)) ?_
  refine lx_value (want rfl) (mv_slice (A1.at 0 rfl rfl)) ?_
  refine lx_value (want rfl) (mv_int rfl) ?_
  refine lx_value (want rfl) (rn_index _ Tryz.underlying39 sz_55 rfl rfl rfl (by omega)) ?_
  refine lx_value (want rfl) (rn_loadN ag_55 sz_55 rfl rfl (hcx.fr F1 (fun h => h))) ?_
  refine lx_call (want rfl) (ent_valueB hcf rfl (argsC (t_agg rfl) args0)) (hq z so co w1 (List.mem_of_getElem? hz) (hco.fr (vl_stab _) F1 (fun _ _ h => h)) F1) ?_
  rintro _ w2 E1 rfl
  have F2 := F1.ext E1
  have hz1 := E1.size
  refine lx_split (fun h16 => ?_) (fun h16 => ?_)
  ·
   refine lx_nil ?_
   refine wk_cond_t rfl ?_
   refine wk_seq ?_
   refine wk_region ?_
   refine lx_value (want rfl) (mv_int rfl) ?_
   refine lx_value (want rfl) (as_int rfl) ?_
   refine lx_nil ?_
   refine wk_ret ?_
   refine retR1 Tryz.results72 (.tmp (t_int rfl)) F2 ?_
   exact idx_some hz h16 hq0
  ·
   refine lx_nil ?_
   refine wk_cond_f rfl ?_
   refine wk_skip ?_
   refine wk_region ?_
   refine lx_value (want rfl) (rn_add hs1_8 rfl (by omega)) ?_
   refine lx_value (want rfl) (mv_int rfl) ?_
   refine lx_nil ?_
   exact ⟨rfl, (((((((((((A1.up rfl _).up rfl _).up rfl _).up rfl _).up rfl _).up rfl _).up rfl _).up rfl _).up rfl _).up rfl _).up rfl _), (Fr.ext EL1 E1), _, (by omega), i + 1, rfl, rfl, by omega, (any_step hq0 hz h16)⟩
 ·
  refine lx_nil ?_
  refine wk_seq ?_
  refine wk_cond_f rfl ?_
  refine wk_exit ?_
  refine wk_seq ?_
  refine wk_region ?_
  refine lx_value (want rfl) (as_int rfl) ?_
  refine lx_nil ?_
  refine wk_ret ?_
  refine retR1 Tryz.results72 (.tmp (t_int rfl)) F1 ?_
  exact idx_none hq0 hlt

theorem delete_ct (Z : Nat → Prop) (b o c : Nat) (us : List Value) (hZo1 : ∀ k, ob (some (⟨b, o, none⟩ : Addr)) k → Z k) (hc1 : 1 ≤ c) (w0 : World) (hO : OwnS w0 55 3 (some ⟨b, o, none⟩) 1 c us) :
  CT Tryz.prog 45 [.slice (some ⟨b, o, none⟩) 1 c, .int .i64 ((0 : Nat) : Int), .int .i64 ((1 : Nat) : Int)] w0 Z (fun v w => v = .slice (some ⟨b, o, none⟩) 0 c ∧ OwnS w 55 3 (some ⟨b, o, none⟩) 0 c []) := by
 have F0 := Fr.refl Z w0
 have zo1 : ∀ k, ob (some (⟨b, o, none⟩ : Addr)) k → Z k ∨ w0.heap.size ≤ k := fun k h => .inl (hZo1 k h)
 refine ct_body Tryz.func45 rfl Tryz.ntmps45 (Nat.le_of_ble_eq_true rfl) ?_
 refine wk_seq ?_
 refine wk_region ?_
 refine lx_value (want rfl) (as_slice rfl) ?_
 refine lx_nil ?_
 refine wk_seq ?_
 refine wk_region ?_
 refine lx_value (want rfl) (mv_slice rfl) ?_
 refine lx_value (want rfl) (mv_int rfl) ?_
 refine lx_value (want rfl) (mv_int rfl) ?_
 refine lx_value (want rfl) (mv_slice rfl) ?_
 refine lx_value (want rfl) (rn_len Tryz.underlying39 rfl) ?_
 refine lx_value (want rfl) (rn_slice3 0 1 1 Tryz.underlying39 sz_55 rfl rfl rfl rfl rfl rfl rfl (by decide) (by decide) hc1) ?_
 refine lx_nil ?_
 refine wk_seq ?_
 refine wk_seq ?_
 refine wk_region ?_
 refine lx_value (want rfl) (mv_int rfl) ?_
 refine lx_value (want rfl) (mv_int rfl) ?_
 refine lx_value (want rfl) (rn_eql rfl rfl) ?_
 refine lx_dec_f ((by decide)) ?_
 refine lx_nil ?_
 refine wk_cond_f rfl ?_
 refine wk_skip ?_
 refine wk_seq ?_
 refine wk_region ?_
 refine lx_value (want rfl) (mv_slice rfl) ?_
 refine lx_value (want rfl) (rn_len Tryz.underlying39 rfl) ?_
 refine lx_value (want rfl) (as_int rfl) ?_
 refine lx_nil ?_
 refine wk_seq ?_
 refine wk_mix 6 (fun _ => .none) (by kernel_rfl) (by kernel_rfl) (fun kS G hk => by cases hk) (fun kS s y G hk => by cases hk) ?_
 simp only [List.take_succ_cons, List.take_zero, List.take_nil, List.drop_succ_cons, List.drop_zero, List.drop_nil]
 refine mx_calm rfl (want rfl) (fun u1 eu1 fu1 => mv_slice rfl) ?_
 refine mx_calm rfl (want rfl) (fun u2 eu2 fu2 => mv_int rfl) ?_
 refine mx_calm rfl (want rfl) (fun u3 eu3 fu3 => rn_sliceTo 0 Tryz.underlying39 sz_55 rfl rfl rfl (Nat.zero_le _)) ?_
 refine mx_calm rfl (want rfl) (fun u4 eu4 fu4 => mv_slice rfl) ?_
 refine mx_calm rfl (want rfl) (fun u5 eu5 fu5 => mv_int rfl) ?_
 refine mx_calm rfl (want rfl) (fun u6 eu6 fu6 => rn_sliceFrom 1 Tryz.underlying39 sz_55 rfl rfl rfl (Nat.le_refl _)) ?_
 refine mx_nil (fun w1 E1' H1 HS => ?_)
 have E1 := (ext_drawn _).trans' E1'
 have F1 := F0.ext E1
 have hz1 := E1.size
 refine lx_value (want rfl) (rn_append00 Tryz.underlying39 ti_55 rfl rfl (Nat.zero_le _)) ?_
 refine lx_value (want rfl) (as_slice rfl) ?_
 refine lx_nil ?_
 refine wk_seq ?_
 refine wk_region ?_
 refine lx_value (want rfl) (mv_slice rfl) ?_
 refine lx_value (want rfl) (mv_slice rfl) ?_
 refine lx_value (want rfl) (rn_len Tryz.underlying39 rfl) ?_
 refine lx_value (want rfl) (mv_int rfl) ?_
 refine lx_value (want rfl) (rn_slice01 Tryz.underlying39 sz_55 rfl rfl rfl rfl rfl hc1) ?_
 have hOx := (hO.ext E1)
 refine lx_clear1 (want rfl) Tryz.underlying39 (u := .agg #[.int .i64 0, .int .i64 0, .slice none 0 0]) (zs := [.int .i64 0, .int .i64 0, .slice none 0 0]) (fun _ => by kernel_rfl) rfl rfl (by decide) rfl hOx hc1 ?_
 intro w2 Ec' HOc
 have Ec : Fr (ob (some (⟨b, o, none⟩ : Addr))) _ _ := Ec'.mono (fun i _ hi => ⟨_, _, by subst hi; rfl⟩)
 have F2 := F1.new' Ec zo1
 have hzc := Ec.size
 refine lx_nil ?_
 refine wk_seq ?_
 refine wk_region ?_
 refine lx_value (want rfl) (mv_slice rfl) ?_
 refine lx_value (want rfl) (as_slice rfl) ?_
 refine lx_nil ?_
 refine wk_ret ?_
 refine retR1 Tryz.results45 (.tmp (t_slice rfl)) F2 ?_
 exact ⟨rfl, HOc⟩

theorem isnode_ct (x : Ins) (so : Option Addr) (co : Nat) (w0 : World) :
  CT Tryz.prog 136 [.agg #[.int .u8 x.op, .string x.nm, .int .i64 x.n, .slice so x.outs.length co]] w0 no (fun v _ => v = .bool (isNodeB x)) := by
 have F0 := Fr.refl no w0
 refine ct_body Tryz.func136 rfl Tryz.ntmps136 (Nat.le_of_ble_eq_true rfl) ?_
 refine wk_seq ?_
 refine wk_region ?_
 refine lx_new (want rfl) (rn_box (t_agg rfl)) ?_
 intro b1 w1 hb1 Eb1 B1 hlb1
 have F1 := F0.ext Eb1
 have hzb1 := Eb1.size
 refine lx_value (want rfl) (as_bool rfl) ?_
 refine lx_nil ?_
 refine wk_seq ?_
 refine wk_region ?_
 refine lx_value (want rfl) (rn_fieldAddr fa_73_0 rfl) ?_
 refine lx_value (want rfl) (rn_load1Blk ag_5 rfl B1 rfl) ?_
 refine lx_value (want rfl) (rn_neq rfl rfl) ?_
 refine lx_dec (fun h1 => ?_) (fun h1 => ?_)
 ·
  refine lx_value (want rfl) (mv_bool rfl) ?_
  refine lx_value (want_if (j := 3) (d := 6) (x := true) (y := true) rfl rfl (by decide) rfl) (rn_fieldAddr fa_73_0 rfl) ?_
  refine lx_value (want_if (j := 3) (d := 6) (x := true) (y := true) rfl rfl (by decide) rfl) (rn_load1Blk ag_5 rfl B1 rfl) ?_
  refine lx_value (want_if (j := 3) (d := 6) (x := true) (y := true) rfl rfl (by decide) rfl) (rn_neq rfl rfl) ?_
  refine lx_dec (fun h2 => ?_) (fun h2 => ?_)
  ·
   refine lx_value (want rfl) (pick_t rfl rfl) ?_
   refine lx_value (want rfl) (mv_bool rfl) ?_
   refine lx_value (want_if (j := 8) (d := 11) (x := true) (y := true) rfl rfl (by decide) rfl) (rn_fieldAddr fa_73_0 rfl) ?_
   refine lx_value (want_if (j := 8) (d := 11) (x := true) (y := true) rfl rfl (by decide) rfl) (rn_load1Blk ag_5 rfl B1 rfl) ?_
   refine lx_value (want_if (j := 8) (d := 11) (x := true) (y := true) rfl rfl (by decide) rfl) (rn_neq rfl rfl) ?_
   refine lx_value (want rfl) (pick_t rfl rfl) ?_
   refine lx_value (want rfl) (as_bool rfl) ?_
   refine lx_nil ?_
   refine wk_ret ?_
   refine retR1 Tryz.results136 (.tmp (t_bool rfl)) F1 ?_
   exact congrArg Value.bool (by unfold isNodeB; simp [*])
  ·
   refine lx_value (want rfl) (pick_t rfl rfl) ?_
   refine lx_value (want rfl) (mv_bool rfl) ?_
   refine lx_skip (want_if (j := 8) (d := 11) (x := true) (y := false) rfl rfl (by decide) rfl) ?_
   refine lx_skip (want_if (j := 8) (d := 11) (x := true) (y := false) rfl rfl (by decide) rfl) ?_
   refine lx_skip (want_if (j := 8) (d := 11) (x := true) (y := false) rfl rfl (by decide) rfl) ?_
   refine lx_value (want rfl) (pick_f rfl rfl) ?_
   refine lx_value (want rfl) (as_bool rfl) ?_
   refine lx_nil ?_
   refine wk_ret ?_
   refine retR1 Tryz.results136 (.tmp (t_bool rfl)) F1 ?_
   exact congrArg Value.bool (by unfold isNodeB; simp [*])
 ·
  refine lx_value (want rfl) (mv_bool rfl) ?_
  refine lx_skip (want_if (j := 3) (d := 6) (x := true) (y := false) rfl rfl (by decide) rfl) ?_
  refine lx_skip (want_if (j := 3) (d := 6) (x := true) (y := false) rfl rfl (by decide) rfl) ?_
  refine lx_skip (want_if (j := 3) (d := 6) (x := true) (y := false) rfl rfl (by decide) rfl) ?_
  refine lx_value (want rfl) (pick_f rfl rfl) ?_
  refine lx_value (want rfl) (mv_bool rfl) ?_
  refine lx_skip (want_if (j := 8) (d := 11) (x := true) (y := false) rfl rfl (by decide) rfl) ?_
  refine lx_skip (want_if (j := 8) (d := 11) (x := true) (y := false) rfl rfl (by decide) rfl) ?_
  refine lx_skip (want_if (j := 8) (d := 11) (x := true) (y := false) rfl rfl (by decide) rfl) ?_
  refine lx_value (want rfl) (pick_f rfl rfl) ?_
  refine lx_value (want rfl) (as_bool rfl) ?_
  refine lx_nil ?_
  refine wk_ret ?_
  refine retR1 Tryz.results136 (.tmp (t_bool rfl)) F1 ?_
  exact congrArg Value.bool (by unfold isNodeB; simp [*])

theorem indext_ct (l : List Tok) (s : Option Addr) (c : Nat) (F : Nat → Prop) (fid : FuncId) (bnd caps : List Value) (q : Tok → Bool) (hcf : ∀ args w, (callFunc fid args).run Tryz.prog w = .ok (.enter fid args) w) (w0 : World) (hl : TkS F w0 s l) (hb : l.length ≤ 2000) (hq : ∀ z w, z ∈ l → Ext w0 w → CT Tryz.prog fid (bnd ++ [.agg #[.int .i64 z.1, .int .i64 z.2.1, .int .i64 z.2.2.1, .int .u8 z.2.2.2.1, .int .i64 z.2.2.2.2]] ++ caps) w no (fun v _ => v = .bool (q z))) :
  CT Tryz.prog 133 [.slice s l.length c, .func (.func fid) bnd.toArray caps.toArray] w0 no (fun v _ => ∃ z : Int, v = .int .i64 z ∧ IdxR q l z) := by
 have F0 := Fr.refl no w0
 refine ct_body Tryz.func133 rfl Tryz.ntmps133 (Nat.le_of_ble_eq_true rfl) ?_
 refine wk_seq ?_
 refine wk_region ?_
 refine lx_value (want rfl) (as_int rfl) ?_
 refine lx_nil ?_
 refine wk_seq ?_
 refine wk_seq ?_
 refine wk_region ?_
 refine lx_value (want rfl) (mv_slice rfl) ?_
 refine lx_value (want rfl) (rn_len Tryz.underlying56 rfl) ?_
 refine lx_value (want rfl) (mv_int rfl) ?_
 refine lx_nil ?_
 refine wk_block ?_
 refine wk_loopA [4, 5, 8, 9, 10, 11, 12, 13, 14, 15, 16, 17, 18] no (fun nM ρ w => ∃ (i : Nat), nM = l.length - i ∧ ρ 8 = .int .i64 i ∧ (i ≤ l.length) ∧ ((l.take i).any q = false)) _ ⟨0, rfl, rfl, by omega, rfl⟩ ?_
 rintro n1 ρ1 w1 A1 EL1 ⟨i, rfl, hs1_8, hi, hq0⟩
 have F1 := F0.ext EL1
 have hzL1 := EL1.size
 refine wk_seq ?_
 refine wk_region ?_
 refine lx_value (want rfl) (rn_lss hs1_8 (A1.at 7 rfl rfl)) ?_
 refine lx_dec (fun hlt => ?_) (fun hlt => ?_)
 ·
  obtain ⟨z, hz⟩ := getx hlt
  obtain ⟨bx, ox, rfl, _, hcx⟩ := hl i z hz
  refine lx_nil ?_
  refine wk_seq ?_
  refine wk_cond_t rfl ?_
  refine wk_skip ?_
  refine wk_seq ?_
  refine wk_block ?_
  refine wk_seq ?_
  refine wk_region ?_
  refine lx_value (want rfl) (mv_int hs1_8) ?_
  refine lx_value (want rfl) (as_int rfl) ?_
  refine lx_nil ?_
  refine wk_seq ?_
  refine wk_region ?_
  refine lx_value (want rfl) (mv_func (A1.at 1 rfl rfl)) ?_
  refine lx_value (want rfl) (mv_slice (A1.at 0 rfl rfl)) ?_
  refine lx_value (want rfl) (mv_int rfl) ?_
  refine lx_value (want rfl) (rn_index _ Tryz.underlying56 sz_51 rfl rfl rfl (by omega)) ?_
  refine lx_value (want rfl) (rn_loadN ag_51 sz_51 rfl rfl ((show Cs _ _ _ (tkC z) from hcx).fr F1 (fun h => h))) ?_
  refine lx_call (want rfl) (ent_valueB hcf rfl (argsC (t_agg rfl) args0)) (hq z w1 (List.mem_of_getElem? hz)  F1) ?_
  rintro _ w2 E1 rfl
  have F2 := F1.ext E1
  have hz1 := E1.size
  refine lx_split (fun h16 => ?_) (fun h16 => ?_)
  ·
   refine lx_nil ?_
   refine wk_cond_t rfl ?_
   refine wk_seq ?_
   refine wk_region ?_
   refine lx_value (want rfl) (mv_int rfl) ?_
   refine lx_value (want rfl) (as_int rfl) ?_
   refine lx_nil ?_
   refine wk_ret ?_
   refine retR1 Tryz.results133 (.tmp (t_int rfl)) F2 ?_
   exact idx_some hz h16 hq0
  ·
   refine lx_nil ?_
   refine wk_cond_f rfl ?_
   refine wk_skip ?_
   refine wk_region ?_
   refine lx_value (want rfl) (rn_add hs1_8 rfl (by omega)) ?_
   refine lx_value (want rfl) (mv_int rfl) ?_
   refine lx_nil ?_
   exact ⟨rfl, (((((((((((A1.up rfl _).up rfl _).up rfl _).up rfl _).up rfl _).up rfl _).up rfl _).up rfl _).up rfl _).up rfl _).up rfl _), (Fr.ext EL1 E1), _, (by omega), i + 1, rfl, rfl, by omega, (any_step hq0 hz h16)⟩
 ·
  refine lx_nil ?_
  refine wk_seq ?_
  refine wk_cond_f rfl ?_
  refine wk_exit ?_
  refine wk_seq ?_
  refine wk_region ?_
  refine lx_value (want rfl) (as_int rfl) ?_
  refine lx_nil ?_
  refine wk_ret ?_
  refine retR1 Tryz.results133 (.tmp (t_int rfl)) F1 ?_
  exact idx_none hq0 hlt

theorem indexn_ct (l : List Ins) (s : Option Addr) (c : Nat) (F : Nat → Prop) (fid : FuncId) (caps : List Value) (q : Ins → Bool) (hcf : ∀ args w, (callFunc fid args).run Tryz.prog w = .ok (.enter fid args) w) (w0 : World) (hl : InS F w0 s l) (hb : l.length ≤ 1000) (hq : ∀ z so co w, z ∈ l → Ext w0 w → CT Tryz.prog fid (.agg #[.int .u8 z.op, .string z.nm, .int .i64 z.n, .slice so z.outs.length co] :: caps) w no (fun v _ => v = .bool (q z))) :
  CT Tryz.prog 158 [.slice s l.length c, .func (.func fid) #[] caps.toArray] w0 no (fun v _ => ∃ z : Int, v = .int .i64 z ∧ IdxR q l z) := by
 have F0 := Fr.refl no w0
 refine ct_body Tryz.func158 rfl Tryz.ntmps158 (Nat.le_of_ble_eq_true rfl) ?_
 refine wk_seq ?_
 refine wk_region ?_
 refine lx_value (want rfl) (as_int rfl) ?_
 refine lx_nil ?_
 refine wk_seq ?_
 refine wk_seq ?_
 refine wk_region ?_
 refine lx_value (want rfl) (mv_slice rfl) ?_
 refine lx_value (want rfl) (rn_len Tryz.underlying33 rfl) ?_
 refine lx_value (want rfl) (mv_int rfl) ?_
 refine lx_nil ?_
 refine wk_block ?_
 refine wk_loopA [4, 5, 8, 9, 10, 11, 12, 13, 14, 15, 16, 17, 18] no (fun nM ρ w => ∃ (i : Nat), nM = l.length - i ∧ ρ 8 = .int .i64 i ∧ (i ≤ l.length) ∧ ((l.take i).any q = false)) _ ⟨0, rfl, rfl, by omega, rfl⟩ ?_
 rintro n1 ρ1 w1 A1 EL1 ⟨i, rfl, hs1_8, hi, hq0⟩
 have F1 := F0.ext EL1
 have hzL1 := EL1.size
 refine wk_seq ?_
 refine wk_region ?_
 refine lx_value (want rfl) (rn_lss hs1_8 (A1.at 7 rfl rfl)) ?_
 refine lx_dec (fun hlt => ?_) (fun hlt => ?_)
 ·
  obtain ⟨z, hz⟩ := getx hlt
  obtain ⟨bx, ox, rfl, _, so, co, hcx, hco⟩ := hl i z hz
  refine lx_nil ?_
  refine wk_seq ?_
  refine wk_cond_t rfl ?_
  refine wk_skip ?_
  refine wk_seq ?_
  refine wk_block ?_
  refine wk_seq ?_
  refine wk_region ?_
  refine lx_value (want rfl) (mv_int hs1_8) ?_
  refine lx_value (want rfl) (as_int rfl) ?_
  refine lx_nil ?_
  refine wk_seq ?_
  refine wk_region ?_
  refine lx_value (want rfl) (mv_func (A1.at 1 rfl rfl)) ?_
  refine lx_value (want rfl) (mv_slice (A1.at 0 rfl rfl)) ?_
  refine lx_value (want rfl) (mv_int rfl) ?_
  refine lx_value (want rfl) (rn_index _ Tryz.underlying33 sz_73 rfl rfl rfl (by omega)) ?_
  refine lx_value (want rfl) (rn_loadN ag_73 sz_73 rfl rfl (hcx.fr F1 (fun h => h))) ?_
  refine lx_call (want rfl) (ent_value hcf rfl (argsC (t_agg rfl) args0)) (hq z so co w1 (List.mem_of_getElem? hz) F1) ?_
  rintro _ w2 E1 rfl
  have F2 := F1.ext E1
  have hz1 := E1.size
  refine lx_split (fun h16 => ?_) (fun h16 => ?_)
  ·
   refine lx_nil ?_
   refine wk_cond_t rfl ?_
   refine wk_seq ?_
   refine wk_region ?_
   refine lx_value (want rfl) (mv_int rfl) ?_
   refine lx_value (want rfl) (as_int rfl) ?_
   refine lx_nil ?_
   refine wk_ret ?_
   refine retR1 Tryz.results158 (.tmp (t_int rfl)) F2 ?_
   exact idx_some hz h16 hq0
  ·
   refine lx_nil ?_
   refine wk_cond_f rfl ?_
   refine wk_skip ?_
   refine wk_region ?_
   refine lx_value (want rfl) (rn_add hs1_8 rfl (by omega)) ?_
   refine lx_value (want rfl) (mv_int rfl) ?_
   refine lx_nil ?_
   exact ⟨rfl, (((((((((((A1.up rfl _).up rfl _).up rfl _).up rfl _).up rfl _).up rfl _).up rfl _).up rfl _).up rfl _).up rfl _).up rfl _), (Fr.ext EL1 E1), _, (by omega), i + 1, rfl, rfl, by omega, (any_step hq0 hz h16)⟩
 ·
  refine lx_nil ?_
  refine wk_seq ?_
  refine wk_cond_f rfl ?_
  refine wk_exit ?_
  refine wk_seq ?_
  refine wk_region ?_
  refine lx_value (want rfl) (as_int rfl) ?_
  refine lx_nil ?_
  refine wk_ret ?_
  refine retR1 Tryz.results158 (.tmp (t_int rfl)) F1 ?_
  exact idx_none hq0 hlt

theorem indexv_ct (l : List Vl) (s : Option Addr) (c : Nat) (F : Nat → Prop) (fid : FuncId) (caps : List Value) (q : Vl → Bool) (hcf : ∀ args w, (callFunc fid args).run Tryz.prog w = .ok (.enter fid args) w) (w0 : World) (hl : VlS F w0 s l) (hb : l.length ≤ 1000) (hq : ∀ z w, z ∈ l → Ext w0 w → CT Tryz.prog fid (vlV z :: caps) w no (fun v _ => v = .bool (q z))) :
  CT Tryz.prog 79 [.slice s l.length c, .func (.func fid) #[] caps.toArray] w0 no (fun v _ => ∃ z : Int, v = .int .i64 z ∧ IdxR q l z) := by
 have F0 := Fr.refl no w0
 refine ct_body Tryz.func79 rfl Tryz.ntmps79 (Nat.le_of_ble_eq_true rfl) ?_
 refine wk_seq ?_
 refine wk_region ?_
 refine lx_value (want rfl) (as_int rfl) ?_
 refine lx_nil ?_
 refine wk_seq ?_
 refine wk_seq ?_
 refine wk_region ?_
 refine lx_value (want rfl) (mv_slice rfl) ?_
 refine lx_value (want rfl) (rn_len Tryz.underlying53 rfl) ?_
 refine lx_value (want rfl) (mv_int rfl) ?_
 refine lx_nil ?_
 refine wk_block ?_
 refine wk_loopA [4, 5, 8, 9, 10, 11, 12, 13, 14, 15, 16, 17, 18] no (fun nM ρ w => ∃ (i : Nat), nM = l.length - i ∧ ρ 8 = .int .i64 i ∧ (i ≤ l.length) ∧ ((l.take i).any q = false)) _ ⟨0, rfl, rfl, by omega, rfl⟩ ?_
 rintro n1 ρ1 w1 A1 EL1 ⟨i, rfl, hs1_8, hi, hq0⟩
 have F1 := F0.ext EL1
 have hzL1 := EL1.size
 refine wk_seq ?_
 refine wk_region ?_
 refine lx_value (want rfl) (rn_lss hs1_8 (A1.at 7 rfl rfl)) ?_
 refine lx_dec (fun hlt => ?_) (fun hlt => ?_)
 ·
  obtain ⟨z, hz⟩ := getx hlt
  obtain ⟨bx, ox, rfl, _, hcx⟩ := hl i z hz
  refine lx_nil ?_
  refine wk_seq ?_
  refine wk_cond_t rfl ?_
  refine wk_skip ?_
  refine wk_seq ?_
  refine wk_block ?_
  refine wk_seq ?_
  refine wk_region ?_
  refine lx_value (want rfl) (mv_int hs1_8) ?_
  refine lx_value (want rfl) (as_int rfl) ?_
  refine lx_nil ?_
  refine wk_seq ?_
  refine wk_region ?_
  refine lx_value (want rfl) (mv_func (A1.at 1 rfl rfl)) ?_
  refine lx_value (want rfl) (mv_slice (A1.at 0 rfl rfl)) ?_
  refine lx_value (want rfl) (mv_int rfl) ?_
  refine lx_value (want rfl) (rn_index _ Tryz.underlying53 sz_48 rfl rfl rfl (by omega)) ?_
  refine lx_value (want rfl) (rn_load2 ag_48 sz_48 rfl (F1.cell (fun h => h) (hcx 0 _ rfl)) (F1.cell (fun h => h) (hcx 1 _ rfl))) ?_
  refine lx_call (want rfl) (ent_value hcf rfl (argsC (t_agg rfl) args0)) (hq z w1 (List.mem_of_getElem? hz) F1) ?_
  rintro _ w2 E1 rfl
  have F2 := F1.ext E1
  have hz1 := E1.size
  refine lx_split (fun h16 => ?_) (fun h16 => ?_)
  ·
   refine lx_nil ?_
   refine wk_cond_t rfl ?_
   refine wk_seq ?_
   refine wk_region ?_
   refine lx_value (want rfl) (mv_int rfl) ?_
   refine lx_value (want rfl) (as_int rfl) ?_
   refine lx_nil ?_
   refine wk_ret ?_
   refine retR1 Tryz.results79 (.tmp (t_int rfl)) F2 ?_
   exact idx_some hz h16 hq0
  ·
   refine lx_nil ?_
   refine wk_cond_f rfl ?_
   refine wk_skip ?_
   refine wk_region ?_
   refine lx_value (want rfl) (rn_add hs1_8 rfl (by omega)) ?_
   refine lx_value (want rfl) (mv_int rfl) ?_
   refine lx_nil ?_
   exact ⟨rfl, (((((((((((A1.up rfl _).up rfl _).up rfl _).up rfl _).up rfl _).up rfl _).up rfl _).up rfl _).up rfl _).up rfl _).up rfl _), (Fr.ext EL1 E1), _, (by omega), i + 1, rfl, rfl, by omega, (any_step hq0 hz h16)⟩
 ·
  refine lx_nil ?_
  refine wk_seq ?_
  refine wk_cond_f rfl ?_
  refine wk_exit ?_
  refine wk_seq ?_
  refine wk_region ?_
  refine lx_value (want rfl) (as_int rfl) ?_
  refine lx_nil ?_
  refine wk_ret ?_
  refine retR1 Tryz.results79 (.tmp (t_int rfl)) F1 ?_
  exact idx_none hq0 hlt

theorem indexi_ct (l : List Int) (s : Option Addr) (c : Nat) (F : Nat → Prop) (fid : FuncId) (caps : List Value) (q : Int → Bool) (hcf : ∀ args w, (callFunc fid args).run Tryz.prog w = .ok (.enter fid args) w) (w0 : World) (hl : Sl F w0 s 1 l (Fl intC)) (hb : l.length ≤ 1000) (hq : ∀ z w, z ∈ l → Ext w0 w → CT Tryz.prog fid (.int .i64 z :: caps) w no (fun v _ => v = .bool (q z))) :
  CT Tryz.prog 33 [.slice s l.length c, .func (.func fid) #[] caps.toArray] w0 no (fun v _ => ∃ z : Int, v = .int .i64 z ∧ IdxR q l z) := by
 have F0 := Fr.refl no w0
 refine ct_body Tryz.func33 rfl Tryz.ntmps33 (Nat.le_of_ble_eq_true rfl) ?_
 refine wk_seq ?_
 refine wk_region ?_
 refine lx_value (want rfl) (as_int rfl) ?_
 refine lx_nil ?_
 refine wk_seq ?_
 refine wk_seq ?_
 refine wk_region ?_
 refine lx_value (want rfl) (mv_slice rfl) ?_
 refine lx_value (want rfl) (rn_len Tryz.underlying68 rfl) ?_
 refine lx_value (want rfl) (mv_int rfl) ?_
 refine lx_nil ?_
 refine wk_block ?_
 refine wk_loopA [4, 5, 8, 9, 10, 11, 12, 13, 14, 15, 16, 17, 18] no (fun nM ρ w => ∃ (i : Nat), nM = l.length - i ∧ ρ 8 = .int .i64 i ∧ (i ≤ l.length) ∧ ((l.take i).any q = false)) _ ⟨0, rfl, rfl, by omega, rfl⟩ ?_
 rintro n1 ρ1 w1 A1 EL1 ⟨i, rfl, hs1_8, hi, hq0⟩
 have F1 := F0.ext EL1
 have hzL1 := EL1.size
 refine wk_seq ?_
 refine wk_region ?_
 refine lx_value (want rfl) (rn_lss hs1_8 (A1.at 7 rfl rfl)) ?_
 refine lx_dec (fun hlt => ?_) (fun hlt => ?_)
 ·
  obtain ⟨z, hz⟩ := getx hlt
  obtain ⟨bx, ox, rfl, _, hcx⟩ := hl i z hz
  refine lx_nil ?_
  refine wk_seq ?_
  refine wk_cond_t rfl ?_
  refine wk_skip ?_
  refine wk_seq ?_
  refine wk_block ?_
  refine wk_seq ?_
  refine wk_region ?_
  refine lx_value (want rfl) (mv_int hs1_8) ?_
  refine lx_value (want rfl) (as_int rfl) ?_
  refine lx_nil ?_
  refine wk_seq ?_
  refine wk_region ?_
  refine lx_value (want rfl) (mv_func (A1.at 1 rfl rfl)) ?_
  refine lx_value (want rfl) (mv_slice (A1.at 0 rfl rfl)) ?_
  refine lx_value (want rfl) (mv_int rfl) ?_
  refine lx_value (want rfl) (rn_index _ Tryz.underlying68 sz_3 rfl rfl rfl (by omega)) ?_
  refine lx_value (want rfl) (rn_load1 ag_3 rfl (F1.cell (fun h => h) (hcx 0 _ rfl))) ?_
  refine lx_call (want rfl) (ent_value hcf rfl (argsC (t_int rfl) args0)) (hq z w1 (List.mem_of_getElem? hz) F1) ?_
  rintro _ w2 E1 rfl
  have F2 := F1.ext E1
  have hz1 := E1.size
  refine lx_split (fun h16 => ?_) (fun h16 => ?_)
  ·
   refine lx_nil ?_
   refine wk_cond_t rfl ?_
   refine wk_seq ?_
   refine wk_region ?_
   refine lx_value (want rfl) (mv_int rfl) ?_
   refine lx_value (want rfl) (as_int rfl) ?_
   refine lx_nil ?_
   refine wk_ret ?_
   refine retR1 Tryz.results33 (.tmp (t_int rfl)) F2 ?_
   exact idx_some hz h16 hq0
  ·
   refine lx_nil ?_
   refine wk_cond_f rfl ?_
   refine wk_skip ?_
   refine wk_region ?_
   refine lx_value (want rfl) (rn_add hs1_8 rfl (by omega)) ?_
   refine lx_value (want rfl) (mv_int rfl) ?_
   refine lx_nil ?_
   exact ⟨rfl, (((((((((((A1.up rfl _).up rfl _).up rfl _).up rfl _).up rfl _).up rfl _).up rfl _).up rfl _).up rfl _).up rfl _).up rfl _), (Fr.ext EL1 E1), _, (by omega), i + 1, rfl, rfl, by omega, (any_step hq0 hz h16)⟩
 ·
  refine lx_nil ?_
  refine wk_seq ?_
  refine wk_cond_f rfl ?_
  refine wk_exit ?_
  refine wk_seq ?_
  refine wk_region ?_
  refine lx_value (want rfl) (as_int rfl) ?_
  refine lx_nil ?_
  refine wk_ret ?_
  refine retR1 Tryz.results33 (.tmp (t_int rfl)) F1 ?_
  exact idx_none hq0 hlt

theorem isidle_ct (op : Int) (v : Vl) (hv : v.1 ≠ 5) (w0 : World) :
  CT Tryz.prog 50 [.int .u8 op, vlV v] w0 no (fun u _ => u = .bool false) := by
 have F0 := Fr.refl no w0
 refine ct_body Tryz.func50 rfl Tryz.ntmps50 (Nat.le_of_ble_eq_true rfl) ?_
 refine wk_seq ?_
 refine wk_region ?_
 refine lx_new (want rfl) (rn_box (t_agg rfl)) ?_
 intro b1 w1 hb1 Eb1 B1 hlb1
 have F1 := F0.ext Eb1
 have hzb1 := Eb1.size
 refine lx_value (want rfl) (as_bool rfl) ?_
 refine lx_nil ?_
 refine wk_seq ?_
 refine wk_region ?_
 refine lx_value (want rfl) (mv_int rfl) ?_
 refine lx_value (want rfl) (rn_eql rfl rfl) ?_
 refine lx_dec (fun h6 => ?_) (fun h6 => ?_)
 ·
  refine lx_value (want rfl) (mv_bool rfl) ?_
  refine lx_skip (want_if (j := 2) (d := 7) (x := false) (y := true) rfl rfl (by decide) rfl) ?_
  refine lx_skip (want_if (j := 2) (d := 7) (x := false) (y := true) rfl rfl (by decide) rfl) ?_
  refine lx_value (want rfl) (pick_t rfl rfl) ?_
  refine lx_value (want rfl) (mv_bool rfl) ?_
  refine lx_value (want_if (j := 6) (d := 11) (x := true) (y := true) rfl rfl (by decide) rfl) (rn_fieldAddr fa_48_0 rfl) ?_
  refine lx_value (want_if (j := 6) (d := 11) (x := true) (y := true) rfl rfl (by decide) rfl) (rn_load1Blk ag_5 rfl B1 rfl) ?_
  refine lx_value (want_if (j := 6) (d := 11) (x := true) (y := true) rfl rfl (by decide) rfl) (rn_eql rfl rfl) ?_
  refine lx_value (want rfl) (pick_t rfl rfl) ?_
  refine lx_value (want rfl) (as_bool rfl) ?_
  refine lx_nil ?_
  refine wk_ret ?_
  refine retR1 Tryz.results50 (.tmp (t_bool rfl)) F1 ?_
  first | exact congrArg Value.bool (decide_eq_false hv) | exact rfl
 ·
  refine lx_value (want rfl) (mv_bool rfl) ?_
  refine lx_value (want_if (j := 2) (d := 7) (x := false) (y := false) rfl rfl (by decide) rfl) (mv_int rfl) ?_
  refine lx_value (want_if (j := 2) (d := 7) (x := false) (y := false) rfl rfl (by decide) rfl) (rn_eql rfl rfl) ?_
  refine lx_dec (fun h9 => ?_) (fun h9 => ?_)
  ·
   refine lx_value (want rfl) (pick_f rfl rfl) ?_
   refine lx_value (want rfl) (mv_bool rfl) ?_
   refine lx_value (want_if (j := 6) (d := 11) (x := true) (y := true) rfl rfl (by decide) rfl) (rn_fieldAddr fa_48_0 rfl) ?_
   refine lx_value (want_if (j := 6) (d := 11) (x := true) (y := true) rfl rfl (by decide) rfl) (rn_load1Blk ag_5 rfl B1 rfl) ?_
   refine lx_value (want_if (j := 6) (d := 11) (x := true) (y := true) rfl rfl (by decide) rfl) (rn_eql rfl rfl) ?_
   refine lx_value (want rfl) (pick_t rfl rfl) ?_
   refine lx_value (want rfl) (as_bool rfl) ?_
   refine lx_nil ?_
   refine wk_ret ?_
   refine retR1 Tryz.results50 (.tmp (t_bool rfl)) F1 ?_
   first | exact congrArg Value.bool (decide_eq_false hv) | exact rfl
  ·
   refine lx_value (want rfl) (pick_f rfl rfl) ?_
   refine lx_value (want rfl) (mv_bool rfl) ?_
   refine lx_skip (want_if (j := 6) (d := 11) (x := true) (y := false) rfl rfl (by decide) rfl) ?_
   refine lx_skip (want_if (j := 6) (d := 11) (x := true) (y := false) rfl rfl (by decide) rfl) ?_
   refine lx_skip (want_if (j := 6) (d := 11) (x := true) (y := false) rfl rfl (by decide) rfl) ?_
   refine lx_value (want rfl) (pick_f rfl rfl) ?_
   refine lx_value (want rfl) (as_bool rfl) ?_
   refine lx_nil ?_
   refine wk_ret ?_
   refine retR1 Tryz.results50 (.tmp (t_bool rfl)) F1 ?_
   first | exact congrArg Value.bool (decide_eq_false hv) | exact rfl

end Go.Proofs.YtgnnegfnpgnbbaaGreatDoor

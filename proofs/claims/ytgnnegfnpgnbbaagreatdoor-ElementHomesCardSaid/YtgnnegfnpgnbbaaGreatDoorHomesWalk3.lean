/- What functions compute: growe, before, ctruth, cloned, clonev, shaped1, ewithin1, indexk, asks, cwithin, kwithin, owithin, in, eouts, allt1, alln1, alle1, func1, point, indexp, owners, goes, rtruth, kloop1, oloop1, num, chole, cbad, ksegs, ishole, clonep. -/
import Derived.Test.YtgnnegfnpgnbbaaGreatDoorHomesFacts
import Derived.Test.YtgnnegfnpgnbbaaGreatDoorHomesPre
set_option maxRecDepth 100000
set_option linter.unusedVariables false
set_option linter.unusedSimpArgs false
namespace Go.Proofs.YtgnnegfnpgnbbaaGreatDoor
open Go Go.RowKit Go.Mix Go.Eng
theorem growe_ct (n : Nat) (hn : n ≤ 1048576) (w0 : World) :
  CT Tryz.prog 105 [.slice none 0 0, .int .i64 (n : Nat)] w0 no (fun v w => ∃ s c, v = .slice s 0 c ∧ OwnS w 55 3 s 0 c [] ∧ ∀ k, ob s k → w0.heap.size ≤ k) := by
 have F0 := Fr.refl no w0
 refine ct_body Tryz.func105 rfl Tryz.ntmps105 (Nat.le_of_ble_eq_true rfl) ?_
 refine wk_seq ?_
 refine wk_region ?_
 refine lx_value (want rfl) (as_slice rfl) ?_
 refine lx_nil ?_
 refine wk_seq ?_
 refine wk_seq ?_
 refine wk_region ?_
 refine lx_value (want rfl) (mv_int rfl) ?_
 refine lx_value (want rfl) (rn_lss rfl rfl) ?_
 refine lx_dec_f ((by omega)) ?_
 refine lx_nil ?_
 refine wk_cond_f rfl ?_
 refine wk_skip ?_
 refine wk_seq ?_
 refine wk_seq ?_
 refine wk_region ?_
 refine lx_value (want rfl) (mv_int rfl) ?_
 refine lx_value (want rfl) (mv_slice rfl) ?_
 refine lx_value (want rfl) (rn_cap Tryz.underlying39 rfl) ?_
 refine lx_value (want rfl) (mv_slice rfl) ?_
 refine lx_value (want rfl) (rn_len Tryz.underlying39 rfl) ?_
 refine lx_value (want rfl) (rn_sub rfl rfl (by omega)) ?_
 refine lx_value (v := .int .i64 ((n : Nat) : Int)) (want rfl) ((rn_sub00 rfl rfl (by omega))) ?_
 refine lx_value (want rfl) (as_int rfl) ?_
 refine lx_nil ?_
 refine wk_seq ?_
 refine wk_region ?_
 refine lx_value (want rfl) (mv_int rfl) ?_
 refine lx_value (want rfl) (rn_gtr rfl rfl) ?_
 refine lx_dec (fun h0 => ?_) (fun h0 => ?_)
 ·
  refine lx_nil ?_
  refine wk_cond_t rfl ?_
  refine wk_region ?_
  refine lx_value (want rfl) (mv_slice rfl) ?_
  refine lx_value (want rfl) (mv_slice rfl) ?_
  refine lx_value (want rfl) (rn_cap Tryz.underlying39 rfl) ?_
  refine lx_value (want rfl) (rn_sliceTo 0 Tryz.underlying39 sz_55 rfl rfl rfl (Nat.le_refl _)) ?_
  refine lx_value (want rfl) (mv_int rfl) ?_
  refine lx_appendZ 40 n (want rfl) Tryz.underlying39 Tryz.underlying3 ti_55 (by decide) rfl (by decide) rfl rfl (by omega) (by omega) (fun bZ cZ w1 hbZ EZ hOZ => ?_)
  have F1 := F0.ext EZ
  have hzZ := EZ.size
  have ge1 : ∀ k, ob (some (⟨bZ, 0, none⟩ : Addr)) k → w0.heap.size ≤ k := fun k hk => (by have := ob_some hk; omega)
  refine lx_value (want rfl) (mv_slice rfl) ?_
  refine lx_value (want rfl) (rn_len Tryz.underlying39 rfl) ?_
  refine lx_value (want rfl) (rn_sliceTo 0 Tryz.underlying39 sz_55 rfl rfl rfl (Nat.zero_le _)) ?_
  refine lx_value (want rfl) (as_slice rfl) ?_
  refine lx_nil ?_
  refine wk_seq ?_
  refine wk_region ?_
  refine lx_value (want rfl) (mv_slice rfl) ?_
  refine lx_value (want rfl) (as_slice rfl) ?_
  refine lx_nil ?_
  refine wk_ret ?_
  refine retR1 Tryz.results105 (.tmp (t_slice rfl)) F1 ?_
  exact ⟨_, _, rfl, hOZ, ge1⟩
 ·
  refine lx_nil ?_
  refine wk_cond_f rfl ?_
  refine wk_skip ?_
  refine wk_seq ?_
  refine wk_region ?_
  refine lx_value (want rfl) (mv_slice rfl) ?_
  refine lx_value (want rfl) (as_slice rfl) ?_
  refine lx_nil ?_
  refine wk_ret ?_
  refine retR1 Tryz.results105 (.tmp (t_slice rfl)) F0 ?_
  exact ⟨none, 0, rfl, OwnS.nil _ _ _, fun _ h => ob_none h⟩

theorem before_ct (a b : Ds) (ha : 0 ≤ a.1 ∧ a.1 ≤ 100000 ∧ 0 ≤ a.2 ∧ a.2 ≤ 100000) (hb : 0 ≤ b.1 ∧ b.1 ≤ 100000 ∧ 0 ≤ b.2 ∧ b.2 ≤ 100000) (w0 : World) :
  CT Tryz.prog 149 [.agg #[.int .i64 a.1, .int .i64 a.2], .agg #[.int .i64 b.1, .int .i64 b.2]] w0 no (fun v _ => v = .int .i64 (befV a b)) := by
 have F0 := Fr.refl no w0
 refine ct_body Tryz.func149 rfl Tryz.ntmps149 (Nat.le_of_ble_eq_true rfl) ?_
 refine wk_seq ?_
 refine wk_region ?_
 refine lx_new (want rfl) (rn_box (t_agg rfl)) ?_
 intro b1 w1 hb1 Eb1 B1 hlb1
 have F1 := F0.ext Eb1
 have hzb1 := Eb1.size
 refine lx_new (want rfl) (rn_box (t_agg rfl)) ?_
 intro b2 w2 hb2 Eb2 B2 hlb2
 have F2 := F1.ext Eb2
 have hzb2 := Eb2.size
 refine lx_value (want rfl) (as_int rfl) ?_
 refine lx_nil ?_
 refine wk_seq ?_
 refine wk_seq ?_
 refine wk_region ?_
 refine lx_value (want rfl) (rn_fieldAddr fa_75_0 rfl) ?_
 refine lx_value (want rfl) (rn_load1Blk ag_3 rfl (B1.ext Eb2) rfl) ?_
 refine lx_value (want rfl) (rn_fieldAddr fa_75_0 rfl) ?_
 refine lx_value (want rfl) (rn_load1Blk ag_3 rfl B2 rfl) ?_
 refine lx_value (want rfl) (rn_neq rfl rfl) ?_
 refine lx_dec (fun h9 => ?_) (fun h9 => ?_)
 ·
  refine lx_nil ?_
  refine wk_cond_t rfl ?_
  refine wk_seq ?_
  refine wk_region ?_
  refine lx_value (want rfl) (rn_fieldAddr fa_75_0 rfl) ?_
  refine lx_value (want rfl) (rn_load1Blk ag_3 rfl (B1.ext Eb2) rfl) ?_
  refine lx_value (want rfl) (rn_fieldAddr fa_75_0 rfl) ?_
  refine lx_value (want rfl) (rn_load1Blk ag_3 rfl B2 rfl) ?_
  refine lx_value (want rfl) (rn_sub rfl rfl (by omega)) ?_
  refine lx_value (want rfl) (as_int rfl) ?_
  refine lx_nil ?_
  refine wk_ret ?_
  refine retR1 Tryz.results149 (.tmp (t_int rfl)) F2 ?_
  exact congrArg (Value.int .i64) (by unfold befV; rw [if_pos h9])
 ·
  refine lx_nil ?_
  refine wk_cond_f rfl ?_
  refine wk_skip ?_
  refine wk_seq ?_
  refine wk_region ?_
  refine lx_value (want rfl) (rn_fieldAddr fa_75_1 rfl) ?_
  refine lx_value (want rfl) (rn_load1Blk ag_3 rfl (B1.ext Eb2) rfl) ?_
  refine lx_value (want rfl) (rn_fieldAddr fa_75_1 rfl) ?_
  refine lx_value (want rfl) (rn_load1Blk ag_3 rfl B2 rfl) ?_
  refine lx_value (want rfl) (rn_sub rfl rfl (by omega)) ?_
  refine lx_value (want rfl) (as_int rfl) ?_
  refine lx_nil ?_
  refine wk_ret ?_
  refine retR1 Tryz.results149 (.tmp (t_int rfl)) F2 ?_
  exact congrArg (Value.int .i64) (by unfold befV; rw [if_neg h9])

theorem ctruth_ct (b : Bool) (w0 : World) :
  CT Tryz.prog 101 [.bool b] w0 no (fun u _ => u = .agg #[.int .u8 2, .int .i64 (if b = true then 1 else 0)]) := by
 have F0 := Fr.refl no w0
 refine ct_body Tryz.func101 rfl Tryz.ntmps101 (Nat.le_of_ble_eq_true rfl) ?_
 refine wk_seq ?_
 refine wk_region ?_
 refine lx_new (want rfl) (rn_alloc ze_48) ?_
 intro b1 w1 hb1 Eb1 B1 hlb1
 have F1 := F0.ext Eb1
 have hzb1 := Eb1.size
 refine lx_nil ?_
 refine wk_seq ?_
 refine wk_region ?_
 refine lx_value (want rfl) (rn_build1 (t_int rfl) (fun w => bd_48_0 _ w)) ?_
 refine lx_new (want rfl) (rn_alloc ze_48) ?_
 intro b2 w2 hb2 Eb2 B2 hlb2
 have F2 := F1.ext Eb2
 have hzb2 := Eb2.size
 refine lx_set (want rfl) sz_48 rfl (t_agg rfl) rfl rfl rfl B2 (Nat.le_of_ble_eq_true rfl) ?_
 intro w3 Es1 Bs1
 have F3 := F2.set Es1 (by omega)
 have hzs1 := Es1.size
 refine lx_nil ?_
 refine wk_seq ?_
 refine wk_seq ?_
 refine wk_region ?_
 refine lx_value (want rfl) (mv_bool rfl) ?_
 refine lx_split (fun hb => ?_) (fun hb => ?_)
 ·
  subst hb
  refine lx_nil ?_
  refine wk_cond_t rfl ?_
  refine wk_region ?_
  refine lx_value (want rfl) (rn_fieldAddr fa_48_1 rfl) ?_
  refine lx_set (want rfl) sz_3 rfl (t_int rfl) rfl rfl rfl Bs1 (Nat.le_of_ble_eq_true rfl) ?_
  intro w4 Es2 Bs2
  have F4 := F3.set Es2 (by omega)
  have hzs2 := Es2.size
  refine lx_nil ?_
  refine wk_seq ?_
  refine wk_region ?_
  refine lx_value (want rfl) (rn_loadBlk ag_48 sz_48 rfl Bs2 rfl rfl) ?_
  refine lx_set (want rfl) sz_48 rfl (t_agg rfl) rfl rfl rfl (((B1.ext Eb2).ne Es1 (by omega)).ne Es2 (by omega)) (Nat.le_of_ble_eq_true rfl) ?_
  intro w5 Es3 Bs3
  have F5 := F4.set Es3 (by omega)
  have hzs3 := Es3.size
  refine lx_nil ?_
  refine wk_ret ?_
  refine retR1 Tryz.results101 (.cell rfl (run_loadVar_blk ag_48 sz_48 Bs3 rfl rfl)) F5 ?_
  exact rfl
 ·
  subst hb
  refine lx_nil ?_
  refine wk_cond_f rfl ?_
  refine wk_skip ?_
  refine wk_seq ?_
  refine wk_region ?_
  refine lx_value (want rfl) (rn_loadBlk ag_48 sz_48 rfl Bs1 rfl rfl) ?_
  refine lx_set (want rfl) sz_48 rfl (t_agg rfl) rfl rfl rfl ((B1.ext Eb2).ne Es1 (by omega)) (Nat.le_of_ble_eq_true rfl) ?_
  intro w4 Es4 Bs4
  have F6 := F3.set Es4 (by omega)
  have hzs4 := Es4.size
  refine lx_nil ?_
  refine wk_ret ?_
  refine retR1 Tryz.results101 (.cell rfl (run_loadVar_blk ag_48 sz_48 Bs4 rfl rfl)) F6 ?_
  exact rfl

theorem cloned_ct (l : List Ds) (s : Option Addr) (c : Nat) (F : Nat → Prop) (w0 : World) (hl : DsS F w0 s l) (hb : l.length ≤ 1048576) :
  CT Tryz.prog 134 [.slice s l.length c] w0 no (fun v w => ∃ s' c', v = .slice s' l.length c' ∧ OwnS w 75 2 s' l.length c' (l.flatMap dsC) ∧ ∀ k, ob s' k → w0.heap.size ≤ k) := by
 have F0 := Fr.refl no w0
 refine ct_body Tryz.func134 rfl Tryz.ntmps134 (Nat.le_of_ble_eq_true rfl) ?_
 refine wk_seq ?_
 refine wk_region ?_
 refine lx_value (want rfl) (as_slice rfl) ?_
 refine lx_nil ?_
 refine wk_seq ?_
 refine wk_seq ?_
 refine wk_region ?_
 refine lx_value (want rfl) (mv_slice rfl) ?_
 refine lx_value (want rfl) (rn_eqlNil Tryz.underlying76 rfl rfl) ?_
 refine lx_split (fun h4 => ?_) (fun h4 => ?_)
 ·
  obtain rfl := clone_nil hl h4
  refine lx_nil ?_
  refine wk_cond_t rfl ?_
  refine wk_seq ?_
  refine wk_region ?_
  refine lx_value (want rfl) (as_slice rfl) ?_
  refine lx_nil ?_
  refine wk_ret ?_
  refine retR1 Tryz.results134 (.tmp (t_slice rfl)) F0 ?_
  exact ⟨_, _, rfl, OwnS.nil _ _ _, fun _ h => ob_none h⟩
 ·
  refine lx_nil ?_
  refine wk_cond_f rfl ?_
  refine wk_skip ?_
  refine wk_seq ?_
  refine wk_region ?_
  refine lx_newS (want rfl) (rn_bslice (xs := []) Tryz.underlying76 sz_75 ze_75 rfl args0 CL.nil rfl (Nat.le_of_ble_eq_true rfl)) ?_
  intro b1 w1 hb1 Eb1 B1 hlb1
  have F1 := F0.ext Eb1
  have hzb1 := Eb1.size
  have ow1 := OwnS.full (n := 0) (size := 2) B1 rfl (by decide)
  have ge1 : ∀ k, ob (some (⟨b1, 0, none⟩ : Addr)) k → w0.heap.size ≤ k := fun k hk => (by have := ob_some hk; omega)
  refine lx_value (want rfl) (mv_slice rfl) ?_
  refine lx_append 16 (want rfl) Tryz.underlying76 ti_75 (by decide) rfl (by decide) rfl rfl ow1 ((hl.fr (ds_stab _) F1 (fun _ _ h => h)).src (fun _ _ => rfl) (fun _ _ u hu => ds_one hu) (by decide)) (by omega) ?_
  intro sq2 cq2 w2 AP2
  have EA2 := AP2.fr
  have ow2 := AP2.own
  have ge2 : ∀ k, ob sq2 k → w0.heap.size ≤ k := fun k hk => (AP2.blk k hk).elim (ge1 k) (fun h => (Nat.le_trans F1.size h))
  have F2 := F1.new EA2 ge1
  have hzA2 := EA2.size
  refine lx_value (want rfl) (as_slice rfl) ?_
  refine lx_nil ?_
  refine wk_ret ?_
  refine retR1 Tryz.results134 (.tmp (t_slice rfl)) F2 ?_
  exact ⟨_, _, by rw [Nat.zero_add], by have h := ow2; simpa using h, ge2⟩

theorem clonev_ct (l : List Vl) (s : Option Addr) (c : Nat) (F : Nat → Prop) (w0 : World) (hl : VlS F w0 s l) (hb : l.length ≤ 1048576) :
  CT Tryz.prog 51 [.slice s l.length c] w0 no (fun v w => ∃ s' c', v = .slice s' l.length c' ∧ OwnS w 48 2 s' l.length c' (l.flatMap vlC) ∧ ∀ k, ob s' k → w0.heap.size ≤ k) := by
 have F0 := Fr.refl no w0
 refine ct_body Tryz.func51 rfl Tryz.ntmps51 (Nat.le_of_ble_eq_true rfl) ?_
 refine wk_seq ?_
 refine wk_region ?_
 refine lx_value (want rfl) (as_slice rfl) ?_
 refine lx_nil ?_
 refine wk_seq ?_
 refine wk_seq ?_
 refine wk_region ?_
 refine lx_value (want rfl) (mv_slice rfl) ?_
 refine lx_value (want rfl) (rn_eqlNil Tryz.underlying53 rfl rfl) ?_
 refine lx_split (fun h4 => ?_) (fun h4 => ?_)
 ·
  obtain rfl := clone_nil hl h4
  refine lx_nil ?_
  refine wk_cond_t rfl ?_
  refine wk_seq ?_
  refine wk_region ?_
  refine lx_value (want rfl) (as_slice rfl) ?_
  refine lx_nil ?_
  refine wk_ret ?_
  refine retR1 Tryz.results51 (.tmp (t_slice rfl)) F0 ?_
  exact ⟨_, _, rfl, OwnS.nil _ _ _, fun _ h => ob_none h⟩
 ·
  refine lx_nil ?_
  refine wk_cond_f rfl ?_
  refine wk_skip ?_
  refine wk_seq ?_
  refine wk_region ?_
  refine lx_newS (want rfl) (rn_bslice (xs := []) Tryz.underlying53 sz_48 ze_48 rfl args0 CL.nil rfl (Nat.le_of_ble_eq_true rfl)) ?_
  intro b1 w1 hb1 Eb1 B1 hlb1
  have F1 := F0.ext Eb1
  have hzb1 := Eb1.size
  have ow1 := OwnS.full (n := 0) (size := 2) B1 rfl (by decide)
  have ge1 : ∀ k, ob (some (⟨b1, 0, none⟩ : Addr)) k → w0.heap.size ≤ k := fun k hk => (by have := ob_some hk; omega)
  refine lx_value (want rfl) (mv_slice rfl) ?_
  refine lx_append 16 (want rfl) Tryz.underlying53 ti_48 (by decide) rfl (by decide) rfl rfl ow1 ((hl.fr (vl_stab _) F1 (fun _ _ h => h)).src (fun _ _ => rfl) (fun _ _ u hu => vl_one hu) (by decide)) (by omega) ?_
  intro sq2 cq2 w2 AP2
  have EA2 := AP2.fr
  have ow2 := AP2.own
  have ge2 : ∀ k, ob sq2 k → w0.heap.size ≤ k := fun k hk => (AP2.blk k hk).elim (ge1 k) (fun h => (Nat.le_trans F1.size h))
  have F2 := F1.new EA2 ge1
  have hzA2 := EA2.size
  refine lx_value (want rfl) (as_slice rfl) ?_
  refine lx_nil ?_
  refine wk_ret ?_
  refine retR1 Tryz.results51 (.tmp (t_slice rfl)) F2 ?_
  exact ⟨_, _, by rw [Nat.zero_add], by have h := ow2; simpa using h, ge2⟩

theorem shaped1_ct (x : Ins) (so : Option Addr) (co : Nat) (y : Int × Int) (hnm : x.nm = ⟨#[]⟩) (h1 : x.op = y.1) (h2 : x.n = y.2) (w0 : World) :
  CT Tryz.prog 145 [.agg #[.int .u8 x.op, .string x.nm, .int .i64 x.n, .slice so x.outs.length co], .agg #[.int .u8 y.1, .int .i64 y.2]] w0 no (fun v _ => v = .bool true) := by
 have F0 := Fr.refl no w0
 refine ct_body Tryz.func145 rfl Tryz.ntmps145 (Nat.le_of_ble_eq_true rfl) ?_
 refine wk_seq ?_
 refine wk_region ?_
 refine lx_new (want rfl) (rn_box (t_agg rfl)) ?_
 intro b1 w1 hb1 Eb1 B1 hlb1
 have F1 := F0.ext Eb1
 have hzb1 := Eb1.size
 refine lx_new (want rfl) (rn_box (t_agg rfl)) ?_
 intro b2 w2 hb2 Eb2 B2 hlb2
 have F2 := F1.ext Eb2
 have hzb2 := Eb2.size
 refine lx_value (want rfl) (as_bool rfl) ?_
 refine lx_nil ?_
 refine wk_seq ?_
 refine wk_region ?_
 refine lx_value (want rfl) (rn_fieldAddr fa_73_1 rfl) ?_
 refine lx_value (want rfl) (rn_load1Blk ag_9 rfl (B1.ext Eb2) rfl) ?_
 refine lx_value (want rfl) (rn_eqlBA rfl rfl) ?_
 refine lx_dec_t (hnm) ?_
 refine lx_value (want rfl) (mv_bool rfl) ?_
 refine lx_value (want_if (j := 3) (d := 8) (x := true) (y := true) rfl rfl (by decide) rfl) (rn_fieldAddr fa_73_0 rfl) ?_
 refine lx_value (want_if (j := 3) (d := 8) (x := true) (y := true) rfl rfl (by decide) rfl) (rn_load1Blk ag_5 rfl (B1.ext Eb2) rfl) ?_
 refine lx_value (want_if (j := 3) (d := 8) (x := true) (y := true) rfl rfl (by decide) rfl) (rn_fieldAddr fa_73_2 rfl) ?_
 refine lx_value (want_if (j := 3) (d := 8) (x := true) (y := true) rfl rfl (by decide) rfl) (rn_load1Blk ag_3 rfl (B1.ext Eb2) rfl) ?_
 refine lx_value (want_if (j := 3) (d := 8) (x := true) (y := true) rfl rfl (by decide) rfl) (rn_build2 (t_int rfl) (t_int rfl) (fun w => bd_209_0_1 _ _ w)) ?_
 refine lx_value (want_if (j := 3) (d := 8) (x := true) (y := true) rfl rfl (by decide) rfl) (rn_loadBlk ag_209 sz_209 rfl B2 rfl rfl) ?_
 refine lx_value (want_if (j := 3) (d := 8) (x := true) (y := true) rfl rfl (by decide) rfl) (rn_cmpS (t_agg rfl) (t_agg rfl) (geql_209 _ _ _ _) (eql_209 _ _ _ _)) ?_
 refine lx_value (want rfl) (pick_t rfl rfl) ?_
 refine lx_value (want rfl) (as_bool rfl) ?_
 refine lx_nil ?_
 refine wk_ret ?_
 refine retR1 Tryz.results145 (.tmp (t_bool rfl)) F2 ?_
 exact congrArg Value.bool (decide_eq_true ⟨h1, h2⟩)

theorem ewithin1_ct (n a b : Int) (b1 b2 : Nat) (w0 : World) (h1 : Blk w0 b1 [.int .i64 a] 3) (h2 : Blk w0 b2 [.int .i64 b] 3) :
  CT Tryz.prog 21 [.int .i64 n, .pointer (some ⟨b1, 0, none⟩), .pointer (some ⟨b2, 0, none⟩)] w0 no (fun v _ => v = .bool (decide (n < a ∨ n > b))) := by
 have F0 := Fr.refl no w0
 refine ct_body Tryz.func21 rfl Tryz.ntmps21 (Nat.le_of_ble_eq_true rfl) ?_
 refine wk_seq ?_
 refine wk_region ?_
 refine lx_value (want rfl) (as_bool rfl) ?_
 refine lx_nil ?_
 refine wk_seq ?_
 refine wk_region ?_
 refine lx_value (want rfl) (mv_int rfl) ?_
 refine lx_value (want rfl) (rn_load1Blk ag_3 rfl h1 rfl) ?_
 refine lx_value (want rfl) (rn_lss rfl rfl) ?_
 refine lx_dec (fun h7 => ?_) (fun h7 => ?_)
 ·
  refine lx_value (want rfl) (mv_bool rfl) ?_
  refine lx_skip (want_if (j := 3) (d := 8) (x := false) (y := true) rfl rfl (by decide) rfl) ?_
  refine lx_skip (want_if (j := 3) (d := 8) (x := false) (y := true) rfl rfl (by decide) rfl) ?_
  refine lx_skip (want_if (j := 3) (d := 8) (x := false) (y := true) rfl rfl (by decide) rfl) ?_
  refine lx_value (want rfl) (pick_t rfl rfl) ?_
  refine lx_value (want rfl) (as_bool rfl) ?_
  refine lx_nil ?_
  refine wk_ret ?_
  refine retR1 Tryz.results21 (.tmp (t_bool rfl)) F0 ?_
  first | exact yes_dec (.inl h7) | exact congrArg Value.bool (decide_eq_decide.2 ⟨.inr, fun h => h.resolve_left h7⟩)
 ·
  refine lx_value (want rfl) (mv_bool rfl) ?_
  refine lx_value (want_if (j := 3) (d := 8) (x := false) (y := false) rfl rfl (by decide) rfl) (mv_int rfl) ?_
  refine lx_value (want_if (j := 3) (d := 8) (x := false) (y := false) rfl rfl (by decide) rfl) (rn_load1Blk ag_3 rfl h2 rfl) ?_
  refine lx_value (want_if (j := 3) (d := 8) (x := false) (y := false) rfl rfl (by decide) rfl) (rn_gtr rfl rfl) ?_
  refine lx_value (want rfl) (pick_f rfl rfl) ?_
  refine lx_value (want rfl) (as_bool rfl) ?_
  refine lx_nil ?_
  refine wk_ret ?_
  refine retR1 Tryz.results21 (.tmp (t_bool rfl)) F0 ?_
  first | exact yes_dec (.inl h7) | exact congrArg Value.bool (decide_eq_decide.2 ⟨.inr, fun h => h.resolve_left h7⟩)

theorem indexk_ct (b : Nat) (k : Int) (w0 : World) (hB : Blk w0 b [.int .u8 k] 5) :
  CT Tryz.prog 132 [.slice (some ⟨b, 0, none⟩) 1 1, .int .u8 k] w0 no (fun v _ => v = .int .i64 ((0 : Nat) : Int)) := by
 have F0 := Fr.refl no w0
 refine ct_body Tryz.func132 rfl Tryz.ntmps132 (Nat.le_of_ble_eq_true rfl) ?_
 refine wk_seq ?_
 refine wk_region ?_
 refine lx_value (want rfl) (as_int rfl) ?_
 refine lx_nil ?_
 refine wk_seq ?_
 refine wk_seq ?_
 refine wk_region ?_
 refine lx_value (want rfl) (mv_slice rfl) ?_
 refine lx_value (want rfl) (rn_len Tryz.underlying131 rfl) ?_
 refine lx_value (want rfl) (mv_int rfl) ?_
 refine lx_nil ?_
 refine wk_block ?_
 refine wk_loopA [4, 5, 8, 9, 10, 11, 12, 13, 14, 15, 16, 17, 18] no (fun nM ρ w => nM = 1 ∧ ρ 8 = .int .i64 ((0 : Nat) : Int)) _ ⟨rfl, rfl⟩ ?_
 rintro n1 ρ1 w1 A1 EL1 ⟨rfl, hs1_8⟩
 have F1 := F0.ext EL1
 have hzL1 := EL1.size
 refine wk_seq ?_
 refine wk_region ?_
 refine lx_value (want rfl) (rn_lss hs1_8 (A1.at 7 rfl rfl)) ?_
 refine lx_dec_t ((by decide)) ?_
 refine lx_nil ?_
 refine wk_seq ?_
 refine wk_cond_t rfl ?_
 refine wk_skip ?_
 refine wk_seq ?_
 refine wk_block ?_
 refine wk_seq ?_
 refine wk_region ?_
 refine lx_value (want rfl) (mv_int hs1_8) ?_
 refine lx_value (want rfl) (as_int rfl) ?_
 refine lx_nil ?_
 refine wk_seq ?_
 refine wk_region ?_
 refine lx_value (want rfl) (mv_int (A1.at 1 rfl rfl)) ?_
 refine lx_value (want rfl) (mv_slice (A1.at 0 rfl rfl)) ?_
 refine lx_value (want rfl) (mv_int rfl) ?_
 refine lx_value (want rfl) (rn_index 0 Tryz.underlying131 sz_5 rfl rfl rfl (by decide)) ?_
 refine lx_value (want rfl) (rn_load1 ag_5 rfl ((hB.ext EL1).cell 0 rfl)) ?_
 refine lx_value (want rfl) (rn_eql rfl rfl) ?_
 refine lx_dec_t (rfl) ?_
 refine lx_nil ?_
 refine wk_cond_t rfl ?_
 refine wk_seq ?_
 refine wk_region ?_
 refine lx_value (want rfl) (mv_int rfl) ?_
 refine lx_value (want rfl) (as_int rfl) ?_
 refine lx_nil ?_
 refine wk_ret ?_
 refine retR1 Tryz.results132 (.tmp (t_int rfl)) F1 ?_
 exact rfl

theorem asks_ct (w0 : World) :
  CT Tryz.prog 49 [] w0 no (fun v w => ∃ b, v = .map (some b) ∧ MapL w b kU askL ∧ w0.heap.size ≤ b) := by
 have F0 := Fr.refl no w0
 refine ct_body Tryz.func49 rfl Tryz.ntmps49 (Nat.le_of_ble_eq_true rfl) ?_
 refine wk_seq ?_
 refine wk_region ?_
 refine lx_value (want rfl) (as_map rfl) ?_
 refine lx_nil ?_
 refine wk_seq ?_
 refine wk_region ?_
 refine lx_makeMapL kU (want rfl) ?_
 intro b1 w1 hb1 Eb1 B1
 have F1 := F0.ext Eb1
 have hzb1 := Eb1.size
 have hlb1 := B1.lt
 refine lx_insL (want rfl) mv_114.g rfl rfl (t_int rfl) B1 rfl ?_
 intro w2 Em1 HMEm1
 have F2 := F1.set Em1 (by omega)
 have hzm1 := Em1.size
 refine lx_insL (want rfl) mv_114.g rfl rfl (t_int rfl) HMEm1 rfl ?_
 intro w3 Em2 HMEm2
 have F3 := F2.set Em2 (by omega)
 have hzm2 := Em2.size
 refine lx_insL (want rfl) mv_114.g rfl rfl (t_int rfl) HMEm2 rfl ?_
 intro w4 Em3 HMEm3
 have F4 := F3.set Em3 (by omega)
 have hzm3 := Em3.size
 refine lx_insL (want rfl) mv_114.g rfl rfl (t_int rfl) HMEm3 rfl ?_
 intro w5 Em4 HMEm4
 have F5 := F4.set Em4 (by omega)
 have hzm4 := Em4.size
 refine lx_insL (want rfl) mv_114.g rfl rfl (t_int rfl) HMEm4 rfl ?_
 intro w6 Em5 HMEm5
 have F6 := F5.set Em5 (by omega)
 have hzm5 := Em5.size
 refine lx_insL (want rfl) mv_114.g rfl rfl (t_int rfl) HMEm5 rfl ?_
 intro w7 Em6 HMEm6
 have F7 := F6.set Em6 (by omega)
 have hzm6 := Em6.size
 refine lx_insL (want rfl) mv_114.g rfl rfl (t_int rfl) HMEm6 rfl ?_
 intro w8 Em7 HMEm7
 have F8 := F7.set Em7 (by omega)
 have hzm7 := Em7.size
 refine lx_insL (want rfl) mv_114.g rfl rfl (t_int rfl) HMEm7 rfl ?_
 intro w9 Em8 HMEm8
 have F9 := F8.set Em8 (by omega)
 have hzm8 := Em8.size
 refine lx_value (want rfl) (mv_map rfl) ?_
 refine lx_value (want rfl) (as_map rfl) ?_
 refine lx_nil ?_
 refine wk_ret ?_
 refine retR1 Tryz.results49 (.tmp (t_map rfl)) F9 ?_
 exact ⟨_, rfl, HMEm8, by omega⟩

theorem cwithin_ct (n a b : Int) (w0 : World) :
  CT Tryz.prog 110 [.int .i64 n, .int .i64 a, .int .i64 b] w0 no (fun v _ => v = .bool (decide (a ≤ n ∧ n ≤ b))) := by
 have F0 := Fr.refl no w0
 refine ct_body Tryz.func110 rfl Tryz.ntmps110 (Nat.le_of_ble_eq_true rfl) ?_
 refine wk_seq ?_
 refine wk_region ?_
 refine lx_value (want rfl) (as_bool rfl) ?_
 refine lx_nil ?_
 refine wk_seq ?_
 refine wk_region ?_
 refine lx_value (want rfl) (mv_int rfl) ?_
 refine lx_value (want rfl) (mv_int rfl) ?_
 refine lx_value (want rfl) (rn_geq rfl rfl) ?_
 refine lx_dec (fun h1 => ?_) (fun h1 => ?_)
 ·
  refine lx_value (want rfl) (mv_bool rfl) ?_
  refine lx_value (want_if (j := 3) (d := 10) (x := true) (y := true) rfl rfl (by decide) rfl) (mv_int rfl) ?_
  refine lx_value (want_if (j := 3) (d := 10) (x := true) (y := true) rfl rfl (by decide) rfl) (mv_int rfl) ?_
  refine lx_value (want_if (j := 3) (d := 10) (x := true) (y := true) rfl rfl (by decide) rfl) (rn_leq rfl rfl) ?_
  refine lx_value (want rfl) (pick_t rfl rfl) ?_
  refine lx_value (want rfl) (as_bool rfl) ?_
  refine lx_nil ?_
  refine wk_ret ?_
  refine retR1 Tryz.results110 (.tmp (t_bool rfl)) F0 ?_
  exact win_t h1
 ·
  refine lx_value (want rfl) (mv_bool rfl) ?_
  refine lx_skip (want_if (j := 3) (d := 10) (x := true) (y := false) rfl rfl (by decide) rfl) ?_
  refine lx_skip (want_if (j := 3) (d := 10) (x := true) (y := false) rfl rfl (by decide) rfl) ?_
  refine lx_skip (want_if (j := 3) (d := 10) (x := true) (y := false) rfl rfl (by decide) rfl) ?_
  refine lx_value (want rfl) (pick_f rfl rfl) ?_
  refine lx_value (want rfl) (as_bool rfl) ?_
  refine lx_nil ?_
  refine wk_ret ?_
  refine retR1 Tryz.results110 (.tmp (t_bool rfl)) F0 ?_
  exact win_f h1

theorem kwithin_ct (n a b : Int) (w0 : World) :
  CT Tryz.prog 139 [.int .i64 n, .int .i64 a, .int .i64 b] w0 no (fun v _ => v = .bool (decide (a ≤ n ∧ n ≤ b))) := by
 have F0 := Fr.refl no w0
 refine ct_body Tryz.func139 rfl Tryz.ntmps139 (Nat.le_of_ble_eq_true rfl) ?_
 refine wk_seq ?_
 refine wk_region ?_
 refine lx_value (want rfl) (as_bool rfl) ?_
 refine lx_nil ?_
 refine wk_seq ?_
 refine wk_region ?_
 refine lx_value (want rfl) (mv_int rfl) ?_
 refine lx_value (want rfl) (mv_int rfl) ?_
 refine lx_value (want rfl) (rn_leq rfl rfl) ?_
 refine lx_dec (fun h1 => ?_) (fun h1 => ?_)
 ·
  refine lx_value (want rfl) (mv_bool rfl) ?_
  refine lx_value (want_if (j := 3) (d := 10) (x := true) (y := true) rfl rfl (by decide) rfl) (mv_int rfl) ?_
  refine lx_value (want_if (j := 3) (d := 10) (x := true) (y := true) rfl rfl (by decide) rfl) (mv_int rfl) ?_
  refine lx_value (want_if (j := 3) (d := 10) (x := true) (y := true) rfl rfl (by decide) rfl) (rn_leq rfl rfl) ?_
  refine lx_value (want rfl) (pick_t rfl rfl) ?_
  refine lx_value (want rfl) (as_bool rfl) ?_
  refine lx_nil ?_
  refine wk_ret ?_
  refine retR1 Tryz.results139 (.tmp (t_bool rfl)) F0 ?_
  exact win_t h1
 ·
  refine lx_value (want rfl) (mv_bool rfl) ?_
  refine lx_skip (want_if (j := 3) (d := 10) (x := true) (y := false) rfl rfl (by decide) rfl) ?_
  refine lx_skip (want_if (j := 3) (d := 10) (x := true) (y := false) rfl rfl (by decide) rfl) ?_
  refine lx_skip (want_if (j := 3) (d := 10) (x := true) (y := false) rfl rfl (by decide) rfl) ?_
  refine lx_value (want rfl) (pick_f rfl rfl) ?_
  refine lx_value (want rfl) (as_bool rfl) ?_
  refine lx_nil ?_
  refine wk_ret ?_
  refine retR1 Tryz.results139 (.tmp (t_bool rfl)) F0 ?_
  exact win_f h1

theorem owithin_ct (n a b : Int) (w0 : World) :
  CT Tryz.prog 121 [.int .i64 n, .int .i64 a, .int .i64 b] w0 no (fun v _ => v = .bool (decide (a ≤ n ∧ n ≤ b))) := by
 have F0 := Fr.refl no w0
 refine ct_body Tryz.func121 rfl Tryz.ntmps121 (Nat.le_of_ble_eq_true rfl) ?_
 refine wk_seq ?_
 refine wk_region ?_
 refine lx_value (want rfl) (as_bool rfl) ?_
 refine lx_nil ?_
 refine wk_seq ?_
 refine wk_region ?_
 refine lx_value (want rfl) (mv_int rfl) ?_
 refine lx_value (want rfl) (mv_int rfl) ?_
 refine lx_value (want rfl) (rn_leq rfl rfl) ?_
 refine lx_dec (fun h1 => ?_) (fun h1 => ?_)
 ·
  refine lx_value (want rfl) (mv_bool rfl) ?_
  refine lx_value (want_if (j := 3) (d := 10) (x := true) (y := true) rfl rfl (by decide) rfl) (mv_int rfl) ?_
  refine lx_value (want_if (j := 3) (d := 10) (x := true) (y := true) rfl rfl (by decide) rfl) (mv_int rfl) ?_
  refine lx_value (want_if (j := 3) (d := 10) (x := true) (y := true) rfl rfl (by decide) rfl) (rn_leq rfl rfl) ?_
  refine lx_value (want rfl) (pick_t rfl rfl) ?_
  refine lx_value (want rfl) (as_bool rfl) ?_
  refine lx_nil ?_
  refine wk_ret ?_
  refine retR1 Tryz.results121 (.tmp (t_bool rfl)) F0 ?_
  exact win_t h1
 ·
  refine lx_value (want rfl) (mv_bool rfl) ?_
  refine lx_skip (want_if (j := 3) (d := 10) (x := true) (y := false) rfl rfl (by decide) rfl) ?_
  refine lx_skip (want_if (j := 3) (d := 10) (x := true) (y := false) rfl rfl (by decide) rfl) ?_
  refine lx_skip (want_if (j := 3) (d := 10) (x := true) (y := false) rfl rfl (by decide) rfl) ?_
  refine lx_value (want rfl) (pick_f rfl rfl) ?_
  refine lx_value (want rfl) (as_bool rfl) ?_
  refine lx_nil ?_
  refine wk_ret ?_
  refine retR1 Tryz.results121 (.tmp (t_bool rfl)) F0 ?_
  exact win_f h1

theorem in_ct (n a b : Int) (w0 : World) :
  CT Tryz.prog 9 [.int .i64 n, .int .i64 a, .int .i64 b] w0 no (fun v _ => v = .bool (decide (a ≤ n ∧ n ≤ b))) := by
 have F0 := Fr.refl no w0
 refine ct_body Tryz.func9 rfl Tryz.ntmps9 (Nat.le_of_ble_eq_true rfl) ?_
 refine wk_seq ?_
 refine wk_region ?_
 refine lx_value (want rfl) (as_bool rfl) ?_
 refine lx_nil ?_
 refine wk_seq ?_
 refine wk_region ?_
 refine lx_value (want rfl) (mv_int rfl) ?_
 refine lx_value (want rfl) (mv_int rfl) ?_
 refine lx_value (want rfl) (rn_geq rfl rfl) ?_
 refine lx_dec (fun h1 => ?_) (fun h1 => ?_)
 ·
  refine lx_value (want rfl) (mv_bool rfl) ?_
  refine lx_value (want_if (j := 3) (d := 10) (x := true) (y := true) rfl rfl (by decide) rfl) (mv_int rfl) ?_
  refine lx_value (want_if (j := 3) (d := 10) (x := true) (y := true) rfl rfl (by decide) rfl) (mv_int rfl) ?_
  refine lx_value (want_if (j := 3) (d := 10) (x := true) (y := true) rfl rfl (by decide) rfl) (rn_leq rfl rfl) ?_
  refine lx_value (want rfl) (pick_t rfl rfl) ?_
  refine lx_value (want rfl) (as_bool rfl) ?_
  refine lx_nil ?_
  refine wk_ret ?_
  refine retR1 Tryz.results9 (.tmp (t_bool rfl)) F0 ?_
  exact win_t h1
 ·
  refine lx_value (want rfl) (mv_bool rfl) ?_
  refine lx_skip (want_if (j := 3) (d := 10) (x := true) (y := false) rfl rfl (by decide) rfl) ?_
  refine lx_skip (want_if (j := 3) (d := 10) (x := true) (y := false) rfl rfl (by decide) rfl) ?_
  refine lx_skip (want_if (j := 3) (d := 10) (x := true) (y := false) rfl rfl (by decide) rfl) ?_
  refine lx_value (want rfl) (pick_f rfl rfl) ?_
  refine lx_value (want rfl) (as_bool rfl) ?_
  refine lx_nil ?_
  refine wk_ret ?_
  refine retR1 Tryz.results9 (.tmp (t_bool rfl)) F0 ?_
  exact win_f h1

theorem eouts_ct (SS : Sto) (sa : Option Addr) (ca : Nat) (sb : Option Addr) (cb : Nat) (F : Nat → Prop) (hsm : smallS SS = true) (at_ : Int) (hpl : placeB SS at_ = true) (w0 : World) (hS : StR F w0 SS sa ca sb cb) :
  CT Tryz.prog 26 [.agg #[.slice sa SS.slots.length ca, .slice sb SS.code.length cb], .int .i64 at_] w0 no (fun v _ => v = .int .i64 ((codeAt SS at_).outs.length : Nat)) := by
 obtain ⟨hat, hax⟩ := placeB_at hpl
 have hcl := smallI_len (smallS_code hsm)
 obtain ⟨bx, ox, rfl, _, so, co, hcx, hco⟩ := hS.code _ _ hax
 have F0 := Fr.refl no w0
 refine ct_body Tryz.func26 rfl Tryz.ntmps26 (Nat.le_of_ble_eq_true rfl) ?_
 refine wk_seq ?_
 refine wk_region ?_
 refine lx_new (want rfl) (rn_box (t_agg rfl)) ?_
 intro b1 w1 hb1 Eb1 B1 hlb1
 have F1 := F0.ext Eb1
 have hzb1 := Eb1.size
 refine lx_value (want rfl) (as_int rfl) ?_
 refine lx_nil ?_
 refine wk_seq ?_
 refine wk_region ?_
 refine lx_value (want rfl) (rn_fieldAddr fa_80_0 rfl) ?_
 refine lx_value (want rfl) (rn_fieldAddr fa_35_1 rfl) ?_
 refine lx_value (want rfl) (rn_load1Blk ag_33 rfl B1 rfl) ?_
 refine lx_value (want rfl) (mv_int rfl) ?_
 refine lx_value (want rfl) (rn_index at_.toNat Tryz.underlying33 sz_73 rfl rfl (by omega) (by omega)) ?_
 refine lx_value (want rfl) (rn_fieldAddr fa_73_3 rfl) ?_
 refine lx_value (want rfl) (rn_load1 ag_71 rfl (F1.cell (fun h => h) (hcx 3 _ rfl))) ?_
 refine lx_value (want rfl) (rn_len Tryz.underlying71 rfl) ?_
 refine lx_value (want rfl) (as_int rfl) ?_
 refine lx_nil ?_
 refine wk_ret ?_
 refine retR1 Tryz.results26 (.tmp (t_int rfl)) F1 ?_
 exact rfl

theorem allt1_ct (x : Tok) (b : Nat) (fid : FuncId) (bnd caps : List Value) (r : Bool) (hcf : ∀ args w, (callFunc fid args).run Tryz.prog w = .ok (.enter fid args) w) (w0 : World) (hB : Blk w0 b [.func (.func fid) bnd.toArray caps.toArray] 157) (hq : ∀ w, Ext w0 w → CT Tryz.prog fid (bnd ++ [.agg #[.int .i64 x.1, .int .i64 x.2.1, .int .i64 x.2.2.1, .int .u8 x.2.2.2.1, .int .i64 x.2.2.2.2]] ++ caps) w no (fun v _ => v = .bool r)) :
  CT Tryz.prog 119 [.agg #[.int .i64 x.1, .int .i64 x.2.1, .int .i64 x.2.2.1, .int .u8 x.2.2.2.1, .int .i64 x.2.2.2.2], .pointer (some ⟨b, 0, none⟩)] w0 no (fun v _ => v = .bool (!r)) := by
 have F0 := Fr.refl no w0
 refine ct_body Tryz.func119 rfl Tryz.ntmps119 (Nat.le_of_ble_eq_true rfl) ?_
 refine wk_seq ?_
 refine wk_region ?_
 refine lx_new (want rfl) (rn_box (t_agg rfl)) ?_
 intro b21 w1 hb21 Eb21 B21 hlb21
 have F1 := F0.ext Eb21
 have hzb21 := Eb21.size
 refine lx_value (want rfl) (as_bool rfl) ?_
 refine lx_nil ?_
 refine wk_seq ?_
 refine wk_region ?_
 refine lx_value (want rfl) (rn_load1Blk ag_157 rfl (hB.ext Eb21) rfl) ?_
 refine lx_value (want rfl) (rn_loadBlk ag_51 sz_51 rfl B21 rfl rfl) ?_
 refine lx_call (want rfl) (ent_valueB hcf rfl (argsC (t_agg rfl) args0)) (hq w1 F1) ?_
 rintro _ w2 E1 rfl
 have F2 := F1.ext E1
 have hz1 := E1.size
 refine lx_value (want rfl) (rn_not rfl) ?_
 refine lx_value (want rfl) (as_bool rfl) ?_
 refine lx_nil ?_
 refine wk_ret ?_
 refine retR1 Tryz.results119 (.tmp (t_bool rfl)) F2 ?_
 exact rfl

theorem alln1_ct (x : Ins) (so : Option Addr) (co : Nat) (b : Nat) (fid : FuncId) (bnd caps : List Value) (r : Bool) (hcf : ∀ args w, (callFunc fid args).run Tryz.prog w = .ok (.enter fid args) w) (w0 : World) (hB : Blk w0 b [.func (.func fid) bnd.toArray caps.toArray] 202) (hq : ∀ w, Ext w0 w → CT Tryz.prog fid (bnd ++ [.agg #[.int .u8 x.op, .string x.nm, .int .i64 x.n, .slice so x.outs.length co]] ++ caps) w no (fun v _ => v = .bool r)) :
  CT Tryz.prog 157 [.agg #[.int .u8 x.op, .string x.nm, .int .i64 x.n, .slice so x.outs.length co], .pointer (some ⟨b, 0, none⟩)] w0 no (fun v _ => v = .bool (!r)) := by
 have F0 := Fr.refl no w0
 refine ct_body Tryz.func157 rfl Tryz.ntmps157 (Nat.le_of_ble_eq_true rfl) ?_
 refine wk_seq ?_
 refine wk_region ?_
 refine lx_new (want rfl) (rn_box (t_agg rfl)) ?_
 intro b21 w1 hb21 Eb21 B21 hlb21
 have F1 := F0.ext Eb21
 have hzb21 := Eb21.size
 refine lx_value (want rfl) (as_bool rfl) ?_
 refine lx_nil ?_
 refine wk_seq ?_
 refine wk_region ?_
 refine lx_value (want rfl) (rn_load1Blk ag_202 rfl (hB.ext Eb21) rfl) ?_
 refine lx_value (want rfl) (rn_loadBlk ag_73 sz_73 rfl B21 rfl rfl) ?_
 refine lx_call (want rfl) (ent_valueB hcf rfl (argsC (t_agg rfl) args0)) (hq w1 F1) ?_
 rintro _ w2 E1 rfl
 have F2 := F1.ext E1
 have hz1 := E1.size
 refine lx_value (want rfl) (rn_not rfl) ?_
 refine lx_value (want rfl) (as_bool rfl) ?_
 refine lx_nil ?_
 refine wk_ret ?_
 refine retR1 Tryz.results157 (.tmp (t_bool rfl)) F2 ?_
 exact rfl

theorem alle1_ct (x : Ent) (s : Option Addr) (c : Nat) (b : Nat) (fid : FuncId) (bnd caps : List Value) (r : Bool) (hcf : ∀ args w, (callFunc fid args).run Tryz.prog w = .ok (.enter fid args) w) (w0 : World) (hB : Blk w0 b [.func (.func fid) bnd.toArray caps.toArray] 139) (hq : ∀ w, Ext w0 w → CT Tryz.prog fid (bnd ++ [.agg #[.int .i64 x.ctx, .int .i64 x.at_, .slice s x.ports.length c]] ++ caps) w no (fun v _ => v = .bool r)) :
  CT Tryz.prog 107 [.agg #[.int .i64 x.ctx, .int .i64 x.at_, .slice s x.ports.length c], .pointer (some ⟨b, 0, none⟩)] w0 no (fun v _ => v = .bool (!r)) := by
 have F0 := Fr.refl no w0
 refine ct_body Tryz.func107 rfl Tryz.ntmps107 (Nat.le_of_ble_eq_true rfl) ?_
 refine wk_seq ?_
 refine wk_region ?_
 refine lx_new (want rfl) (rn_box (t_agg rfl)) ?_
 intro b21 w1 hb21 Eb21 B21 hlb21
 have F1 := F0.ext Eb21
 have hzb21 := Eb21.size
 refine lx_value (want rfl) (as_bool rfl) ?_
 refine lx_nil ?_
 refine wk_seq ?_
 refine wk_region ?_
 refine lx_value (want rfl) (rn_load1Blk ag_139 rfl (hB.ext Eb21) rfl) ?_
 refine lx_value (want rfl) (rn_loadBlk ag_55 sz_55 rfl B21 rfl rfl) ?_
 refine lx_call (want rfl) (ent_valueB hcf rfl (argsC (t_agg rfl) args0)) (hq w1 F1) ?_
 rintro _ w2 E1 rfl
 have F2 := F1.ext E1
 have hz1 := E1.size
 refine lx_value (want rfl) (rn_not rfl) ?_
 refine lx_value (want rfl) (as_bool rfl) ?_
 refine lx_nil ?_
 refine wk_ret ?_
 refine retR1 Tryz.results107 (.tmp (t_bool rfl)) F2 ?_
 exact rfl

theorem func1_ct (a p : Int) (w0 : World) :
  CT Tryz.prog 22 [.int .i64 a, .int .i64 p] w0 no (fun v w => ∃ fa fb, v = .slice (some ⟨fa, 0, none⟩) 1 1 ∧ Blk w fa [.slice (some ⟨fb, 0, none⟩) 1 1] 76 ∧ Blk w fb [.int .i64 a, .int .i64 p] 75 ∧ w0.heap.size ≤ fa ∧ w0.heap.size ≤ fb ∧ fa ≠ fb) := by
 have F0 := Fr.refl no w0
 refine ct_body Tryz.func22 rfl Tryz.ntmps22 (Nat.le_of_ble_eq_true rfl) ?_
 refine wk_seq ?_
 refine wk_region ?_
 refine lx_value (want rfl) (as_slice rfl) ?_
 refine lx_nil ?_
 refine wk_seq ?_
 refine wk_region ?_
 refine lx_value (want rfl) (mv_int rfl) ?_
 refine lx_value (want rfl) (mv_int rfl) ?_
 refine lx_value (want rfl) (rn_build2 (t_int rfl) (t_int rfl) (fun w => bd_75_0_1 _ _ w)) ?_
 refine lx_newS (want rfl) (rn_bslice (xs := [.tmp 7]) Tryz.underlying76 sz_75 ze_75 rfl (argsC (t_agg rfl) args0) (CL.cons rfl rfl CL.nil) rfl (Nat.le_of_ble_eq_true rfl)) ?_
 intro b1 w1 hb1 Eb1 B1 hlb1
 have F1 := F0.ext Eb1
 have hzb1 := Eb1.size
 refine lx_newS (want rfl) (rn_bslice (xs := [.tmp 8]) Tryz.underlying71 sz_76 ze_76 rfl (argsC (t_slice rfl) args0) (CL.cons rfl rfl CL.nil) rfl (Nat.le_of_ble_eq_true rfl)) ?_
 intro b2 w2 hb2 Eb2 B2 hlb2
 have F2 := F1.ext Eb2
 have hzb2 := Eb2.size
 refine lx_value (want rfl) (as_slice rfl) ?_
 refine lx_nil ?_
 refine wk_ret ?_
 refine retR1 Tryz.results22 (.tmp (t_slice rfl)) F2 ?_
 exact ⟨_, _, rfl, B2, (B1.ext Eb2), by omega, by omega, by omega⟩

theorem point_ct (x : Ent) (s : Option Addr) (c : Nat) (w0 : World) :
  CT Tryz.prog 48 [.agg #[.int .i64 x.ctx, .int .i64 x.at_, .slice s x.ports.length c]] w0 no (fun v _ => v = .agg #[.int .i64 x.ctx, .int .i64 x.at_]) := by
 have F0 := Fr.refl no w0
 refine ct_body Tryz.func48 rfl Tryz.ntmps48 (Nat.le_of_ble_eq_true rfl) ?_
 refine wk_seq ?_
 refine wk_region ?_
 refine lx_new (want rfl) (rn_box (t_agg rfl)) ?_
 intro b1 w1 hb1 Eb1 B1 hlb1
 have F1 := F0.ext Eb1
 have hzb1 := Eb1.size
 refine lx_new (want rfl) (rn_alloc ze_23) ?_
 intro b2 w2 hb2 Eb2 B2 hlb2
 have F2 := F1.ext Eb2
 have hzb2 := Eb2.size
 refine lx_nil ?_
 refine wk_seq ?_
 refine wk_region ?_
 refine lx_value (want rfl) (rn_fieldAddr fa_55_0 rfl) ?_
 refine lx_value (want rfl) (rn_load1Blk ag_3 rfl (B1.ext Eb2) rfl) ?_
 refine lx_value (want rfl) (rn_fieldAddr fa_55_1 rfl) ?_
 refine lx_value (want rfl) (rn_load1Blk ag_3 rfl (B1.ext Eb2) rfl) ?_
 refine lx_value (want rfl) (rn_build2 (t_int rfl) (t_int rfl) (fun w => bd_23_0_1 _ _ w)) ?_
 refine lx_set (want rfl) sz_23 rfl (t_agg rfl) rfl rfl rfl B2 (Nat.le_of_ble_eq_true rfl) ?_
 intro w3 Es1 Bs1
 have F3 := F2.set Es1 (by omega)
 have hzs1 := Es1.size
 refine lx_nil ?_
 refine wk_ret ?_
 refine retR1 Tryz.results48 (.cell rfl (run_loadVar_blk ag_23 sz_23 Bs1 rfl rfl)) F3 ?_
 exact rfl

theorem indexp_ct (fn : Fn) (bs cs : Array Value) (w0 : World) :
  CT Tryz.prog 131 [.slice none 0 0, .func fn bs cs] w0 no (fun v _ => v = .int .i64 (-1)) := by
 have F0 := Fr.refl no w0
 refine ct_body Tryz.func131 rfl Tryz.ntmps131 (Nat.le_of_ble_eq_true rfl) ?_
 refine wk_seq ?_
 refine wk_region ?_
 refine lx_value (want rfl) (as_int rfl) ?_
 refine lx_nil ?_
 refine wk_seq ?_
 refine wk_seq ?_
 refine wk_region ?_
 refine lx_value (want rfl) (mv_slice rfl) ?_
 refine lx_value (want rfl) (rn_len Tryz.underlying40 rfl) ?_
 refine lx_value (want rfl) (mv_int rfl) ?_
 refine lx_nil ?_
 refine wk_block ?_
 refine wk_loopA [4, 5, 8, 9, 10, 11, 12, 13, 14, 15, 16, 17, 18] no (fun nM ρ w => ∃ (i : Nat), nM = 0 ∧ ρ 8 = .int .i64 0) _ ⟨0, rfl, rfl⟩ ?_
 rintro n1 ρ1 w1 A1 EL1 ⟨i, rfl, hs1_8⟩
 have F1 := F0.ext EL1
 have hzL1 := EL1.size
 refine wk_seq ?_
 refine wk_region ?_
 refine lx_value (want rfl) (rn_lss hs1_8 (A1.at 7 rfl rfl)) ?_
 refine lx_dec_f ((by decide)) ?_
 refine lx_nil ?_
 refine wk_seq ?_
 refine wk_cond_f rfl ?_
 refine wk_exit ?_
 refine wk_seq ?_
 refine wk_region ?_
 refine lx_value (want rfl) (as_int rfl) ?_
 refine lx_nil ?_
 refine wk_ret ?_
 refine retR1 Tryz.results131 (.tmp (t_int rfl)) F1 ?_
 exact rfl

theorem owners_ct (p : Option Addr) (g : Sg) (ss : Option Addr) (cs : Nat) (si : Option Addr) (ci : Nat) (w0 : World) :
  CT Tryz.prog 150 [.agg #[.pointer p, .string g.nm, .int .i64 (g.ex : Nat), .slice ss g.st.length cs, .slice si g.ins.length ci]] w0 no (fun v w => ∃ bq, v = .func (.func 163) #[] #[.pointer (some ⟨bq, 0, none⟩)] ∧ Blk w bq [.pointer p, .string g.nm, .int .i64 (g.ex : Nat), .slice ss g.st.length cs, .slice si g.ins.length ci] 193 ∧ w0.heap.size ≤ bq) := by
 have F0 := Fr.refl no w0
 refine ct_body Tryz.func150 rfl Tryz.ntmps150 (Nat.le_of_ble_eq_true rfl) ?_
 refine wk_seq ?_
 refine wk_region ?_
 refine lx_new (want rfl) (rn_box (t_agg rfl)) ?_
 intro b1 w1 hb1 Eb1 B1 hlb1
 have F1 := F0.ext Eb1
 have hzb1 := Eb1.size
 refine lx_value (want rfl) (as_nilFunc rfl) ?_
 refine lx_nil ?_
 refine wk_seq ?_
 refine wk_region ?_
 refine lx_value (want rfl) (rn_makeFunc (argsC (t_pointer rfl) args0)) ?_
 refine lx_value (want rfl) (as_func rfl) ?_
 refine lx_nil ?_
 refine wk_ret ?_
 refine retR1 Tryz.results150 (.tmp (t_func rfl)) F1 ?_
 exact ⟨_, rfl, B1, by omega⟩

theorem goes_ct (p : Option Addr) (g : Sg) (ss : Option Addr) (cs : Nat) (si : Option Addr) (ci : Nat) (w0 : World) :
  CT Tryz.prog 148 [.agg #[.pointer p, .string g.nm, .int .i64 (g.ex : Nat), .slice ss g.st.length cs, .slice si g.ins.length ci]] w0 no (fun v w => ∃ bq, v = .func (.func 162) #[] #[.pointer (some ⟨bq, 0, none⟩)] ∧ Blk w bq [.pointer p, .string g.nm, .int .i64 (g.ex : Nat), .slice ss g.st.length cs, .slice si g.ins.length ci] 193 ∧ w0.heap.size ≤ bq) := by
 have F0 := Fr.refl no w0
 refine ct_body Tryz.func148 rfl Tryz.ntmps148 (Nat.le_of_ble_eq_true rfl) ?_
 refine wk_seq ?_
 refine wk_region ?_
 refine lx_new (want rfl) (rn_box (t_agg rfl)) ?_
 intro b1 w1 hb1 Eb1 B1 hlb1
 have F1 := F0.ext Eb1
 have hzb1 := Eb1.size
 refine lx_value (want rfl) (as_nilFunc rfl) ?_
 refine lx_nil ?_
 refine wk_seq ?_
 refine wk_region ?_
 refine lx_value (want rfl) (rn_makeFunc (argsC (t_pointer rfl) args0)) ?_
 refine lx_value (want rfl) (as_func rfl) ?_
 refine lx_nil ?_
 refine wk_ret ?_
 refine retR1 Tryz.results148 (.tmp (t_func rfl)) F1 ?_
 exact ⟨_, rfl, B1, by omega⟩

theorem rtruth_ct (w0 : World) :
  CT Tryz.prog 19 [.bool false] w0 no (fun v _ => v = .agg #[.int .u8 2, .int .i64 0]) := by
 have F0 := Fr.refl no w0
 refine ct_body Tryz.func19 rfl Tryz.ntmps19 (Nat.le_of_ble_eq_true rfl) ?_
 refine wk_seq ?_
 refine wk_region ?_
 refine lx_new (want rfl) (rn_alloc ze_48) ?_
 intro b1 w1 hb1 Eb1 B1 hlb1
 have F1 := F0.ext Eb1
 have hzb1 := Eb1.size
 refine lx_nil ?_
 refine wk_seq ?_
 refine wk_seq ?_
 refine wk_region ?_
 refine lx_value (want rfl) (mv_bool rfl) ?_
 refine lx_b_f (rfl) ?_
 refine lx_nil ?_
 refine wk_cond_f rfl ?_
 refine wk_skip ?_
 refine wk_seq ?_
 refine wk_region ?_
 refine lx_value (want rfl) (rn_build1 (t_int rfl) (fun w => bd_48_0 _ w)) ?_
 refine lx_set (want rfl) sz_48 rfl (t_agg rfl) rfl rfl rfl B1 (Nat.le_of_ble_eq_true rfl) ?_
 intro w2 Es1 Bs1
 have F2 := F1.set Es1 (by omega)
 have hzs1 := Es1.size
 refine lx_nil ?_
 refine wk_ret ?_
 refine retR1 Tryz.results19 (.cell rfl (run_loadVar_blk ag_48 sz_48 Bs1 rfl rfl)) F2 ?_
 exact rfl

theorem kloop1_ct (x : Ins) (so : Option Addr) (co : Nat) (w0 : World) :
  CT Tryz.prog 153 [.agg #[.int .u8 x.op, .string x.nm, .int .i64 x.n, .slice so x.outs.length co]] w0 no (fun v _ => v = .bool (decide (x.op = 23))) := by
 have F0 := Fr.refl no w0
 refine ct_body Tryz.func153 rfl Tryz.ntmps153 (Nat.le_of_ble_eq_true rfl) ?_
 refine wk_seq ?_
 refine wk_region ?_
 refine lx_new (want rfl) (rn_box (t_agg rfl)) ?_
 intro b1 w1 hb1 Eb1 B1 hlb1
 have F1 := F0.ext Eb1
 have hzb1 := Eb1.size
 refine lx_value (want rfl) (as_bool rfl) ?_
 refine lx_nil ?_
 refine wk_seq ?_
 refine wk_region ?_
 refine lx_value (want rfl) (rn_fieldAddr fa_73_0 rfl) ?_
 refine lx_value (want rfl) (rn_load1Blk ag_5 rfl B1 rfl) ?_
 refine lx_value (want rfl) (rn_eql rfl rfl) ?_
 refine lx_value (want rfl) (as_bool rfl) ?_
 refine lx_nil ?_
 refine wk_ret ?_
 refine retR1 Tryz.results153 (.tmp (t_bool rfl)) F1 ?_
 exact rfl

theorem oloop1_ct (x : Ins) (so : Option Addr) (co : Nat) (w0 : World) :
  CT Tryz.prog 154 [.agg #[.int .u8 x.op, .string x.nm, .int .i64 x.n, .slice so x.outs.length co]] w0 no (fun v _ => v = .bool (decide (x.op = 23))) := by
 have F0 := Fr.refl no w0
 refine ct_body Tryz.func154 rfl Tryz.ntmps154 (Nat.le_of_ble_eq_true rfl) ?_
 refine wk_seq ?_
 refine wk_region ?_
 refine lx_new (want rfl) (rn_box (t_agg rfl)) ?_
 intro b1 w1 hb1 Eb1 B1 hlb1
 have F1 := F0.ext Eb1
 have hzb1 := Eb1.size
 refine lx_value (want rfl) (as_bool rfl) ?_
 refine lx_nil ?_
 refine wk_seq ?_
 refine wk_region ?_
 refine lx_value (want rfl) (rn_fieldAddr fa_73_0 rfl) ?_
 refine lx_value (want rfl) (rn_load1Blk ag_5 rfl B1 rfl) ?_
 refine lx_value (want rfl) (rn_eql rfl rfl) ?_
 refine lx_value (want rfl) (as_bool rfl) ?_
 refine lx_nil ?_
 refine wk_ret ?_
 refine retR1 Tryz.results154 (.tmp (t_bool rfl)) F1 ?_
 exact rfl

theorem num_ct (n : Int) (w0 : World) :
  CT Tryz.prog 14 [.int .i64 n] w0 no (fun v _ => v = .agg #[.int .u8 1, .int .i64 n]) := by
 have F0 := Fr.refl no w0
 refine ct_body Tryz.func14 rfl Tryz.ntmps14 (Nat.le_of_ble_eq_true rfl) ?_
 refine wk_seq ?_
 refine wk_region ?_
 refine lx_new (want rfl) (rn_alloc ze_48) ?_
 intro b1 w1 hb1 Eb1 B1 hlb1
 have F1 := F0.ext Eb1
 have hzb1 := Eb1.size
 refine lx_nil ?_
 refine wk_seq ?_
 refine wk_region ?_
 refine lx_value (want rfl) (mv_int rfl) ?_
 refine lx_value (want rfl) (rn_build2 (t_int rfl) (t_int rfl) (fun w => bd_48_0_1 _ _ w)) ?_
 refine lx_set (want rfl) sz_48 rfl (t_agg rfl) rfl rfl rfl B1 (Nat.le_of_ble_eq_true rfl) ?_
 intro w2 Es1 Bs1
 have F2 := F1.set Es1 (by omega)
 have hzs1 := Es1.size
 refine lx_nil ?_
 refine wk_ret ?_
 refine retR1 Tryz.results14 (.cell rfl (run_loadVar_blk ag_48 sz_48 Bs1 rfl rfl)) F2 ?_
 exact rfl

theorem chole_ct (v : Vl) (hv : intB v) (w0 : World) :
  CT Tryz.prog 111 [vlV v] w0 no (fun u _ => u = .bool false) := by
 obtain ⟨hk, hlo, hhi⟩ := hv
 have F0 := Fr.refl no w0
 refine ct_body Tryz.func111 rfl Tryz.ntmps111 (Nat.le_of_ble_eq_true rfl) ?_
 refine wk_seq ?_
 refine wk_region ?_
 refine lx_new (want rfl) (rn_box (t_agg rfl)) ?_
 intro b1 w1 hb1 Eb1 B1 hlb1
 have F1 := F0.ext Eb1
 have hzb1 := Eb1.size
 refine lx_value (want rfl) (as_bool rfl) ?_
 refine lx_nil ?_
 refine wk_seq ?_
 refine wk_region ?_
 refine lx_value (want rfl) (rn_fieldAddr fa_48_0 rfl) ?_
 refine lx_value (want rfl) (rn_load1Blk ag_5 rfl B1 rfl) ?_
 refine lx_value (want rfl) (rn_eql rfl rfl) ?_
 refine lx_value (want rfl) (as_bool rfl) ?_
 refine lx_nil ?_
 refine wk_ret ?_
 refine retR1 Tryz.results111 (.tmp (t_bool rfl)) F1 ?_
 exact congrArg Value.bool (decide_eq_false (by omega))

theorem cbad_ct (v : Vl) (hv : intB v) (w0 : World) :
  CT Tryz.prog 113 [vlV v] w0 no (fun u _ => u = .bool false) := by
 obtain ⟨hk, hlo, hhi⟩ := hv
 have F0 := Fr.refl no w0
 refine ct_body Tryz.func113 rfl Tryz.ntmps113 (Nat.le_of_ble_eq_true rfl) ?_
 refine wk_seq ?_
 refine wk_region ?_
 refine lx_new (want rfl) (rn_box (t_agg rfl)) ?_
 intro b1 w1 hb1 Eb1 B1 hlb1
 have F1 := F0.ext Eb1
 have hzb1 := Eb1.size
 refine lx_value (want rfl) (as_bool rfl) ?_
 refine lx_nil ?_
 refine wk_seq ?_
 refine wk_region ?_
 refine lx_value (want rfl) (rn_fieldAddr fa_48_0 rfl) ?_
 refine lx_value (want rfl) (rn_load1Blk ag_5 rfl B1 rfl) ?_
 refine lx_value (want rfl) (rn_eql rfl rfl) ?_
 refine lx_value (want rfl) (as_bool rfl) ?_
 refine lx_nil ?_
 refine wk_ret ?_
 refine retR1 Tryz.results113 (.tmp (t_bool rfl)) F1 ?_
 exact congrArg Value.bool (decide_eq_false (by omega))

theorem ksegs_ct (b : Nat) (w0 : World) :
  CT Tryz.prog 124 [.pointer (some ⟨b, 0, none⟩)] w0 no (fun v w => ∃ bq, v = .func (.func 137) #[] #[.pointer (some ⟨bq, 0, none⟩)] ∧ Blk w bq [.pointer (some ⟨b, 0, none⟩)] 182 ∧ w0.heap.size ≤ bq) := by
 have F0 := Fr.refl no w0
 refine ct_body Tryz.func124 rfl Tryz.ntmps124 (Nat.le_of_ble_eq_true rfl) ?_
 refine wk_seq ?_
 refine wk_region ?_
 refine lx_new (want rfl) (rn_box (t_pointer rfl)) ?_
 intro b1 w1 hb1 Eb1 B1 hlb1
 have F1 := F0.ext Eb1
 have hzb1 := Eb1.size
 refine lx_value (want rfl) (as_nilFunc rfl) ?_
 refine lx_nil ?_
 refine wk_seq ?_
 refine wk_region ?_
 refine lx_value (want rfl) (rn_makeFunc (argsC (t_pointer rfl) args0)) ?_
 refine lx_value (want rfl) (as_func rfl) ?_
 refine lx_nil ?_
 refine wk_ret ?_
 refine retR1 Tryz.results124 (.tmp (t_func rfl)) F1 ?_
 exact ⟨_, rfl, B1, by omega⟩

theorem ishole_ct (v : Vl) (w0 : World) :
  CT Tryz.prog 43 [vlV v] w0 no (fun u _ => u = .bool (holeB v)) := by
 have F0 := Fr.refl no w0
 refine ct_body Tryz.func43 rfl Tryz.ntmps43 (Nat.le_of_ble_eq_true rfl) ?_
 refine wk_seq ?_
 refine wk_region ?_
 refine lx_new (want rfl) (rn_box (t_agg rfl)) ?_
 intro b1 w1 hb1 Eb1 B1 hlb1
 have F1 := F0.ext Eb1
 have hzb1 := Eb1.size
 refine lx_value (want rfl) (as_bool rfl) ?_
 refine lx_nil ?_
 refine wk_seq ?_
 refine wk_region ?_
 refine lx_value (want rfl) (rn_loadBlk ag_48 sz_48 rfl B1 rfl rfl) ?_
 refine lx_value (want rfl) (rn_build0  (fun w => bd_48  w)) ?_
 refine lx_value (want rfl) (rn_cmpS (t_agg rfl) (t_agg rfl) (geql_48 _ _ _ _) (eql_48 _ _ _ _)) ?_
 refine lx_value (want rfl) (as_bool rfl) ?_
 refine lx_nil ?_
 refine wk_ret ?_
 refine retR1 Tryz.results43 (.tmp (t_bool rfl)) F1 ?_
 exact rfl

theorem clonep_ct (w0 : World) :
  CT Tryz.prog 38 [.slice none 0 0] w0 no (fun v _ => v = .slice none 0 0) := by
 have F0 := Fr.refl no w0
 refine ct_body Tryz.func38 rfl Tryz.ntmps38 (Nat.le_of_ble_eq_true rfl) ?_
 refine wk_seq ?_
 refine wk_region ?_
 refine lx_value (want rfl) (as_slice rfl) ?_
 refine lx_nil ?_
 refine wk_seq ?_
 refine wk_seq ?_
 refine wk_region ?_
 refine lx_value (want rfl) (mv_slice rfl) ?_
 refine lx_value (want rfl) (rn_eqlNil Tryz.underlying40 rfl rfl) ?_
 refine lx_b_t (rfl) ?_
 refine lx_nil ?_
 refine wk_cond_t rfl ?_
 refine wk_seq ?_
 refine wk_region ?_
 refine lx_value (want rfl) (as_slice rfl) ?_
 refine lx_nil ?_
 refine wk_ret ?_
 refine retR1 Tryz.results38 (.tmp (t_slice rfl)) F0 ?_
 exact rfl

end Go.Proofs.YtgnnegfnpgnbbaaGreatDoor

/- What functions compute: clonev, within, in, values, refbool, pout, fbool2, blen, integer, bad, refbad, int, ref, op3c, op4c, isbad, ishole, hole, none, nil. -/
import Derived.Test.YtnhgfmbmfjmonaaGreatDoorStreamsFacts
import Derived.Test.YtnhgfmbmfjmonaaGreatDoorStreamsPre
set_option maxRecDepth 100000
set_option linter.unusedVariables false
set_option linter.unusedSimpArgs false
namespace Go.Proofs.YtnhgfmbmfjmonaaGreatDoor
open Go Go.RowKit Go.Mix Go.Eng
theorem clonev_ct (l : List Vl) (s : Option Addr) (c : Nat) (F : Nat → Prop) (w0 : World) (hl : VlS F w0 s l) (hb : l.length ≤ 1048576) :
  CT Tryz.prog 111 [.slice s l.length c] w0 no (fun v w => ∃ s' c', v = .slice s' l.length c' ∧ OwnS w 36 2 s' l.length c' (l.flatMap vlC) ∧ ∀ k, ob s' k → w0.heap.size ≤ k) := by
 have F0 := Fr.refl no w0
 refine ct_body Tryz.func111 rfl Tryz.ntmps111 (Nat.le_of_ble_eq_true rfl) ?_
 refine wk_seq ?_
 refine wk_region ?_
 refine lx_value (want rfl) (as_slice rfl) ?_
 refine lx_nil ?_
 refine wk_seq ?_
 refine wk_seq ?_
 refine wk_region ?_
 refine lx_value (want rfl) (mv_slice rfl) ?_
 refine lx_value (want rfl) (rn_eqlNil Tryz.underlying30 rfl rfl) ?_
 refine lx_split (fun h4 => ?_) (fun h4 => ?_)
 ·
  obtain rfl := clone_nil hl h4
  refine lx_nil ?_
  refine wk_cond_t rfl ?_
  refine wk_seq ?_
  refine wk_region ?_
  refine lx_value (want rfl) (as_slice rfl) ?_
  refine lx_nil ?_
  refine wk_ret ?_
  refine retR1 Tryz.results111 (.tmp (t_slice rfl)) F0 ?_
  exact ⟨_, _, rfl, OwnS.nil _ _ _, fun _ h => ob_none h⟩
 ·
  refine lx_nil ?_
  refine wk_cond_f rfl ?_
  refine wk_skip ?_
  refine wk_seq ?_
  refine wk_region ?_
  refine lx_newS (want rfl) (rn_bslice (xs := []) Tryz.underlying30 sz_36 ze_36 rfl args0 CL.nil rfl (Nat.le_of_ble_eq_true rfl)) ?_
  intro b1 w1 hb1 Eb1 B1 hlb1
  have F1 := F0.ext Eb1
  have hzb1 := Eb1.size
  have ow1 := OwnS.full (n := 0) (size := 2) B1 rfl (by decide)
  have ge1 : ∀ k, ob (some (⟨b1, 0, none⟩ : Addr)) k → w0.heap.size ≤ k := fun k hk => (by have := ob_some hk; omega)
  refine lx_value (want rfl) (mv_slice rfl) ?_
  refine lx_append 16 (want rfl) Tryz.underlying30 ti_36 (by decide) rfl (by decide) rfl rfl ow1 ((hl.fr (vl_stab _) F1 (fun _ _ h => h)).src (fun _ _ => rfl) (fun _ _ u hu => vl_one hu) (by decide)) (by omega) ?_
  intro sq2 cq2 w2 AP2
  have EA2 := AP2.fr
  have ow2 := AP2.own
  have ge2 : ∀ k, ob sq2 k → w0.heap.size ≤ k := fun k hk => (AP2.blk k hk).elim (ge1 k) (fun h => (Nat.le_trans F1.size h))
  have F2 := F1.new EA2 ge1
  have hzA2 := EA2.size
  refine lx_value (want rfl) (as_slice rfl) ?_
  refine lx_nil ?_
  refine wk_ret ?_
  refine retR1 Tryz.results111 (.tmp (t_slice rfl)) F2 ?_
  exact ⟨_, _, by rw [Nat.zero_add], by have h := ow2; simpa using h, ge2⟩

theorem within_ct (n a b : Int) (w0 : World) :
  CT Tryz.prog 94 [.int .i64 n, .int .i64 a, .int .i64 b] w0 no (fun v _ => v = .bool (decide (a ≤ n ∧ n ≤ b))) := by
 have F0 := Fr.refl no w0
 refine ct_body Tryz.func94 rfl Tryz.ntmps94 (Nat.le_of_ble_eq_true rfl) ?_
 refine wk_seq ?_
 refine wk_region ?_
 refine lx_value (want rfl) (as_bool rfl) ?_
 refine lx_nil ?_
 refine wk_seq ?_
 refine wk_region ?_
 refine lx_value (want rfl) (mv_int rfl) ?_
 refine lx_value (want rfl) (mv_int rfl) ?_
 refine lx_value (want rfl) (rn_geq rfl rfl) ?_
 refine lx_dec (fun h1 => ?_) (fun h1 => ?_)
 ·
  refine lx_value (want rfl) (mv_bool rfl) ?_
  refine lx_value (want_if (j := 3) (d := 10) (x := true) (y := true) rfl rfl (by decide) rfl) (mv_int rfl) ?_
  refine lx_value (want_if (j := 3) (d := 10) (x := true) (y := true) rfl rfl (by decide) rfl) (mv_int rfl) ?_
  refine lx_value (want_if (j := 3) (d := 10) (x := true) (y := true) rfl rfl (by decide) rfl) (rn_leq rfl rfl) ?_
  refine lx_value (want rfl) (pick_t rfl rfl) ?_
  refine lx_value (want rfl) (as_bool rfl) ?_
  refine lx_nil ?_
  refine wk_ret ?_
  refine retR1 Tryz.results94 (.tmp (t_bool rfl)) F0 ?_
  exact win_t h1
 ·
  refine lx_value (want rfl) (mv_bool rfl) ?_
  refine lx_skip (want_if (j := 3) (d := 10) (x := true) (y := false) rfl rfl (by decide) rfl) ?_
  refine lx_skip (want_if (j := 3) (d := 10) (x := true) (y := false) rfl rfl (by decide) rfl) ?_
  refine lx_skip (want_if (j := 3) (d := 10) (x := true) (y := false) rfl rfl (by decide) rfl) ?_
  refine lx_value (want rfl) (pick_f rfl rfl) ?_
  refine lx_value (want rfl) (as_bool rfl) ?_
  refine lx_nil ?_
  refine wk_ret ?_
  refine retR1 Tryz.results94 (.tmp (t_bool rfl)) F0 ?_
  exact win_f h1

theorem in_ct (n a b : Int) (w0 : World) :
  CT Tryz.prog 65 [.int .i64 n, .int .i64 a, .int .i64 b] w0 no (fun v _ => v = .bool (decide (a ≤ n ∧ n ≤ b))) := by
 have F0 := Fr.refl no w0
 refine ct_body Tryz.func65 rfl Tryz.ntmps65 (Nat.le_of_ble_eq_true rfl) ?_
 refine wk_seq ?_
 refine wk_region ?_
 refine lx_value (want rfl) (as_bool rfl) ?_
 refine lx_nil ?_
 refine wk_seq ?_
 refine wk_region ?_
 refine lx_value (want rfl) (mv_int rfl) ?_
 refine lx_value (want rfl) (mv_int rfl) ?_
 refine lx_value (want rfl) (rn_geq rfl rfl) ?_
 refine lx_dec (fun h1 => ?_) (fun h1 => ?_)
 ·
  refine lx_value (want rfl) (mv_bool rfl) ?_
  refine lx_value (want_if (j := 3) (d := 10) (x := true) (y := true) rfl rfl (by decide) rfl) (mv_int rfl) ?_
  refine lx_value (want_if (j := 3) (d := 10) (x := true) (y := true) rfl rfl (by decide) rfl) (mv_int rfl) ?_
  refine lx_value (want_if (j := 3) (d := 10) (x := true) (y := true) rfl rfl (by decide) rfl) (rn_leq rfl rfl) ?_
  refine lx_value (want rfl) (pick_t rfl rfl) ?_
  refine lx_value (want rfl) (as_bool rfl) ?_
  refine lx_nil ?_
  refine wk_ret ?_
  refine retR1 Tryz.results65 (.tmp (t_bool rfl)) F0 ?_
  exact win_t h1
 ·
  refine lx_value (want rfl) (mv_bool rfl) ?_
  refine lx_skip (want_if (j := 3) (d := 10) (x := true) (y := false) rfl rfl (by decide) rfl) ?_
  refine lx_skip (want_if (j := 3) (d := 10) (x := true) (y := false) rfl rfl (by decide) rfl) ?_
  refine lx_skip (want_if (j := 3) (d := 10) (x := true) (y := false) rfl rfl (by decide) rfl) ?_
  refine lx_value (want rfl) (pick_f rfl rfl) ?_
  refine lx_value (want rfl) (as_bool rfl) ?_
  refine lx_nil ?_
  refine wk_ret ?_
  refine retR1 Tryz.results65 (.tmp (t_bool rfl)) F0 ?_
  exact win_f h1

theorem values_ct (l : List Vl) (s : Option Addr) (c : Nat) (F : Nat → Prop) (w0 : World) (hl : VlS F w0 s l) (hb : l.length ≤ 1048576) :
  CT Tryz.prog 28 [.slice s l.length c] w0 no (fun v w => ∃ s' c', v = .slice s' l.length c' ∧ OwnS w 36 2 s' l.length c' (l.flatMap vlC) ∧ ∀ k, ob s' k → w0.heap.size ≤ k) := by
 have F0 := Fr.refl no w0
 refine ct_body Tryz.func28 rfl Tryz.ntmps28 (Nat.le_of_ble_eq_true rfl) ?_
 refine wk_seq ?_
 refine wk_region ?_
 refine lx_value (want rfl) (as_slice rfl) ?_
 refine lx_nil ?_
 refine wk_seq ?_
 refine wk_region ?_
 refine lx_newS (want rfl) (rn_bslice (xs := []) Tryz.underlying30 sz_36 ze_36 rfl args0 CL.nil rfl (Nat.le_of_ble_eq_true rfl)) ?_
 intro b1 w1 hb1 Eb1 B1 hlb1
 have F1 := F0.ext Eb1
 have hzb1 := Eb1.size
 have ow1 := OwnS.full (n := 0) (size := 2) B1 rfl (by decide)
 have ge1 : ∀ k, ob (some (⟨b1, 0, none⟩ : Addr)) k → w0.heap.size ≤ k := fun k hk => (by have := ob_some hk; omega)
 refine lx_value (want rfl) (mv_slice rfl) ?_
 refine lx_append 16 (want rfl) Tryz.underlying30 ti_36 (by decide) rfl (by decide) rfl rfl ow1 ((hl.fr (vl_stab _) F1 (fun _ _ h => h)).src (fun _ _ => rfl) (fun _ _ u hu => vl_one hu) (by decide)) (by omega) ?_
 intro sq2 cq2 w2 AP2
 have EA2 := AP2.fr
 have ow2 := AP2.own
 have ge2 : ∀ k, ob sq2 k → w0.heap.size ≤ k := fun k hk => (AP2.blk k hk).elim (ge1 k) (fun h => (Nat.le_trans F1.size h))
 have F2 := F1.new EA2 ge1
 have hzA2 := EA2.size
 refine lx_value (want rfl) (as_slice rfl) ?_
 refine lx_nil ?_
 refine wk_ret ?_
 refine retR1 Tryz.results28 (.tmp (t_slice rfl)) F2 ?_
 exact ⟨_, _, by rw [Nat.zero_add], by have h := ow2; simpa using h, ge2⟩

theorem refbool_ct (b : Bool) (w0 : World) :
  CT Tryz.prog 68 [.bool b] w0 no (fun v _ => v = vlV (truthV b)) := by
 have F0 := Fr.refl no w0
 refine ct_body Tryz.func68 rfl Tryz.ntmps68 (Nat.le_of_ble_eq_true rfl) ?_
 refine wk_seq ?_
 refine wk_region ?_
 refine lx_new (want rfl) (rn_alloc ze_36) ?_
 intro b1 w1 hb1 Eb1 B1 hlb1
 have F1 := F0.ext Eb1
 have hzb1 := Eb1.size
 refine lx_nil ?_
 refine wk_seq ?_
 refine wk_seq ?_
 refine wk_region ?_
 refine lx_value (want rfl) (mv_bool rfl) ?_
 refine lx_split (fun hb => ?_) (fun hb => ?_)
 ·
  refine lx_nil ?_
  refine wk_cond_t rfl ?_
  refine wk_seq ?_
  refine wk_region ?_
  refine lx_value (want rfl) (rn_build2 (t_int rfl) (t_int rfl) (fun w => bd_36_0_1 _ _ w)) ?_
  refine lx_set (want rfl) sz_36 rfl (t_agg rfl) rfl rfl rfl B1 (Nat.le_of_ble_eq_true rfl) ?_
  intro w2 Es1 Bs1
  have F2 := F1.set Es1 (by omega)
  have hzs1 := Es1.size
  refine lx_nil ?_
  refine wk_ret ?_
  refine retR1 Tryz.results68 (.cell rfl (run_loadVar_blk ag_36 sz_36 Bs1 rfl rfl)) F2 ?_
  exact tr_t hb
 ·
  refine lx_nil ?_
  refine wk_cond_f rfl ?_
  refine wk_skip ?_
  refine wk_seq ?_
  refine wk_region ?_
  refine lx_value (want rfl) (rn_build1 (t_int rfl) (fun w => bd_36_0 _ w)) ?_
  refine lx_set (want rfl) sz_36 rfl (t_agg rfl) rfl rfl rfl B1 (Nat.le_of_ble_eq_true rfl) ?_
  intro w2 Es2 Bs2
  have F3 := F1.set Es2 (by omega)
  have hzs2 := Es2.size
  refine lx_nil ?_
  refine wk_ret ?_
  refine retR1 Tryz.results68 (.cell rfl (run_loadVar_blk ag_36 sz_36 Bs2 rfl rfl)) F3 ?_
  exact tr_f hb

theorem pout_ct (b : Nat) (sM : Option Addr) (n cM : Nat) (wt : Int) (stM : Option Addr) (nt ctM : Nat) (w0 : World) (BM : Blk w0 b [.slice sM n cM, .int .i64 wt, .slice stM nt ctM] 113) :
  CT Tryz.prog 72 [.pointer (some ⟨b, 0, none⟩)] w0 no (fun v _ => v = .agg #[.slice sM n cM]) := by
 have hlb := BM.lt
 have F0 := Fr.refl no w0
 refine ct_body Tryz.func72 rfl Tryz.ntmps72 (Nat.le_of_ble_eq_true rfl) ?_
 refine wk_seq ?_
 refine wk_region ?_
 refine lx_new (want rfl) (rn_alloc ze_24) ?_
 intro b21 w1 hb21 Eb21 B21 hlb21
 have F1 := F0.ext Eb21
 have hzb21 := Eb21.size
 refine lx_nil ?_
 refine wk_seq ?_
 refine wk_region ?_
 refine lx_value (want rfl) (mv_pointer rfl) ?_
 refine lx_value (want rfl) (rn_nilCheck rfl) ?_
 refine lx_value (want rfl) (rn_fieldAddr fa_113_0 rfl) ?_
 refine lx_value (want rfl) (rn_load1Blk ag_22 rfl (BM.ext Eb21) rfl) ?_
 refine lx_value (want rfl) (rn_build1 (t_slice rfl) (fun w => bd_24_0 _ _ _ w)) ?_
 refine lx_set (want rfl) sz_24 rfl (t_agg rfl) rfl rfl rfl B21 (Nat.le_of_ble_eq_true rfl) ?_
 intro w2 Es1 Bs1
 have F2 := F1.set Es1 (by omega)
 have hzs1 := Es1.size
 refine lx_nil ?_
 refine wk_ret ?_
 refine retR1 Tryz.results72 (.cell rfl (run_loadVar_blk ag_24 sz_24 Bs1 rfl rfl)) F2 ?_
 exact rfl

theorem fbool2_ct (b : Bool) (w0 : World) :
  CT Tryz.prog 163 [.bool b] w0 no (fun v _ => v = .string (if b = true then ⟨#[116, 114, 117, 101]⟩ else ⟨#[102, 97, 108, 115, 101]⟩ : ByteArray)) := by
 have F0 := Fr.refl no w0
 refine ct_body Tryz.func163 rfl Tryz.ntmps163 (Nat.le_of_ble_eq_true rfl) ?_
 refine wk_seq ?_
 refine wk_region ?_
 refine lx_value (want rfl) (as_string rfl) ?_
 refine lx_nil ?_
 refine wk_seq ?_
 refine wk_seq ?_
 refine wk_region ?_
 refine lx_value (want rfl) (mv_bool rfl) ?_
 refine lx_split (fun hb => ?_) (fun hb => ?_)
 ·
  refine lx_nil ?_
  refine wk_cond_t rfl ?_
  refine wk_seq ?_
  refine wk_region ?_
  refine lx_value (want rfl) (as_string rfl) ?_
  refine lx_nil ?_
  refine wk_ret ?_
  refine retR1 Tryz.results163 (.tmp (t_string rfl)) F0 ?_
  exact (by rw [hb]; rfl)
 ·
  refine lx_nil ?_
  refine wk_cond_f rfl ?_
  refine wk_skip ?_
  refine wk_seq ?_
  refine wk_region ?_
  refine lx_value (want rfl) (as_string rfl) ?_
  refine lx_nil ?_
  refine wk_ret ?_
  refine retR1 Tryz.results163 (.tmp (t_string rfl)) F0 ?_
  exact (by rw [hb]; rfl)

theorem blen_ct (b : Nat) (ad s : Option Addr) (n c : Nat) (v2 : Value) (w0 : World) (hBs : Blk w0 b [.pointer ad, .slice s n c, v2] 149) :
  CT Tryz.prog 145 [.pointer (some ⟨b, 0, none⟩)] w0 no (fun v _ => v = .int .i64 n) := by
 have hlb := hBs.lt
 have F0 := Fr.refl no w0
 refine ct_body Tryz.func145 rfl Tryz.ntmps145 (Nat.le_of_ble_eq_true rfl) ?_
 refine wk_seq ?_
 refine wk_region ?_
 refine lx_value (want rfl) (as_int rfl) ?_
 refine lx_nil ?_
 refine wk_seq ?_
 refine wk_region ?_
 refine lx_value (want rfl) (mv_pointer rfl) ?_
 refine lx_value (want rfl) (rn_nilCheck rfl) ?_
 refine lx_value (want rfl) (rn_fieldAddr fa_147_1 rfl) ?_
 refine lx_value (want rfl) (rn_load1Blk ag_123 rfl hBs rfl) ?_
 refine lx_value (want rfl) (rn_len Tryz.underlying123 rfl) ?_
 refine lx_value (want rfl) (as_int rfl) ?_
 refine lx_nil ?_
 refine wk_ret ?_
 refine retR1 Tryz.results145 (.tmp (t_int rfl)) F0 ?_
 exact rfl

theorem integer_ct (n : Int) (w0 : World) :
  CT Tryz.prog 108 [.int .i64 n] w0 no (fun v _ => v = .agg #[.int .u8 1, .int .i64 n]) := by
 have F0 := Fr.refl no w0
 refine ct_body Tryz.func108 rfl Tryz.ntmps108 (Nat.le_of_ble_eq_true rfl) ?_
 refine wk_seq ?_
 refine wk_region ?_
 refine lx_new (want rfl) (rn_alloc ze_36) ?_
 intro b1 w1 hb1 Eb1 B1 hlb1
 have F1 := F0.ext Eb1
 have hzb1 := Eb1.size
 refine lx_nil ?_
 refine wk_seq ?_
 refine wk_region ?_
 refine lx_value (want rfl) (mv_int rfl) ?_
 refine lx_value (want rfl) (rn_build2 (t_int rfl) (t_int rfl) (fun w => bd_36_0_1 _ _ w)) ?_
 refine lx_set (want rfl) sz_36 rfl (t_agg rfl) rfl rfl rfl B1 (Nat.le_of_ble_eq_true rfl) ?_
 intro w2 Es1 Bs1
 have F2 := F1.set Es1 (by omega)
 have hzs1 := Es1.size
 refine lx_nil ?_
 refine wk_ret ?_
 refine retR1 Tryz.results108 (.cell rfl (run_loadVar_blk ag_36 sz_36 Bs1 rfl rfl)) F2 ?_
 exact rfl

theorem bad_ct (n : Int) (w0 : World) :
  CT Tryz.prog 141 [.int .i64 n] w0 no (fun v _ => v = .agg #[.int .u8 5, .int .i64 n]) := by
 have F0 := Fr.refl no w0
 refine ct_body Tryz.func141 rfl Tryz.ntmps141 (Nat.le_of_ble_eq_true rfl) ?_
 refine wk_seq ?_
 refine wk_region ?_
 refine lx_new (want rfl) (rn_alloc ze_36) ?_
 intro b1 w1 hb1 Eb1 B1 hlb1
 have F1 := F0.ext Eb1
 have hzb1 := Eb1.size
 refine lx_nil ?_
 refine wk_seq ?_
 refine wk_region ?_
 refine lx_value (want rfl) (mv_int rfl) ?_
 refine lx_value (want rfl) (rn_build2 (t_int rfl) (t_int rfl) (fun w => bd_36_0_1 _ _ w)) ?_
 refine lx_set (want rfl) sz_36 rfl (t_agg rfl) rfl rfl rfl B1 (Nat.le_of_ble_eq_true rfl) ?_
 intro w2 Es1 Bs1
 have F2 := F1.set Es1 (by omega)
 have hzs1 := Es1.size
 refine lx_nil ?_
 refine wk_ret ?_
 refine retR1 Tryz.results141 (.cell rfl (run_loadVar_blk ag_36 sz_36 Bs1 rfl rfl)) F2 ?_
 exact rfl

theorem refbad_ct (n : Int) (w0 : World) :
  CT Tryz.prog 67 [.int .i64 n] w0 no (fun v _ => v = .agg #[.int .u8 5, .int .i64 n]) := by
 have F0 := Fr.refl no w0
 refine ct_body Tryz.func67 rfl Tryz.ntmps67 (Nat.le_of_ble_eq_true rfl) ?_
 refine wk_seq ?_
 refine wk_region ?_
 refine lx_new (want rfl) (rn_alloc ze_36) ?_
 intro b1 w1 hb1 Eb1 B1 hlb1
 have F1 := F0.ext Eb1
 have hzb1 := Eb1.size
 refine lx_nil ?_
 refine wk_seq ?_
 refine wk_region ?_
 refine lx_value (want rfl) (mv_int rfl) ?_
 refine lx_value (want rfl) (rn_build2 (t_int rfl) (t_int rfl) (fun w => bd_36_0_1 _ _ w)) ?_
 refine lx_set (want rfl) sz_36 rfl (t_agg rfl) rfl rfl rfl B1 (Nat.le_of_ble_eq_true rfl) ?_
 intro w2 Es1 Bs1
 have F2 := F1.set Es1 (by omega)
 have hzs1 := Es1.size
 refine lx_nil ?_
 refine wk_ret ?_
 refine retR1 Tryz.results67 (.cell rfl (run_loadVar_blk ag_36 sz_36 Bs1 rfl rfl)) F2 ?_
 exact rfl

theorem int_ct (n : Int) (w0 : World) :
  CT Tryz.prog 41 [.int .i64 n] w0 no (fun v _ => v = .agg #[.int .u8 1, .int .i64 n]) := by
 have F0 := Fr.refl no w0
 refine ct_body Tryz.func41 rfl Tryz.ntmps41 (Nat.le_of_ble_eq_true rfl) ?_
 refine wk_seq ?_
 refine wk_region ?_
 refine lx_new (want rfl) (rn_alloc ze_36) ?_
 intro b1 w1 hb1 Eb1 B1 hlb1
 have F1 := F0.ext Eb1
 have hzb1 := Eb1.size
 refine lx_nil ?_
 refine wk_seq ?_
 refine wk_region ?_
 refine lx_value (want rfl) (mv_int rfl) ?_
 refine lx_value (want rfl) (rn_build2 (t_int rfl) (t_int rfl) (fun w => bd_36_0_1 _ _ w)) ?_
 refine lx_set (want rfl) sz_36 rfl (t_agg rfl) rfl rfl rfl B1 (Nat.le_of_ble_eq_true rfl) ?_
 intro w2 Es1 Bs1
 have F2 := F1.set Es1 (by omega)
 have hzs1 := Es1.size
 refine lx_nil ?_
 refine wk_ret ?_
 refine retR1 Tryz.results41 (.cell rfl (run_loadVar_blk ag_36 sz_36 Bs1 rfl rfl)) F2 ?_
 exact rfl

theorem ref_ct (n : Int) (w0 : World) :
  CT Tryz.prog 61 [.int .i64 n] w0 no (fun v _ => v = .agg #[.int .u8 4, .int .i64 n]) := by
 have F0 := Fr.refl no w0
 refine ct_body Tryz.func61 rfl Tryz.ntmps61 (Nat.le_of_ble_eq_true rfl) ?_
 refine wk_seq ?_
 refine wk_region ?_
 refine lx_new (want rfl) (rn_alloc ze_36) ?_
 intro b1 w1 hb1 Eb1 B1 hlb1
 have F1 := F0.ext Eb1
 have hzb1 := Eb1.size
 refine lx_nil ?_
 refine wk_seq ?_
 refine wk_region ?_
 refine lx_value (want rfl) (mv_int rfl) ?_
 refine lx_value (want rfl) (rn_build2 (t_int rfl) (t_int rfl) (fun w => bd_36_0_1 _ _ w)) ?_
 refine lx_set (want rfl) sz_36 rfl (t_agg rfl) rfl rfl rfl B1 (Nat.le_of_ble_eq_true rfl) ?_
 intro w2 Es1 Bs1
 have F2 := F1.set Es1 (by omega)
 have hzs1 := Es1.size
 refine lx_nil ?_
 refine wk_ret ?_
 refine retR1 Tryz.results61 (.cell rfl (run_loadVar_blk ag_36 sz_36 Bs1 rfl rfl)) F2 ?_
 exact rfl

theorem op3c_ct (a b : Int) (b1 b2 : Nat) (ha : -1000000000 ≤ a ∧ a ≤ 1000000000) (hn : ¬ b = 0) (w0 : World) (B1 : Blk w0 b1 [.int .i64 a] 3) (B2 : Blk w0 b2 [.int .i64 b] 3) :
  CT Tryz.prog 130 [.pointer (some ⟨b1, 0, none⟩), .pointer (some ⟨b2, 0, none⟩)] w0 no (fun v _ => v = .int .i64 (a.tdiv b)) := by
 have F0 := Fr.refl no w0
 refine ct_body Tryz.func130 rfl Tryz.ntmps130 (Nat.le_of_ble_eq_true rfl) ?_
 refine wk_seq ?_
 refine wk_region ?_
 refine lx_value (want rfl) (as_int rfl) ?_
 refine lx_nil ?_
 refine wk_seq ?_
 refine wk_region ?_
 refine lx_value (want rfl) (rn_load1Blk ag_3 rfl B1 rfl) ?_
 refine lx_value (want rfl) (rn_load1Blk ag_3 rfl B2 rfl) ?_
 refine lx_value (want rfl) (rn_tquo rfl rfl ha hn) ?_
 refine lx_value (want rfl) (as_int rfl) ?_
 refine lx_nil ?_
 refine wk_ret ?_
 refine retR1 Tryz.results130 (.tmp (t_int rfl)) F0 ?_
 exact rfl

theorem op4c_ct (a b : Int) (b1 b2 : Nat) (ha : -1000000000 ≤ a ∧ a ≤ 1000000000) (hn : ¬ b = 0) (w0 : World) (B1 : Blk w0 b1 [.int .i64 a] 3) (B2 : Blk w0 b2 [.int .i64 b] 3) :
  CT Tryz.prog 132 [.pointer (some ⟨b1, 0, none⟩), .pointer (some ⟨b2, 0, none⟩)] w0 no (fun v _ => v = .int .i64 (a.tmod b)) := by
 have F0 := Fr.refl no w0
 refine ct_body Tryz.func132 rfl Tryz.ntmps132 (Nat.le_of_ble_eq_true rfl) ?_
 refine wk_seq ?_
 refine wk_region ?_
 refine lx_value (want rfl) (as_int rfl) ?_
 refine lx_nil ?_
 refine wk_seq ?_
 refine wk_region ?_
 refine lx_value (want rfl) (rn_load1Blk ag_3 rfl B1 rfl) ?_
 refine lx_value (want rfl) (rn_load1Blk ag_3 rfl B2 rfl) ?_
 refine lx_value (want rfl) (rn_trem rfl rfl ha hn) ?_
 refine lx_value (want rfl) (as_int rfl) ?_
 refine lx_nil ?_
 refine wk_ret ?_
 refine retR1 Tryz.results132 (.tmp (t_int rfl)) F0 ?_
 exact rfl

theorem isbad_ct (k n : Int) (w0 : World) :
  CT Tryz.prog 139 [.agg #[.int .u8 k, .int .i64 n]] w0 no (fun v _ => v = .bool (decide (k = 5))) := by
 have F0 := Fr.refl no w0
 refine ct_body Tryz.func139 rfl Tryz.ntmps139 (Nat.le_of_ble_eq_true rfl) ?_
 refine wk_seq ?_
 refine wk_region ?_
 refine lx_new (want rfl) (rn_box (t_agg rfl)) ?_
 intro b1 w1 hb1 Eb1 B1 hlb1
 have F1 := F0.ext Eb1
 have hzb1 := Eb1.size
 refine lx_value (want rfl) (as_bool rfl) ?_
 refine lx_nil ?_
 refine wk_seq ?_
 refine wk_region ?_
 refine lx_value (want rfl) (rn_fieldAddr fa_36_0 rfl) ?_
 refine lx_value (want rfl) (rn_load1Blk ag_5 rfl B1 rfl) ?_
 refine lx_value (want rfl) (rn_eql rfl rfl) ?_
 refine lx_value (want rfl) (as_bool rfl) ?_
 refine lx_nil ?_
 refine wk_ret ?_
 refine retR1 Tryz.results139 (.tmp (t_bool rfl)) F1 ?_
 exact rfl

theorem ishole_ct (k n : Int) (w0 : World) :
  CT Tryz.prog 99 [.agg #[.int .u8 k, .int .i64 n]] w0 no (fun v _ => v = .bool (decide (k = 0))) := by
 have F0 := Fr.refl no w0
 refine ct_body Tryz.func99 rfl Tryz.ntmps99 (Nat.le_of_ble_eq_true rfl) ?_
 refine wk_seq ?_
 refine wk_region ?_
 refine lx_new (want rfl) (rn_box (t_agg rfl)) ?_
 intro b1 w1 hb1 Eb1 B1 hlb1
 have F1 := F0.ext Eb1
 have hzb1 := Eb1.size
 refine lx_value (want rfl) (as_bool rfl) ?_
 refine lx_nil ?_
 refine wk_seq ?_
 refine wk_region ?_
 refine lx_value (want rfl) (rn_fieldAddr fa_36_0 rfl) ?_
 refine lx_value (want rfl) (rn_load1Blk ag_5 rfl B1 rfl) ?_
 refine lx_value (want rfl) (rn_eql rfl rfl) ?_
 refine lx_value (want rfl) (as_bool rfl) ?_
 refine lx_nil ?_
 refine wk_ret ?_
 refine retR1 Tryz.results99 (.tmp (t_bool rfl)) F1 ?_
 exact rfl

theorem hole_ct (w0 : World) :
  CT Tryz.prog 105 [] w0 no (fun v _ => v = .agg #[.int .u8 0, .int .i64 0]) := by
 have F0 := Fr.refl no w0
 refine ct_body Tryz.func105 rfl Tryz.ntmps105 (Nat.le_of_ble_eq_true rfl) ?_
 refine wk_seq ?_
 refine wk_region ?_
 refine lx_new (want rfl) (rn_alloc ze_36) ?_
 intro b1 w1 hb1 Eb1 B1 hlb1
 have F1 := F0.ext Eb1
 have hzb1 := Eb1.size
 refine lx_nil ?_
 refine wk_seq ?_
 refine wk_region ?_
 refine lx_value (want rfl) (rn_build1 (t_int rfl) (fun w => bd_36_0 _ w)) ?_
 refine lx_set (want rfl) sz_36 rfl (t_agg rfl) rfl rfl rfl B1 (Nat.le_of_ble_eq_true rfl) ?_
 intro w2 Es1 Bs1
 have F2 := F1.set Es1 (by omega)
 have hzs1 := Es1.size
 refine lx_nil ?_
 refine wk_ret ?_
 refine retR1 Tryz.results105 (.cell rfl (run_loadVar_blk ag_36 sz_36 Bs1 rfl rfl)) F2 ?_
 exact rfl

theorem none_ct (w0 : World) :
  CT Tryz.prog 106 [] w0 no (fun v _ => v = .agg #[.int .u8 3, .int .i64 0]) := by
 have F0 := Fr.refl no w0
 refine ct_body Tryz.func106 rfl Tryz.ntmps106 (Nat.le_of_ble_eq_true rfl) ?_
 refine wk_seq ?_
 refine wk_region ?_
 refine lx_new (want rfl) (rn_alloc ze_36) ?_
 intro b1 w1 hb1 Eb1 B1 hlb1
 have F1 := F0.ext Eb1
 have hzb1 := Eb1.size
 refine lx_nil ?_
 refine wk_seq ?_
 refine wk_region ?_
 refine lx_value (want rfl) (rn_build1 (t_int rfl) (fun w => bd_36_0 _ w)) ?_
 refine lx_set (want rfl) sz_36 rfl (t_agg rfl) rfl rfl rfl B1 (Nat.le_of_ble_eq_true rfl) ?_
 intro w2 Es1 Bs1
 have F2 := F1.set Es1 (by omega)
 have hzs1 := Es1.size
 refine lx_nil ?_
 refine wk_ret ?_
 refine retR1 Tryz.results106 (.cell rfl (run_loadVar_blk ag_36 sz_36 Bs1 rfl rfl)) F2 ?_
 exact rfl

theorem nil_ct (w0 : World) :
  CT Tryz.prog 66 [] w0 no (fun v _ => v = .agg #[.int .u8 3, .int .i64 0]) := by
 have F0 := Fr.refl no w0
 refine ct_body Tryz.func66 rfl Tryz.ntmps66 (Nat.le_of_ble_eq_true rfl) ?_
 refine wk_seq ?_
 refine wk_region ?_
 refine lx_new (want rfl) (rn_alloc ze_36) ?_
 intro b1 w1 hb1 Eb1 B1 hlb1
 have F1 := F0.ext Eb1
 have hzb1 := Eb1.size
 refine lx_nil ?_
 refine wk_seq ?_
 refine wk_region ?_
 refine lx_value (want rfl) (rn_build1 (t_int rfl) (fun w => bd_36_0 _ w)) ?_
 refine lx_set (want rfl) sz_36 rfl (t_agg rfl) rfl rfl rfl B1 (Nat.le_of_ble_eq_true rfl) ?_
 intro w2 Es1 Bs1
 have F2 := F1.set Es1 (by omega)
 have hzs1 := Es1.size
 refine lx_nil ?_
 refine wk_ret ?_
 refine retR1 Tryz.results66 (.cell rfl (run_loadVar_blk ag_36 sz_36 Bs1 rfl rfl)) F2 ?_
 exact rfl

end Go.Proofs.YtnhgfmbmfjmonaaGreatDoor

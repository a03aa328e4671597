/- What functions compute: sized, mul, isfull, containsr, containsv, op6, op7, op8, op9, containsu, fbool. -/
import Derived.Test.YtnhgfmbmfjmonaaGreatDoorStreamsFacts
import Derived.Test.YtnhgfmbmfjmonaaGreatDoorStreamsPre
import Derived.Test.YtnhgfmbmfjmonaaGreatDoorStreamsWalk2
import Derived.Test.YtnhgfmbmfjmonaaGreatDoorStreamsWalk3
set_option maxRecDepth 100000
set_option linter.unusedVariables false
set_option linter.unusedSimpArgs false
namespace Go.Proofs.YtnhgfmbmfjmonaaGreatDoor
open Go Go.RowKit Go.Mix Go.Eng
theorem sized_ct (z : Int) (w0 : World) :
  CT Tryz.prog 125 [.int .i64 z] w0 no (fun v _ => v = vlV (sizedV z)) := by
 have F0 := Fr.refl no w0
 refine ct_body Tryz.func125 rfl Tryz.ntmps125 (Nat.le_of_ble_eq_true rfl) ?_
 refine wk_seq ?_
 refine wk_region ?_
 refine lx_new (want rfl) (rn_alloc ze_36) ?_
 intro b1 w1 hb1 Eb1 B1 hlb1
 have F1 := F0.ext Eb1
 have hzb1 := Eb1.size
 refine lx_nil ?_
 refine wk_seq ?_
 refine wk_seq ?_
 refine wk_region ?_
 refine lx_value (want rfl) (mv_int rfl) ?_
 refine lx_call (want rfl) (ent_func cf_94 (argsC (t_int rfl) (argsC (t_int rfl) (argsC (t_int rfl) args0)))) (within_ct _ _ _ w1) ?_
 rintro _ w2 E1 rfl
 have F2 := F1.ext E1
 have hz1 := E1.size
 refine lx_split (fun hin => ?_) (fun hin => ?_)
 ·
  have hin := of_decide_eq_true hin
  refine lx_value (want rfl) (rn_not rfl) ?_
  refine lx_nil ?_
  refine wk_cond_f rfl ?_
  refine wk_skip ?_
  refine wk_seq ?_
  refine wk_region ?_
  refine lx_value (want rfl) (mv_int rfl) ?_
  refine lx_call (want rfl) (ent_func cf_108 (argsC (t_int rfl) args0)) (integer_ct _ w2) ?_
  rintro _ w3 E2 rfl
  have F3 := F2.ext E2
  have hz2 := E2.size
  refine lx_set (want rfl) sz_36 rfl (t_agg rfl) rfl rfl rfl ((B1.ext E1).ext E2) (Nat.le_of_ble_eq_true rfl) ?_
  intro w4 Es1 Bs1
  have F4 := F3.set Es1 (by omega)
  have hzs1 := Es1.size
  refine lx_nil ?_
  refine wk_ret ?_
  refine retR1 Tryz.results125 (.cell rfl (run_loadVar_blk ag_36 sz_36 Bs1 rfl rfl)) F4 ?_
  exact sz_yes hin
 ·
  have hin := of_decide_eq_false hin
  refine lx_value (want rfl) (rn_not rfl) ?_
  refine lx_nil ?_
  refine wk_cond_t rfl ?_
  refine wk_seq ?_
  refine wk_region ?_
  refine lx_call (want rfl) (ent_func cf_141 (argsC (t_int rfl) args0)) (bad_ct _ w2) ?_
  rintro _ w3 E3 rfl
  have F5 := F2.ext E3
  have hz3 := E3.size
  refine lx_set (want rfl) sz_36 rfl (t_agg rfl) rfl rfl rfl ((B1.ext E1).ext E3) (Nat.le_of_ble_eq_true rfl) ?_
  intro w4 Es2 Bs2
  have F6 := F5.set Es2 (by omega)
  have hzs2 := Es2.size
  refine lx_nil ?_
  refine wk_ret ?_
  refine retR1 Tryz.results125 (.cell rfl (run_loadVar_blk ag_36 sz_36 Bs2 rfl rfl)) F6 ?_
  exact sz_no hin

theorem mul_ct (y : Nat) (hy : y ≤ 100) (w0 : World) :
  CT Tryz.prog 160 [.int .u64 ((1 : Nat) : Int), .int .u64 y] w0 no (fun v _ => v = .tuple #[.int .u64 0, .int .u64 y]) := by
 have F0 := Fr.refl no w0
 refine ct_body Tryz.func160 rfl Tryz.ntmps160 (Nat.le_of_ble_eq_true rfl) ?_
 refine wk_seq ?_
 refine wk_region ?_
 refine lx_value (want rfl) (as_int rfl) ?_
 refine lx_value (want rfl) (as_int rfl) ?_
 refine lx_nil ?_
 refine wk_seq ?_
 refine wk_cond_f rfl ?_
 refine wk_skip ?_
 refine wk_seq ?_
 refine wk_region ?_
 refine lx_value (want rfl) (mv_int rfl) ?_
 refine lx_value (want rfl) (mv_int rfl) ?_
 refine lx_call (want rfl) (ent_func cf_165 (argsC (t_int rfl) (argsC (t_int rfl) args0))) (mul64_ct _ hy w0) ?_
 rintro _ w1 E1 rfl
 have F1 := F0.ext E1
 have hz1 := E1.size
 refine lx_value (want rfl) (mv_tuple rfl) ?_
 refine lx_value (want rfl) (rn_extract rfl rfl) ?_
 refine lx_value (want rfl) (rn_extract rfl rfl) ?_
 refine lx_value (want rfl) (as_int rfl) ?_
 refine lx_value (want rfl) (as_int rfl) ?_
 refine lx_nil ?_
 refine wk_seq ?_
 refine wk_region ?_
 refine lx_value (want rfl) (mv_int rfl) ?_
 refine lx_value (want rfl) (mv_int rfl) ?_
 refine lx_value (want rfl) (as_int rfl) ?_
 refine lx_value (want rfl) (as_int rfl) ?_
 refine lx_nil ?_
 refine wk_ret ?_
 refine retR2 Tryz.results160 (.tmp (t_int rfl)) (.tmp (t_int rfl)) F1 ?_
 exact rfl

theorem isfull_ct (b : Nat) (ad s : Option Addr) (n c : Nat) (v2 : Value) (w0 : World) (hBs : Blk w0 b [.pointer ad, .slice s n c, v2] 149) :
  CT Tryz.prog 96 [.pointer (some ⟨b, 0, none⟩)] w0 no (fun v _ => v = .bool (decide ((2500 : Int) < (n : Int)))) := by
 have hlb := hBs.lt
 have F0 := Fr.refl no w0
 refine ct_body Tryz.func96 rfl Tryz.ntmps96 (Nat.le_of_ble_eq_true rfl) ?_
 refine wk_seq ?_
 refine wk_region ?_
 refine lx_value (want rfl) (as_bool rfl) ?_
 refine lx_nil ?_
 refine wk_seq ?_
 refine wk_region ?_
 refine lx_value (want rfl) (mv_pointer rfl) ?_
 refine lx_value (want rfl) (rn_nilCheck rfl) ?_
 refine lx_value (want rfl) (rn_fieldAddr fa_149_0 rfl) ?_
 refine lx_call (want rfl) (ent_func cf_145 (argsC (t_pointer rfl) args0)) (blen_ct b _ _ n _ _ w0 hBs) ?_
 rintro _ w1 E1 rfl
 have F1 := F0.ext E1
 have hz1 := E1.size
 refine lx_value (want rfl) (rn_gtr rfl rfl) ?_
 refine lx_value (want rfl) (as_bool rfl) ?_
 refine lx_nil ?_
 refine wk_ret ?_
 refine retR1 Tryz.results96 (.tmp (t_bool rfl)) F1 ?_
 exact rfl

theorem isfullS_ct {Z : Nat → Prop} {w : World} {b nk ck : Nat} {bs : List UInt8} {sk : Option Addr} (h : SH Z w b bs sk nk ck) : CT Tryz.prog 96 [.pointer (some ⟨b, 0, none⟩)] w no (fun v _ => v = .bool (decide ((2500 : Int) < (bs.length : Int)))) := by
 obtain ⟨ad3, s3, c3, hB3, _⟩ := SH.parts h
 exact isfull_ct b ad3 s3 bs.length c3 _ w hB3

theorem containsr_ct (l : List Rd) (s : Option Addr) (c : Nat) (F : Nat → Prop) (fid : FuncId) (caps : List Value) (q : Rd → Bool) (hcf : ∀ args w, (callFunc fid args).run Tryz.prog w = .ok (.enter fid args) w) (w0 : World) (hl : RdS F w0 s l) (hb : l.length ≤ 1048576) (hq : ∀ z w, z ∈ l → Ext w0 w → CT Tryz.prog fid (.agg #[.int .i64 z.1, .int .i64 z.2] :: caps) w no (fun v _ => v = .bool (q z))) :
  CT Tryz.prog 150 [.slice s l.length c, .func (.func fid) #[] caps.toArray] w0 no (fun v _ => v = .bool (l.any q)) := by
 have F0 := Fr.refl no w0
 refine ct_body Tryz.func150 rfl Tryz.ntmps150 (Nat.le_of_ble_eq_true rfl) ?_
 refine wk_seq ?_
 refine wk_region ?_
 refine lx_value (want rfl) (as_bool rfl) ?_
 refine lx_nil ?_
 refine wk_seq ?_
 refine wk_region ?_
 refine lx_value (want rfl) (mv_slice rfl) ?_
 refine lx_value (want rfl) (mv_func rfl) ?_
 refine lx_call (want rfl) (ent_func cf_159 (argsC (t_slice rfl) (argsC (t_func rfl) args0))) (indexr_ct l _ _ _ fid caps q hcf w0 (hl.fr (rd_stab _) F0 (fun _ _ h => h)) hb (fun z w hz E => hq z w hz (F0.trans' E))) ?_
 rintro _ w1 E1 ⟨iz, rfl, hiz⟩
 have F1 := F0.ext E1
 have hz1 := E1.size
 refine lx_value (want rfl) (rn_geq rfl rfl) ?_
 refine lx_value (want rfl) (as_bool rfl) ?_
 refine lx_nil ?_
 refine wk_ret ?_
 refine retR1 Tryz.results150 (.tmp (t_bool rfl)) F1 ?_
 exact congrArg Value.bool hiz.any

theorem containsv_ct (l : List Vl) (s : Option Addr) (c : Nat) (F : Nat → Prop) (fid : FuncId) (caps : List Value) (q : Vl → Bool) (hcf : ∀ args w, (callFunc fid args).run Tryz.prog w = .ok (.enter fid args) w) (w0 : World) (hl : VlS F w0 s l) (hb : l.length ≤ 1048576) (hq : ∀ z w, z ∈ l → Ext w0 w → CT Tryz.prog fid (vlV z :: caps) w no (fun v _ => v = .bool (q z))) :
  CT Tryz.prog 73 [.slice s l.length c, .func (.func fid) #[] caps.toArray] w0 no (fun v _ => v = .bool (l.any q)) := by
 have F0 := Fr.refl no w0
 refine ct_body Tryz.func73 rfl Tryz.ntmps73 (Nat.le_of_ble_eq_true rfl) ?_
 refine wk_seq ?_
 refine wk_region ?_
 refine lx_value (want rfl) (as_bool rfl) ?_
 refine lx_nil ?_
 refine wk_seq ?_
 refine wk_region ?_
 refine lx_value (want rfl) (mv_slice rfl) ?_
 refine lx_value (want rfl) (mv_func rfl) ?_
 refine lx_call (want rfl) (ent_func cf_119 (argsC (t_slice rfl) (argsC (t_func rfl) args0))) (indexv_ct l _ _ _ fid caps q hcf w0 (hl.fr (vl_stab _) F0 (fun _ _ h => h)) hb (fun z w hz E => hq z w hz (F0.trans' E))) ?_
 rintro _ w1 E1 ⟨iz, rfl, hiz⟩
 have F1 := F0.ext E1
 have hz1 := E1.size
 refine lx_value (want rfl) (rn_geq rfl rfl) ?_
 refine lx_value (want rfl) (as_bool rfl) ?_
 refine lx_nil ?_
 refine wk_ret ?_
 refine retR1 Tryz.results73 (.tmp (t_bool rfl)) F1 ?_
 exact congrArg Value.bool hiz.any

theorem op6_ct (a b : Int) (ha : -1000000000 ≤ a ∧ a ≤ 1000000000) (hb : -1000000000 ≤ b ∧ b ≤ 1000000000) (w0 : World) :
  CT Tryz.prog 134 [.int .i64 a, .int .i64 b] w0 no (fun v _ => v = vlV (workV 6 a b)) := by
 have F0 := Fr.refl no w0
 refine ct_body Tryz.func134 rfl Tryz.ntmps134 (Nat.le_of_ble_eq_true rfl) ?_
 refine wk_seq ?_
 refine wk_region ?_
 refine lx_new (want rfl) (rn_alloc ze_36) ?_
 intro b1 w1 hb1 Eb1 B1 hlb1
 have F1 := F0.ext Eb1
 have hzb1 := Eb1.size
 refine lx_nil ?_
 refine wk_seq ?_
 refine wk_region ?_
 refine lx_value (want rfl) (mv_int rfl) ?_
 refine lx_value (want rfl) (mv_int rfl) ?_
 refine lx_value (want rfl) (rn_lss rfl rfl) ?_
 refine lx_call (want rfl) (ent_func cf_135 (argsC (t_bool rfl) args0)) (truth_ct _ w1) ?_
 rintro _ w2 E1 rfl
 have F2 := F1.ext E1
 have hz1 := E1.size
 refine lx_set (want rfl) sz_36 rfl (t_agg rfl) rfl rfl rfl (B1.ext E1) (Nat.le_of_ble_eq_true rfl) ?_
 intro w3 Es1 Bs1
 have F3 := F2.set Es1 (by omega)
 have hzs1 := Es1.size
 refine lx_nil ?_
 refine wk_ret ?_
 refine retR1 Tryz.results134 (.cell rfl (run_loadVar_blk ag_36 sz_36 Bs1 rfl rfl)) F3 ?_
 exact rfl

theorem op7_ct (a b : Int) (ha : -1000000000 ≤ a ∧ a ≤ 1000000000) (hb : -1000000000 ≤ b ∧ b ≤ 1000000000) (w0 : World) :
  CT Tryz.prog 136 [.int .i64 a, .int .i64 b] w0 no (fun v _ => v = vlV (workV 7 a b)) := by
 have F0 := Fr.refl no w0
 refine ct_body Tryz.func136 rfl Tryz.ntmps136 (Nat.le_of_ble_eq_true rfl) ?_
 refine wk_seq ?_
 refine wk_region ?_
 refine lx_new (want rfl) (rn_alloc ze_36) ?_
 intro b1 w1 hb1 Eb1 B1 hlb1
 have F1 := F0.ext Eb1
 have hzb1 := Eb1.size
 refine lx_nil ?_
 refine wk_seq ?_
 refine wk_region ?_
 refine lx_value (want rfl) (mv_int rfl) ?_
 refine lx_value (want rfl) (mv_int rfl) ?_
 refine lx_value (want rfl) (rn_leq rfl rfl) ?_
 refine lx_call (want rfl) (ent_func cf_135 (argsC (t_bool rfl) args0)) (truth_ct _ w1) ?_
 rintro _ w2 E1 rfl
 have F2 := F1.ext E1
 have hz1 := E1.size
 refine lx_set (want rfl) sz_36 rfl (t_agg rfl) rfl rfl rfl (B1.ext E1) (Nat.le_of_ble_eq_true rfl) ?_
 intro w3 Es1 Bs1
 have F3 := F2.set Es1 (by omega)
 have hzs1 := Es1.size
 refine lx_nil ?_
 refine wk_ret ?_
 refine retR1 Tryz.results136 (.cell rfl (run_loadVar_blk ag_36 sz_36 Bs1 rfl rfl)) F3 ?_
 exact rfl

theorem op8_ct (a b : Int) (ha : -1000000000 ≤ a ∧ a ≤ 1000000000) (hb : -1000000000 ≤ b ∧ b ≤ 1000000000) (w0 : World) :
  CT Tryz.prog 137 [.int .i64 a, .int .i64 b] w0 no (fun v _ => v = vlV (workV 8 a b)) := by
 have F0 := Fr.refl no w0
 refine ct_body Tryz.func137 rfl Tryz.ntmps137 (Nat.le_of_ble_eq_true rfl) ?_
 refine wk_seq ?_
 refine wk_region ?_
 refine lx_new (want rfl) (rn_alloc ze_36) ?_
 intro b1 w1 hb1 Eb1 B1 hlb1
 have F1 := F0.ext Eb1
 have hzb1 := Eb1.size
 refine lx_nil ?_
 refine wk_seq ?_
 refine wk_region ?_
 refine lx_value (want rfl) (mv_int rfl) ?_
 refine lx_value (want rfl) (mv_int rfl) ?_
 refine lx_value (want rfl) (rn_eql rfl rfl) ?_
 refine lx_call (want rfl) (ent_func cf_135 (argsC (t_bool rfl) args0)) (truth_ct _ w1) ?_
 rintro _ w2 E1 rfl
 have F2 := F1.ext E1
 have hz1 := E1.size
 refine lx_set (want rfl) sz_36 rfl (t_agg rfl) rfl rfl rfl (B1.ext E1) (Nat.le_of_ble_eq_true rfl) ?_
 intro w3 Es1 Bs1
 have F3 := F2.set Es1 (by omega)
 have hzs1 := Es1.size
 refine lx_nil ?_
 refine wk_ret ?_
 refine retR1 Tryz.results137 (.cell rfl (run_loadVar_blk ag_36 sz_36 Bs1 rfl rfl)) F3 ?_
 exact rfl

theorem op9_ct (a b : Int) (ha : -1000000000 ≤ a ∧ a ≤ 1000000000) (hb : -1000000000 ≤ b ∧ b ≤ 1000000000) (w0 : World) :
  CT Tryz.prog 138 [.int .i64 a, .int .i64 b] w0 no (fun v _ => v = vlV (workV 9 a b)) := by
 have F0 := Fr.refl no w0
 refine ct_body Tryz.func138 rfl Tryz.ntmps138 (Nat.le_of_ble_eq_true rfl) ?_
 refine wk_seq ?_
 refine wk_region ?_
 refine lx_new (want rfl) (rn_alloc ze_36) ?_
 intro b1 w1 hb1 Eb1 B1 hlb1
 have F1 := F0.ext Eb1
 have hzb1 := Eb1.size
 refine lx_nil ?_
 refine wk_seq ?_
 refine wk_region ?_
 refine lx_value (want rfl) (mv_int rfl) ?_
 refine lx_value (want rfl) (rn_eql rfl rfl) ?_
 refine lx_call (want rfl) (ent_func cf_135 (argsC (t_bool rfl) args0)) (truth_ct _ w1) ?_
 rintro _ w2 E1 rfl
 have F2 := F1.ext E1
 have hz1 := E1.size
 refine lx_set (want rfl) sz_36 rfl (t_agg rfl) rfl rfl rfl (B1.ext E1) (Nat.le_of_ble_eq_true rfl) ?_
 intro w3 Es1 Bs1
 have F3 := F2.set Es1 (by omega)
 have hzs1 := Es1.size
 refine lx_nil ?_
 refine wk_ret ?_
 refine retR1 Tryz.results138 (.cell rfl (run_loadVar_blk ag_36 sz_36 Bs1 rfl rfl)) F3 ?_
 exact rfl

theorem containsu_ct (l : List Int) (s : Option Addr) (c : Nat) (F : Nat → Prop) (x : Int) (w0 : World) (hl : Sl F w0 s 1 l (Fl u8C)) (hb : l.length ≤ 1048576) :
  CT Tryz.prog 140 [.slice s l.length c, .int .u8 x] w0 no (fun v _ => v = .bool (l.any fun y => decide (x = y))) := by
 have F0 := Fr.refl no w0
 refine ct_body Tryz.func140 rfl Tryz.ntmps140 (Nat.le_of_ble_eq_true rfl) ?_
 refine wk_seq ?_
 refine wk_region ?_
 refine lx_value (want rfl) (as_bool rfl) ?_
 refine lx_nil ?_
 refine wk_seq ?_
 refine wk_region ?_
 refine lx_value (want rfl) (mv_slice rfl) ?_
 refine lx_value (want rfl) (mv_int rfl) ?_
 refine lx_call (want rfl) (ent_func cf_154 (argsC (t_slice rfl) (argsC (t_int rfl) args0))) (indexu_ct l _ _ _ x w0 (hl.fr (u8_stab _) F0 (fun _ _ h => h)) hb) ?_
 rintro _ w1 E1 ⟨iz, rfl, hiz⟩
 have F1 := F0.ext E1
 have hz1 := E1.size
 refine lx_value (want rfl) (rn_geq rfl rfl) ?_
 refine lx_value (want rfl) (as_bool rfl) ?_
 refine lx_nil ?_
 refine wk_ret ?_
 refine retR1 Tryz.results140 (.tmp (t_bool rfl)) F1 ?_
 exact congrArg Value.bool hiz.any

theorem fbool_ct (b : Bool) (w0 : World) :
  CT Tryz.prog 157 [.bool b] w0 no (fun v _ => v = .string (if b = true then ⟨#[116, 114, 117, 101]⟩ else ⟨#[102, 97, 108, 115, 101]⟩ : ByteArray)) := by
 have F0 := Fr.refl no w0
 refine ct_body Tryz.func157 rfl Tryz.ntmps157 (Nat.le_of_ble_eq_true rfl) ?_
 refine wk_seq ?_
 refine wk_region ?_
 refine lx_value (want rfl) (as_string rfl) ?_
 refine lx_nil ?_
 refine wk_seq ?_
 refine wk_region ?_
 refine lx_value (want rfl) (mv_bool rfl) ?_
 refine lx_call (want rfl) (ent_func cf_163 (argsC (t_bool rfl) args0)) (fbool2_ct b w0) ?_
 rintro _ w1 E1 rfl
 have F1 := F0.ext E1
 have hz1 := E1.size
 refine lx_value (want rfl) (as_string rfl) ?_
 refine lx_nil ?_
 refine wk_ret ?_
 refine retR1 Tryz.results157 (.tmp (t_string rfl)) F1 ?_
 exact rfl

end Go.Proofs.YtnhgfmbmfjmonaaGreatDoor

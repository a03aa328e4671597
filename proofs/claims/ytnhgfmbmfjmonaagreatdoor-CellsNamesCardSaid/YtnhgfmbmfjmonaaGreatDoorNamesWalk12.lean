/- What functions compute: pprim. -/
import Derived.Test.YtnhgfmbmfjmonaaGreatDoorNamesFacts
import Derived.Test.YtnhgfmbmfjmonaaGreatDoorNamesPre
import Derived.Test.YtnhgfmbmfjmonaaGreatDoorNamesWalk1
import Derived.Test.YtnhgfmbmfjmonaaGreatDoorNamesWalk10
import Derived.Test.YtnhgfmbmfjmonaaGreatDoorNamesWalk5
import Derived.Test.YtnhgfmbmfjmonaaGreatDoorNamesWalk9
set_option maxRecDepth 100000
set_option linter.unusedVariables false
set_option linter.unusedSimpArgs false
namespace Go.Proofs.YtnhgfmbmfjmonaaGreatDoor
open Go Go.RowKit Go.Mix Go.Eng
theorem pprim_ct (nm : ByteArray) (l : List Vl) (s : Option Addr) (c : Nat) (F : Nat → Prop) (hb : l.length ≤ 1048576) (w0 : World) (hl : VlS F w0 s l) :
  CT Tryz.prog 36 [.string nm, .slice s l.length c] w0 no (fun v _ => v = .tuple #[vlV (primS nm l).1, .int .i64 (primS nm l).2]) := by
 have F0 := Fr.refl no w0
 refine ct_body Tryz.func36 rfl Tryz.ntmps36 (Nat.le_of_ble_eq_true rfl) ?_
 refine wk_seq ?_
 refine wk_region ?_
 refine lx_new (want rfl) (rn_alloc ze_36) ?_
 intro b1 w1 hb1 Eb1 B1 hlb1
 have F1 := F0.ext Eb1
 have hzb1 := Eb1.size
 refine lx_value (want rfl) (as_int rfl) ?_
 refine lx_nil ?_
 refine wk_seq ?_
 refine wk_region ?_
 refine lx_call (want rfl) (ent_func cf_82 args0) (operations_ct w1) ?_
 rintro _ w2 E1 ⟨bO, bI, bE, bN, rfl, hMO, hBI, hBE, hBN⟩
 have F2 := F1.ext E1
 have hz1 := E1.size
 refine lx_value (want rfl) (mv_string rfl) ?_
 rcases look_op bI bE bN (.agg #[.int .i64 0, .slice none 0 0, .nilFunc]) nm with ⟨hid, hlk⟩ | ⟨k, hid, hlk⟩
 ·
  refine lx_value (v := .tuple #[.agg #[.int .i64 0, .slice none 0 0, .nilFunc], .bool false]) (want rfl) ((by rw [← hlk]; exact rn_lookOk mv_128 rfl rfl hMO)) ?_
  refine lx_value (want rfl) (mv_tuple rfl) ?_
  refine lx_value (want rfl) (rn_extract rfl rfl) ?_
  refine lx_value (want rfl) (rn_extract rfl rfl) ?_
  refine lx_b_f (rfl) ?_
  refine lx_new (want rfl) (rn_alloc ze_126) ?_
  intro b2 w3 hb2 Eb2 B2 hlb2
  have F3 := F2.ext Eb2
  have hzb2 := Eb2.size
  refine lx_set (want rfl) sz_126 rfl (t_agg rfl) rfl rfl rfl B2 (Nat.le_of_ble_eq_true rfl) ?_
  intro w4 Es1 Bs1
  have F4 := F3.set Es1 (by omega)
  have hzs1 := Es1.size
  refine lx_value (want rfl) (as_bool rfl) ?_
  refine lx_nil ?_
  refine wk_seq ?_
  refine wk_block ?_
  refine wk_seq ?_
  refine wk_region ?_
  refine lx_value (want rfl) (mv_bool rfl) ?_
  refine lx_value (want rfl) (rn_not rfl) ?_
  refine lx_value (want rfl) (as_bool rfl) ?_
  refine lx_nil ?_
  refine wk_cond_t rfl ?_
  refine wk_seq ?_
  refine wk_region ?_
  refine lx_value (want rfl) (rn_build0  (fun w => bd_36  w)) ?_
  refine lx_set (want rfl) sz_36 rfl (t_agg rfl) rfl rfl rfl (((B1.ext E1).ext Eb2).ne Es1 (by omega)) (Nat.le_of_ble_eq_true rfl) ?_
  intro w5 Es2 Bs2
  have F5 := F4.set Es2 (by omega)
  have hzs2 := Es2.size
  refine lx_value (want rfl) (as_int rfl) ?_
  refine lx_nil ?_
  refine wk_ret ?_
  refine retR2 Tryz.results36 (.cell rfl (run_loadVar_blk ag_36 sz_36 Bs2 rfl rfl)) (.tmp (t_int rfl)) F5 ?_
  exact ps_name hid
 ·
  refine lx_value (v := .tuple #[opV bI bE bN k, .bool true]) (want rfl) ((by rw [← hlk]; exact rn_lookOk mv_128 rfl rfl hMO)) ?_
  refine lx_value (want rfl) (mv_tuple rfl) ?_
  refine lx_value (want rfl) (rn_extract rfl rfl) ?_
  refine lx_value (want rfl) (rn_extract rfl rfl) ?_
  refine lx_b_t (rfl) ?_
  refine lx_new (want rfl) (rn_alloc ze_126) ?_
  intro b3 w3 hb3 Eb3 B3 hlb3
  have F6 := F2.ext Eb3
  have hzb3 := Eb3.size
  refine lx_set (want rfl) sz_126 rfl (t_agg rfl) rfl rfl rfl B3 (Nat.le_of_ble_eq_true rfl) ?_
  intro w4 Es3 Bs3
  have F7 := F6.set Es3 (by omega)
  have hzs3 := Es3.size
  refine lx_value (want rfl) (as_bool rfl) ?_
  refine lx_nil ?_
  refine wk_seq ?_
  refine wk_block ?_
  refine wk_seq ?_
  refine wk_region ?_
  refine lx_value (want rfl) (mv_bool rfl) ?_
  refine lx_value (want rfl) (rn_not rfl) ?_
  refine lx_value (want rfl) (as_bool rfl) ?_
  refine lx_nil ?_
  refine wk_cond_f rfl ?_
  refine wk_seq ?_
  refine wk_region ?_
  refine lx_value (want rfl) (mv_slice rfl) ?_
  refine lx_value (want rfl) (rn_len Tryz.underlying30 rfl) ?_
  refine lx_value (want rfl) (rn_fieldAddr fa_126_0 rfl) ?_
  refine lx_value (want rfl) (rn_load1Blk ag_3 rfl Bs3 rfl) ?_
  refine lx_value (want rfl) (rn_neq rfl rfl) ?_
  refine lx_dec (fun har => ?_) (fun har => ?_)
  ·
   refine lx_value (want rfl) (as_bool rfl) ?_
   refine lx_nil ?_
   refine wk_cond_t rfl ?_
   refine wk_seq ?_
   refine wk_region ?_
   refine lx_value (want rfl) (rn_build0  (fun w => bd_36  w)) ?_
   refine lx_set (want rfl) sz_36 rfl (t_agg rfl) rfl rfl rfl (((B1.ext E1).ext Eb3).ne Es3 (by omega)) (Nat.le_of_ble_eq_true rfl) ?_
   intro w5 Es4 Bs4
   have F8 := F7.set Es4 (by omega)
   have hzs4 := Es4.size
   refine lx_value (want rfl) (as_int rfl) ?_
   refine lx_nil ?_
   refine wk_ret ?_
   refine retR2 Tryz.results36 (.cell rfl (run_loadVar_blk ag_36 sz_36 Bs4 rfl rfl)) (.tmp (t_int rfl)) F8 ?_
   exact ps_arg hid (fun g => har g)
  ·
   refine lx_value (want rfl) (as_bool rfl) ?_
   refine lx_nil ?_
   refine wk_cond_f rfl ?_
   refine wk_seq ?_
   refine wk_region ?_
   refine lx_value (want rfl) (mv_slice rfl) ?_
   refine lx_call (want rfl) (ent_func cf_73 (argsC (t_slice rfl) (argsC rfl args0))) (containsv_ct l _ _ _ 83 [] (fun v => !isValA v) cf_83 w4 (hl.fr (vl_stab _) F7 (fun _ _ h => h)) hb (fun z w hz E => prim1_ct z w)) ?_
   rintro _ w5 E2 rfl
   have F9 := F7.ext E2
   have hz2 := E2.size
   refine lx_split (fun hany => ?_) (fun hany => ?_)
   ·
    refine lx_value (want rfl) (as_bool rfl) ?_
    refine lx_nil ?_
    refine wk_cond_t rfl ?_
    refine wk_seq ?_
    refine wk_region ?_
    refine lx_value (want rfl) (rn_build0  (fun w => bd_36  w)) ?_
    refine lx_set (want rfl) sz_36 rfl (t_agg rfl) rfl rfl rfl ((((B1.ext E1).ext Eb3).ne Es3 (by omega)).ext E2) (Nat.le_of_ble_eq_true rfl) ?_
    intro w6 Es5 Bs5
    have F10 := F9.set Es5 (by omega)
    have hzs5 := Es5.size
    refine lx_value (want rfl) (as_int rfl) ?_
    refine lx_nil ?_
    refine wk_ret ?_
    refine retR2 Tryz.results36 (.cell rfl (run_loadVar_blk ag_36 sz_36 Bs5 rfl rfl)) (.tmp (t_int rfl)) F10 ?_
    exact ps_form hid (Decidable.not_not.1 har) hany
   ·
    refine lx_value (want rfl) (as_bool rfl) ?_
    refine lx_nil ?_
    refine wk_cond_f rfl ?_
    refine wk_skip ?_
    refine wk_seq ?_
    refine wk_region ?_
    refine lx_value (want rfl) (rn_loadBlk ag_126 sz_126 rfl (Bs3.ext E2) rfl rfl) ?_
    refine lx_value (want rfl) (mv_slice rfl) ?_
    obtain ⟨hk10, hnm⟩ := idS_lt hid
    have hlA := (arity_pos k).1
    have harE : (l.length : Int) = (arity k : Int) := Decidable.not_not.1 har
    have hvA : l.all isValA = true := by rw [any_not] at hany; simpa using hany
    have hBI2 := hBI.fr (Fr.ext (Fr.trans (Fr.ext (Fr.refl (fun k => k = b3) w2) Eb3) Es3 (fun k _ h => h)) E2) (fun h => by have := hBI.lt; have h : bI = b3 := h; omega)
    have hBE2 := hBE.fr (Fr.ext (Fr.trans (Fr.ext (Fr.refl (fun k => k = b3) w2) Eb3) Es3 (fun k _ h => h)) E2) (fun h => by have := hBE.lt; have h : bE = b3 := h; omega)
    have hBN2 := hBN.fr (Fr.ext (Fr.trans (Fr.ext (Fr.refl (fun k => k = b3) w2) Eb3) Es3 (fun k _ h => h)) E2) (fun h => by have := hBN.lt; have h : bN = b3 := h; omega)
    refine lx_call (want rfl) (ent_func cf_84 (argsC (t_agg rfl) (argsC (t_slice rfl) args0))) (work_ct k (kbN bI bE bN k) (fidN k) l _ _ F hb (by omega) hvA (by rcases k10 hk10 with rfl | rfl | rfl | rfl | rfl | rfl | rfl | rfl | rfl | rfl; exact cf_124; exact cf_126; exact cf_127; exact cf_128; exact cf_131; exact cf_133; exact cf_134; exact cf_136; exact cf_137; exact cf_138) (fun a b w ha hb => by rcases k10 hk10 with rfl | rfl | rfl | rfl | rfl | rfl | rfl | rfl | rfl | rfl; exact op0_ct a b ha hb w; exact op1_ct a b ha hb w; exact op2_ct a b ha hb w; exact op3_ct a b ha hb w; exact op4_ct a b ha hb w; exact op5_ct a b ha hb w; exact op6_ct a b ha hb w; exact op7_ct a b ha hb w; exact op8_ct a b ha hb w; exact op9_ct a b ha hb w) w5 (by rcases k10 hk10 with rfl | rfl | rfl | rfl | rfl | rfl | rfl | rfl | rfl | rfl <;> first | exact hBI2 | exact hBE2 | exact hBN2) (hl.fr (vl_stab _) F9 (fun _ _ h => h))) ?_
    rintro _ w6 E3 rfl
    have F11 := F9.ext E3
    have hz3 := E3.size
    refine lx_set (want rfl) sz_36 rfl (t_agg rfl) rfl rfl rfl (((((B1.ext E1).ext Eb3).ne Es3 (by omega)).ext E2).ext E3) (Nat.le_of_ble_eq_true rfl) ?_
    intro w7 Es6 Bs6
    have F12 := F11.set Es6 (by omega)
    have hzs6 := Es6.size
    refine lx_value (want rfl) (as_int rfl) ?_
    refine lx_nil ?_
    refine wk_ret ?_
    refine retR2 Tryz.results36 (.cell rfl (run_loadVar_blk ag_36 sz_36 Bs6 rfl rfl)) (.tmp (t_int rfl)) F12 ?_
    exact ps_ok hid harE hany

theorem primTwo_ct {k : Nat} (hk : k < 10) (har : arity k = 2) {a b : Vl} (ha : isValA a = true) (hb : isValA b = true) {s : Option Addr} {c : Nat} {F : Nat → Prop} {w : World} (e : primS (nmB k) [a, b] = (primV k [a, b], 0)) (hl : VlS F w s [a, b]) : CT Tryz.prog 36 [.string (nmB k), .slice s 2 c] w no (fun v _ => v = .tuple #[.agg #[.int .u8 (primV k [a, b]).1, .int .i64 (primV k [a, b]).2], .int .i64 0]) := by
 have h := pprim_ct (nmB k) [a, b] s c F (by simp) w hl
 rw [e] at h; exact h

end Go.Proofs.YtnhgfmbmfjmonaaGreatDoor

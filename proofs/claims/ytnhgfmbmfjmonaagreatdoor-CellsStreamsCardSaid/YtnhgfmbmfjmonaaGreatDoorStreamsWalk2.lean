/- What functions compute: decimal, sametold, equalv, samevalues, operations, itoa, indexr, indexv, mul64, indexu, copycheck, bstring, truth, cloner. -/
import Derived.Test.YtnhgfmbmfjmonaaGreatDoorStreamsFacts
import Derived.Test.YtnhgfmbmfjmonaaGreatDoorStreamsPre
set_option maxRecDepth 100000
set_option linter.unusedVariables false
set_option linter.unusedSimpArgs false
namespace Go.Proofs.YtnhgfmbmfjmonaaGreatDoor
open Go Go.RowKit Go.Mix Go.Eng
theorem decimal_ct (z : Int) (hz : -1000000000 ≤ z ∧ z ≤ 1000000000) (hrec : ∀ y, decM y < decM z → -1000000000 ≤ y ∧ y ≤ 1000000000 → ∀ w, CT Tryz.prog 158 [.int .i64 y] w no (fun u _ => u = .string ⟨(decB y).toArray⟩)) (w0 : World) :
  CT Tryz.prog 158 [.int .i64 z] w0 no (fun u _ => u = .string ⟨(decB z).toArray⟩) := by
 have F0 := Fr.refl no w0
 refine ct_body Tryz.func158 rfl Tryz.ntmps158 (Nat.le_of_ble_eq_true rfl) ?_
 refine wk_seq ?_
 refine wk_region ?_
 refine lx_value (want rfl) (as_string rfl) ?_
 refine lx_nil ?_
 refine wk_seq ?_
 refine wk_seq ?_
 refine wk_region ?_
 refine lx_value (want rfl) (mv_int rfl) ?_
 refine lx_value (want rfl) (rn_leq rfl rfl) ?_
 refine lx_dec (fun h10 => ?_) (fun h10 => ?_)
 ·
  have htd := tdiv_bd hz (by omega)
  have htm := tmod_bd hz
  have htm3 := htm.2.2.2 (by omega)
  refine lx_nil ?_
  refine wk_cond_t rfl ?_
  refine wk_seq ?_
  refine wk_region ?_
  refine lx_value (want rfl) (mv_int rfl) ?_
  refine lx_value (want rfl) (rn_tquo rfl rfl hz (by decide)) ?_
  refine lx_call (want rfl) (ent_func cf_158 (argsC (t_int rfl) args0)) (hrec _ htd.2.1 htd.1 w0) ?_
  rintro _ w1 E1 rfl
  have F1 := F0.ext E1
  have hz1 := E1.size
  refine lx_value (want rfl) (mv_int rfl) ?_
  refine lx_value (want rfl) (rn_trem rfl rfl hz (by decide)) ?_
  refine lx_value (want rfl) (rn_neg rfl (by omega)) ?_
  refine lx_call (want rfl) (ent_func cf_158 (argsC (t_int rfl) args0)) (hrec (-(z.tmod 10)) (by unfold decM; split <;> (try split) <;> omega) (by omega) w1) ?_
  rintro _ w2 E2 rfl
  have F2 := F1.ext E2
  have hz2 := E2.size
  refine lx_value (want rfl) (rn_catS rfl rfl (by rw [by_size, by_size]; have := decB_len (z.tdiv 10); have := decB_len (-(z.tmod 10)); omega)) ?_
  refine lx_value (want rfl) (as_string rfl) ?_
  refine lx_nil ?_
  refine wk_ret ?_
  refine retR1 Tryz.results158 (.tmp (t_string rfl)) F2 ?_
  first | exact congrArg Value.string ((by_app _ _).trans (congrArg (fun l : List UInt8 => (⟨l.toArray⟩ : ByteArray)) (dec_big hz h10).symm)) | exact congrArg Value.string ((by_app _ _).trans (congrArg (fun l : List UInt8 => (⟨l.toArray⟩ : ByteArray)) (dec_neg (by omega) h0).symm)) | exact congrArg Value.string ((by_app _ _).trans (congrArg (fun l : List UInt8 => (⟨l.toArray⟩ : ByteArray)) (dec_more hz (by omega)).symm)) | exact congrArg (fun l : List UInt8 => Value.string ⟨l.toArray⟩) (dec_one (by omega)).symm
 ·
  refine lx_nil ?_
  refine wk_cond_f rfl ?_
  refine wk_skip ?_
  refine wk_seq ?_
  refine wk_seq ?_
  refine wk_region ?_
  refine lx_value (want rfl) (mv_int rfl) ?_
  refine lx_value (want rfl) (rn_lss rfl rfl) ?_
  refine lx_dec (fun h0 => ?_) (fun h0 => ?_)
  ·
   refine lx_nil ?_
   refine wk_cond_t rfl ?_
   refine wk_seq ?_
   refine wk_region ?_
   refine lx_value (want rfl) (mv_int rfl) ?_
   refine lx_value (want rfl) (rn_neg rfl (by omega)) ?_
   refine lx_call (want rfl) (ent_func cf_158 (argsC (t_int rfl) args0)) (hrec (-z) (by unfold decM; split <;> (try split) <;> omega) (by omega) w0) ?_
   rintro _ w1 E3 rfl
   have F3 := F0.ext E3
   have hz3 := E3.size
   refine lx_value (want rfl) (rn_catS (u := ⟨#[45]⟩) rfl rfl (by have h8 := by_size (decB (-z)); have := decB_len (-z); have h9 : (⟨#[45]⟩ : ByteArray).size = 1 := rfl; omega)) ?_
   refine lx_value (want rfl) (as_string rfl) ?_
   refine lx_nil ?_
   refine wk_ret ?_
   refine retR1 Tryz.results158 (.tmp (t_string rfl)) F3 ?_
   first | exact congrArg Value.string ((by_app _ _).trans (congrArg (fun l : List UInt8 => (⟨l.toArray⟩ : ByteArray)) (dec_big hz h10).symm)) | exact congrArg Value.string ((by_app _ _).trans (congrArg (fun l : List UInt8 => (⟨l.toArray⟩ : ByteArray)) (dec_neg (by omega) h0).symm)) | exact congrArg Value.string ((by_app _ _).trans (congrArg (fun l : List UInt8 => (⟨l.toArray⟩ : ByteArray)) (dec_more hz (by omega)).symm)) | exact congrArg (fun l : List UInt8 => Value.string ⟨l.toArray⟩) (dec_one (by omega)).symm
  ·
   refine lx_nil ?_
   refine wk_cond_f rfl ?_
   refine wk_skip ?_
   refine wk_seq ?_
   refine wk_seq ?_
   refine wk_region ?_
   refine lx_value (want rfl) (mv_int rfl) ?_
   refine lx_value (want rfl) (rn_lss rfl rfl) ?_
   refine lx_dec (fun h9 => ?_) (fun h9 => ?_)
   ·
    obtain ⟨n, rfl⟩ : ∃ n : Nat, z = n := ⟨z.toNat, by omega⟩
    refine lx_nil ?_
    refine wk_cond_t rfl ?_
    refine wk_seq ?_
    refine wk_region ?_
    refine lx_value (want rfl) (mv_int rfl) ?_
    refine lx_value (want rfl) (mv_int rfl) ?_
    refine lx_value (want rfl) (rn_add rfl rfl (by omega)) ?_
    refine lx_value (want rfl) (rn_digit (n := n) Tryz.underlying9 rfl rfl rfl (by omega)) ?_
    refine lx_value (want rfl) (as_string rfl) ?_
    refine lx_nil ?_
    refine wk_ret ?_
    refine retR1 Tryz.results158 (.tmp (t_string rfl)) F0 ?_
    first | exact congrArg Value.string ((by_app _ _).trans (congrArg (fun l : List UInt8 => (⟨l.toArray⟩ : ByteArray)) (dec_big hz h10).symm)) | exact congrArg Value.string ((by_app _ _).trans (congrArg (fun l : List UInt8 => (⟨l.toArray⟩ : ByteArray)) (dec_neg (by omega) h0).symm)) | exact congrArg Value.string ((by_app _ _).trans (congrArg (fun l : List UInt8 => (⟨l.toArray⟩ : ByteArray)) (dec_more hz (by omega)).symm)) | exact congrArg (fun l : List UInt8 => Value.string ⟨l.toArray⟩) (dec_one (by omega)).symm
   ·
    have htd := tdiv_bd hz (by omega)
    have htm := tmod_bd hz
    have htm3 := htm.2.2.1 (by omega)
    refine lx_nil ?_
    refine wk_cond_f rfl ?_
    refine wk_skip ?_
    refine wk_seq ?_
    refine wk_region ?_
    refine lx_value (want rfl) (mv_int rfl) ?_
    refine lx_value (want rfl) (rn_tquo rfl rfl hz (by decide)) ?_
    refine lx_call (want rfl) (ent_func cf_158 (argsC (t_int rfl) args0)) (hrec _ htd.2.1 htd.1 w0) ?_
    rintro _ w1 E4 rfl
    have F4 := F0.ext E4
    have hz4 := E4.size
    refine lx_value (want rfl) (mv_int rfl) ?_
    refine lx_value (want rfl) (rn_trem rfl rfl hz (by decide)) ?_
    refine lx_call (want rfl) (ent_func cf_158 (argsC (t_int rfl) args0)) (hrec (z.tmod 10) (by unfold decM; split <;> (try split) <;> omega) (by omega) w1) ?_
    rintro _ w2 E5 rfl
    have F5 := F4.ext E5
    have hz5 := E5.size
    refine lx_value (want rfl) (rn_catS rfl rfl (by rw [by_size, by_size]; have := decB_len (z.tdiv 10); have := decB_len (z.tmod 10); omega)) ?_
    refine lx_value (want rfl) (as_string rfl) ?_
    refine lx_nil ?_
    refine wk_ret ?_
    refine retR1 Tryz.results158 (.tmp (t_string rfl)) F5 ?_
    first | exact congrArg Value.string ((by_app _ _).trans (congrArg (fun l : List UInt8 => (⟨l.toArray⟩ : ByteArray)) (dec_big hz h10).symm)) | exact congrArg Value.string ((by_app _ _).trans (congrArg (fun l : List UInt8 => (⟨l.toArray⟩ : ByteArray)) (dec_neg (by omega) h0).symm)) | exact congrArg Value.string ((by_app _ _).trans (congrArg (fun l : List UInt8 => (⟨l.toArray⟩ : ByteArray)) (dec_more hz (by omega)).symm)) | exact congrArg (fun l : List UInt8 => Value.string ⟨l.toArray⟩) (dec_one (by omega)).symm

theorem decimalAll_ct {z : Int} (hz : -1000000000 ≤ z ∧ z ≤ 1000000000) (w : World) : CT Tryz.prog 158 [.int .i64 z] w no (fun u _ => u = .string ⟨(decB z).toArray⟩) := by
 have key : ∀ (n : Nat) (y : Int), decM y < n → -1000000000 ≤ y ∧ y ≤ 1000000000 → ∀ w, CT Tryz.prog 158 [.int .i64 y] w no (fun u _ => u = .string ⟨(decB y).toArray⟩) := by
  intro n
  induction n with
  | zero => intro y h; omega
  | succ n ih => intro y h hy w; exact decimal_ct y hy (fun q hq hb w => ih q (by omega) hb w) w
 exact key (decM z + 1) z (by omega) hz w

theorem sametold_ct (a b : List Tl) (sa sb : Option Addr) (ca cb : Nat) (Fa Fb : Nat → Prop) (w0 : World) (ha : TlS Fa w0 sa a) (hb : TlS Fb w0 sb b) (hbb : b.length ≤ 1048576) :
  CT Tryz.prog 26 [.slice sa a.length ca, .slice sb b.length cb] w0 no (fun v _ => v = .bool (decide (a = b))) := by
 have F0 := Fr.refl no w0
 refine ct_body Tryz.func26 rfl Tryz.ntmps26 (Nat.le_of_ble_eq_true rfl) ?_
 refine wk_seq ?_
 refine wk_region ?_
 refine lx_value (want rfl) (as_bool rfl) ?_
 refine lx_nil ?_
 refine wk_seq ?_
 refine wk_seq ?_
 refine wk_region ?_
 refine lx_value (want rfl) (mv_slice rfl) ?_
 refine lx_value (want rfl) (rn_len Tryz.underlying31 rfl) ?_
 refine lx_value (want rfl) (mv_slice rfl) ?_
 refine lx_value (want rfl) (rn_len Tryz.underlying31 rfl) ?_
 refine lx_value (want rfl) (rn_neq rfl rfl) ?_
 refine lx_dec (fun hl => ?_) (fun hl => ?_)
 ·
  refine lx_nil ?_
  refine wk_cond_t rfl ?_
  refine wk_seq ?_
  refine wk_region ?_
  refine lx_value (want rfl) (as_bool rfl) ?_
  refine lx_nil ?_
  refine wk_ret ?_
  refine retR1 Tryz.results26 (.tmp (t_bool rfl)) F0 ?_
  exact no_dec (len_ne hl)
 ·
  refine lx_nil ?_
  refine wk_cond_f rfl ?_
  refine wk_skip ?_
  refine wk_seq ?_
  refine wk_seq ?_
  refine wk_region ?_
  refine lx_value (want rfl) (as_int rfl) ?_
  refine lx_nil ?_
  refine wk_block ?_
  refine wk_loopA [4, 5, 11, 12, 13, 14, 15, 16, 17, 18, 19, 20, 21, 22, 23, 24, 25] no (fun nM ρ w => ∃ (i : Nat), nM = a.length - i ∧ ρ 5 = .int .i64 i ∧ (i ≤ a.length) ∧ (a.take i = b.take i)) _ ⟨0, rfl, rfl, by omega, rfl⟩ ?_
  rintro n1 ρ1 w1 A1 EL1 ⟨i, rfl, hs1_5, hi, hq⟩
  have F1 := F0.ext EL1
  have hzL1 := EL1.size
  refine wk_seq ?_
  refine wk_seq ?_
  refine wk_region ?_
  refine lx_value (want rfl) (mv_int hs1_5) ?_
  refine lx_value (want rfl) (mv_slice (A1.at 0 rfl rfl)) ?_
  refine lx_value (want rfl) (rn_len Tryz.underlying31 rfl) ?_
  refine lx_value (want rfl) (rn_lss rfl rfl) ?_
  refine lx_dec (fun hlt => ?_) (fun hlt => ?_)
  ·
   obtain ⟨x, hx⟩ := getx hlt
   obtain ⟨y, hy⟩ : ∃ y, b[i]? = some y := getx (by omega)
   obtain ⟨bx, ox, rfl, _, hcx⟩ := ha i x hx
   obtain ⟨by_, oy, rfl, _, hcy⟩ := hb i y hy
   refine lx_nil ?_
   refine wk_cond_t rfl ?_
   refine wk_skip ?_
   refine wk_seq ?_
   refine wk_block ?_
   refine wk_seq ?_
   refine wk_mix 8 (fun _ => .none) (by kernel_rfl) (by kernel_rfl) (fun kS G hk => by cases hk) (fun kS s y G hk => by cases hk) ?_
   simp only [List.take_succ_cons, List.take_zero, List.take_nil, List.drop_succ_cons, List.drop_zero, List.drop_nil]
   refine mx_calm rfl (want rfl) (fun u1 eu1 fu1 => mv_slice (A1.at 0 rfl rfl)) ?_
   refine mx_calm rfl (want rfl) (fun u2 eu2 fu2 => mv_int hs1_5) ?_
   refine mx_calm rfl (want rfl) (fun u3 eu3 fu3 => rn_index _ Tryz.underlying31 sz_106 rfl rfl rfl (by omega)) ?_
   refine mx_calm rfl (want rfl) (fun u4 eu4 fu4 => rn_load3 ag_106 sz_106 rfl ((F1.ext ((ext_drawn _).trans' eu4)).cell (fun h => h) (hcx 0 _ rfl)) ((F1.ext ((ext_drawn _).trans' eu4)).cell (fun h => h) (hcx 1 _ rfl)) ((F1.ext ((ext_drawn _).trans' eu4)).cell (fun h => h) (hcx 2 _ rfl))) ?_
   refine mx_calm rfl (want rfl) (fun u5 eu5 fu5 => mv_slice (A1.at 1 rfl rfl)) ?_
   refine mx_calm rfl (want rfl) (fun u6 eu6 fu6 => mv_int hs1_5) ?_
   refine mx_calm rfl (want rfl) (fun u7 eu7 fu7 => rn_index _ Tryz.underlying31 sz_106 rfl rfl rfl (by omega)) ?_
   refine mx_calm rfl (want rfl) (fun u8 eu8 fu8 => rn_load3 ag_106 sz_106 rfl ((F1.ext ((ext_drawn _).trans' eu8)).cell (fun h => h) (hcy 0 _ rfl)) ((F1.ext ((ext_drawn _).trans' eu8)).cell (fun h => h) (hcy 1 _ rfl)) ((F1.ext ((ext_drawn _).trans' eu8)).cell (fun h => h) (hcy 2 _ rfl))) ?_
   refine mx_nil (fun w2 E1' H1 HS => ?_)
   have E1 := (ext_drawn _).trans' E1'
   have F2 := F1.ext E1
   have hz1 := E1.size
   refine lx_value (want rfl) (rn_cmpS (t_agg rfl) (t_agg rfl) (gneq_106 _ _ _ _ _ _) (neq_106 _ _ _ _ _ _)) ?_
   refine lx_dec (fun hne => ?_) (fun hne => ?_)
   ·
    refine lx_nil ?_
    refine wk_cond_t rfl ?_
    refine wk_seq ?_
    refine wk_region ?_
    refine lx_value (want rfl) (as_bool rfl) ?_
    refine lx_nil ?_
    refine wk_ret ?_
    refine retR1 Tryz.results26 (.tmp (t_bool rfl)) F2 ?_
    exact no_dec (eqs_ne hx hy (tl_ne hne))
   ·
    refine lx_nil ?_
    refine wk_cond_f rfl ?_
    refine wk_skip ?_
    refine wk_region ?_
    refine lx_value (want rfl) (mv_int hs1_5) ?_
    refine lx_value (want rfl) (rn_add rfl rfl (by omega)) ?_
    refine lx_value (want rfl) (as_int rfl) ?_
    refine lx_nil ?_
    exact ⟨rfl, ((((((((((((((((A1.up rfl _).up rfl _).up rfl _).up rfl _).up rfl _).up rfl _).up rfl _).up rfl _).up rfl _).up rfl _).up rfl _).up rfl _).up rfl _).up rfl _).up rfl _).up rfl _), (Fr.ext EL1 E1), _, (by omega), i + 1, rfl, rfl, by omega, (eqs_step hq hx hy (tl_eq hne))⟩
  ·
   refine lx_nil ?_
   refine wk_cond_f rfl ?_
   refine wk_exit ?_
   refine wk_seq ?_
   refine wk_region ?_
   refine lx_value (want rfl) (as_bool rfl) ?_
   refine lx_nil ?_
   refine wk_ret ?_
   refine retR1 Tryz.results26 (.tmp (t_bool rfl)) F1 ?_
   exact yes_dec (eqs_end hq (by omega) hlt)

theorem equalv_ct (a b : List Vl) (sa sb : Option Addr) (ca cb : Nat) (Fa Fb : Nat → Prop) (w0 : World) (ha : VlS Fa w0 sa a) (hb : VlS Fb w0 sb b) (hbb : b.length ≤ 1048576) :
  CT Tryz.prog 122 [.slice sa a.length ca, .slice sb b.length cb] w0 no (fun v _ => v = .bool (decide (a = b))) := by
 have F0 := Fr.refl no w0
 refine ct_body Tryz.func122 rfl Tryz.ntmps122 (Nat.le_of_ble_eq_true rfl) ?_
 refine wk_seq ?_
 refine wk_region ?_
 refine lx_value (want rfl) (as_bool rfl) ?_
 refine lx_nil ?_
 refine wk_seq ?_
 refine wk_seq ?_
 refine wk_region ?_
 refine lx_value (want rfl) (mv_slice rfl) ?_
 refine lx_value (want rfl) (rn_len Tryz.underlying30 rfl) ?_
 refine lx_value (want rfl) (mv_slice rfl) ?_
 refine lx_value (want rfl) (rn_len Tryz.underlying30 rfl) ?_
 refine lx_value (want rfl) (rn_neq rfl rfl) ?_
 refine lx_dec (fun hl => ?_) (fun hl => ?_)
 ·
  refine lx_nil ?_
  refine wk_cond_t rfl ?_
  refine wk_seq ?_
  refine wk_region ?_
  refine lx_value (want rfl) (as_bool rfl) ?_
  refine lx_nil ?_
  refine wk_ret ?_
  refine retR1 Tryz.results122 (.tmp (t_bool rfl)) F0 ?_
  exact no_dec (len_ne hl)
 ·
  refine lx_nil ?_
  refine wk_cond_f rfl ?_
  refine wk_skip ?_
  refine wk_seq ?_
  refine wk_seq ?_
  refine wk_region ?_
  refine lx_value (want rfl) (mv_slice rfl) ?_
  refine lx_value (want rfl) (rn_len Tryz.underlying30 rfl) ?_
  refine lx_value (want rfl) (mv_int rfl) ?_
  refine lx_nil ?_
  refine wk_block ?_
  refine wk_loopA [4, 5, 13, 14, 15, 16, 17, 18, 19, 20, 21, 22, 23, 24, 25] no (fun nM ρ w => ∃ (i : Nat), nM = a.length - i ∧ ρ 13 = .int .i64 i ∧ (i ≤ a.length) ∧ (a.take i = b.take i)) _ ⟨0, rfl, rfl, by omega, rfl⟩ ?_
  rintro n1 ρ1 w1 A1 EL1 ⟨i, rfl, hs1_13, hi, hq⟩
  have F1 := F0.ext EL1
  have hzL1 := EL1.size
  refine wk_seq ?_
  refine wk_region ?_
  refine lx_value (want rfl) (rn_lss hs1_13 (A1.at 12 rfl rfl)) ?_
  refine lx_dec (fun hlt => ?_) (fun hlt => ?_)
  ·
   obtain ⟨x, hx⟩ := getx hlt
   obtain ⟨y, hy⟩ : ∃ y, b[i]? = some y := getx (by omega)
   obtain ⟨bx, ox, rfl, _, hcx⟩ := ha i x hx
   obtain ⟨by_, oy, rfl, _, hcy⟩ := hb i y hy
   refine lx_nil ?_
   refine wk_seq ?_
   refine wk_cond_t rfl ?_
   refine wk_skip ?_
   refine wk_seq ?_
   refine wk_block ?_
   refine wk_seq ?_
   refine wk_region ?_
   refine lx_value (want rfl) (mv_int hs1_13) ?_
   refine lx_value (want rfl) (as_int rfl) ?_
   refine lx_nil ?_
   refine wk_seq ?_
   refine wk_mix 8 (fun _ => .none) (by kernel_rfl) (by kernel_rfl) (fun kS G hk => by cases hk) (fun kS s y G hk => by cases hk) ?_
   simp only [List.take_succ_cons, List.take_zero, List.take_nil, List.drop_succ_cons, List.drop_zero, List.drop_nil]
   refine mx_calm rfl (want rfl) (fun u1 eu1 fu1 => mv_slice (A1.at 0 rfl rfl)) ?_
   refine mx_calm rfl (want rfl) (fun u2 eu2 fu2 => mv_int rfl) ?_
   refine mx_calm rfl (want rfl) (fun u3 eu3 fu3 => rn_index _ Tryz.underlying30 sz_36 rfl rfl rfl (by omega)) ?_
   refine mx_calm rfl (want rfl) (fun u4 eu4 fu4 => rn_load2 ag_36 sz_36 rfl ((F1.ext ((ext_drawn _).trans' eu4)).cell (fun h => h) (hcx 0 _ rfl)) ((F1.ext ((ext_drawn _).trans' eu4)).cell (fun h => h) (hcx 1 _ rfl))) ?_
   refine mx_calm rfl (want rfl) (fun u5 eu5 fu5 => mv_slice (A1.at 1 rfl rfl)) ?_
   refine mx_calm rfl (want rfl) (fun u6 eu6 fu6 => mv_int rfl) ?_
   refine mx_calm rfl (want rfl) (fun u7 eu7 fu7 => rn_index _ Tryz.underlying30 sz_36 rfl rfl rfl (by omega)) ?_
   refine mx_calm rfl (want rfl) (fun u8 eu8 fu8 => rn_load2 ag_36 sz_36 rfl ((F1.ext ((ext_drawn _).trans' eu8)).cell (fun h => h) (hcy 0 _ rfl)) ((F1.ext ((ext_drawn _).trans' eu8)).cell (fun h => h) (hcy 1 _ rfl))) ?_
   refine mx_nil (fun w2 E1' H1 HS => ?_)
   have E1 := (ext_drawn _).trans' E1'
   have F2 := F1.ext E1
   have hz1 := E1.size
   refine lx_value (want rfl) (rn_cmpS (t_agg rfl) (t_agg rfl) (gneq_36 _ _ _ _) (neq_36 _ _ _ _)) ?_
   refine lx_dec (fun hne => ?_) (fun hne => ?_)
   ·
    refine lx_nil ?_
    refine wk_cond_t rfl ?_
    refine wk_seq ?_
    refine wk_region ?_
    refine lx_value (want rfl) (as_bool rfl) ?_
    refine lx_nil ?_
    refine wk_ret ?_
    refine retR1 Tryz.results122 (.tmp (t_bool rfl)) F2 ?_
    exact no_dec (eqs_ne hx hy (vl_ne hne))
   ·
    refine lx_nil ?_
    refine wk_cond_f rfl ?_
    refine wk_skip ?_
    refine wk_region ?_
    refine lx_value (want rfl) (rn_add hs1_13 rfl (by omega)) ?_
    refine lx_value (want rfl) (mv_int rfl) ?_
    refine lx_nil ?_
    exact ⟨rfl, ((((((((((((((A1.up rfl _).up rfl _).up rfl _).up rfl _).up rfl _).up rfl _).up rfl _).up rfl _).up rfl _).up rfl _).up rfl _).up rfl _).up rfl _).up rfl _), (Fr.ext EL1 E1), _, (by omega), i + 1, rfl, rfl, by omega, (eqs_step hq hx hy (vl_eq hne))⟩
  ·
   refine lx_nil ?_
   refine wk_seq ?_
   refine wk_cond_f rfl ?_
   refine wk_exit ?_
   refine wk_seq ?_
   refine wk_region ?_
   refine lx_value (want rfl) (as_bool rfl) ?_
   refine lx_nil ?_
   refine wk_ret ?_
   refine retR1 Tryz.results122 (.tmp (t_bool rfl)) F1 ?_
   exact yes_dec (eqs_end hq (by omega) hlt)

theorem samevalues_ct (a b : List Vl) (sa sb : Option Addr) (ca cb : Nat) (Fa Fb : Nat → Prop) (w0 : World) (ha : VlS Fa w0 sa a) (hb : VlS Fb w0 sb b) (hbb : b.length ≤ 1048576) :
  CT Tryz.prog 25 [.slice sa a.length ca, .slice sb b.length cb] w0 no (fun v _ => v = .bool (decide (a = b))) := by
 have F0 := Fr.refl no w0
 refine ct_body Tryz.func25 rfl Tryz.ntmps25 (Nat.le_of_ble_eq_true rfl) ?_
 refine wk_seq ?_
 refine wk_region ?_
 refine lx_value (want rfl) (as_bool rfl) ?_
 refine lx_nil ?_
 refine wk_seq ?_
 refine wk_seq ?_
 refine wk_region ?_
 refine lx_value (want rfl) (mv_slice rfl) ?_
 refine lx_value (want rfl) (rn_len Tryz.underlying30 rfl) ?_
 refine lx_value (want rfl) (mv_slice rfl) ?_
 refine lx_value (want rfl) (rn_len Tryz.underlying30 rfl) ?_
 refine lx_value (want rfl) (rn_neq rfl rfl) ?_
 refine lx_dec (fun hl => ?_) (fun hl => ?_)
 ·
  refine lx_nil ?_
  refine wk_cond_t rfl ?_
  refine wk_seq ?_
  refine wk_region ?_
  refine lx_value (want rfl) (as_bool rfl) ?_
  refine lx_nil ?_
  refine wk_ret ?_
  refine retR1 Tryz.results25 (.tmp (t_bool rfl)) F0 ?_
  exact no_dec (len_ne hl)
 ·
  refine lx_nil ?_
  refine wk_cond_f rfl ?_
  refine wk_skip ?_
  refine wk_seq ?_
  refine wk_seq ?_
  refine wk_region ?_
  refine lx_value (want rfl) (as_int rfl) ?_
  refine lx_nil ?_
  refine wk_block ?_
  refine wk_loopA [4, 5, 11, 12, 13, 14, 15, 16, 17, 18, 19, 20, 21, 22, 23, 24, 25] no (fun nM ρ w => ∃ (i : Nat), nM = a.length - i ∧ ρ 5 = .int .i64 i ∧ (i ≤ a.length) ∧ (a.take i = b.take i)) _ ⟨0, rfl, rfl, by omega, rfl⟩ ?_
  rintro n1 ρ1 w1 A1 EL1 ⟨i, rfl, hs1_5, hi, hq⟩
  have F1 := F0.ext EL1
  have hzL1 := EL1.size
  refine wk_seq ?_
  refine wk_seq ?_
  refine wk_region ?_
  refine lx_value (want rfl) (mv_int hs1_5) ?_
  refine lx_value (want rfl) (mv_slice (A1.at 0 rfl rfl)) ?_
  refine lx_value (want rfl) (rn_len Tryz.underlying30 rfl) ?_
  refine lx_value (want rfl) (rn_lss rfl rfl) ?_
  refine lx_dec (fun hlt => ?_) (fun hlt => ?_)
  ·
   obtain ⟨x, hx⟩ := getx hlt
   obtain ⟨y, hy⟩ : ∃ y, b[i]? = some y := getx (by omega)
   obtain ⟨bx, ox, rfl, _, hcx⟩ := ha i x hx
   obtain ⟨by_, oy, rfl, _, hcy⟩ := hb i y hy
   refine lx_nil ?_
   refine wk_cond_t rfl ?_
   refine wk_skip ?_
   refine wk_seq ?_
   refine wk_block ?_
   refine wk_seq ?_
   refine wk_mix 8 (fun _ => .none) (by kernel_rfl) (by kernel_rfl) (fun kS G hk => by cases hk) (fun kS s y G hk => by cases hk) ?_
   simp only [List.take_succ_cons, List.take_zero, List.take_nil, List.drop_succ_cons, List.drop_zero, List.drop_nil]
   refine mx_calm rfl (want rfl) (fun u1 eu1 fu1 => mv_slice (A1.at 0 rfl rfl)) ?_
   refine mx_calm rfl (want rfl) (fun u2 eu2 fu2 => mv_int hs1_5) ?_
   refine mx_calm rfl (want rfl) (fun u3 eu3 fu3 => rn_index _ Tryz.underlying30 sz_36 rfl rfl rfl (by omega)) ?_
   refine mx_calm rfl (want rfl) (fun u4 eu4 fu4 => rn_load2 ag_36 sz_36 rfl ((F1.ext ((ext_drawn _).trans' eu4)).cell (fun h => h) (hcx 0 _ rfl)) ((F1.ext ((ext_drawn _).trans' eu4)).cell (fun h => h) (hcx 1 _ rfl))) ?_
   refine mx_calm rfl (want rfl) (fun u5 eu5 fu5 => mv_slice (A1.at 1 rfl rfl)) ?_
   refine mx_calm rfl (want rfl) (fun u6 eu6 fu6 => mv_int hs1_5) ?_
   refine mx_calm rfl (want rfl) (fun u7 eu7 fu7 => rn_index _ Tryz.underlying30 sz_36 rfl rfl rfl (by omega)) ?_
   refine mx_calm rfl (want rfl) (fun u8 eu8 fu8 => rn_load2 ag_36 sz_36 rfl ((F1.ext ((ext_drawn _).trans' eu8)).cell (fun h => h) (hcy 0 _ rfl)) ((F1.ext ((ext_drawn _).trans' eu8)).cell (fun h => h) (hcy 1 _ rfl))) ?_
   refine mx_nil (fun w2 E1' H1 HS => ?_)
   have E1 := (ext_drawn _).trans' E1'
   have F2 := F1.ext E1
   have hz1 := E1.size
   refine lx_value (want rfl) (rn_cmpS (t_agg rfl) (t_agg rfl) (gneq_36 _ _ _ _) (neq_36 _ _ _ _)) ?_
   refine lx_dec (fun hne => ?_) (fun hne => ?_)
   ·
    refine lx_nil ?_
    refine wk_cond_t rfl ?_
    refine wk_seq ?_
    refine wk_region ?_
    refine lx_value (want rfl) (as_bool rfl) ?_
    refine lx_nil ?_
    refine wk_ret ?_
    refine retR1 Tryz.results25 (.tmp (t_bool rfl)) F2 ?_
    exact no_dec (eqs_ne hx hy (vl_ne hne))
   ·
    refine lx_nil ?_
    refine wk_cond_f rfl ?_
    refine wk_skip ?_
    refine wk_region ?_
    refine lx_value (want rfl) (mv_int hs1_5) ?_
    refine lx_value (want rfl) (rn_add rfl rfl (by omega)) ?_
    refine lx_value (want rfl) (as_int rfl) ?_
    refine lx_nil ?_
    exact ⟨rfl, ((((((((((((((((A1.up rfl _).up rfl _).up rfl _).up rfl _).up rfl _).up rfl _).up rfl _).up rfl _).up rfl _).up rfl _).up rfl _).up rfl _).up rfl _).up rfl _).up rfl _).up rfl _), (Fr.ext EL1 E1), _, (by omega), i + 1, rfl, rfl, by omega, (eqs_step hq hx hy (vl_eq hne))⟩
  ·
   refine lx_nil ?_
   refine wk_cond_f rfl ?_
   refine wk_exit ?_
   refine wk_seq ?_
   refine wk_region ?_
   refine lx_value (want rfl) (as_bool rfl) ?_
   refine lx_nil ?_
   refine wk_ret ?_
   refine retR1 Tryz.results25 (.tmp (t_bool rfl)) F1 ?_
   exact yes_dec (eqs_end hq (by omega) hlt)

set_option maxHeartbeats 2000000 in
theorem operations_ct (w0 : World) :
  CT Tryz.prog 82 [] w0 no (fun v w => ∃ b bI bE bN, v = .map (some b) ∧ MapV w b kS (opF bI bE bN) ∧ Blk w bI ((kindC 0).map (Value.int .u8)) 5 ∧ Blk w bE ((kindC 8).map (Value.int .u8)) 5 ∧ Blk w bN ((kindC 9).map (Value.int .u8)) 5) := by
 have F0 := Fr.refl no w0
 refine ct_body Tryz.func82 rfl Tryz.ntmps82 (Nat.le_of_ble_eq_true rfl) ?_
 refine wk_seq ?_
 refine wk_region ?_
 refine lx_value (want rfl) (as_map rfl) ?_
 refine lx_nil ?_
 refine wk_seq ?_
 refine wk_region ?_
 refine lx_newS (want rfl) (rn_bslice (xs := [_]) Tryz.underlying123 sz_5 ze_5 rfl (argsC (t_int rfl) args0) (CL.cons rfl rfl CL.nil) rfl (Nat.le_of_ble_eq_true rfl)) ?_
 intro b1 w1 hb1 Eb1 B1 hlb1
 have F1 := F0.ext Eb1
 have hzb1 := Eb1.size
 refine lx_value (want rfl) (as_slice rfl) ?_
 refine lx_nil ?_
 refine wk_seq ?_
 refine wk_region ?_
 refine lx_makeMapB kS (want rfl) run_makeMap0 ?_
 intro b2 w2 hb2 Eb2 B2
 have F2 := F1.ext Eb2
 have hzb2 := Eb2.size
 have hlb2 := B2.lt
 have hMV := MapB.v B2
 refine lx_value (want rfl) (mv_slice rfl) ?_
 refine lx_value (want rfl) (rn_build3 (t_int rfl) (t_slice rfl) rfl (fun w => bd_126_0_1_2 _ _ _ _ _ _ _ w)) ?_
 refine lx_insV (want rfl) mv_128 rfl rfl (t_agg rfl) hMV ?_
 intro w3 Em1 HMEm1
 have F3 := F2.set Em1 (by omega)
 have hzm1 := Em1.size
 refine lx_value (want rfl) (mv_slice rfl) ?_
 refine lx_value (want rfl) (rn_build3 (t_int rfl) (t_slice rfl) rfl (fun w => bd_126_0_1_2 _ _ _ _ _ _ _ w)) ?_
 refine lx_insV (want rfl) mv_128 rfl rfl (t_agg rfl) HMEm1 ?_
 intro w4 Em2 HMEm2
 have F4 := F3.set Em2 (by omega)
 have hzm2 := Em2.size
 refine lx_value (want rfl) (mv_slice rfl) ?_
 refine lx_value (want rfl) (rn_build3 (t_int rfl) (t_slice rfl) rfl (fun w => bd_126_0_1_2 _ _ _ _ _ _ _ w)) ?_
 refine lx_insV (want rfl) mv_128 rfl rfl (t_agg rfl) HMEm2 ?_
 intro w5 Em3 HMEm3
 have F5 := F4.set Em3 (by omega)
 have hzm3 := Em3.size
 refine lx_value (want rfl) (mv_slice rfl) ?_
 refine lx_value (want rfl) (rn_build3 (t_int rfl) (t_slice rfl) rfl (fun w => bd_126_0_1_2 _ _ _ _ _ _ _ w)) ?_
 refine lx_insV (want rfl) mv_128 rfl rfl (t_agg rfl) HMEm3 ?_
 intro w6 Em4 HMEm4
 have F6 := F5.set Em4 (by omega)
 have hzm4 := Em4.size
 refine lx_value (want rfl) (mv_slice rfl) ?_
 refine lx_value (want rfl) (rn_build3 (t_int rfl) (t_slice rfl) rfl (fun w => bd_126_0_1_2 _ _ _ _ _ _ _ w)) ?_
 refine lx_insV (want rfl) mv_128 rfl rfl (t_agg rfl) HMEm4 ?_
 intro w7 Em5 HMEm5
 have F7 := F6.set Em5 (by omega)
 have hzm5 := Em5.size
 refine lx_value (want rfl) (mv_slice rfl) ?_
 refine lx_value (want rfl) (rn_build3 (t_int rfl) (t_slice rfl) rfl (fun w => bd_126_0_1_2 _ _ _ _ _ _ _ w)) ?_
 refine lx_insV (want rfl) mv_128 rfl rfl (t_agg rfl) HMEm5 ?_
 intro w8 Em6 HMEm6
 have F8 := F7.set Em6 (by omega)
 have hzm6 := Em6.size
 refine lx_value (want rfl) (mv_slice rfl) ?_
 refine lx_value (want rfl) (rn_build3 (t_int rfl) (t_slice rfl) rfl (fun w => bd_126_0_1_2 _ _ _ _ _ _ _ w)) ?_
 refine lx_insV (want rfl) mv_128 rfl rfl (t_agg rfl) HMEm6 ?_
 intro w9 Em7 HMEm7
 have F9 := F8.set Em7 (by omega)
 have hzm7 := Em7.size
 refine lx_value (want rfl) (mv_slice rfl) ?_
 refine lx_value (want rfl) (rn_build3 (t_int rfl) (t_slice rfl) rfl (fun w => bd_126_0_1_2 _ _ _ _ _ _ _ w)) ?_
 refine lx_insV (want rfl) mv_128 rfl rfl (t_agg rfl) HMEm7 ?_
 intro w10 Em8 HMEm8
 have F10 := F9.set Em8 (by omega)
 have hzm8 := Em8.size
 refine lx_newS (want rfl) (rn_bslice (xs := [_, _]) Tryz.underlying123 sz_5 ze_5 rfl (argsC (t_int rfl) (argsC (t_int rfl) args0)) (CL.cons rfl rfl (CL.cons rfl rfl CL.nil)) rfl (Nat.le_of_ble_eq_true rfl)) ?_
 intro b3 w11 hb3 Eb3 B3 hlb3
 have F11 := F10.ext Eb3
 have hzb3 := Eb3.size
 refine lx_value (want rfl) (rn_build3 (t_int rfl) (t_slice rfl) rfl (fun w => bd_126_0_1_2 _ _ _ _ _ _ _ w)) ?_
 refine lx_insV (want rfl) mv_128 rfl rfl (t_agg rfl) (HMEm8.ext Eb3) ?_
 intro w12 Em9 HMEm9
 have F12 := F11.set Em9 (by omega)
 have hzm9 := Em9.size
 refine lx_newS (want rfl) (rn_bslice (xs := [_]) Tryz.underlying123 sz_5 ze_5 rfl (argsC (t_int rfl) args0) (CL.cons rfl rfl CL.nil) rfl (Nat.le_of_ble_eq_true rfl)) ?_
 intro b4 w13 hb4 Eb4 B4 hlb4
 have F13 := F12.ext Eb4
 have hzb4 := Eb4.size
 refine lx_value (want rfl) (rn_build3 (t_int rfl) (t_slice rfl) rfl (fun w => bd_126_0_1_2 _ _ _ _ _ _ _ w)) ?_
 refine lx_insV (want rfl) mv_128 rfl rfl (t_agg rfl) (HMEm9.ext Eb4) ?_
 intro w14 Em10 HMEm10
 have F14 := F13.set Em10 (by omega)
 have hzm10 := Em10.size
 refine lx_value (want rfl) (mv_map rfl) ?_
 refine lx_value (want rfl) (as_map rfl) ?_
 refine lx_nil ?_
 refine wk_ret ?_
 refine retR1 Tryz.results82 (.tmp (t_map rfl)) F14 ?_
 exact ⟨_, _, _, _, rfl, MapV.of HMEm10 (fun nm => map_op (bI := b1) (bE := b3) (bN := b4) nm), (((((((((((((B1.ext Eb2).ne Em1 (by omega)).ne Em2 (by omega)).ne Em3 (by omega)).ne Em4 (by omega)).ne Em5 (by omega)).ne Em6 (by omega)).ne Em7 (by omega)).ne Em8 (by omega)).ext Eb3).ne Em9 (by omega)).ext Eb4).ne Em10 (by omega)), (((B3.ne Em9 (by omega)).ext Eb4).ne Em10 (by omega)), (B4.ne Em10 (by omega))⟩

def itoaRen : Go.Shelf.Ren := ⟨fun | 129 => 172 | 171 => 156 | 243 => 162 | 246 => 166 | 283 => 167 | 284 => 168 | 285 => 169 | 286 => 170 | 317 => 171 | 318 => 173 | 319 => 174 | 320 => 175 | 337 => 176 | 338 => 177 | n => n, fun | 0 => 0 | 2 => 2 | 3 => 3 | 4 => 4 | 5 => 5 | 9 => 9 | 20 => 20 | 37 => 123 | 46 => 100 | 51 => 89 | 53 => 207 | 171 => 211 | 173 => 214 | 212 => 218 | 213 => 219 | 232 => 222 | 233 => 223 | n => n, fun | 17 => 0 | 18 => 1 | 19 => 2 | n => n⟩
theorem itoaLays : Go.Proofs.LaysM.n171 Tryz.prog itoaRen where
 mixed := by kernel_rfl
 f129 := Tryz.func172.trans (congrArg some (by kernel_rfl))
 f171 := Tryz.func156.trans (congrArg some (by kernel_rfl))
 f243 := Tryz.func162.trans (congrArg some (by kernel_rfl))
 f246 := Tryz.func166.trans (congrArg some (by kernel_rfl))
 f283 := Tryz.func167.trans (congrArg some (by kernel_rfl))
 f284 := Tryz.func168.trans (congrArg some (by kernel_rfl))
 f285 := Tryz.func169.trans (congrArg some (by kernel_rfl))
 f286 := Tryz.func170.trans (congrArg some (by kernel_rfl))
 f317 := Tryz.func171.trans (congrArg some (by kernel_rfl))
 f318 := Tryz.func173.trans (congrArg some (by kernel_rfl))
 f319 := Tryz.func174.trans (congrArg some (by kernel_rfl))
 f320 := Tryz.func175.trans (congrArg some (by kernel_rfl))
 f337 := Tryz.func176.trans (congrArg some (by kernel_rfl))
 f338 := Tryz.func177.trans (congrArg some (by kernel_rfl))
 t0 := Tryz.underlying0
 a0 := Tryz.isAgg0
 z0 := Tryz.sizeOf0
 v0 := Tryz.zeroValue0
 t2 := Tryz.underlying2
 a2 := Tryz.isAgg2
 z2 := Tryz.sizeOf2
 v2 := Tryz.zeroValue2
 t3 := Tryz.underlying3
 a3 := Tryz.isAgg3
 z3 := Tryz.sizeOf3
 v3 := Tryz.zeroValue3
 t4 := Tryz.underlying4
 a4 := Tryz.isAgg4
 z4 := Tryz.sizeOf4
 v4 := Tryz.zeroValue4
 t5 := Tryz.underlying5
 a5 := Tryz.isAgg5
 z5 := Tryz.sizeOf5
 v5 := Tryz.zeroValue5
 t9 := Tryz.underlying9
 a9 := Tryz.isAgg9
 z9 := Tryz.sizeOf9
 v9 := Tryz.zeroValue9
 t20 := Tryz.underlying20
 a20 := Tryz.isAgg20
 z20 := Tryz.sizeOf20
 v20 := Tryz.zeroValue20
 t37 := Tryz.underlying123
 a37 := Tryz.isAgg123
 z37 := Tryz.sizeOf123
 v37 := Tryz.zeroValue123
 t46 := Tryz.underlying100
 a46 := Tryz.isAgg100
 z46 := Tryz.sizeOf100
 v46 := Tryz.zeroValue100
 t51 := Tryz.underlying89
 a51 := Tryz.isAgg89
 z51 := Tryz.sizeOf89
 v51 := Tryz.zeroValue89
 t53 := Tryz.underlying207
 a53 := Tryz.isAgg207
 z53 := Tryz.sizeOf207
 v53 := Tryz.zeroValue207
 t171 := Tryz.underlying211
 a171 := Tryz.isAgg211
 z171 := Tryz.sizeOf211
 v171 := Tryz.zeroValue211
 t173 := Tryz.underlying214
 a173 := Tryz.isAgg214
 z173 := Tryz.sizeOf214
 v173 := Tryz.zeroValue214
 t212 := Tryz.underlying218
 a212 := Tryz.isAgg218
 z212 := Tryz.sizeOf218
 v212 := Tryz.zeroValue218
 t213 := Tryz.underlying219
 a213 := Tryz.isAgg219
 z213 := Tryz.sizeOf219
 t232 := Tryz.underlying222
 a232 := Tryz.isAgg222
 z232 := Tryz.sizeOf222
 v232 := Tryz.zeroValue222
 t233 := Tryz.underlying223
 a233 := Tryz.isAgg223
 z233 := Tryz.sizeOf223
 v233 := Tryz.zeroValue223
 g17 := by kernel_rfl
 g18 := by kernel_rfl
 g19 := by kernel_rfl
 i0 := by kernel_rfl
 i2 := by kernel_rfl
 i3 := by kernel_rfl
 i4 := by kernel_rfl
 i5 := by kernel_rfl
 i9 := by kernel_rfl
 i20 := by kernel_rfl
 i37 := by kernel_rfl
 i46 := by kernel_rfl
 i51 := by kernel_rfl
 i53 := by kernel_rfl
 i171 := by kernel_rfl
 i173 := by kernel_rfl
 i212 := by kernel_rfl
 i232 := by kernel_rfl
 i233 := by kernel_rfl
 m17 := by kernel_rfl
 m18 := by kernel_rfl
 m19 := by kernel_rfl
theorem itoaG : Tryz.prog.globalNamed "internal/strconv.uint64pow10" = some 0 := by kernel_rfl
abbrev ItoaT (w : World) : Prop := Go.Lib.TabIs Tryz.prog w "internal/strconv.uint64pow10" .u64 [1, 10, 100, 1000, 10000, 100000, 1000000, 10000000, 100000000, 1000000000, 10000000000, 100000000000, 1000000000000, 10000000000000, 100000000000000, 1000000000000000, 10000000000000000, 100000000000000000, 1000000000000000000, 10000000000000000000]
theorem itoaPow : Go.Lib.pow10Tab = [1, 10, 100, 1000, 10000, 100000, 1000000, 10000000, 100000000, 1000000000, 10000000000, 100000000000, 1000000000000, 10000000000000, 100000000000000, 1000000000000000, 10000000000000000, 100000000000000000, 1000000000000000000, 10000000000000000000] := by decide
theorem itoa_ct {n : Int} (h0 : -9223372036854775808 ≤ n) (h1 : n ≤ 9223372036854775807) (w : World) (ht : ItoaT w) : CT Tryz.prog 156 [.int .i64 n] w no (fun u _ => u = .string ⟨(decB n).toArray⟩) :=
 ⟨callsIn_wide.2 ((Go.Proofs.Any.strconv_Itoa itoaLays n h0 h1 w (by rw [itoaPow]; exact ht)).mono fun e w' ⟨he, k, os, hw⟩ => ⟨_, he, by rw [hw]; exact (ext_drewN k w).trans' (ext_grow _ os), by rw [decB_itoa h0 h1]⟩)⟩

theorem indexr_ct (l : List Rd) (s : Option Addr) (c : Nat) (F : Nat → Prop) (fid : FuncId) (caps : List Value) (q : Rd → Bool) (hcf : ∀ args w, (callFunc fid args).run Tryz.prog w = .ok (.enter fid args) w) (w0 : World) (hl : RdS F w0 s l) (hb : l.length ≤ 1048576) (hq : ∀ z w, z ∈ l → Ext w0 w → CT Tryz.prog fid (.agg #[.int .i64 z.1, .int .i64 z.2] :: caps) w no (fun v _ => v = .bool (q z))) :
  CT Tryz.prog 159 [.slice s l.length c, .func (.func fid) #[] caps.toArray] w0 no (fun v _ => ∃ z : Int, v = .int .i64 z ∧ IdxR q l z) := by
 have F0 := Fr.refl no w0
 refine ct_body Tryz.func159 rfl Tryz.ntmps159 (Nat.le_of_ble_eq_true rfl) ?_
 refine wk_seq ?_
 refine wk_region ?_
 refine lx_value (want rfl) (as_int rfl) ?_
 refine lx_nil ?_
 refine wk_seq ?_
 refine wk_seq ?_
 refine wk_region ?_
 refine lx_value (want rfl) (mv_slice rfl) ?_
 refine lx_value (want rfl) (rn_len Tryz.underlying63 rfl) ?_
 refine lx_value (want rfl) (mv_int rfl) ?_
 refine lx_nil ?_
 refine wk_block ?_
 refine wk_loopA [4, 5, 8, 9, 10, 11, 12, 13, 14, 15, 16, 17, 18] no (fun nM ρ w => ∃ (i : Nat), nM = l.length - i ∧ ρ 8 = .int .i64 i ∧ (i ≤ l.length) ∧ ((l.take i).any q = false)) _ ⟨0, rfl, rfl, by omega, rfl⟩ ?_
 rintro n1 ρ1 w1 A1 EL1 ⟨i, rfl, hs1_8, hi, hq0⟩
 have F1 := F0.ext EL1
 have hzL1 := EL1.size
 refine wk_seq ?_
 refine wk_region ?_
 refine lx_value (want rfl) (rn_lss hs1_8 (A1.at 7 rfl rfl)) ?_
 refine lx_dec (fun hlt => ?_) (fun hlt => ?_)
 ·
  obtain ⟨z, hz⟩ := getx hlt
  obtain ⟨bx, ox, rfl, _, hcx⟩ := hl i z hz
  refine lx_nil ?_
  refine wk_seq ?_
  refine wk_cond_t rfl ?_
  refine wk_skip ?_
  refine wk_seq ?_
  refine wk_block ?_
  refine wk_seq ?_
  refine wk_region ?_
  refine lx_value (want rfl) (mv_int hs1_8) ?_
  refine lx_value (want rfl) (as_int rfl) ?_
  refine lx_nil ?_
  refine wk_seq ?_
  refine wk_region ?_
  refine lx_value (want rfl) (mv_func (A1.at 1 rfl rfl)) ?_
  refine lx_value (want rfl) (mv_slice (A1.at 0 rfl rfl)) ?_
  refine lx_value (want rfl) (mv_int rfl) ?_
  refine lx_value (want rfl) (rn_index _ Tryz.underlying63 sz_115 rfl rfl rfl (by omega)) ?_
  refine lx_value (want rfl) (rn_load2 ag_115 sz_115 rfl (F1.cell (fun h => h) (hcx 0 _ rfl)) (F1.cell (fun h => h) (hcx 1 _ rfl))) ?_
  refine lx_call (want rfl) (ent_value hcf rfl (argsC (t_agg rfl) args0)) (hq z w1 (List.mem_of_getElem? hz) F1) ?_
  rintro _ w2 E1 rfl
  have F2 := F1.ext E1
  have hz1 := E1.size
  refine lx_split (fun h16 => ?_) (fun h16 => ?_)
  ·
   refine lx_nil ?_
   refine wk_cond_t rfl ?_
   refine wk_seq ?_
   refine wk_region ?_
   refine lx_value (want rfl) (mv_int rfl) ?_
   refine lx_value (want rfl) (as_int rfl) ?_
   refine lx_nil ?_
   refine wk_ret ?_
   refine retR1 Tryz.results159 (.tmp (t_int rfl)) F2 ?_
   exact idx_some hz h16 hq0
  ·
   refine lx_nil ?_
   refine wk_cond_f rfl ?_
   refine wk_skip ?_
   refine wk_region ?_
   refine lx_value (want rfl) (rn_add hs1_8 rfl (by omega)) ?_
   refine lx_value (want rfl) (mv_int rfl) ?_
   refine lx_nil ?_
   exact ⟨rfl, (((((((((((A1.up rfl _).up rfl _).up rfl _).up rfl _).up rfl _).up rfl _).up rfl _).up rfl _).up rfl _).up rfl _).up rfl _), (Fr.ext EL1 E1), _, (by omega), i + 1, rfl, rfl, by omega, (any_step hq0 hz h16)⟩
 ·
  refine lx_nil ?_
  refine wk_seq ?_
  refine wk_cond_f rfl ?_
  refine wk_exit ?_
  refine wk_seq ?_
  refine wk_region ?_
  refine lx_value (want rfl) (as_int rfl) ?_
  refine lx_nil ?_
  refine wk_ret ?_
  refine retR1 Tryz.results159 (.tmp (t_int rfl)) F1 ?_
  exact idx_none hq0 hlt

theorem indexv_ct (l : List Vl) (s : Option Addr) (c : Nat) (F : Nat → Prop) (fid : FuncId) (caps : List Value) (q : Vl → Bool) (hcf : ∀ args w, (callFunc fid args).run Tryz.prog w = .ok (.enter fid args) w) (w0 : World) (hl : VlS F w0 s l) (hb : l.length ≤ 1048576) (hq : ∀ z w, z ∈ l → Ext w0 w → CT Tryz.prog fid (vlV z :: caps) w no (fun v _ => v = .bool (q z))) :
  CT Tryz.prog 119 [.slice s l.length c, .func (.func fid) #[] caps.toArray] w0 no (fun v _ => ∃ z : Int, v = .int .i64 z ∧ IdxR q l z) := by
 have F0 := Fr.refl no w0
 refine ct_body Tryz.func119 rfl Tryz.ntmps119 (Nat.le_of_ble_eq_true rfl) ?_
 refine wk_seq ?_
 refine wk_region ?_
 refine lx_value (want rfl) (as_int rfl) ?_
 refine lx_nil ?_
 refine wk_seq ?_
 refine wk_seq ?_
 refine wk_region ?_
 refine lx_value (want rfl) (mv_slice rfl) ?_
 refine lx_value (want rfl) (rn_len Tryz.underlying30 rfl) ?_
 refine lx_value (want rfl) (mv_int rfl) ?_
 refine lx_nil ?_
 refine wk_block ?_
 refine wk_loopA [4, 5, 8, 9, 10, 11, 12, 13, 14, 15, 16, 17, 18] no (fun nM ρ w => ∃ (i : Nat), nM = l.length - i ∧ ρ 8 = .int .i64 i ∧ (i ≤ l.length) ∧ ((l.take i).any q = false)) _ ⟨0, rfl, rfl, by omega, rfl⟩ ?_
 rintro n1 ρ1 w1 A1 EL1 ⟨i, rfl, hs1_8, hi, hq0⟩
 have F1 := F0.ext EL1
 have hzL1 := EL1.size
 refine wk_seq ?_
 refine wk_region ?_
 refine lx_value (want rfl) (rn_lss hs1_8 (A1.at 7 rfl rfl)) ?_
 refine lx_dec (fun hlt => ?_) (fun hlt => ?_)
 ·
  obtain ⟨z, hz⟩ := getx hlt
  obtain ⟨bx, ox, rfl, _, hcx⟩ := hl i z hz
  refine lx_nil ?_
  refine wk_seq ?_
  refine wk_cond_t rfl ?_
  refine wk_skip ?_
  refine wk_seq ?_
  refine wk_block ?_
  refine wk_seq ?_
  refine wk_region ?_
  refine lx_value (want rfl) (mv_int hs1_8) ?_
  refine lx_value (want rfl) (as_int rfl) ?_
  refine lx_nil ?_
  refine wk_seq ?_
  refine wk_region ?_
  refine lx_value (want rfl) (mv_func (A1.at 1 rfl rfl)) ?_
  refine lx_value (want rfl) (mv_slice (A1.at 0 rfl rfl)) ?_
  refine lx_value (want rfl) (mv_int rfl) ?_
  refine lx_value (want rfl) (rn_index _ Tryz.underlying30 sz_36 rfl rfl rfl (by omega)) ?_
  refine lx_value (want rfl) (rn_load2 ag_36 sz_36 rfl (F1.cell (fun h => h) (hcx 0 _ rfl)) (F1.cell (fun h => h) (hcx 1 _ rfl))) ?_
  refine lx_call (want rfl) (ent_value hcf rfl (argsC (t_agg rfl) args0)) (hq z w1 (List.mem_of_getElem? hz) F1) ?_
  rintro _ w2 E1 rfl
  have F2 := F1.ext E1
  have hz1 := E1.size
  refine lx_split (fun h16 => ?_) (fun h16 => ?_)
  ·
   refine lx_nil ?_
   refine wk_cond_t rfl ?_
   refine wk_seq ?_
   refine wk_region ?_
   refine lx_value (want rfl) (mv_int rfl) ?_
   refine lx_value (want rfl) (as_int rfl) ?_
   refine lx_nil ?_
   refine wk_ret ?_
   refine retR1 Tryz.results119 (.tmp (t_int rfl)) F2 ?_
   exact idx_some hz h16 hq0
  ·
   refine lx_nil ?_
   refine wk_cond_f rfl ?_
   refine wk_skip ?_
   refine wk_region ?_
   refine lx_value (want rfl) (rn_add hs1_8 rfl (by omega)) ?_
   refine lx_value (want rfl) (mv_int rfl) ?_
   refine lx_nil ?_
   exact ⟨rfl, (((((((((((A1.up rfl _).up rfl _).up rfl _).up rfl _).up rfl _).up rfl _).up rfl _).up rfl _).up rfl _).up rfl _).up rfl _), (Fr.ext EL1 E1), _, (by omega), i + 1, rfl, rfl, by omega, (any_step hq0 hz h16)⟩
 ·
  refine lx_nil ?_
  refine wk_seq ?_
  refine wk_cond_f rfl ?_
  refine wk_exit ?_
  refine wk_seq ?_
  refine wk_region ?_
  refine lx_value (want rfl) (as_int rfl) ?_
  refine lx_nil ?_
  refine wk_ret ?_
  refine retR1 Tryz.results119 (.tmp (t_int rfl)) F1 ?_
  exact idx_none hq0 hlt

theorem mul64_ct (y : Nat) (hy : y ≤ 100) (w0 : World) :
  CT Tryz.prog 165 [.int .u64 ((1 : Nat) : Int), .int .u64 y] w0 no (fun v _ => v = .tuple #[.int .u64 0, .int .u64 y]) := by
 have F0 := Fr.refl no w0
 refine ct_body Tryz.func165 rfl Tryz.ntmps165 (Nat.le_of_ble_eq_true rfl) ?_
 refine wk_seq ?_
 refine wk_region ?_
 refine lx_value (want rfl) (as_int rfl) ?_
 refine lx_value (want rfl) (as_int rfl) ?_
 refine lx_nil ?_
 refine wk_seq ?_
 refine wk_region ?_
 refine lx_value (want rfl) (mv_int rfl) ?_
 refine lx_value (want rfl) (rnU_and rfl rfl) ?_
 refine lx_value (want rfl) (as_int rfl) ?_
 refine lx_nil ?_
 refine wk_seq ?_
 refine wk_region ?_
 refine lx_value (want rfl) (mv_int rfl) ?_
 refine lx_value (want rfl) (rnU_shr rfl rfl (by decide)) ?_
 refine lx_value (want rfl) (as_int rfl) ?_
 refine lx_nil ?_
 refine wk_seq ?_
 refine wk_region ?_
 refine lx_value (want rfl) (mv_int rfl) ?_
 refine lx_value (want rfl) (rnU_and rfl rfl) ?_
 refine lx_value (want rfl) (as_int rfl) ?_
 refine lx_nil ?_
 refine wk_seq ?_
 refine wk_region ?_
 refine lx_value (want rfl) (mv_int rfl) ?_
 refine lx_value (want rfl) (rnU_shr rfl rfl (by decide)) ?_
 refine lx_value (want rfl) (as_int rfl) ?_
 refine lx_nil ?_
 refine wk_seq ?_
 refine wk_region ?_
 refine lx_value (want rfl) (mv_int rfl) ?_
 refine lx_value (want rfl) (mv_int rfl) ?_
 refine lx_value (want rfl) (rnU_mul rfl rfl) ?_
 refine lx_value (want rfl) (as_int rfl) ?_
 refine lx_nil ?_
 refine wk_seq ?_
 refine wk_region ?_
 refine lx_value (want rfl) (mv_int rfl) ?_
 refine lx_value (want rfl) (mv_int rfl) ?_
 refine lx_value (want rfl) (rnU_mul rfl rfl) ?_
 refine lx_value (want rfl) (mv_int rfl) ?_
 refine lx_value (want rfl) (rnU_shr rfl rfl (by decide)) ?_
 refine lx_value (want rfl) (rnU_add rfl rfl) ?_
 refine lx_value (want rfl) (as_int rfl) ?_
 refine lx_nil ?_
 refine wk_seq ?_
 refine wk_region ?_
 refine lx_value (want rfl) (mv_int rfl) ?_
 refine lx_value (want rfl) (rnU_and rfl rfl) ?_
 refine lx_value (want rfl) (as_int rfl) ?_
 refine lx_nil ?_
 refine wk_seq ?_
 refine wk_region ?_
 refine lx_value (want rfl) (mv_int rfl) ?_
 refine lx_value (want rfl) (rnU_shr rfl rfl (by decide)) ?_
 refine lx_value (want rfl) (as_int rfl) ?_
 refine lx_nil ?_
 refine wk_seq ?_
 refine wk_region ?_
 refine lx_value (want rfl) (mv_int rfl) ?_
 refine lx_value (want rfl) (mv_int rfl) ?_
 refine lx_value (want rfl) (mv_int rfl) ?_
 refine lx_value (want rfl) (rnU_mul rfl rfl) ?_
 refine lx_value (want rfl) (rnU_add rfl rfl) ?_
 refine lx_value (want rfl) (as_int rfl) ?_
 refine lx_nil ?_
 refine wk_seq ?_
 refine wk_region ?_
 refine lx_value (want rfl) (mv_int rfl) ?_
 refine lx_value (want rfl) (mv_int rfl) ?_
 refine lx_value (want rfl) (rnU_mul rfl rfl) ?_
 refine lx_value (want rfl) (mv_int rfl) ?_
 refine lx_value (want rfl) (rnU_add rfl rfl) ?_
 refine lx_value (want rfl) (mv_int rfl) ?_
 refine lx_value (want rfl) (rnU_shr rfl rfl (by decide)) ?_
 refine lx_value (want rfl) (rnU_add rfl rfl) ?_
 refine lx_value (want rfl) (as_int rfl) ?_
 refine lx_nil ?_
 refine wk_seq ?_
 refine wk_region ?_
 refine lx_value (want rfl) (mv_int rfl) ?_
 refine lx_value (want rfl) (mv_int rfl) ?_
 refine lx_value (want rfl) (rnU_mul rfl rfl) ?_
 refine lx_value (want rfl) (as_int rfl) ?_
 refine lx_nil ?_
 refine wk_ret ?_
 refine retR2 Tryz.results165 (.tmp (t_int rfl)) (.tmp (t_int rfl)) F0 ?_
 refine mul_fin ?_ ?_ <;> (obtain ⟨q, rfl⟩ : ∃ q : Fin 101, q.val = y := ⟨⟨y, by omega⟩, rfl⟩; revert q; decide +kernel)

theorem indexu_ct (l : List Int) (s : Option Addr) (c : Nat) (F : Nat → Prop) (x : Int) (w0 : World) (hl : Sl F w0 s 1 l (Fl u8C)) (hb : l.length ≤ 1048576) :
  CT Tryz.prog 154 [.slice s l.length c, .int .u8 x] w0 no (fun v _ => ∃ z : Int, v = .int .i64 z ∧ IdxR (fun y => decide (x = y)) l z) := by
 have F0 := Fr.refl no w0
 refine ct_body Tryz.func154 rfl Tryz.ntmps154 (Nat.le_of_ble_eq_true rfl) ?_
 refine wk_seq ?_
 refine wk_region ?_
 refine lx_value (want rfl) (as_int rfl) ?_
 refine lx_nil ?_
 refine wk_seq ?_
 refine wk_seq ?_
 refine wk_region ?_
 refine lx_value (want rfl) (mv_slice rfl) ?_
 refine lx_value (want rfl) (rn_len Tryz.underlying123 rfl) ?_
 refine lx_value (want rfl) (mv_int rfl) ?_
 refine lx_nil ?_
 refine wk_block ?_
 refine wk_loopA [4, 5, 8, 9, 10, 11, 12, 13, 14, 15, 16, 17, 18] no (fun nM ρ w => ∃ (i : Nat), nM = l.length - i ∧ ρ 8 = .int .i64 i ∧ (i ≤ l.length) ∧ ((l.take i).any (fun y => decide (x = y)) = false)) _ ⟨0, rfl, rfl, by omega, rfl⟩ ?_
 rintro n1 ρ1 w1 A1 EL1 ⟨i, rfl, hs1_8, hi, hq0⟩
 have F1 := F0.ext EL1
 have hzL1 := EL1.size
 refine wk_seq ?_
 refine wk_region ?_
 refine lx_value (want rfl) (rn_lss hs1_8 (A1.at 7 rfl rfl)) ?_
 refine lx_dec (fun hlt => ?_) (fun hlt => ?_)
 ·
  obtain ⟨z, hz⟩ := getx hlt
  obtain ⟨bx, ox, rfl, _, hcx⟩ := hl i z hz
  refine lx_nil ?_
  refine wk_seq ?_
  refine wk_cond_t rfl ?_
  refine wk_skip ?_
  refine wk_seq ?_
  refine wk_block ?_
  refine wk_seq ?_
  refine wk_region ?_
  refine lx_value (want rfl) (mv_int hs1_8) ?_
  refine lx_value (want rfl) (as_int rfl) ?_
  refine lx_nil ?_
  refine wk_seq ?_
  refine wk_region ?_
  refine lx_value (want rfl) (mv_int (A1.at 1 rfl rfl)) ?_
  refine lx_value (want rfl) (mv_slice (A1.at 0 rfl rfl)) ?_
  refine lx_value (want rfl) (mv_int rfl) ?_
  refine lx_value (want rfl) (rn_index _ Tryz.underlying123 sz_5 rfl rfl rfl (by omega)) ?_
  refine lx_value (want rfl) (rn_load1 ag_5 rfl (F1.cell (fun h => h) (hcx 0 _ rfl))) ?_
  refine lx_value (want rfl) (rn_eql rfl rfl) ?_
  refine lx_dec (fun h16 => ?_) (fun h16 => ?_)
  ·
   refine lx_nil ?_
   refine wk_cond_t rfl ?_
   refine wk_seq ?_
   refine wk_region ?_
   refine lx_value (want rfl) (mv_int rfl) ?_
   refine lx_value (want rfl) (as_int rfl) ?_
   refine lx_nil ?_
   refine wk_ret ?_
   refine retR1 Tryz.results154 (.tmp (t_int rfl)) F1 ?_
   exact idx_some hz (decide_eq_true h16) hq0
  ·
   refine lx_nil ?_
   refine wk_cond_f rfl ?_
   refine wk_skip ?_
   refine wk_region ?_
   refine lx_value (want rfl) (rn_add hs1_8 rfl (by omega)) ?_
   refine lx_value (want rfl) (mv_int rfl) ?_
   refine lx_nil ?_
   exact ⟨rfl, (((((((((((A1.up rfl _).up rfl _).up rfl _).up rfl _).up rfl _).up rfl _).up rfl _).up rfl _).up rfl _).up rfl _).up rfl _), EL1, _, (by omega), i + 1, rfl, rfl, by omega, (any_step hq0 hz (decide_eq_false h16))⟩
 ·
  refine lx_nil ?_
  refine wk_seq ?_
  refine wk_cond_f rfl ?_
  refine wk_exit ?_
  refine wk_seq ?_
  refine wk_region ?_
  refine lx_value (want rfl) (as_int rfl) ?_
  refine lx_nil ?_
  refine wk_ret ?_
  refine retR1 Tryz.results154 (.tmp (t_int rfl)) F1 ?_
  exact idx_none hq0 hlt

theorem copycheck_ct (Z : Nat → Prop) (b : Nat) (ad : Option Addr) (had : ad = none ∨ ad = some ⟨b, 0, none⟩) (hZb50 : Z b) (v1 v2 : Value) (w0 : World) (hBs : Blk w0 b [.pointer ad, v1, v2] 149) :
  CT Tryz.prog 155 [.pointer (some ⟨b, 0, none⟩)] w0 Z (fun v w => v = .tuple #[] ∧ Blk w b [.pointer (some ⟨b, 0, none⟩), v1, v2] 149) := by
 have hlb := hBs.lt
 have F0 := Fr.refl Z w0
 refine ct_body Tryz.func155 rfl Tryz.ntmps155 (Nat.le_of_ble_eq_true rfl) ?_
 refine wk_seq ?_
 refine wk_region ?_
 refine lx_value (want rfl) (mv_pointer rfl) ?_
 refine lx_value (want rfl) (rn_nilCheck rfl) ?_
 refine lx_value (want rfl) (rn_fieldAddr fa_147_0 rfl) ?_
 refine lx_value (want rfl) (rn_load1Blk ag_145 rfl hBs rfl) ?_
 refine lx_value (want rfl) (rn_eqlP Tryz.underlying145 rfl rfl) ?_
 refine lx_split (fun hn => ?_) (fun hn => ?_)
 ·
  refine lx_nil ?_
  refine wk_cond_t rfl ?_
  refine wk_region ?_
  refine lx_value (want rfl) (mv_pointer rfl) ?_
  refine lx_value (want rfl) (mv_pointer rfl) ?_
  refine lx_value (want rfl) (rn_toUnsafe rfl Tryz.underlying145 Tryz.underlying203 ti_147 (by decide) (blk_shape hBs) (by show 0 < 3; decide)) ?_
  refine lx_value (want rfl) (rn_noEscape rfl (fun args w => run_callFunc_extern Tryz.func161 (by kernel_rfl) (by kernel_rfl) (by kernel_rfl) (e := Extern.AbiNoEscape.same) (by kernel_rfl) args w)) ?_
  refine lx_value (want rfl) (rn_fromUnsafe rfl Tryz.underlying203 Tryz.underlying145 ti_147 (blk_shape hBs) (by kernel_rfl)) ?_
  refine lx_value (want rfl) (rn_nilCheck rfl) ?_
  refine lx_value (want rfl) (rn_fieldAddr fa_147_0 rfl) ?_
  refine lx_set (want rfl) sz_145 rfl (t_pointer rfl) rfl rfl rfl hBs (Nat.le_of_ble_eq_true rfl) ?_
  intro w1 Es1 Bs1
  have F1 := F0.new' Es1 (fun k h => by have h : k = b := h; rw [h]; exact (.inl hZb50))
  have hzs1 := Es1.size
  refine lx_nil ?_
  (try simp only [thenK, blockK, if_true])
  refine retN ?_
  refine ret0 Tryz.results155 F1 ?_
  exact ⟨rfl, Bs1⟩
 ·
  have hae : ad = some ⟨b, 0, none⟩ := had.resolve_left (fun h => by rw [h] at hn; cases hn)
  subst hae
  refine lx_nil ?_
  refine wk_cond_f rfl ?_
  refine wk_seq ?_
  refine wk_region ?_
  refine lx_value (want rfl) (mv_pointer rfl) ?_
  refine lx_value (want rfl) (rn_nilCheck rfl) ?_
  refine lx_value (want rfl) (rn_fieldAddr fa_147_0 rfl) ?_
  refine lx_value (want rfl) (rn_load1Blk ag_145 rfl hBs rfl) ?_
  refine lx_value (want rfl) (mv_pointer rfl) ?_
  refine lx_value (want rfl) (rn_neqSame sz_147 Tryz.underlying145 rfl rfl) ?_
  refine lx_nil ?_
  refine wk_cond_f rfl ?_
  refine wk_skip ?_
  (try simp only [thenK, blockK, if_true])
  refine retN ?_
  refine ret0 Tryz.results155 F0 ?_
  exact ⟨rfl, hBs⟩

theorem bstring_ct (Z : Nat → Prop) (b : Nat) (bs : List UInt8) (sk : Option Addr) (nk ck : Nat) (hbd : bs.length ≤ 1073741824) (w0 : World) (hM : SH Z w0 b bs sk nk ck) :
  CT Tryz.prog 97 [.pointer (some ⟨b, 0, none⟩)] w0 Z (fun v w => v = .string ⟨bs.toArray⟩) := by
 obtain ⟨ad, sB, cB, hBs, had, hOs, h0s, hns, hZb50, hZo2, hZl⟩ := hM
 have hlb := hBs.lt
 have h0x : ∀ g o sp, sB = some ⟨g, o, sp⟩ → o = 0 ∧ sp = none := fun g o sp h => ⟨(h0s g o sp h).1, (h0s g o sp h).2.1⟩
 have F0 := Fr.refl Z w0
 have zo2 : ∀ k, ob sB k → Z k ∨ w0.heap.size ≤ k := fun k h => .inl (hZo2 k h)
 refine ct_body Tryz.func97 rfl Tryz.ntmps97 (Nat.le_of_ble_eq_true rfl) ?_
 refine wk_seq ?_
 refine wk_region ?_
 refine lx_value (want rfl) (as_string rfl) ?_
 refine lx_nil ?_
 refine wk_seq ?_
 refine wk_mix 10 (fun _ => .none) (by kernel_rfl) (by kernel_rfl) (fun kS G hk => by cases hk) (fun kS s y G hk => by cases hk) ?_
 simp only [List.take_succ_cons, List.take_zero, List.take_nil, List.drop_succ_cons, List.drop_zero, List.drop_nil]
 refine mx_calm rfl (want rfl) (fun u1 eu1 fu1 => mv_pointer rfl) ?_
 refine mx_calm rfl (want rfl) (fun u2 eu2 fu2 => rn_nilCheck rfl) ?_
 refine mx_calm rfl (want rfl) (fun u3 eu3 fu3 => rn_fieldAddr fa_147_1 rfl) ?_
 refine mx_calm rfl (want rfl) (fun u4 eu4 fu4 => rn_load1Blk ag_123 rfl (hBs.ext ((ext_drawn _).trans' eu4)) rfl) ?_
 refine mx_calm rfl (want rfl) (fun u5 eu5 fu5 => rn_sliceData rfl (fun h => by cases sB with | none => exact absurd rfl h | some q => obtain ⟨g, o, sp⟩ := q; have := (h0s g o sp rfl).2.2; omega)) ?_
 refine mx_calm rfl (want rfl) (fun u6 eu6 fu6 => mv_pointer rfl) ?_
 refine mx_calm rfl (want rfl) (fun u7 eu7 fu7 => rn_nilCheck rfl) ?_
 refine mx_calm rfl (want rfl) (fun u8 eu8 fu8 => rn_fieldAddr fa_147_1 rfl) ?_
 refine mx_calm rfl (want rfl) (fun u9 eu9 fu9 => rn_load1Blk ag_123 rfl (hBs.ext ((ext_drawn _).trans' eu9)) rfl) ?_
 refine mx_calm rfl (want rfl) (fun u10 eu10 fu10 => rn_len Tryz.underlying123 rfl) ?_
 refine mx_nil (fun w1 E1' H1 HS => ?_)
 have E1 := (ext_drawn _).trans' E1'
 have F1 := F0.ext E1
 have hz1 := E1.size
 refine lx_unsafeString (want rfl) Tryz.underlying186 (by kernel_rfl) rfl rfl (hOs.ext E1) h0x hbd ?_
 intro w2 Eus
 have F2 := F1.new' Eus (fun kq => (fun h => (zo2 _) h))
 have hzus := Eus.size
 refine lx_value (want rfl) (as_string rfl) ?_
 refine lx_nil ?_
 refine wk_ret ?_
 refine retR1 Tryz.results97 (.tmp (t_string rfl)) F2 ?_
 exact rfl

theorem truth_ct (b : Bool) (w0 : World) :
  CT Tryz.prog 135 [.bool b] w0 no (fun v _ => v = vlV (truthV b)) := by
 have F0 := Fr.refl no w0
 refine ct_body Tryz.func135 rfl Tryz.ntmps135 (Nat.le_of_ble_eq_true rfl) ?_
 refine wk_seq ?_
 refine wk_region ?_
 refine lx_new (want rfl) (rn_alloc ze_36) ?_
 intro b1 w1 hb1 Eb1 B1 hlb1
 have F1 := F0.ext Eb1
 have hzb1 := Eb1.size
 refine lx_nil ?_
 refine wk_seq ?_
 refine wk_region ?_
 refine lx_value (want rfl) (rn_build1 (t_int rfl) (fun w => bd_36_0 _ w)) ?_
 refine lx_new (want rfl) (rn_alloc ze_36) ?_
 intro b2 w2 hb2 Eb2 B2 hlb2
 have F2 := F1.ext Eb2
 have hzb2 := Eb2.size
 refine lx_set (want rfl) sz_36 rfl (t_agg rfl) rfl rfl rfl B2 (Nat.le_of_ble_eq_true rfl) ?_
 intro w3 Es1 Bs1
 have F3 := F2.set Es1 (by omega)
 have hzs1 := Es1.size
 refine lx_nil ?_
 refine wk_seq ?_
 refine wk_seq ?_
 refine wk_region ?_
 refine lx_value (want rfl) (mv_bool rfl) ?_
 refine lx_split (fun hb => ?_) (fun hb => ?_)
 ·
  refine lx_nil ?_
  refine wk_cond_t rfl ?_
  refine wk_region ?_
  refine lx_value (want rfl) (rn_fieldAddr fa_36_1 rfl) ?_
  refine lx_set (want rfl) sz_3 rfl (t_int rfl) rfl rfl rfl Bs1 (Nat.le_of_ble_eq_true rfl) ?_
  intro w4 Es2 Bs2
  have F4 := F3.set Es2 (by omega)
  have hzs2 := Es2.size
  refine lx_nil ?_
  refine wk_seq ?_
  refine wk_region ?_
  refine lx_value (want rfl) (rn_loadBlk ag_36 sz_36 rfl Bs2 rfl rfl) ?_
  refine lx_set (want rfl) sz_36 rfl (t_agg rfl) rfl rfl rfl (((B1.ext Eb2).ne Es1 (by omega)).ne Es2 (by omega)) (Nat.le_of_ble_eq_true rfl) ?_
  intro w5 Es3 Bs3
  have F5 := F4.set Es3 (by omega)
  have hzs3 := Es3.size
  refine lx_nil ?_
  refine wk_ret ?_
  refine retR1 Tryz.results135 (.cell rfl (run_loadVar_blk ag_36 sz_36 Bs3 rfl rfl)) F5 ?_
  exact tr_t hb
 ·
  refine lx_nil ?_
  refine wk_cond_f rfl ?_
  refine wk_skip ?_
  refine wk_seq ?_
  refine wk_region ?_
  refine lx_value (want rfl) (rn_loadBlk ag_36 sz_36 rfl Bs1 rfl rfl) ?_
  refine lx_set (want rfl) sz_36 rfl (t_agg rfl) rfl rfl rfl ((B1.ext Eb2).ne Es1 (by omega)) (Nat.le_of_ble_eq_true rfl) ?_
  intro w4 Es4 Bs4
  have F6 := F3.set Es4 (by omega)
  have hzs4 := Es4.size
  refine lx_nil ?_
  refine wk_ret ?_
  refine retR1 Tryz.results135 (.cell rfl (run_loadVar_blk ag_36 sz_36 Bs4 rfl rfl)) F6 ?_
  exact tr_f hb

theorem cloner_ct (l : List Rd) (s : Option Addr) (c : Nat) (F : Nat → Prop) (w0 : World) (hl : RdS F w0 s l) (hb : l.length ≤ 1048576) :
  CT Tryz.prog 112 [.slice s l.length c] w0 no (fun v w => ∃ s' c', v = .slice s' l.length c' ∧ OwnS w 115 2 s' l.length c' (l.flatMap rdC) ∧ ∀ k, ob s' k → w0.heap.size ≤ k) := by
 have F0 := Fr.refl no w0
 refine ct_body Tryz.func112 rfl Tryz.ntmps112 (Nat.le_of_ble_eq_true rfl) ?_
 refine wk_seq ?_
 refine wk_region ?_
 refine lx_value (want rfl) (as_slice rfl) ?_
 refine lx_nil ?_
 refine wk_seq ?_
 refine wk_seq ?_
 refine wk_region ?_
 refine lx_value (want rfl) (mv_slice rfl) ?_
 refine lx_value (want rfl) (rn_eqlNil Tryz.underlying63 rfl rfl) ?_
 refine lx_split (fun h4 => ?_) (fun h4 => ?_)
 ·
  obtain rfl := clone_nil hl h4
  refine lx_nil ?_
  refine wk_cond_t rfl ?_
  refine wk_seq ?_
  refine wk_region ?_
  refine lx_value (want rfl) (as_slice rfl) ?_
  refine lx_nil ?_
  refine wk_ret ?_
  refine retR1 Tryz.results112 (.tmp (t_slice rfl)) F0 ?_
  exact ⟨_, _, rfl, OwnS.nil _ _ _, fun _ h => ob_none h⟩
 ·
  refine lx_nil ?_
  refine wk_cond_f rfl ?_
  refine wk_skip ?_
  refine wk_seq ?_
  refine wk_region ?_
  refine lx_newS (want rfl) (rn_bslice (xs := []) Tryz.underlying63 sz_115 ze_115 rfl args0 CL.nil rfl (Nat.le_of_ble_eq_true rfl)) ?_
  intro b1 w1 hb1 Eb1 B1 hlb1
  have F1 := F0.ext Eb1
  have hzb1 := Eb1.size
  have ow1 := OwnS.full (n := 0) (size := 2) B1 rfl (by decide)
  have ge1 : ∀ k, ob (some (⟨b1, 0, none⟩ : Addr)) k → w0.heap.size ≤ k := fun k hk => (by have := ob_some hk; omega)
  refine lx_value (want rfl) (mv_slice rfl) ?_
  refine lx_append 16 (want rfl) Tryz.underlying63 ti_115 (by decide) rfl (by decide) rfl rfl ow1 ((hl.fr (rd_stab _) F1 (fun _ _ h => h)).src (fun _ _ => rfl) (fun _ _ u hu => rd_one hu) (by decide)) (by omega) ?_
  intro sq2 cq2 w2 AP2
  have EA2 := AP2.fr
  have ow2 := AP2.own
  have ge2 : ∀ k, ob sq2 k → w0.heap.size ≤ k := fun k hk => (AP2.blk k hk).elim (ge1 k) (fun h => (Nat.le_trans F1.size h))
  have F2 := F1.new EA2 ge1
  have hzA2 := EA2.size
  refine lx_value (want rfl) (as_slice rfl) ?_
  refine lx_nil ?_
  refine wk_ret ?_
  refine retR1 Tryz.results112 (.tmp (t_slice rfl)) F2 ?_
  exact ⟨_, _, by rw [Nat.zero_add], by have h := ow2; simpa using h, ge2⟩

end Go.Proofs.YtnhgfmbmfjmonaaGreatDoor

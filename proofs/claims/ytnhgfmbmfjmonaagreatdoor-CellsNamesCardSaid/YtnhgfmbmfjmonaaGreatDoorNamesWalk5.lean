/- What functions compute: equalfv, psize, isstruct2, writestr, tangled, sized, mul, isfull, containsr, containsi, containsv, op6, op7, op8, op9, containsu, build1, fbool. -/
import Derived.Test.YtnhgfmbmfjmonaaGreatDoorNamesFacts
import Derived.Test.YtnhgfmbmfjmonaaGreatDoorNamesPre
import Derived.Test.YtnhgfmbmfjmonaaGreatDoorNamesWalk1
import Derived.Test.YtnhgfmbmfjmonaaGreatDoorNamesWalk2
set_option maxRecDepth 100000
set_option linter.unusedVariables false
set_option linter.unusedSimpArgs false
namespace Go.Proofs.YtnhgfmbmfjmonaaGreatDoor
open Go Go.RowKit Go.Mix Go.Eng
theorem equalfv_ct (a b : List (List Vl)) (sa sb : Option Addr) (ca cb : Nat) (Fa Fb : Nat → Prop) (w0 : World) (ha : VvS Fa w0 sa a) (hb : VvS Fb w0 sb b) (hbb : b.length ≤ 1048576) (hbl : ∀ l ∈ b, l.length ≤ 1048576) :
  CT Tryz.prog 123 [.slice sa a.length ca, .slice sb b.length cb, .func (.func 122) #[] #[]] w0 no (fun v _ => v = .bool (decide (a = b))) := by
 have F0 := Fr.refl no w0
 refine ct_body Tryz.func123 rfl Tryz.ntmps123 (Nat.le_of_ble_eq_true rfl) ?_
 refine wk_seq ?_
 refine wk_region ?_
 refine lx_value (want rfl) (as_bool rfl) ?_
 refine lx_nil ?_
 refine wk_seq ?_
 refine wk_seq ?_
 refine wk_region ?_
 refine lx_value (want rfl) (mv_slice rfl) ?_
 refine lx_value (want rfl) (rn_len Tryz.underlying43 rfl) ?_
 refine lx_value (want rfl) (mv_slice rfl) ?_
 refine lx_value (want rfl) (rn_len Tryz.underlying43 rfl) ?_
 refine lx_value (want rfl) (rn_neq rfl rfl) ?_
 refine lx_dec (fun hl => ?_) (fun hl => ?_)
 ·
  refine lx_nil ?_
  refine wk_cond_t rfl ?_
  refine wk_seq ?_
  refine wk_region ?_
  refine lx_value (want rfl) (as_bool rfl) ?_
  refine lx_nil ?_
  refine wk_ret ?_
  refine retR1 Tryz.results123 (.tmp (t_bool rfl)) F0 ?_
  exact no_dec (len_ne hl)
 ·
  refine lx_nil ?_
  refine wk_cond_f rfl ?_
  refine wk_skip ?_
  refine wk_seq ?_
  refine wk_seq ?_
  refine wk_region ?_
  refine lx_value (want rfl) (mv_slice rfl) ?_
  refine lx_value (want rfl) (rn_len Tryz.underlying43 rfl) ?_
  refine lx_value (want rfl) (mv_int rfl) ?_
  refine lx_nil ?_
  refine wk_block ?_
  refine wk_loopA [6, 7, 8, 9, 17, 18, 19, 20, 21, 22, 23, 24, 25, 26, 27, 28, 29, 30, 31] no (fun nM ρ w => ∃ (i : Nat), nM = a.length - i ∧ ρ 17 = .int .i64 i ∧ (i ≤ a.length) ∧ (a.take i = b.take i)) _ ⟨0, rfl, rfl, by omega, rfl⟩ ?_
  rintro n1 ρ1 w1 A1 EL1 ⟨i, rfl, hs1_17, hi, hq⟩
  have F1 := F0.ext EL1
  have hzL1 := EL1.size
  refine wk_seq ?_
  refine wk_region ?_
  refine lx_value (want rfl) (rn_lss hs1_17 (A1.at 16 rfl rfl)) ?_
  refine lx_dec (fun hlt => ?_) (fun hlt => ?_)
  ·
   obtain ⟨x, hx⟩ := getx hlt
   obtain ⟨y, hy⟩ : ∃ y, b[i]? = some y := getx (by omega)
   obtain ⟨bx, ox, rfl, _, sx, cx, hcx, hpx⟩ := ha i x hx
   obtain ⟨by_, oy, rfl, _, sy, cy, hcy, hpy⟩ := hb i y hy
   refine lx_nil ?_
   refine wk_seq ?_
   refine wk_cond_t rfl ?_
   refine wk_skip ?_
   refine wk_seq ?_
   refine wk_block ?_
   refine wk_seq ?_
   refine wk_region ?_
   refine lx_value (want rfl) (mv_int hs1_17) ?_
   refine lx_value (want rfl) (rn_index _ Tryz.underlying43 sz_30 (A1.at 15 rfl rfl) hs1_17 rfl (by omega)) ?_
   refine lx_value (want rfl) (rn_load1 ag_30 rfl (F1.cell (fun h => h) hcx)) ?_
   refine lx_value (want rfl) (as_int rfl) ?_
   refine lx_value (want rfl) (as_slice rfl) ?_
   refine lx_nil ?_
   refine wk_seq ?_
   refine wk_region ?_
   refine lx_value (want rfl) (mv_slice (A1.at 1 rfl rfl)) ?_
   refine lx_value (want rfl) (mv_int rfl) ?_
   refine lx_value (want rfl) (rn_index _ Tryz.underlying43 sz_30 rfl rfl rfl (by omega)) ?_
   refine lx_value (want rfl) (rn_load1 ag_30 rfl (F1.cell (fun h => h) hcy)) ?_
   refine lx_value (want rfl) (as_slice rfl) ?_
   refine lx_nil ?_
   refine wk_seq ?_
   refine wk_region ?_
   refine lx_value (want rfl) (mv_func (A1.at 2 rfl rfl)) ?_
   refine lx_value (want rfl) (mv_slice rfl) ?_
   refine lx_value (want rfl) (mv_slice rfl) ?_
   refine lx_call (want rfl) (ent_value cf_122 rfl (argsC (t_slice rfl) (argsC (t_slice rfl) args0))) (equalv_ct x y _ _ _ _ _ _ w1 (hpx.fr (vl_stab _) F1 (fun _ _ h => h)) (hpy.fr (vl_stab _) F1 (fun _ _ h => h)) (hbl y (List.mem_of_getElem? hy))) ?_
   rintro _ w2 E1 rfl
   have F2 := F1.ext E1
   have hz1 := E1.size
   refine lx_split (fun hne => ?_) (fun hne => ?_)
   ·
    refine lx_value (want rfl) (rn_not rfl) ?_
    refine lx_nil ?_
    refine wk_cond_f rfl ?_
    refine wk_skip ?_
    refine wk_region ?_
    refine lx_value (want rfl) (rn_add hs1_17 rfl (by omega)) ?_
    refine lx_value (want rfl) (mv_int rfl) ?_
    refine lx_nil ?_
    exact ⟨rfl, ((((((((((((((((((A1.up rfl _).up rfl _).up rfl _).up rfl _).up rfl _).up rfl _).up rfl _).up rfl _).up rfl _).up rfl _).up rfl _).up rfl _).up rfl _).up rfl _).up rfl _).up rfl _).up rfl _).up rfl _), (Fr.ext EL1 E1), _, (by omega), i + 1, rfl, rfl, by omega, (eqs_step hq hx hy (of_decide_eq_true hne))⟩
   ·
    refine lx_value (want rfl) (rn_not rfl) ?_
    refine lx_nil ?_
    refine wk_cond_t rfl ?_
    refine wk_seq ?_
    refine wk_region ?_
    refine lx_value (want rfl) (as_bool rfl) ?_
    refine lx_nil ?_
    refine wk_ret ?_
    refine retR1 Tryz.results123 (.tmp (t_bool rfl)) F2 ?_
    exact no_dec (eqs_ne hx hy (of_decide_eq_false hne))
  ·
   refine lx_nil ?_
   refine wk_seq ?_
   refine wk_cond_f rfl ?_
   refine wk_exit ?_
   refine wk_seq ?_
   refine wk_region ?_
   refine lx_value (want rfl) (as_bool rfl) ?_
   refine lx_nil ?_
   refine wk_ret ?_
   refine retR1 Tryz.results123 (.tmp (t_bool rfl)) F1 ?_
   exact yes_dec (eqs_end hq (by omega) hlt)

theorem psize_ct (m : Mem) (b : Nat) (s : Option Addr) (c : Nat) (T : List (SE Vl Rd)) (wt : Int) (st : Option Addr) (nt ct : Nat) (z : Vl) (hs : z.1 = 4 → 0 ≤ z.2 ∧ num z < m.length) (w0 : World) (hBm : Blk w0 b [.slice s T.length c, .int .i64 wt, .slice st nt ct] 113) (hT : T.map SE.abs = m) (hTm : MTab w0 65 36 2 vlC 115 2 rdC s c T) :
  CT Tryz.prog 118 [.pointer (some ⟨b, 0, none⟩), .agg #[.int .u8 z.1, .int .i64 z.2]] w0 no (fun v _ => v = vlV (sizeR m z)) := by
 have hlb := hBm.lt
 have F0 := Fr.refl no w0
 refine ct_body Tryz.func118 rfl Tryz.ntmps118 (Nat.le_of_ble_eq_true rfl) ?_
 refine wk_seq ?_
 refine wk_region ?_
 refine lx_new (want rfl) (rn_box (t_agg rfl)) ?_
 intro b21 w1 hb21 Eb21 B21 hlb21
 have F1 := F0.ext Eb21
 have hzb21 := Eb21.size
 refine lx_new (want rfl) (rn_alloc ze_36) ?_
 intro b22 w2 hb22 Eb22 B22 hlb22
 have F2 := F1.ext Eb22
 have hzb22 := Eb22.size
 refine lx_nil ?_
 refine wk_seq ?_
 refine wk_seq ?_
 refine wk_region ?_
 refine lx_value (want rfl) (rn_fieldAddr fa_36_0 rfl) ?_
 refine lx_value (want rfl) (rn_load1Blk ag_5 rfl (B21.ext Eb22) rfl) ?_
 refine lx_nil ?_
 refine wk_block ?_
 refine wk_seq ?_
 refine wk_region ?_
 refine lx_value (want rfl) (rn_eql rfl rfl) ?_
 refine lx_dec (fun h4 => ?_) (fun h4 => ?_)
 ·
  obtain ⟨hs0, hsl⟩ := hs h4
  obtain ⟨x, hx⟩ : ∃ x, m[num z]? = some x := ⟨_, List.getElem?_eq_getElem hsl⟩
  obtain ⟨sA, cA, sB, cB, he⟩ := mtab_at hT hx
  obtain ⟨bT, oT, hsT, hcA, hcB⟩ := hTm.get he
  have hltT := (List.getElem?_eq_some_iff.1 he).1
  subst hsT
  refine lx_value (want rfl) (as_bool rfl) ?_
  refine lx_nil ?_
  refine wk_cond_t rfl ?_
  refine wk_seq ?_
  refine wk_mix 6 (fun _ => .none) (by kernel_rfl) (by kernel_rfl) (fun kS G hk => by cases hk) (fun kS s y G hk => by cases hk) ?_
  simp only [List.take_succ_cons, List.take_zero, List.take_nil, List.drop_succ_cons, List.drop_zero, List.drop_nil]
  refine mx_calm rfl (want rfl) (fun u1 eu1 fu1 => mv_pointer rfl) ?_
  refine mx_calm rfl (want rfl) (fun u2 eu2 fu2 => rn_nilCheck rfl) ?_
  refine mx_calm rfl (want rfl) (fun u3 eu3 fu3 => rn_fieldAddr fa_113_0 rfl) ?_
  refine mx_calm rfl (want rfl) (fun u4 eu4 fu4 => rn_load1Blk ag_22 rfl (((hBm.ext Eb21).ext Eb22).ext ((ext_drawn _).trans' eu4)) rfl) ?_
  refine mx_calm rfl (want rfl) (fun u5 eu5 fu5 => rn_fieldAddr fa_36_1 rfl) ?_
  refine mx_calm rfl (want rfl) (fun u6 eu6 fu6 => rn_load1Blk ag_3 rfl ((B21.ext Eb22).ext ((ext_drawn _).trans' eu6)) rfl) ?_
  refine mx_nil (fun w3 E1' H1 HS => ?_)
  have E1 := (ext_drawn _).trans' E1'
  have F3 := F2.ext E1
  have hz1 := E1.size
  refine lx_value (want rfl) (rn_index (num z) Tryz.underlying22 sz_65 rfl rfl (by unfold num; omega) hltT) ?_
  refine lx_value (want rfl) (rn_fieldAddr fa_65_0 rfl) ?_
  refine lx_value (want rfl) (rn_load1 ag_30 rfl (F3.cell (fun h => h) (show _ = some (Value.slice sA x.1.length cA) from hcA))) ?_
  refine lx_value (want rfl) (rn_len Tryz.underlying30 rfl) ?_
  refine lx_call (want rfl) (ent_func cf_108 (argsC (t_int rfl) args0)) (integer_ct _ w3) ?_
  rintro _ w4 E2 rfl
  have F4 := F3.ext E2
  have hz2 := E2.size
  refine lx_set (want rfl) sz_36 rfl (t_agg rfl) rfl rfl rfl ((B22.ext E1).ext E2) (Nat.le_of_ble_eq_true rfl) ?_
  intro w5 Es1 Bs1
  have F5 := F4.set Es1 (by omega)
  have hzs1 := Es1.size
  refine lx_nil ?_
  refine wk_ret ?_
  refine retR1 Tryz.results118 (.cell rfl (run_loadVar_blk ag_36 sz_36 Bs1 rfl rfl)) F5 ?_
  exact siz_4 h4 hx
 ·
  refine lx_value (want rfl) (as_bool rfl) ?_
  refine lx_nil ?_
  refine wk_cond_f rfl ?_
  refine wk_seq ?_
  refine wk_region ?_
  refine lx_value (want rfl) (rn_eql rfl rfl) ?_
  refine lx_dec (fun h5 => ?_) (fun h5 => ?_)
  ·
   refine lx_value (want rfl) (as_bool rfl) ?_
   refine lx_nil ?_
   refine wk_cond_t rfl ?_
   refine wk_seq ?_
   refine wk_region ?_
   refine lx_value (want rfl) (rn_loadBlk ag_36 sz_36 rfl (B21.ext Eb22) rfl rfl) ?_
   refine lx_set (want rfl) sz_36 rfl (t_agg rfl) rfl rfl rfl B22 (Nat.le_of_ble_eq_true rfl) ?_
   intro w3 Es2 Bs2
   have F6 := F2.set Es2 (by omega)
   have hzs2 := Es2.size
   refine lx_nil ?_
   refine wk_ret ?_
   refine retR1 Tryz.results118 (.cell rfl (run_loadVar_blk ag_36 sz_36 Bs2 rfl rfl)) F6 ?_
   exact siz_5 h5
  ·
   refine lx_value (want rfl) (as_bool rfl) ?_
   refine lx_nil ?_
   refine wk_cond_f rfl ?_
   refine wk_skip ?_
   refine wk_seq ?_
   refine wk_region ?_
   refine lx_call (want rfl) (ent_func cf_141 (argsC (t_int rfl) args0)) (bad_ct _ w2) ?_
   rintro _ w3 E3 rfl
   have F7 := F2.ext E3
   have hz3 := E3.size
   refine lx_set (want rfl) sz_36 rfl (t_agg rfl) rfl rfl rfl (B22.ext E3) (Nat.le_of_ble_eq_true rfl) ?_
   intro w4 Es3 Bs3
   have F8 := F7.set Es3 (by omega)
   have hzs3 := Es3.size
   refine lx_nil ?_
   refine wk_ret ?_
   refine retR1 Tryz.results118 (.cell rfl (run_loadVar_blk ag_36 sz_36 Bs3 rfl rfl)) F8 ?_
   exact siz_no h5 h4

theorem isstruct2_ct (r : Rd) (cl : List Vl) (b3 : Nat) (sc : Option Addr) (cc : Nat) (s2 : Option Addr) (n2 c2 : Nat) (F : Nat → Prop) (hb : cl.length ≤ 1048576) (w0 : World) (B3 : Blk w0 b3 [.slice sc cl.length cc, .slice s2 n2 c2] 65) (hl : VlS F w0 sc cl) :
  CT Tryz.prog 151 [.agg #[.int .i64 r.1, .int .i64 r.2], .pointer (some ⟨b3, 0, none⟩)] w0 no (fun v _ => v = .bool (!waitB cl r)) := by
 have F0 := Fr.refl no w0
 refine ct_body Tryz.func151 rfl Tryz.ntmps151 (Nat.le_of_ble_eq_true rfl) ?_
 refine wk_seq ?_
 refine wk_region ?_
 refine lx_new (want rfl) (rn_box (t_agg rfl)) ?_
 intro b21 w1 hb21 Eb21 B21 hlb21
 have F1 := F0.ext Eb21
 have hzb21 := Eb21.size
 refine lx_value (want rfl) (as_bool rfl) ?_
 refine lx_nil ?_
 refine wk_seq ?_
 refine wk_region ?_
 refine lx_value (want rfl) (rn_fieldAddr fa_115_0 rfl) ?_
 refine lx_value (want rfl) (rn_load1Blk ag_3 rfl B21 rfl) ?_
 refine lx_value (want rfl) (rn_fieldAddr fa_65_0 rfl) ?_
 refine lx_value (want rfl) (rn_load1Blk ag_30 rfl (B3.ext Eb21) rfl) ?_
 refine lx_value (want rfl) (rn_len Tryz.underlying30 rfl) ?_
 refine lx_value (want rfl) (rn_sub rfl rfl (by omega)) ?_
 refine lx_call (want rfl) (ent_func cf_94 (argsC (t_int rfl) (argsC (t_int rfl) (argsC (t_int rfl) args0)))) (within_ct _ _ _ w1) ?_
 rintro _ w2 E1 rfl
 have F2 := F1.ext E1
 have hz1 := E1.size
 refine lx_split (fun hin => ?_) (fun hin => ?_)
 ·
  have hin2 := of_decide_eq_true hin
  obtain ⟨u, hu⟩ : ∃ u, cl[r.1.toNat]? = some u := ⟨_, List.getElem?_eq_getElem (by omega)⟩
  obtain ⟨bu, ou, hsu, _, hcu⟩ := hl _ u hu
  subst hsu
  refine lx_value (want rfl) (rn_not rfl) ?_
  refine lx_value (want rfl) (mv_bool rfl) ?_
  refine lx_value (want_if (j := 8) (d := 12) (x := false) (y := false) rfl rfl (by decide) rfl) (rn_fieldAddr fa_65_0 rfl) ?_
  refine lx_value (want_if (j := 8) (d := 12) (x := false) (y := false) rfl rfl (by decide) rfl) (rn_load1Blk ag_30 rfl ((B3.ext Eb21).ext E1) rfl) ?_
  refine lx_value (want_if (j := 8) (d := 12) (x := false) (y := false) rfl rfl (by decide) rfl) (rn_fieldAddr fa_115_0 rfl) ?_
  refine lx_value (want_if (j := 8) (d := 12) (x := false) (y := false) rfl rfl (by decide) rfl) (rn_load1Blk ag_3 rfl (B21.ext E1) rfl) ?_
  refine lx_value (want_if (j := 8) (d := 12) (x := false) (y := false) rfl rfl (by decide) rfl) (rn_index r.1.toNat Tryz.underlying30 sz_36 rfl rfl (by omega) (by omega)) ?_
  refine lx_value (want_if (j := 8) (d := 12) (x := false) (y := false) rfl rfl (by decide) rfl) (rn_load2 ag_36 sz_36 rfl (F2.cell (fun h => h) (hcu 0 _ rfl)) (F2.cell (fun h => h) (hcu 1 _ rfl))) ?_
  refine lx_call (want_if (j := 8) (d := 12) (x := false) (y := false) rfl rfl (by decide) rfl) (ent_func cf_99 (argsC (t_agg rfl) args0)) (ishole_ct _ _ w2) ?_
  rintro _ w3 E2 rfl
  have F3 := F2.ext E2
  have hz2 := E2.size
  refine lx_value (want_if (j := 8) (d := 12) (x := false) (y := false) rfl rfl (by decide) rfl) (rn_not rfl) ?_
  refine lx_value (want rfl) (pick_f rfl rfl) ?_
  refine lx_value (want rfl) (as_bool rfl) ?_
  refine lx_nil ?_
  refine wk_ret ?_
  refine retR1 Tryz.results151 (.tmp (t_bool rfl)) F3 ?_
  exact is2_f hin2 hu
 ·
  refine lx_value (want rfl) (rn_not rfl) ?_
  refine lx_value (want rfl) (mv_bool rfl) ?_
  refine lx_skip (want_if (j := 8) (d := 12) (x := false) (y := true) rfl rfl (by decide) rfl) ?_
  refine lx_skip (want_if (j := 8) (d := 12) (x := false) (y := true) rfl rfl (by decide) rfl) ?_
  refine lx_skip (want_if (j := 8) (d := 12) (x := false) (y := true) rfl rfl (by decide) rfl) ?_
  refine lx_skip (want_if (j := 8) (d := 12) (x := false) (y := true) rfl rfl (by decide) rfl) ?_
  refine lx_skip (want_if (j := 8) (d := 12) (x := false) (y := true) rfl rfl (by decide) rfl) ?_
  refine lx_skip (want_if (j := 8) (d := 12) (x := false) (y := true) rfl rfl (by decide) rfl) ?_
  refine lx_skip (want_if (j := 8) (d := 12) (x := false) (y := true) rfl rfl (by decide) rfl) ?_
  refine lx_skip (want_if (j := 8) (d := 12) (x := false) (y := true) rfl rfl (by decide) rfl) ?_
  refine lx_value (want rfl) (pick_t rfl rfl) ?_
  refine lx_value (want rfl) (as_bool rfl) ?_
  refine lx_nil ?_
  refine wk_ret ?_
  refine retR1 Tryz.results151 (.tmp (t_bool rfl)) F2 ?_
  exact is2_t (of_decide_eq_false hin)

theorem writestr_ct (Z : Nat → Prop) (b : Nat) (bs : List UInt8) (sk : Option Addr) (nk ck : Nat) (str : ByteArray) (hbd : bs.length + str.size ≤ 1073741824) (w0 : World) (hM : SH Z w0 b bs sk nk ck) :
  CT Tryz.prog 143 [.pointer (some ⟨b, 0, none⟩), .string str] w0 Z (fun v w => ∃ Z2, SH Z2 w b (bs ++ str.data.toList) sk nk ck ∧ ∀ k, Z2 k → Z k ∨ w0.heap.size ≤ k) := by
 obtain ⟨ad, sB, cB, hBs, had, hOs, h0s, hns, hZb50, hZo2, hZl⟩ := hM
 have hlb := hBs.lt
 have F0 := Fr.refl Z w0
 have zo2 : ∀ k, ob sB k → Z k ∨ w0.heap.size ≤ k := fun k h => .inl (hZo2 k h)
 refine ct_body Tryz.func143 rfl Tryz.ntmps143 (Nat.le_of_ble_eq_true rfl) ?_
 refine wk_seq ?_
 refine wk_region ?_
 refine lx_value (want rfl) (as_int rfl) ?_
 refine lx_value (want rfl) (rn_assign rfl) ?_
 refine lx_nil ?_
 refine wk_seq ?_
 refine wk_region ?_
 refine lx_value (want rfl) (mv_pointer rfl) ?_
 refine lx_call (want rfl) (ent_func cf_155 (argsC (t_pointer rfl) args0)) (copycheck_ct (fun kq => kq = b) b ad had rfl _ _ w0 hBs) ?_
 rintro _ w1 E1 ⟨rfl, hBC⟩
 have F1 := F0.new' E1 (fun kq => (fun h => (fun h => by rw [h]; exact (.inl hZb50)) h))
 have hz1 := E1.size
 refine lx_nil ?_
 refine wk_seq ?_
 refine wk_region ?_
 refine lx_value (want rfl) (mv_pointer rfl) ?_
 refine lx_value (want rfl) (mv_pointer rfl) ?_
 refine lx_value (want rfl) (rn_nilCheck rfl) ?_
 refine lx_value (want rfl) (rn_fieldAddr fa_147_1 rfl) ?_
 refine lx_value (want rfl) (rn_load1Blk ag_123 rfl hBC rfl) ?_
 refine lx_value (want rfl) (mv_string rfl) ?_
 have hOo1 := (hOs.fr E1 (fun k h1 => (fun h => (fun h => hns _ h1 h) h)))
 refine lx_appendS (want rfl) Tryz.underlying123 Tryz.underlying9 ti_5 rfl rfl hOo1 (by omega) ?_
 intro sq1 cq1 w2 AP1 hq1
 have EA1 := AP1.fr
 have ow1 := AP1.own
 have ge1 : ∀ k, ob sq1 k → Z k ∨ w0.heap.size ≤ k := fun k hk => (AP1.blk k hk).elim (zo2 k) (fun h => .inr (Nat.le_trans F1.size h))
 have ne1_50 : ∀ k, ob sq1 k → k ≠ b := fun k hk => (AP1.blk k hk).elim (hns k) (fun h => by have := (hBC).lt; omega)
 have F2 := F1.new' EA1 zo2
 have hzA1 := EA1.size
 have BA1_50 := hBC.fr EA1 (fun h => hns _ h rfl)
 have hbf := buf_at h0s hq1
 refine lx_value (want rfl) (rn_nilCheck rfl) ?_
 refine lx_value (want rfl) (rn_fieldAddr fa_147_1 rfl) ?_
 refine lx_set (want rfl) sz_123 rfl (t_slice rfl) rfl rfl rfl BA1_50 (Nat.le_of_ble_eq_true rfl) ?_
 intro w3 Es1 Bs1
 have F3 := F2.new' Es1 (fun k h => by have h : k = b := h; rw [h]; exact (.inl hZb50))
 have hzs1 := Es1.size
 refine lx_nil ?_
 refine wk_seq ?_
 refine wk_region ?_
 refine lx_value (want rfl) (mv_string rfl) ?_
 refine lx_value (want rfl) (rn_lenS Tryz.underlying9 rfl) ?_
 refine lx_value (want rfl) (as_int rfl) ?_
 refine lx_value (want rfl) (rn_assign rfl) ?_
 refine lx_nil ?_
 refine wk_ret ?_
 refine retR2 Tryz.results143 (.tmp (t_int rfl)) (.tmp rfl) F3 ?_
 exact sh_mk Bs1 (by rw [List.length_append, sz_str]) (.inr rfl) (own_str (ow1.ne Es1 (fun h => ne1_50 _ h rfl))) hbf ne1_50 (.inl hZb50) ge1

theorem tangled_ct (w0 : World) :
  CT Tryz.prog 69 [] w0 no (fun v w => ∃ s c, v = .agg #[.slice s 2 c] ∧ MemS (fun _ => True) w s tangM) := by
 have F0 := Fr.refl no w0
 refine ct_body Tryz.func69 rfl Tryz.ntmps69 (Nat.le_of_ble_eq_true rfl) ?_
 refine wk_seq ?_
 refine wk_region ?_
 refine lx_new (want rfl) (rn_alloc ze_24) ?_
 intro b1 w1 hb1 Eb1 B1 hlb1
 have F1 := F0.ext Eb1
 have hzb1 := Eb1.size
 refine lx_nil ?_
 refine wk_seq ?_
 refine wk_region ?_
 refine lx_call (want rfl) (ent_func cf_61 (argsC (t_int rfl) args0)) (ref_ct _ w1) ?_
 rintro _ w2 E1 rfl
 have F2 := F1.ext E1
 have hz1 := E1.size
 refine lx_newS (want rfl) (rn_bslice (xs := [.tmp 1]) Tryz.underlying30 sz_36 ze_36 rfl (argsC (t_agg rfl) args0) (CL.cons rfl rfl CL.nil) rfl (Nat.le_of_ble_eq_true rfl)) ?_
 intro b2 w3 hb2 Eb2 B2 hlb2
 have F3 := F2.ext Eb2
 have hzb2 := Eb2.size
 refine lx_value (want rfl) (rn_build1 (t_slice rfl) (fun w => bd_65_0 _ _ _ w)) ?_
 refine lx_call (want rfl) (ent_func cf_61 (argsC (t_int rfl) args0)) (ref_ct _ w3) ?_
 rintro _ w4 E2 rfl
 have F4 := F3.ext E2
 have hz2 := E2.size
 refine lx_value (want rfl) (rn_build0  (fun w => bd_36  w)) ?_
 refine lx_newS (want rfl) (rn_bslice (xs := [.tmp 4, .tmp 5]) Tryz.underlying30 sz_36 ze_36 rfl (argsC (t_agg rfl) (argsC (t_agg rfl) args0)) (CL.cons rfl rfl (CL.cons rfl rfl CL.nil)) rfl (Nat.le_of_ble_eq_true rfl)) ?_
 intro b3 w5 hb3 Eb3 B3 hlb3
 have F5 := F4.ext Eb3
 have hzb3 := Eb3.size
 refine lx_value (want rfl) (rn_build1 (t_slice rfl) (fun w => bd_65_0 _ _ _ w)) ?_
 refine lx_newS (want rfl) (rn_bslice (xs := [.tmp 3, .tmp 7]) Tryz.underlying22 sz_65 ze_65 rfl (argsC (t_agg rfl) (argsC (t_agg rfl) args0)) (CL.cons rfl rfl (CL.cons rfl rfl CL.nil)) rfl (Nat.le_of_ble_eq_true rfl)) ?_
 intro b4 w6 hb4 Eb4 B4 hlb4
 have F6 := F5.ext Eb4
 have hzb4 := Eb4.size
 refine lx_value (want rfl) (rn_build1 (t_slice rfl) (fun w => bd_24_0 _ _ _ w)) ?_
 refine lx_set (want rfl) sz_24 rfl (t_agg rfl) rfl rfl rfl (((((B1.ext E1).ext Eb2).ext E2).ext Eb3).ext Eb4) (Nat.le_of_ble_eq_true rfl) ?_
 intro w7 Es1 Bs1
 have F7 := F6.set Es1 (by omega)
 have hzs1 := Es1.size
 refine lx_nil ?_
 refine wk_ret ?_
 refine retR1 Tryz.results69 (.cell rfl (run_loadVar_blk ag_24 sz_24 Bs1 rfl rfl)) F7 ?_
 exact ⟨_, _, rfl, mem2_blk (l1 := [(4, 1)]) (l2 := [(4, 1), (0, 0)]) rfl rfl (by decide) (by decide) (B4.ne Es1 (by omega)) ((((B2.ext E2).ext Eb3).ext Eb4).ne Es1 (by omega)) ((B3.ext Eb4).ne Es1 (by omega))⟩

theorem sized_ct (z : Int) (w0 : World) :
  CT Tryz.prog 125 [.int .i64 z] w0 no (fun v _ => v = vlV (sizedV z)) := by
 have F0 := Fr.refl no w0
 refine ct_body Tryz.func125 rfl Tryz.ntmps125 (Nat.le_of_ble_eq_true rfl) ?_
 refine wk_seq ?_
 refine wk_region ?_
 refine lx_new (want rfl) (rn_alloc ze_36) ?_
 intro b1 w1 hb1 Eb1 B1 hlb1
 have F1 := F0.ext Eb1
 have hzb1 := Eb1.size
 refine lx_nil ?_
 refine wk_seq ?_
 refine wk_seq ?_
 refine wk_region ?_
 refine lx_value (want rfl) (mv_int rfl) ?_
 refine lx_call (want rfl) (ent_func cf_94 (argsC (t_int rfl) (argsC (t_int rfl) (argsC (t_int rfl) args0)))) (within_ct _ _ _ w1) ?_
 rintro _ w2 E1 rfl
 have F2 := F1.ext E1
 have hz1 := E1.size
 refine lx_split (fun hin => ?_) (fun hin => ?_)
 ·
  have hin := of_decide_eq_true hin
  refine lx_value (want rfl) (rn_not rfl) ?_
  refine lx_nil ?_
  refine wk_cond_f rfl ?_
  refine wk_skip ?_
  refine wk_seq ?_
  refine wk_region ?_
  refine lx_value (want rfl) (mv_int rfl) ?_
  refine lx_call (want rfl) (ent_func cf_108 (argsC (t_int rfl) args0)) (integer_ct _ w2) ?_
  rintro _ w3 E2 rfl
  have F3 := F2.ext E2
  have hz2 := E2.size
  refine lx_set (want rfl) sz_36 rfl (t_agg rfl) rfl rfl rfl ((B1.ext E1).ext E2) (Nat.le_of_ble_eq_true rfl) ?_
  intro w4 Es1 Bs1
  have F4 := F3.set Es1 (by omega)
  have hzs1 := Es1.size
  refine lx_nil ?_
  refine wk_ret ?_
  refine retR1 Tryz.results125 (.cell rfl (run_loadVar_blk ag_36 sz_36 Bs1 rfl rfl)) F4 ?_
  exact sz_yes hin
 ·
  have hin := of_decide_eq_false hin
  refine lx_value (want rfl) (rn_not rfl) ?_
  refine lx_nil ?_
  refine wk_cond_t rfl ?_
  refine wk_seq ?_
  refine wk_region ?_
  refine lx_call (want rfl) (ent_func cf_141 (argsC (t_int rfl) args0)) (bad_ct _ w2) ?_
  rintro _ w3 E3 rfl
  have F5 := F2.ext E3
  have hz3 := E3.size
  refine lx_set (want rfl) sz_36 rfl (t_agg rfl) rfl rfl rfl ((B1.ext E1).ext E3) (Nat.le_of_ble_eq_true rfl) ?_
  intro w4 Es2 Bs2
  have F6 := F5.set Es2 (by omega)
  have hzs2 := Es2.size
  refine lx_nil ?_
  refine wk_ret ?_
  refine retR1 Tryz.results125 (.cell rfl (run_loadVar_blk ag_36 sz_36 Bs2 rfl rfl)) F6 ?_
  exact sz_no hin

theorem mul_ct (y : Nat) (hy : y ≤ 100) (w0 : World) :
  CT Tryz.prog 160 [.int .u64 ((1 : Nat) : Int), .int .u64 y] w0 no (fun v _ => v = .tuple #[.int .u64 0, .int .u64 y]) := by
 have F0 := Fr.refl no w0
 refine ct_body Tryz.func160 rfl Tryz.ntmps160 (Nat.le_of_ble_eq_true rfl) ?_
 refine wk_seq ?_
 refine wk_region ?_
 refine lx_value (want rfl) (as_int rfl) ?_
 refine lx_value (want rfl) (as_int rfl) ?_
 refine lx_nil ?_
 refine wk_seq ?_
 refine wk_cond_f rfl ?_
 refine wk_skip ?_
 refine wk_seq ?_
 refine wk_region ?_
 refine lx_value (want rfl) (mv_int rfl) ?_
 refine lx_value (want rfl) (mv_int rfl) ?_
 refine lx_call (want rfl) (ent_func cf_165 (argsC (t_int rfl) (argsC (t_int rfl) args0))) (mul64_ct _ hy w0) ?_
 rintro _ w1 E1 rfl
 have F1 := F0.ext E1
 have hz1 := E1.size
 refine lx_value (want rfl) (mv_tuple rfl) ?_
 refine lx_value (want rfl) (rn_extract rfl rfl) ?_
 refine lx_value (want rfl) (rn_extract rfl rfl) ?_
 refine lx_value (want rfl) (as_int rfl) ?_
 refine lx_value (want rfl) (as_int rfl) ?_
 refine lx_nil ?_
 refine wk_seq ?_
 refine wk_region ?_
 refine lx_value (want rfl) (mv_int rfl) ?_
 refine lx_value (want rfl) (mv_int rfl) ?_
 refine lx_value (want rfl) (as_int rfl) ?_
 refine lx_value (want rfl) (as_int rfl) ?_
 refine lx_nil ?_
 refine wk_ret ?_
 refine retR2 Tryz.results160 (.tmp (t_int rfl)) (.tmp (t_int rfl)) F1 ?_
 exact rfl

theorem isfull_ct (b : Nat) (ad s : Option Addr) (n c : Nat) (v2 : Value) (w0 : World) (hBs : Blk w0 b [.pointer ad, .slice s n c, v2] 149) :
  CT Tryz.prog 96 [.pointer (some ⟨b, 0, none⟩)] w0 no (fun v _ => v = .bool (decide ((2500 : Int) < (n : Int)))) := by
 have hlb := hBs.lt
 have F0 := Fr.refl no w0
 refine ct_body Tryz.func96 rfl Tryz.ntmps96 (Nat.le_of_ble_eq_true rfl) ?_
 refine wk_seq ?_
 refine wk_region ?_
 refine lx_value (want rfl) (as_bool rfl) ?_
 refine lx_nil ?_
 refine wk_seq ?_
 refine wk_region ?_
 refine lx_value (want rfl) (mv_pointer rfl) ?_
 refine lx_value (want rfl) (rn_nilCheck rfl) ?_
 refine lx_value (want rfl) (rn_fieldAddr fa_149_0 rfl) ?_
 refine lx_call (want rfl) (ent_func cf_145 (argsC (t_pointer rfl) args0)) (blen_ct b _ _ n _ _ w0 hBs) ?_
 rintro _ w1 E1 rfl
 have F1 := F0.ext E1
 have hz1 := E1.size
 refine lx_value (want rfl) (rn_gtr rfl rfl) ?_
 refine lx_value (want rfl) (as_bool rfl) ?_
 refine lx_nil ?_
 refine wk_ret ?_
 refine retR1 Tryz.results96 (.tmp (t_bool rfl)) F1 ?_
 exact rfl

theorem isfullS_ct {Z : Nat → Prop} {w : World} {b nk ck : Nat} {bs : List UInt8} {sk : Option Addr} (h : SH Z w b bs sk nk ck) : CT Tryz.prog 96 [.pointer (some ⟨b, 0, none⟩)] w no (fun v _ => v = .bool (decide ((2500 : Int) < (bs.length : Int)))) := by
 obtain ⟨ad3, s3, c3, hB3, _⟩ := SH.parts h
 exact isfull_ct b ad3 s3 bs.length c3 _ w hB3

theorem containsr_ct (l : List Rd) (s : Option Addr) (c : Nat) (F : Nat → Prop) (fid : FuncId) (caps : List Value) (q : Rd → Bool) (hcf : ∀ args w, (callFunc fid args).run Tryz.prog w = .ok (.enter fid args) w) (w0 : World) (hl : RdS F w0 s l) (hb : l.length ≤ 1048576) (hq : ∀ z w, z ∈ l → Ext w0 w → CT Tryz.prog fid (.agg #[.int .i64 z.1, .int .i64 z.2] :: caps) w no (fun v _ => v = .bool (q z))) :
  CT Tryz.prog 150 [.slice s l.length c, .func (.func fid) #[] caps.toArray] w0 no (fun v _ => v = .bool (l.any q)) := by
 have F0 := Fr.refl no w0
 refine ct_body Tryz.func150 rfl Tryz.ntmps150 (Nat.le_of_ble_eq_true rfl) ?_
 refine wk_seq ?_
 refine wk_region ?_
 refine lx_value (want rfl) (as_bool rfl) ?_
 refine lx_nil ?_
 refine wk_seq ?_
 refine wk_region ?_
 refine lx_value (want rfl) (mv_slice rfl) ?_
 refine lx_value (want rfl) (mv_func rfl) ?_
 refine lx_call (want rfl) (ent_func cf_159 (argsC (t_slice rfl) (argsC (t_func rfl) args0))) (indexr_ct l _ _ _ fid caps q hcf w0 (hl.fr (rd_stab _) F0 (fun _ _ h => h)) hb (fun z w hz E => hq z w hz (F0.trans' E))) ?_
 rintro _ w1 E1 ⟨iz, rfl, hiz⟩
 have F1 := F0.ext E1
 have hz1 := E1.size
 refine lx_value (want rfl) (rn_geq rfl rfl) ?_
 refine lx_value (want rfl) (as_bool rfl) ?_
 refine lx_nil ?_
 refine wk_ret ?_
 refine retR1 Tryz.results150 (.tmp (t_bool rfl)) F1 ?_
 exact congrArg Value.bool hiz.any

theorem containsi_ct (l : List Int) (s : Option Addr) (c : Nat) (F : Nat → Prop) (fid : FuncId) (caps : List Value) (q : Int → Bool) (hcf : ∀ args w, (callFunc fid args).run Tryz.prog w = .ok (.enter fid args) w) (w0 : World) (hl : Sl F w0 s 1 l (Fl intC)) (hb : l.length ≤ 1048576) (hq : ∀ z w, z ∈ l → Ext w0 w → CT Tryz.prog fid (.int .i64 z :: caps) w no (fun v _ => v = .bool (q z))) :
  CT Tryz.prog 103 [.slice s l.length c, .func (.func fid) #[] caps.toArray] w0 no (fun v _ => v = .bool (l.any q)) := by
 have F0 := Fr.refl no w0
 refine ct_body Tryz.func103 rfl Tryz.ntmps103 (Nat.le_of_ble_eq_true rfl) ?_
 refine wk_seq ?_
 refine wk_region ?_
 refine lx_value (want rfl) (as_bool rfl) ?_
 refine lx_nil ?_
 refine wk_seq ?_
 refine wk_region ?_
 refine lx_value (want rfl) (mv_slice rfl) ?_
 refine lx_value (want rfl) (mv_func rfl) ?_
 refine lx_call (want rfl) (ent_func cf_148 (argsC (t_slice rfl) (argsC (t_func rfl) args0))) (indexi_ct l _ _ _ fid caps q hcf w0 (hl.fr (int_stab _) F0 (fun _ _ h => h)) hb (fun z w hz E => hq z w hz (F0.trans' E))) ?_
 rintro _ w1 E1 ⟨iz, rfl, hiz⟩
 have F1 := F0.ext E1
 have hz1 := E1.size
 refine lx_value (want rfl) (rn_geq rfl rfl) ?_
 refine lx_value (want rfl) (as_bool rfl) ?_
 refine lx_nil ?_
 refine wk_ret ?_
 refine retR1 Tryz.results103 (.tmp (t_bool rfl)) F1 ?_
 exact congrArg Value.bool hiz.any

theorem containsv_ct (l : List Vl) (s : Option Addr) (c : Nat) (F : Nat → Prop) (fid : FuncId) (caps : List Value) (q : Vl → Bool) (hcf : ∀ args w, (callFunc fid args).run Tryz.prog w = .ok (.enter fid args) w) (w0 : World) (hl : VlS F w0 s l) (hb : l.length ≤ 1048576) (hq : ∀ z w, z ∈ l → Ext w0 w → CT Tryz.prog fid (vlV z :: caps) w no (fun v _ => v = .bool (q z))) :
  CT Tryz.prog 73 [.slice s l.length c, .func (.func fid) #[] caps.toArray] w0 no (fun v _ => v = .bool (l.any q)) := by
 have F0 := Fr.refl no w0
 refine ct_body Tryz.func73 rfl Tryz.ntmps73 (Nat.le_of_ble_eq_true rfl) ?_
 refine wk_seq ?_
 refine wk_region ?_
 refine lx_value (want rfl) (as_bool rfl) ?_
 refine lx_nil ?_
 refine wk_seq ?_
 refine wk_region ?_
 refine lx_value (want rfl) (mv_slice rfl) ?_
 refine lx_value (want rfl) (mv_func rfl) ?_
 refine lx_call (want rfl) (ent_func cf_119 (argsC (t_slice rfl) (argsC (t_func rfl) args0))) (indexv_ct l _ _ _ fid caps q hcf w0 (hl.fr (vl_stab _) F0 (fun _ _ h => h)) hb (fun z w hz E => hq z w hz (F0.trans' E))) ?_
 rintro _ w1 E1 ⟨iz, rfl, hiz⟩
 have F1 := F0.ext E1
 have hz1 := E1.size
 refine lx_value (want rfl) (rn_geq rfl rfl) ?_
 refine lx_value (want rfl) (as_bool rfl) ?_
 refine lx_nil ?_
 refine wk_ret ?_
 refine retR1 Tryz.results73 (.tmp (t_bool rfl)) F1 ?_
 exact congrArg Value.bool hiz.any

theorem op6_ct (a b : Int) (ha : -1000000000 ≤ a ∧ a ≤ 1000000000) (hb : -1000000000 ≤ b ∧ b ≤ 1000000000) (w0 : World) :
  CT Tryz.prog 134 [.int .i64 a, .int .i64 b] w0 no (fun v _ => v = vlV (workV 6 a b)) := by
 have F0 := Fr.refl no w0
 refine ct_body Tryz.func134 rfl Tryz.ntmps134 (Nat.le_of_ble_eq_true rfl) ?_
 refine wk_seq ?_
 refine wk_region ?_
 refine lx_new (want rfl) (rn_alloc ze_36) ?_
 intro b1 w1 hb1 Eb1 B1 hlb1
 have F1 := F0.ext Eb1
 have hzb1 := Eb1.size
 refine lx_nil ?_
 refine wk_seq ?_
 refine wk_region ?_
 refine lx_value (want rfl) (mv_int rfl) ?_
 refine lx_value (want rfl) (mv_int rfl) ?_
 refine lx_value (want rfl) (rn_lss rfl rfl) ?_
 refine lx_call (want rfl) (ent_func cf_135 (argsC (t_bool rfl) args0)) (truth_ct _ w1) ?_
 rintro _ w2 E1 rfl
 have F2 := F1.ext E1
 have hz1 := E1.size
 refine lx_set (want rfl) sz_36 rfl (t_agg rfl) rfl rfl rfl (B1.ext E1) (Nat.le_of_ble_eq_true rfl) ?_
 intro w3 Es1 Bs1
 have F3 := F2.set Es1 (by omega)
 have hzs1 := Es1.size
 refine lx_nil ?_
 refine wk_ret ?_
 refine retR1 Tryz.results134 (.cell rfl (run_loadVar_blk ag_36 sz_36 Bs1 rfl rfl)) F3 ?_
 exact rfl

theorem op7_ct (a b : Int) (ha : -1000000000 ≤ a ∧ a ≤ 1000000000) (hb : -1000000000 ≤ b ∧ b ≤ 1000000000) (w0 : World) :
  CT Tryz.prog 136 [.int .i64 a, .int .i64 b] w0 no (fun v _ => v = vlV (workV 7 a b)) := by
 have F0 := Fr.refl no w0
 refine ct_body Tryz.func136 rfl Tryz.ntmps136 (Nat.le_of_ble_eq_true rfl) ?_
 refine wk_seq ?_
 refine wk_region ?_
 refine lx_new (want rfl) (rn_alloc ze_36) ?_
 intro b1 w1 hb1 Eb1 B1 hlb1
 have F1 := F0.ext Eb1
 have hzb1 := Eb1.size
 refine lx_nil ?_
 refine wk_seq ?_
 refine wk_region ?_
 refine lx_value (want rfl) (mv_int rfl) ?_
 refine lx_value (want rfl) (mv_int rfl) ?_
 refine lx_value (want rfl) (rn_leq rfl rfl) ?_
 refine lx_call (want rfl) (ent_func cf_135 (argsC (t_bool rfl) args0)) (truth_ct _ w1) ?_
 rintro _ w2 E1 rfl
 have F2 := F1.ext E1
 have hz1 := E1.size
 refine lx_set (want rfl) sz_36 rfl (t_agg rfl) rfl rfl rfl (B1.ext E1) (Nat.le_of_ble_eq_true rfl) ?_
 intro w3 Es1 Bs1
 have F3 := F2.set Es1 (by omega)
 have hzs1 := Es1.size
 refine lx_nil ?_
 refine wk_ret ?_
 refine retR1 Tryz.results136 (.cell rfl (run_loadVar_blk ag_36 sz_36 Bs1 rfl rfl)) F3 ?_
 exact rfl

theorem op8_ct (a b : Int) (ha : -1000000000 ≤ a ∧ a ≤ 1000000000) (hb : -1000000000 ≤ b ∧ b ≤ 1000000000) (w0 : World) :
  CT Tryz.prog 137 [.int .i64 a, .int .i64 b] w0 no (fun v _ => v = vlV (workV 8 a b)) := by
 have F0 := Fr.refl no w0
 refine ct_body Tryz.func137 rfl Tryz.ntmps137 (Nat.le_of_ble_eq_true rfl) ?_
 refine wk_seq ?_
 refine wk_region ?_
 refine lx_new (want rfl) (rn_alloc ze_36) ?_
 intro b1 w1 hb1 Eb1 B1 hlb1
 have F1 := F0.ext Eb1
 have hzb1 := Eb1.size
 refine lx_nil ?_
 refine wk_seq ?_
 refine wk_region ?_
 refine lx_value (want rfl) (mv_int rfl) ?_
 refine lx_value (want rfl) (mv_int rfl) ?_
 refine lx_value (want rfl) (rn_eql rfl rfl) ?_
 refine lx_call (want rfl) (ent_func cf_135 (argsC (t_bool rfl) args0)) (truth_ct _ w1) ?_
 rintro _ w2 E1 rfl
 have F2 := F1.ext E1
 have hz1 := E1.size
 refine lx_set (want rfl) sz_36 rfl (t_agg rfl) rfl rfl rfl (B1.ext E1) (Nat.le_of_ble_eq_true rfl) ?_
 intro w3 Es1 Bs1
 have F3 := F2.set Es1 (by omega)
 have hzs1 := Es1.size
 refine lx_nil ?_
 refine wk_ret ?_
 refine retR1 Tryz.results137 (.cell rfl (run_loadVar_blk ag_36 sz_36 Bs1 rfl rfl)) F3 ?_
 exact rfl

theorem op9_ct (a b : Int) (ha : -1000000000 ≤ a ∧ a ≤ 1000000000) (hb : -1000000000 ≤ b ∧ b ≤ 1000000000) (w0 : World) :
  CT Tryz.prog 138 [.int .i64 a, .int .i64 b] w0 no (fun v _ => v = vlV (workV 9 a b)) := by
 have F0 := Fr.refl no w0
 refine ct_body Tryz.func138 rfl Tryz.ntmps138 (Nat.le_of_ble_eq_true rfl) ?_
 refine wk_seq ?_
 refine wk_region ?_
 refine lx_new (want rfl) (rn_alloc ze_36) ?_
 intro b1 w1 hb1 Eb1 B1 hlb1
 have F1 := F0.ext Eb1
 have hzb1 := Eb1.size
 refine lx_nil ?_
 refine wk_seq ?_
 refine wk_region ?_
 refine lx_value (want rfl) (mv_int rfl) ?_
 refine lx_value (want rfl) (rn_eql rfl rfl) ?_
 refine lx_call (want rfl) (ent_func cf_135 (argsC (t_bool rfl) args0)) (truth_ct _ w1) ?_
 rintro _ w2 E1 rfl
 have F2 := F1.ext E1
 have hz1 := E1.size
 refine lx_set (want rfl) sz_36 rfl (t_agg rfl) rfl rfl rfl (B1.ext E1) (Nat.le_of_ble_eq_true rfl) ?_
 intro w3 Es1 Bs1
 have F3 := F2.set Es1 (by omega)
 have hzs1 := Es1.size
 refine lx_nil ?_
 refine wk_ret ?_
 refine retR1 Tryz.results138 (.cell rfl (run_loadVar_blk ag_36 sz_36 Bs1 rfl rfl)) F3 ?_
 exact rfl

theorem containsu_ct (l : List Int) (s : Option Addr) (c : Nat) (F : Nat → Prop) (x : Int) (w0 : World) (hl : Sl F w0 s 1 l (Fl u8C)) (hb : l.length ≤ 1048576) :
  CT Tryz.prog 140 [.slice s l.length c, .int .u8 x] w0 no (fun v _ => v = .bool (l.any fun y => decide (x = y))) := by
 have F0 := Fr.refl no w0
 refine ct_body Tryz.func140 rfl Tryz.ntmps140 (Nat.le_of_ble_eq_true rfl) ?_
 refine wk_seq ?_
 refine wk_region ?_
 refine lx_value (want rfl) (as_bool rfl) ?_
 refine lx_nil ?_
 refine wk_seq ?_
 refine wk_region ?_
 refine lx_value (want rfl) (mv_slice rfl) ?_
 refine lx_value (want rfl) (mv_int rfl) ?_
 refine lx_call (want rfl) (ent_func cf_154 (argsC (t_slice rfl) (argsC (t_int rfl) args0))) (indexu_ct l _ _ _ x w0 (hl.fr (u8_stab _) F0 (fun _ _ h => h)) hb) ?_
 rintro _ w1 E1 ⟨iz, rfl, hiz⟩
 have F1 := F0.ext E1
 have hz1 := E1.size
 refine lx_value (want rfl) (rn_geq rfl rfl) ?_
 refine lx_value (want rfl) (as_bool rfl) ?_
 refine lx_nil ?_
 refine wk_ret ?_
 refine retR1 Tryz.results140 (.tmp (t_bool rfl)) F1 ?_
 exact congrArg Value.bool hiz.any

theorem build1_ct (z : Int) (w0 : World) :
  CT Tryz.prog 104 [.int .i64 z] w0 no (fun v _ => v = .bool (!inI z)) := by
 have F0 := Fr.refl no w0
 refine ct_body Tryz.func104 rfl Tryz.ntmps104 (Nat.le_of_ble_eq_true rfl) ?_
 refine wk_seq ?_
 refine wk_region ?_
 refine lx_value (want rfl) (as_bool rfl) ?_
 refine lx_nil ?_
 refine wk_seq ?_
 refine wk_region ?_
 refine lx_value (want rfl) (mv_int rfl) ?_
 refine lx_call (want rfl) (ent_func cf_94 (argsC (t_int rfl) (argsC (t_int rfl) (argsC (t_int rfl) args0)))) (within_ct _ _ _ w0) ?_
 rintro _ w1 E1 rfl
 have F1 := F0.ext E1
 have hz1 := E1.size
 refine lx_value (want rfl) (rn_not rfl) ?_
 refine lx_value (want rfl) (as_bool rfl) ?_
 refine lx_nil ?_
 refine wk_ret ?_
 refine retR1 Tryz.results104 (.tmp (t_bool rfl)) F1 ?_
 exact rfl

theorem fbool_ct (b : Bool) (w0 : World) :
  CT Tryz.prog 157 [.bool b] w0 no (fun v _ => v = .string (if b = true then ⟨#[116, 114, 117, 101]⟩ else ⟨#[102, 97, 108, 115, 101]⟩ : ByteArray)) := by
 have F0 := Fr.refl no w0
 refine ct_body Tryz.func157 rfl Tryz.ntmps157 (Nat.le_of_ble_eq_true rfl) ?_
 refine wk_seq ?_
 refine wk_region ?_
 refine lx_value (want rfl) (as_string rfl) ?_
 refine lx_nil ?_
 refine wk_seq ?_
 refine wk_region ?_
 refine lx_value (want rfl) (mv_bool rfl) ?_
 refine lx_call (want rfl) (ent_func cf_163 (argsC (t_bool rfl) args0)) (fbool2_ct b w0) ?_
 rintro _ w1 E1 rfl
 have F1 := F0.ext E1
 have hz1 := E1.size
 refine lx_value (want rfl) (as_string rfl) ?_
 refine lx_nil ?_
 refine wk_ret ?_
 refine retR1 Tryz.results157 (.tmp (t_string rfl)) F1 ?_
 exact rfl

end Go.Proofs.YtnhgfmbmfjmonaaGreatDoor
